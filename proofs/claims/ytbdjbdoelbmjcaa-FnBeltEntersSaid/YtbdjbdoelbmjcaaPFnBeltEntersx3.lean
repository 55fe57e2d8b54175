-- Written by a program of this session (wip/myprint.py: the kit's print with changes): not by print.sh itself.
import Derived.Test.YtbdjbdoelbmjcaaPFnBeltEntersx0
import Derived.Test.YtbdjbdoelbmjcaaPFnBeltEntersx2
namespace Go.Proofs.Ytbdjbdoelbmjcaa.PFnBeltEnters
open Go.RowKit Go.Proofs.YtbdjbdoelbmjcaaW.PrintWords Go.Proofs.YtbdjbdoelbmjcaaW.PrintLast Go.Proofs.YtbdjbdoelbmjcaaW.PrintMore
open Go renaming Act.put → uc
open Go.Proofs.YtbdjbdoelbmjcaaW.PrintLast renaming any_of → uY, i64_w → uZ, i32_w → ua, pure_ → ub
open Go.Proofs.YtbdjbdoelbmjcaaW.PrintWords renaming Aside0.mk → uD, blk_cell → uF, blk_alloc → uG, blk_drewN → uH, blk_drew → uJ, below_drew1 → uK, below_size → uN, below_step → uO, blk_put → uP
open List renaming setIfInBounds_toArray → uA, set_cons_zero → uB, set_cons_succ → uC
open Bool renaming true → T, false → F
attribute [local go_sem] max2_int min2_int max_two min_two max_three min_three max_four min_four   -- for this text's walks alone
set_option linter.unusedVariables false
set_option linter.unusedSimpArgs false

/-! ### impl_BeltOk: function 18 -/
mutual
def impl_BeltOk.j0 : Nat → Bool → Int → Int → Bool → List (S53) → Option (Bool)
 | 0, _, _, _, _, _ => none
 | k + 1, x29, x102000, x102001, x102002, x102003 => if x29 = true then (some false) else (impl_BeltOk.l0 k x102000 x102003 (x102003.length : Int) 0 x102000 x102001 x102002 x102003)
def impl_BeltOk.l0 : Nat → Int → List (S53) → Int → Int → Int → Int → Bool → List (S53) → Option (Bool)
 | 0, _, _, _, _, _, _, _, _ => none
 | k + 1, x3, x33, x34, x35, x102000, x102001, x102002, x102003 => if x35 < x34 then (if 0 ≤ x35 then (if x35 < (x33.length : Int) then (if ((rd_T53 x33 x35).f0) < 1 then (some false) else (if x35 ≤ (x102003.length : Int) then ((impl_isOn.f (x102003.take (x35 : Int).toNat) ((rd_T53 x33 x35).f0)).bind fun t108 => (if t108 = true then (some false) else (if ((rd_T53 x33 x35).f2) < 1 then (some false) else (if ((rd_T53 x33 x35).f2) > 60 then (some false) else (if ((rd_T53 x33 x35).f1) < ((rd_T53 x33 x35).f2) then (some false) else (if ((rd_T53 x33 x35).f1) > x3 then (some false) else (impl_BeltOk.l0 k (wrap64 ((wrap64 (((rd_T53 x33 x35).f1) - ((rd_T53 x33 x35).f2))) - x102001)) x33 x34 (wrap64 (x35 + 1)) x102000 x102001 x102002 x102003))))))) else (none))) else (none)) else (none)) else (some true)
end
def impl_BeltOk.f (k : Nat) (a0_0 : Int) (a0_1 : Int) (a0_2 : Bool) (l0_3 : List (S53)) : Option (Bool) := if a0_0 < 1 then (impl_BeltOk.j0 k true a0_0 a0_1 a0_2 l0_3) else (if a0_0 > 400 then (impl_BeltOk.j0 k true a0_0 a0_1 a0_2 l0_3) else (if a0_1 < 0 then (impl_BeltOk.j0 k true a0_0 a0_1 a0_2 l0_3) else (if a0_1 > 20 then (impl_BeltOk.j0 k true a0_0 a0_1 a0_2 l0_3) else (impl_BeltOk.j0 k (decide ((l0_3.length : Int) > 40)) a0_0 a0_1 a0_2 l0_3))))
theorem impl_BeltOk.mono_l : ∀ k, (∀ y0 y1 y2 y3 y4, LeO (impl_BeltOk.j0 k y0 y1 y2 y3 y4) (impl_BeltOk.j0 (k + 1) y0 y1 y2 y3 y4)) ∧ (∀ y0 y1 y2 y3 y4 y5 y6 y7, LeO (impl_BeltOk.l0 k y0 y1 y2 y3 y4 y5 y6 y7) (impl_BeltOk.l0 (k + 1) y0 y1 y2 y3 y4 y5 y6 y7))
 | 0 => ⟨fun _ _ _ _ _ r h => by simp [impl_BeltOk.j0] at h, fun _ _ _ _ _ _ _ _ r h => by simp [impl_BeltOk.l0] at h⟩
 | k + 1 => by
  obtain ⟨ih0, ih1⟩ := impl_BeltOk.mono_l k
  refine ⟨?_, ?_⟩
  ·intro y0 y1 y2 y3 y4
   unfold impl_BeltOk.j0
   repeat' first
   | (with_reducible exact ih0 _ _ _ _ _)
   | (with_reducible exact ih1 _ _ _ _ _ _ _ _)
   | (with_reducible exact LeO.refl _)
   | (with_reducible exact LeO.none _)
   | (with_reducible refine LeO.ite ?_ ?_)
   | (with_reducible refine LeO.bind ?_ (fun _ => ?_))
   | exact ih0 _ _ _ _ _
   | exact ih1 _ _ _ _ _ _ _ _
   | exact LeO.none _
   | refine LeO.ite ?_ ?_
   | refine LeO.bind ?_ (fun _ => ?_)
  ·intro y0 y1 y2 y3 y4 y5 y6 y7
   unfold impl_BeltOk.l0
   repeat' first
   | (with_reducible exact ih0 _ _ _ _ _)
   | (with_reducible exact ih1 _ _ _ _ _ _ _ _)
   | (with_reducible exact LeO.refl _)
   | (with_reducible exact LeO.none _)
   | (with_reducible refine LeO.ite ?_ ?_)
   | (with_reducible refine LeO.bind ?_ (fun _ => ?_))
   | exact ih0 _ _ _ _ _
   | exact ih1 _ _ _ _ _ _ _ _
   | exact LeO.none _
   | refine LeO.ite ?_ ?_
   | refine LeO.bind ?_ (fun _ => ?_)
theorem impl_BeltOk.mono : ∀ a0 a1 a2 a3 k, LeO (impl_BeltOk.f k a0 a1 a2 a3) (impl_BeltOk.f (k + 1) a0 a1 a2 a3) := by
 intro a0 a1 a2 a3 k
 obtain ⟨ih0, ih1⟩ := impl_BeltOk.mono_l k
 unfold impl_BeltOk.f
 repeat' first
   | (with_reducible exact ih0 _ _ _ _ _)
   | (with_reducible exact ih1 _ _ _ _ _ _ _ _)
   | (with_reducible exact LeO.refl _)
   | (with_reducible exact LeO.none _)
   | (with_reducible refine LeO.ite ?_ ?_)
   | (with_reducible refine LeO.bind ?_ (fun _ => ?_))
   | exact ih0 _ _ _ _ _
   | exact ih1 _ _ _ _ _ _ _ _
   | exact LeO.none _
   | refine LeO.ite ?_ ?_
   | refine LeO.bind ?_ (fun _ => ?_)
def impl_BeltOk.T7 : Bool × List (List Nat × List Nat) := (true, [([], []), ([0], [0]), ([1], [1]), ([2], [2]), ([3], [3]), ([4, 3], [3, 4]), ([3], [3]), ([5, 6, 3], [3, 5, 6]), ([3], [3]), ([8, 3], [3, 8]), ([7, 9, 3, 3], [3, 7, 9]), ([3, 10], [3, 10]), ([11, 10], [11]), ([12], [12]), ([13, 12], [12, 13]), ([14, 12], [12, 14]), ([12, 15], [12, 15]), ([16, 12], [16]), ([17], [17]), ([18, 17], [17, 18]), ([19, 17], [17, 19]), ([17, 20], [17, 20]), ([21, 17], [21]), ([22], [22]), ([23, 22], [22, 23]), ([22], [22]), ([25, 22], [22, 25]), ([24, 26, 22], [22, 24, 26]), ([22, 27], [22, 27]), ([28, 22], [28]), ([29], [29]), ([30, 29], [29, 30]), ([29], [29]), ([31, 32, 29], [29, 31, 32]), ([29, 33], [29, 33])])
def impl_BeltOk.B7 : List Nat := [0, 1, 3, 7, 15, 31, 15, 127, 15, 271, 1023, 2047, 4095, 8191, 16383, 32767, 65535, 131071, 262143, 524287, 1048575, 2097151, 4194303, 8388607, 16777215, 8388607, 41943039, 134217727, 268435455, 536870911, 1073741823, 2147483647, 1073741823, 8589934591, 17179869183]
theorem impl_BeltOk.tab7 : rtab .any (opsOf Try.f18 7) = impl_BeltOk.T7 := by kernel_rfl
theorem impl_BeltOk.bits7 : waitsOk impl_BeltOk.T7.2 impl_BeltOk.B7 = true := by kernel_rfl
set_option maxHeartbeats 8000000 in
set_option maxRecDepth 100000 in
theorem impl_BeltOk.calls (k : Nat) (a0_0 : Int) (a0_1 : Int) (a0_2 : Bool) (A0_3 : Option Addr) (c0_3 : Nat) (l0_3 : List (S53)) (r : Bool) (w : World) (hr0_3 : Kd.C k53 w A0_3 l0_3.length l0_3) (hc0_3 : l0_3.length ≤ c0_3) (h : impl_BeltOk.f k a0_0 a0_1 a0_2 l0_3 = some r) :
  Calls Try.prog 18 #[.agg #[.int .i64 a0_0, .int .i64 a0_1, .bool a0_2, .slice A0_3 l0_3.length c0_3]] w fun e w' => e = .returned (.bool r) ∧ Below w.heap.size w w' := by
 have hu29 := Try.underlying29
 have hu53 := Try.underlying53
 have HR0_3 := uD hr0_3
 have HC0_3 := uD hc0_3
 clear hr0_3 hc0_3
 have HB := uD (Below.refl w.heap.size w)
 have H : (if a0_0 < 1 then (impl_BeltOk.j0 k true a0_0 a0_1 a0_2 l0_3) else (if a0_0 > 400 then (impl_BeltOk.j0 k true a0_0 a0_1 a0_2 l0_3) else (if a0_1 < 0 then (impl_BeltOk.j0 k true a0_0 a0_1 a0_2 l0_3) else (if a0_1 > 20 then (impl_BeltOk.j0 k true a0_0 a0_1 a0_2 l0_3) else (impl_BeltOk.j0 k (decide ((l0_3.length : Int) > 40)) a0_0 a0_1 a0_2 l0_3))))) = some r := h
 clear h
 have HC2 := uD H
 clear H
 go_enter Try.func18, Try.ntmps18
 go_upto_region 1 with (first | ((with_reducible refine gate_dst (N := 1) rfl ?_); (try (refine gate_guard (by rfl) ?_; dsimp only)); refine bx 1 #[.int .i64 a0_0, .int .i64 a0_1, .bool a0_2, .slice A0_3 l0_3.length c0_3] 29 ?_; intro gb101 hg w3 hbox hb; have BK101 := uD (hbox); have GW101 := uD ((by rw [hg]; exact (uN (pb HB)) : w.heap.size ≤ gb101)); have GE101 := uD ((by rw [hg]; exact (uN (pb HB)) : w.heap.size ≤ gb101)); replace HB := uD (uO (pb HB) hb); clear hb hbox hg))
 (try simp only [uc, uA, uB, uC])
 go_cut [29] (fun v29 wc => ∃ (kq : Nat) (x29_1 : Bool), v29 = .bool x29_1 ∧ Aside0 (impl_BeltOk.j0 kq x29_1 a0_0 a0_1 a0_2 l0_3 = some r) ∧ Aside0 (kq ≤ k) ∧ Aside0 (wc.heap[gb101]? = some (.cells #[.int .i64 a0_0, .int .i64 a0_1, .bool a0_2, (.slice A0_3 l0_3.length c0_3)] 29 (0, 0))) ∧ Aside0 (Below w.heap.size w wc))
 case first =>
  have H := HC2.out
  clear HC2
  by_cases c4 : a0_0 < 1
  ·rw [if_pos c4] at H
   have c4b0 : decide (a0_0 < 1) = true := decide_eq_true c4
   clear c4
   (first | rw [c4b0] | (simp only [uZ, ua]; rw [c4b0]) | skip)
   have H' := uD H
   clear H
   obtain ⟨hcz5_0, hcz5_1, hcz5_2, hcz5_3, hfz5_0, hfz5_1, hfz5_2, hfz5_3⟩ := cz4 BK101
   go_wp2
   go_meet
   case rel => exact ⟨_, (true), (by first | rfl | (simp; done) | (simp [*]; done)), H', ⟨by first | omega | exact Nat.le_refl _⟩, ⟨by (with_reducible repeat first|apply uH|apply uJ|apply uG); exact BK101.out⟩, ⟨pb HB⟩⟩
  ·rw [if_neg c4] at H
   have c4b0 : decide (a0_0 < 1) = false := decide_eq_false c4
   clear c4
   (first | rw [c4b0] | (simp only [uZ, ua]; rw [c4b0]) | skip)
   by_cases c6 : a0_0 > 400
   ·rw [if_pos c6] at H
    have c6b0 : decide (400 < a0_0) = true := decide_eq_true c6
    clear c6
    have H' := uD H
    clear H
    obtain ⟨hcz7_0, hcz7_1, hcz7_2, hcz7_3, hfz7_0, hfz7_1, hfz7_2, hfz7_3⟩ := cz4 BK101
    go_wp2
    go_meet
    case rel => exact ⟨_, (true), (by first | rfl | (simp; done) | (simp [*]; done)), H', ⟨by first | omega | exact Nat.le_refl _⟩, ⟨by (with_reducible repeat first|apply uH|apply uJ|apply uG); exact BK101.out⟩, ⟨pb HB⟩⟩
   ·rw [if_neg c6] at H
    have c6b0 : decide (400 < a0_0) = false := decide_eq_false c6
    clear c6
    by_cases c8 : a0_1 < 0
    ·rw [if_pos c8] at H
     have c8b0 : decide (a0_1 < 0) = true := decide_eq_true c8
     clear c8
     have H' := uD H
     clear H
     obtain ⟨hcz9_0, hcz9_1, hcz9_2, hcz9_3, hfz9_0, hfz9_1, hfz9_2, hfz9_3⟩ := cz4 BK101
     go_wp2
     go_meet
     case rel => exact ⟨_, (true), (by first | rfl | (simp; done) | (simp [*]; done)), H', ⟨by first | omega | exact Nat.le_refl _⟩, ⟨by (with_reducible repeat first|apply uH|apply uJ|apply uG); exact BK101.out⟩, ⟨pb HB⟩⟩
    ·rw [if_neg c8] at H
     have c8b0 : decide (a0_1 < 0) = false := decide_eq_false c8
     clear c8
     by_cases c10 : a0_1 > 20
     ·rw [if_pos c10] at H
      have c10b0 : decide (20 < a0_1) = true := decide_eq_true c10
      clear c10
      have H' := uD H
      clear H
      obtain ⟨hcz11_0, hcz11_1, hcz11_2, hcz11_3, hfz11_0, hfz11_1, hfz11_2, hfz11_3⟩ := cz4 BK101
      go_wp2
      go_meet
      case rel => exact ⟨_, (true), (by first | rfl | (simp; done) | (simp [*]; done)), H', ⟨by first | omega | exact Nat.le_refl _⟩, ⟨by (with_reducible repeat first|apply uH|apply uJ|apply uG); exact BK101.out⟩, ⟨pb HB⟩⟩
     ·rw [if_neg c10] at H
      have c10b0 : decide (20 < a0_1) = false := decide_eq_false c10
      clear c10
      have H' := uD H
      clear H
      obtain ⟨hcz12_0, hcz12_1, hcz12_2, hcz12_3, hfz12_0, hfz12_1, hfz12_2, hfz12_3⟩ := cz4 BK101
      go_wp2
      go_meet
      case rel => exact ⟨_, (decide ((l0_3.length : Int) > 40)), (by first | rfl | (simp; done) | (simp [*]; done)), H', ⟨by first | omega | exact Nat.le_refl _⟩, ⟨by (with_reducible repeat first|apply uH|apply uJ|apply uG); exact BK101.out⟩, ⟨pb HB⟩⟩
 case rest =>
  clear HC2
  try clear c1
  try clear p2
  try clear c4
  try clear c4b0
  try clear c6
  try clear c6b0
  try clear c8
  try clear c8b0
  try clear c10
  try clear c10b0
  try clear hcz11_0
  try clear hcz11_1
  try clear hcz11_2
  try clear hcz11_3
  try clear hcz12_0
  try clear hcz12_1
  try clear hcz12_2
  try clear hcz12_3
  try clear hcz5_0
  try clear hcz5_1
  try clear hcz5_2
  try clear hcz5_3
  try clear hcz7_0
  try clear hcz7_1
  try clear hcz7_2
  try clear hcz7_3
  try clear hcz9_0
  try clear hcz9_1
  try clear hcz9_2
  try clear hcz9_3
  try clear hfz11_0
  try clear hfz11_1
  try clear hfz11_2
  try clear hfz11_3
  try clear hfz12_0
  try clear hfz12_1
  try clear hfz12_2
  try clear hfz12_3
  try clear hfz5_0
  try clear hfz5_1
  try clear hfz5_2
  try clear hfz5_3
  try clear hfz7_0
  try clear hfz7_1
  try clear hfz7_2
  try clear hfz7_3
  try clear hfz9_0
  try clear hfz9_1
  try clear hfz9_2
  try clear hfz9_3
  obtain ⟨kq, x29_1, rfl, HA, HJ1, BK101, HB⟩ := hcut
  cases kq with
  | zero => exact absurd HA.out (by simp [impl_BeltOk.j0])
  | succ kj1 =>
   have H := HA.out
   clear HA
   simp only [impl_BeltOk.j0] at H
   by_cases c13 : x29_1 = true
   ·subst c13
    have H1 : (some false) = some r := by rw [if_pos rfl] at H; first | done | exact H
    clear H
    have H := H1
    clear H1
    obtain rfl := Option.some.inj H
    go_wp2
    go_ret
    exact ⟨by first | rfl | (simp [errW_none, errW_some] <;> rfl) | (simp [*, errW_none, errW_some] <;> rfl), pb HB⟩
   ·replace c13 := Bool.eq_false_iff.mpr c13
    subst c13
    have H1 : (impl_BeltOk.l0 kj1 a0_0 l0_3 (l0_3.length : Int) 0 a0_0 a0_1 a0_2 l0_3) = some r := by rw [if_neg (show ¬ (false = true) by decide)] at H; first | done | exact H
    clear H
    have H := H1
    clear H1
    have H' := uD H
    clear H
    obtain ⟨hcz14_0, hcz14_1, hcz14_2, hcz14_3, hfz14_0, hfz14_1, hfz14_2, hfz14_3⟩ := cz4 BK101
    go_wp2
    go_loopg [3, 35] kj1 (fun kq v3 v35 w' => ∃ (x3_2 : Int) (x35_2 : Int), v3 = .int .i64 x3_2 ∧ v35 = .int .i64 x35_2 ∧ Aside0 (impl_BeltOk.l0 kq x3_2 l0_3 (l0_3.length : Int) x35_2 a0_0 a0_1 a0_2 l0_3 = some r) ∧ Aside0 (kq ≤ kj1) ∧ Aside0 (w'.heap[gb101]? = some (.cells #[.int .i64 a0_0, .int .i64 a0_1, .bool a0_2, (.slice A0_3 l0_3.length c0_3)] 29 (0, 0))) ∧ Aside0 (Below w.heap.size w w'))
    case atStart => exact ⟨(a0_0), (0), (by first | rfl | (simp; done) | (simp [*]; done)), (by first | rfl | (simp; done) | (simp [*]; done)), H', ⟨Nat.le_refl _⟩, ⟨by (with_reducible repeat first|apply uH|apply uJ|apply uG); exact BK101.out⟩, ⟨pb HB⟩⟩
    case round =>
     clear H'
     try clear c1
     try clear p2
     try clear c4
     try clear c4b0
     try clear c6
     try clear c6b0
     try clear c8
     try clear c8b0
     try clear c10
     try clear c10b0
     try clear c13
     try clear hcz11_0
     try clear hcz11_1
     try clear hcz11_2
     try clear hcz11_3
     try clear hcz12_0
     try clear hcz12_1
     try clear hcz12_2
     try clear hcz12_3
     try clear hcz14_0
     try clear hcz14_1
     try clear hcz14_2
     try clear hcz14_3
     try clear hcz5_0
     try clear hcz5_1
     try clear hcz5_2
     try clear hcz5_3
     try clear hcz7_0
     try clear hcz7_1
     try clear hcz7_2
     try clear hcz7_3
     try clear hcz9_0
     try clear hcz9_1
     try clear hcz9_2
     try clear hcz9_3
     try clear hfz11_0
     try clear hfz11_1
     try clear hfz11_2
     try clear hfz11_3
     try clear hfz12_0
     try clear hfz12_1
     try clear hfz12_2
     try clear hfz12_3
     try clear hfz14_0
     try clear hfz14_1
     try clear hfz14_2
     try clear hfz14_3
     try clear hfz5_0
     try clear hfz5_1
     try clear hfz5_2
     try clear hfz5_3
     try clear hfz7_0
     try clear hfz7_1
     try clear hfz7_2
     try clear hfz7_3
     try clear hfz9_0
     try clear hfz9_1
     try clear hfz9_2
     try clear hfz9_3
     try clear p2
     obtain ⟨x3_2, x35_2, rfl, rfl, HA, HK2, BK101, HB⟩ := hrel
     cases gk with
     | zero => exact absurd HA.out (by simp [impl_BeltOk.l0])
     | succ k2 =>
      have H := HA.out
      clear HA
      simp only [impl_BeltOk.l0] at H
      by_cases c15 : x35_2 < (l0_3.length : Int)
      ·rw [if_pos c15] at H
       have c15b0 : decide (x35_2 < (l0_3.length : Int)) = true := decide_eq_true c15
       clear c15
       by_cases c16 : 0 ≤ x35_2
       ·rw [if_pos c16] at H
        have c16b0 : decide (0 ≤ x35_2) = true := decide_eq_true c16
        clear c16
        by_cases c17 : x35_2 < (l0_3.length : Int)
        ·rw [if_pos c17] at H
         have c17b0 : decide (x35_2 < (l0_3.length : Int)) = true := decide_eq_true c17
         clear c17
         (try simp [c17b0] at c15b0)
         by_cases c18 : ((rd_T53 l0_3 x35_2).f0) < 1
         ·rw [if_pos c18] at H
          have c18b0 : decide (((rd_T53 l0_3 x35_2).f0) < 1) = true := decide_eq_true c18
          clear c18
          obtain rfl := Option.some.inj H
          have p102 : 0 ≤ (x35_2 : Int) := of_decide_eq_true (by first | (with_reducible assumption) | assumption)
          have q102 : x35_2 < (l0_3.length : Int) := of_decide_eq_true (by first | (with_reducible assumption) | assumption)
          obtain ⟨ad102, e102, hx102_0, hx102_1, hx102_2⟩ := at_T53 HR0_3.out x35_2 p102 q102
          cases e102
          replace hx102_0 := (HB.out.cell (World.block_lt_of_cell? w _ hx102_0)).trans hx102_0
          replace hx102_1 := (HB.out.cell (World.block_lt_of_cell? w _ hx102_1)).trans hx102_1
          replace hx102_2 := (HB.out.cell (World.block_lt_of_cell? w _ hx102_2)).trans hx102_2
          replace p102 := eq_true p102
          replace q102 := eq_true q102
          try go_wp2_with (first | ((with_reducible refine gate_dst (N := 5) rfl ?_); (try (refine gate_guard (by rfl) ?_; dsimp only)); refine bx 5 #[.int .i64 0, .int .i64 0, .int .i64 0] 53 ?_; intro gb103 hg w19 hbox hb; have BK103 := uD (hbox); have GW103 := uD ((by rw [hg]; exact (uN (pb HB)) : w.heap.size ≤ gb103)); have GE103 := uD ((by rw [hg]; exact (uN (pb HB)) : w.heap.size ≤ gb103)); replace HB := uD (uO (pb HB) hb); have NB101_103 := uD ((by rw [hg]; exact Nat.ne_of_lt (blk_lt (pk BK101)) : gb101 ≠ gb103)); have NB103_101 := uD ((by rw [hg]; exact Nat.ne_of_gt (blk_lt (pk BK101)) : gb103 ≠ gb101)); replace BK101 := uD (blk_below (pk BK101) hb); clear hb hbox hg; have hnb20 := NB103_101.out; have hnc20 := NB101_103.out; obtain ⟨hcz21_0, hcz21_1, hcz21_2, hfz21_0, hfz21_1, hfz21_2⟩ := cz3 BK103))
          have n0_ : Aside0 ((((w19.setCell ⟨gb103, 0, none⟩ (.int .i64 ((rd_T53 l0_3 x35_2).f0))).setCell ⟨gb103, 1, none⟩ (.int .i64 ((rd_T53 l0_3 x35_2).f1))).setCell ⟨gb103, 2, none⟩ (.int .i64 ((rd_T53 l0_3 x35_2).f2))).heap[gb101]? = some (.cells #[.int .i64 a0_0, .int .i64 a0_1, .bool a0_2, .slice (some ad102) l0_3.length c0_3] 29 (0, 0))) := ⟨by exact ps BK101⟩
          have n1_ : Aside0 ((((w19.setCell ⟨gb103, 0, none⟩ (.int .i64 ((rd_T53 l0_3 x35_2).f0))).setCell ⟨gb103, 1, none⟩ (.int .i64 ((rd_T53 l0_3 x35_2).f1))).setCell ⟨gb103, 2, none⟩ (.int .i64 ((rd_T53 l0_3 x35_2).f2))).heap[gb103]? = some (.cells #[.int .i64 ((rd_T53 l0_3 x35_2).f0), .int .i64 ((rd_T53 l0_3 x35_2).f1), .int .i64 ((rd_T53 l0_3 x35_2).f2)] 53 (0, 0))) := ⟨by (with_reducible repeat first|apply uH|apply uJ|apply uG); refine uP (cs := #[.int .i64 ((rd_T53 l0_3 x35_2).f0), .int .i64 ((rd_T53 l0_3 x35_2).f1), .int .i64 0]) ?_ 2 _ rfl; (with_reducible repeat first|apply uH|apply uJ|apply uG); refine uP (cs := #[.int .i64 ((rd_T53 l0_3 x35_2).f0), .int .i64 0, .int .i64 0]) ?_ 1 _ rfl; (with_reducible repeat first|apply uH|apply uJ|apply uG); refine uP (cs := #[.int .i64 0, .int .i64 0, .int .i64 0]) ?_ 0 _ rfl; (with_reducible repeat first|apply uH|apply uJ|apply uG); exact BK103.out⟩
          have n2_ : Aside0 (Below w.heap.size w (((w19.setCell ⟨gb103, 0, none⟩ (.int .i64 ((rd_T53 l0_3 x35_2).f0))).setCell ⟨gb103, 1, none⟩ (.int .i64 ((rd_T53 l0_3 x35_2).f1))).setCell ⟨gb103, 2, none⟩ (.int .i64 ((rd_T53 l0_3 x35_2).f2)))) := ⟨pb HB⟩
          (try clear BK101)
          (try clear BK103)
          (try clear HB)
          generalize (((w19.setCell ⟨gb103, 0, none⟩ (.int .i64 ((rd_T53 l0_3 x35_2).f0))).setCell ⟨gb103, 1, none⟩ (.int .i64 ((rd_T53 l0_3 x35_2).f1))).setCell ⟨gb103, 2, none⟩ (.int .i64 ((rd_T53 l0_3 x35_2).f2))) = w22 at n0_ n1_ n2_ ⊢
          have BK101 := n0_
          have BK103 := n1_
          have HB := n2_
          clear n0_ n1_ n2_
          replace BK101 := uD (uJ BK101.out)
          replace BK103 := uD (uJ BK103.out)
          replace HB := uD (uK HB.out)
          refine start_ (n := 35) (S := fun w' => w'.cell? ⟨gb103, 0, none⟩ = some (.int .i64 ((rd_T53 l0_3 x35_2).f0)) ∧ w'.cell? ⟨gb103, 1, none⟩ = some (.int .i64 ((rd_T53 l0_3 x35_2).f1)) ∧ w'.cell? ⟨gb103, 2, none⟩ = some (.int .i64 ((rd_T53 l0_3 x35_2).f2))) (ds := []) #[F,F,F,F,F,F,F,F,F,F,F,F,F,F,F,F,F,F,F,F,F,F,F,F,F,F,F,F,F,F,F,F,F,F,F] (by kernel_rfl) rfl rfl ⟨(uF BK103.out 0).trans rfl, (uF BK103.out 1).trans rfl, (uF BK103.out 2).trans rfl⟩ (fun hHeld => ?_); refine with_tabW impl_BeltOk.tab7 impl_BeltOk.bits7 (fun HT_ HW_ => ?_)
          generalize w22.drew = w23 at BK101 BK103 HB hHeld ⊢
          refine pu 0 (some 40) #[T,F,F,F,F,F,F,F,F,F,F,F,F,F,F,F,F,F,F,F,F,F,F,F,F,F,F,F,F,F,F,F,F,F,F] HT_ ?_
          refine tk 1 (some 41) #[T,T,F,F,F,F,F,F,F,F,F,F,F,F,F,F,F,F,F,F,F,F,F,F,F,F,F,F,F,F,F,F,F,F,F] HT_ HW_ hHeld ?_
          refine pu 2 (some 42) #[T,T,T,F,F,F,F,F,F,F,F,F,F,F,F,F,F,F,F,F,F,F,F,F,F,F,F,F,F,F,F,F,F,F,F] HT_ ?_
          refine pu 3 (some 43) #[T,T,T,T,F,F,F,F,F,F,F,F,F,F,F,F,F,F,F,F,F,F,F,F,F,F,F,F,F,F,F,F,F,F,F] HT_ ?_
          refine ub (i := 4) (N := some 44) (v := undef) (a' := ?_) #[T,T,T,T,T,F,F,F,F,F,F,F,F,F,F,F,F,F,F,F,F,F,F,F,F,F,F,F,F,F,F,F,F,F,F] rfl rfl (uY HT_.out (by kernel_rfl)) (fun _ _ _ h => h) (Or.inr ⟨by rfl, rfl⟩) ?_ ?_
          rotate_left
          ·simp only [uc, uA, uB, uC, uZ, ua]
           rfl
          refine ub (i := 5) (N := some 45) (v := undef) (a' := ?_) #[T,T,T,T,T,T,F,F,F,F,F,F,F,F,F,F,F,F,F,F,F,F,F,F,F,F,F,F,F,F,F,F,F,F,F] rfl rfl (uY HT_.out (by kernel_rfl)) (fun _ _ _ h => h) (Or.inr ⟨by rfl, rfl⟩) ?_ ?_
          rotate_left
          ·simp only [uc, uA, uB, uC, uZ, ua]
           rfl
          refine ub (i := 6) (N := some 46) (v := undef) (a' := ?_) #[T,T,T,T,T,T,T,F,F,F,F,F,F,F,F,F,F,F,F,F,F,F,F,F,F,F,F,F,F,F,F,F,F,F,F] rfl rfl (uY HT_.out (by kernel_rfl)) (fun _ _ _ h => h) (Or.inr ⟨by rfl, rfl⟩) ?_ ?_
          rotate_left
          ·simp only [uc, uA, uB, uC, uZ, ua]
           rfl
          refine ub (i := 7) (N := some 47) (v := undef) (a' := ?_) #[T,T,T,T,T,T,T,T,F,F,F,F,F,F,F,F,F,F,F,F,F,F,F,F,F,F,F,F,F,F,F,F,F,F,F] rfl rfl (uY HT_.out (by kernel_rfl)) (fun _ _ _ h => h) (Or.inr ⟨by rfl, rfl⟩) ?_ ?_
          rotate_left
          ·simp only [uc, uA, uB, uC, uZ, ua]
           rfl
          refine ub (i := 8) (N := some 48) (v := undef) (a' := ?_) #[T,T,T,T,T,T,T,T,T,F,F,F,F,F,F,F,F,F,F,F,F,F,F,F,F,F,F,F,F,F,F,F,F,F,F] rfl rfl (uY HT_.out (by kernel_rfl)) (fun _ _ _ h => h) (Or.inr ⟨by rfl, rfl⟩) ?_ ?_
          rotate_left
          ·simp only [uc, uA, uB, uC, uZ, ua]
           rfl
          refine ub (i := 9) (N := some 49) (v := undef) (a' := ?_) #[T,T,T,T,T,T,T,T,T,T,F,F,F,F,F,F,F,F,F,F,F,F,F,F,F,F,F,F,F,F,F,F,F,F,F] rfl rfl (uY HT_.out (by kernel_rfl)) (fun _ _ _ h => h) (Or.inr ⟨by rfl, rfl⟩) ?_ ?_
          rotate_left
          ·simp only [uc, uA, uB, uC, uZ, ua]
           rfl
          refine ub (i := 10) (N := some 50) (v := undef) (a' := ?_) #[T,T,T,T,T,T,T,T,T,T,T,F,F,F,F,F,F,F,F,F,F,F,F,F,F,F,F,F,F,F,F,F,F,F,F] rfl rfl (uY HT_.out (by kernel_rfl)) (fun _ _ _ h => h) (Or.inr ⟨by rfl, rfl⟩) ?_ ?_
          rotate_left
          ·simp only [uc, uA, uB, uC, uZ, ua]
           rfl
          refine pu 11 (some 51) #[T,T,T,T,T,T,T,T,T,T,T,T,F,F,F,F,F,F,F,F,F,F,F,F,F,F,F,F,F,F,F,F,F,F,F] HT_ ?_
          refine pu 12 (some 52) #[T,T,T,T,T,T,T,T,T,T,T,T,T,F,F,F,F,F,F,F,F,F,F,F,F,F,F,F,F,F,F,F,F,F,F] HT_ ?_
          refine ub (i := 13) (N := some 53) (v := undef) (a' := ?_) #[T,T,T,T,T,T,T,T,T,T,T,T,T,T,F,F,F,F,F,F,F,F,F,F,F,F,F,F,F,F,F,F,F,F,F] rfl rfl (uY HT_.out (by kernel_rfl)) (fun _ _ _ h => h) (Or.inr ⟨by rfl, rfl⟩) ?_ ?_
          rotate_left
          ·simp only [uc, uA, uB, uC, uZ, ua]
           rfl
          refine ub (i := 14) (N := some 54) (v := undef) (a' := ?_) #[T,T,T,T,T,T,T,T,T,T,T,T,T,T,T,F,F,F,F,F,F,F,F,F,F,F,F,F,F,F,F,F,F,F,F] rfl rfl (uY HT_.out (by kernel_rfl)) (fun _ _ _ h => h) (Or.inr ⟨by rfl, rfl⟩) ?_ ?_
          rotate_left
          ·simp only [uc, uA, uB, uC, uZ, ua]
           rfl
          refine ub (i := 15) (N := some 55) (v := undef) (a' := ?_) #[T,T,T,T,T,T,T,T,T,T,T,T,T,T,T,T,F,F,F,F,F,F,F,F,F,F,F,F,F,F,F,F,F,F,F] rfl rfl (uY HT_.out (by kernel_rfl)) (fun _ _ _ h => h) (Or.inr ⟨by rfl, rfl⟩) ?_ ?_
          rotate_left
          ·simp only [uc, uA, uB, uC, uZ, ua]
           rfl
          refine pu 16 (some 56) #[T,T,T,T,T,T,T,T,T,T,T,T,T,T,T,T,T,F,F,F,F,F,F,F,F,F,F,F,F,F,F,F,F,F,F] HT_ ?_
          refine pu 17 (some 57) #[T,T,T,T,T,T,T,T,T,T,T,T,T,T,T,T,T,T,F,F,F,F,F,F,F,F,F,F,F,F,F,F,F,F,F] HT_ ?_
          refine ub (i := 18) (N := some 58) (v := undef) (a' := ?_) #[T,T,T,T,T,T,T,T,T,T,T,T,T,T,T,T,T,T,T,F,F,F,F,F,F,F,F,F,F,F,F,F,F,F,F] rfl rfl (uY HT_.out (by kernel_rfl)) (fun _ _ _ h => h) (Or.inr ⟨by rfl, rfl⟩) ?_ ?_
          rotate_left
          ·simp only [uc, uA, uB, uC, uZ, ua]
           rfl
          refine ub (i := 19) (N := some 59) (v := undef) (a' := ?_) #[T,T,T,T,T,T,T,T,T,T,T,T,T,T,T,T,T,T,T,T,F,F,F,F,F,F,F,F,F,F,F,F,F,F,F] rfl rfl (uY HT_.out (by kernel_rfl)) (fun _ _ _ h => h) (Or.inr ⟨by rfl, rfl⟩) ?_ ?_
          rotate_left
          ·simp only [uc, uA, uB, uC, uZ, ua]
           rfl
          refine ub (i := 20) (N := some 60) (v := undef) (a' := ?_) #[T,T,T,T,T,T,T,T,T,T,T,T,T,T,T,T,T,T,T,T,T,F,F,F,F,F,F,F,F,F,F,F,F,F,F] rfl rfl (uY HT_.out (by kernel_rfl)) (fun _ _ _ h => h) (Or.inr ⟨by rfl, rfl⟩) ?_ ?_
          rotate_left
          ·simp only [uc, uA, uB, uC, uZ, ua]
           rfl
          refine pu 21 (some 61) #[T,T,T,T,T,T,T,T,T,T,T,T,T,T,T,T,T,T,T,T,T,T,F,F,F,F,F,F,F,F,F,F,F,F,F] HT_ ?_
          refine pu 22 (some 62) #[T,T,T,T,T,T,T,T,T,T,T,T,T,T,T,T,T,T,T,T,T,T,T,F,F,F,F,F,F,F,F,F,F,F,F] HT_ ?_
          refine ub (i := 23) (N := some 63) (v := undef) (a' := ?_) #[T,T,T,T,T,T,T,T,T,T,T,T,T,T,T,T,T,T,T,T,T,T,T,T,F,F,F,F,F,F,F,F,F,F,F] rfl rfl (uY HT_.out (by kernel_rfl)) (fun _ _ _ h => h) (Or.inr ⟨by rfl, rfl⟩) ?_ ?_
          rotate_left
          ·simp only [uc, uA, uB, uC, uZ, ua]
           rfl
          refine ub (i := 24) (N := some 64) (v := undef) (a' := ?_) #[T,T,T,T,T,T,T,T,T,T,T,T,T,T,T,T,T,T,T,T,T,T,T,T,T,F,F,F,F,F,F,F,F,F,F] rfl rfl (uY HT_.out (by kernel_rfl)) (fun _ _ _ h => h) (Or.inr ⟨by rfl, rfl⟩) ?_ ?_
          rotate_left
          ·simp only [uc, uA, uB, uC, uZ, ua]
           rfl
          refine ub (i := 25) (N := some 65) (v := undef) (a' := ?_) #[T,T,T,T,T,T,T,T,T,T,T,T,T,T,T,T,T,T,T,T,T,T,T,T,T,T,F,F,F,F,F,F,F,F,F] rfl rfl (uY HT_.out (by kernel_rfl)) (fun _ _ _ h => h) (Or.inr ⟨by rfl, rfl⟩) ?_ ?_
          rotate_left
          ·simp only [uc, uA, uB, uC, uZ, ua]
           rfl
          refine ub (i := 26) (N := some 66) (v := undef) (a' := ?_) #[T,T,T,T,T,T,T,T,T,T,T,T,T,T,T,T,T,T,T,T,T,T,T,T,T,T,T,F,F,F,F,F,F,F,F] rfl rfl (uY HT_.out (by kernel_rfl)) (fun _ _ _ h => h) (Or.inr ⟨by rfl, rfl⟩) ?_ ?_
          rotate_left
          ·simp only [uc, uA, uB, uC, uZ, ua]
           rfl
          refine ub (i := 27) (N := some 67) (v := undef) (a' := ?_) #[T,T,T,T,T,T,T,T,T,T,T,T,T,T,T,T,T,T,T,T,T,T,T,T,T,T,T,T,F,F,F,F,F,F,F] rfl rfl (uY HT_.out (by kernel_rfl)) (fun _ _ _ h => h) (Or.inr ⟨by rfl, rfl⟩) ?_ ?_
          rotate_left
          ·simp only [uc, uA, uB, uC, uZ, ua]
           rfl
          refine pu 28 (some 68) #[T,T,T,T,T,T,T,T,T,T,T,T,T,T,T,T,T,T,T,T,T,T,T,T,T,T,T,T,T,F,F,F,F,F,F] HT_ ?_
          refine pu 29 (some 69) #[T,T,T,T,T,T,T,T,T,T,T,T,T,T,T,T,T,T,T,T,T,T,T,T,T,T,T,T,T,T,F,F,F,F,F] HT_ ?_
          refine ub (i := 30) (N := some 70) (v := undef) (a' := ?_) #[T,T,T,T,T,T,T,T,T,T,T,T,T,T,T,T,T,T,T,T,T,T,T,T,T,T,T,T,T,T,T,F,F,F,F] rfl rfl (uY HT_.out (by kernel_rfl)) (fun _ _ _ h => h) (Or.inr ⟨by rfl, rfl⟩) ?_ ?_
          rotate_left
          ·simp only [uc, uA, uB, uC, uZ, ua]
           rfl
          refine ub (i := 31) (N := some 71) (v := undef) (a' := ?_) #[T,T,T,T,T,T,T,T,T,T,T,T,T,T,T,T,T,T,T,T,T,T,T,T,T,T,T,T,T,T,T,T,F,F,F] rfl rfl (uY HT_.out (by kernel_rfl)) (fun _ _ _ h => h) (Or.inr ⟨by rfl, rfl⟩) ?_ ?_
          rotate_left
          ·simp only [uc, uA, uB, uC, uZ, ua]
           rfl
          refine ub (i := 32) (N := some 72) (v := undef) (a' := ?_) #[T,T,T,T,T,T,T,T,T,T,T,T,T,T,T,T,T,T,T,T,T,T,T,T,T,T,T,T,T,T,T,T,T,F,F] rfl rfl (uY HT_.out (by kernel_rfl)) (fun _ _ _ h => h) (Or.inr ⟨by rfl, rfl⟩) ?_ ?_
          rotate_left
          ·simp only [uc, uA, uB, uC, uZ, ua]
           rfl
          refine ub (i := 33) (N := some 73) (v := undef) (a' := ?_) #[T,T,T,T,T,T,T,T,T,T,T,T,T,T,T,T,T,T,T,T,T,T,T,T,T,T,T,T,T,T,T,T,T,T,F] rfl rfl (uY HT_.out (by kernel_rfl)) (fun _ _ _ h => h) (Or.inr ⟨by rfl, rfl⟩) ?_ ?_
          rotate_left
          ·simp only [uc, uA, uB, uC, uZ, ua]
           rfl
          refine pu 34 (some 74) #[T,T,T,T,T,T,T,T,T,T,T,T,T,T,T,T,T,T,T,T,T,T,T,T,T,T,T,T,T,T,T,T,T,T,T] HT_ ?_
          refine done_ (done_of HT_.out (by kernel_rfl)) ?_
          try go_wp2
          go_ret
          exact ⟨by first | rfl | (simp [errW_none, errW_some] <;> rfl) | (simp [*, errW_none, errW_some] <;> rfl), pb HB⟩
         ·rw [if_neg c18] at H
          have c18b0 : decide (((rd_T53 l0_3 x35_2).f0) < 1) = false := decide_eq_false c18
          clear c18
          have c24b0 := eq_true (of_decide_eq_true (by first | (with_reducible assumption) | assumption) : 0 ≤ x35_2)
          by_cases c25 : x35_2 ≤ (l0_3.length : Int)
          ·rw [if_pos c25] at H
           have c25b0 := eq_true c25
           have c25b1 : decide (x35_2 ≤ (l0_3.length : Int)) = true := decide_eq_true c25
           clear c25
           obtain ⟨y104, hy104⟩ : ∃ y_ : List (S53), y_ = (l0_3.take (x35_2 : Int).toNat) := ⟨_, rfl⟩
           replace H : ((impl_isOn.f y104 ((rd_T53 l0_3 x35_2).f0)).bind fun t108 => (if t108 = true then (some false) else (if ((rd_T53 l0_3 x35_2).f2) < 1 then (some false) else (if ((rd_T53 l0_3 x35_2).f2) > 60 then (some false) else (if ((rd_T53 l0_3 x35_2).f1) < ((rd_T53 l0_3 x35_2).f2) then (some false) else (if ((rd_T53 l0_3 x35_2).f1) > x3_2 then (some false) else (impl_BeltOk.l0 k2 (wrap64 ((wrap64 (((rd_T53 l0_3 x35_2).f1) - ((rd_T53 l0_3 x35_2).f2))) - a0_1)) l0_3 (l0_3.length : Int) (wrap64 (x35_2 + 1)) a0_0 a0_1 a0_2 l0_3))))))) = some r := by first | (rw [hy104]; with_reducible exact H) | (have H2_ := (Option.bind_some _ _).symm.trans H; rw [hy104]; with_reducible exact H2_) | (have H2_ := (Option.bind_some _ _).symm.trans H; with_reducible exact H2_) | with_reducible exact H | (rw [hy104]; exact H) | exact H
           have Ny104 := uD hy104
           clear hy104
           replace H := Option.bind_eq_some_iff.mp H
           obtain ⟨t108, A260, H⟩ := H
           replace H : (if t108 = true then (some false) else (if ((rd_T53 l0_3 x35_2).f2) < 1 then (some false) else (if ((rd_T53 l0_3 x35_2).f2) > 60 then (some false) else (if ((rd_T53 l0_3 x35_2).f1) < ((rd_T53 l0_3 x35_2).f2) then (some false) else (if ((rd_T53 l0_3 x35_2).f1) > x3_2 then (some false) else (impl_BeltOk.l0 k2 (wrap64 ((wrap64 (((rd_T53 l0_3 x35_2).f1) - ((rd_T53 l0_3 x35_2).f2))) - a0_1)) l0_3 (l0_3.length : Int) (wrap64 (x35_2 + 1)) a0_0 a0_1 a0_2 l0_3)))))) = some r := H
           have A26 := uD A260
           clear A260
           by_cases c27 : t108 = true
           ·subst c27
            have H1 : (some false) = some r := by rw [if_pos rfl] at H; first | done | exact H
            clear H
            have H := H1
            clear H1
            obtain rfl := Option.some.inj H
            have p102 : 0 ≤ (x35_2 : Int) := of_decide_eq_true (by first | (with_reducible assumption) | assumption)
            have q102 : x35_2 < (l0_3.length : Int) := of_decide_eq_true (by first | (with_reducible assumption) | assumption)
            obtain ⟨ad102, e102, hx102_0, hx102_1, hx102_2⟩ := at_T53 HR0_3.out x35_2 p102 q102
            cases e102
            replace hx102_0 := (HB.out.cell (World.block_lt_of_cell? w _ hx102_0)).trans hx102_0
            replace hx102_1 := (HB.out.cell (World.block_lt_of_cell? w _ hx102_1)).trans hx102_1
            replace hx102_2 := (HB.out.cell (World.block_lt_of_cell? w _ hx102_2)).trans hx102_2
            replace p102 := eq_true p102
            replace q102 := eq_true q102
            try go_wp2_with (first | ((with_reducible refine gate_dst (N := 5) rfl ?_); (try (refine gate_guard (by rfl) ?_; dsimp only)); refine bx 5 #[.int .i64 0, .int .i64 0, .int .i64 0] 53 ?_; intro gb103 hg w28 hbox hb; have BK103 := uD (hbox); have GW103 := uD ((by rw [hg]; exact (uN (pb HB)) : w.heap.size ≤ gb103)); have GE103 := uD ((by rw [hg]; exact (uN (pb HB)) : w.heap.size ≤ gb103)); replace HB := uD (uO (pb HB) hb); have NB101_103 := uD ((by rw [hg]; exact Nat.ne_of_lt (blk_lt (pk BK101)) : gb101 ≠ gb103)); have NB103_101 := uD ((by rw [hg]; exact Nat.ne_of_gt (blk_lt (pk BK101)) : gb103 ≠ gb101)); replace BK101 := uD (blk_below (pk BK101) hb); clear hb hbox hg; have hnb29 := NB103_101.out; have hnc29 := NB101_103.out; obtain ⟨hcz30_0, hcz30_1, hcz30_2, hfz30_0, hfz30_1, hfz30_2⟩ := cz3 BK103))
            have n0_ : Aside0 ((((w28.setCell ⟨gb103, 0, none⟩ (.int .i64 ((rd_T53 l0_3 x35_2).f0))).setCell ⟨gb103, 1, none⟩ (.int .i64 ((rd_T53 l0_3 x35_2).f1))).setCell ⟨gb103, 2, none⟩ (.int .i64 ((rd_T53 l0_3 x35_2).f2))).heap[gb101]? = some (.cells #[.int .i64 a0_0, .int .i64 a0_1, .bool a0_2, .slice (some ad102) l0_3.length c0_3] 29 (0, 0))) := ⟨by exact ps BK101⟩
            have n1_ : Aside0 ((((w28.setCell ⟨gb103, 0, none⟩ (.int .i64 ((rd_T53 l0_3 x35_2).f0))).setCell ⟨gb103, 1, none⟩ (.int .i64 ((rd_T53 l0_3 x35_2).f1))).setCell ⟨gb103, 2, none⟩ (.int .i64 ((rd_T53 l0_3 x35_2).f2))).heap[gb103]? = some (.cells #[.int .i64 ((rd_T53 l0_3 x35_2).f0), .int .i64 ((rd_T53 l0_3 x35_2).f1), .int .i64 ((rd_T53 l0_3 x35_2).f2)] 53 (0, 0))) := ⟨by (with_reducible repeat first|apply uH|apply uJ|apply uG); refine uP (cs := #[.int .i64 ((rd_T53 l0_3 x35_2).f0), .int .i64 ((rd_T53 l0_3 x35_2).f1), .int .i64 0]) ?_ 2 _ rfl; (with_reducible repeat first|apply uH|apply uJ|apply uG); refine uP (cs := #[.int .i64 ((rd_T53 l0_3 x35_2).f0), .int .i64 0, .int .i64 0]) ?_ 1 _ rfl; (with_reducible repeat first|apply uH|apply uJ|apply uG); refine uP (cs := #[.int .i64 0, .int .i64 0, .int .i64 0]) ?_ 0 _ rfl; (with_reducible repeat first|apply uH|apply uJ|apply uG); exact BK103.out⟩
            have n2_ : Aside0 (Below w.heap.size w (((w28.setCell ⟨gb103, 0, none⟩ (.int .i64 ((rd_T53 l0_3 x35_2).f0))).setCell ⟨gb103, 1, none⟩ (.int .i64 ((rd_T53 l0_3 x35_2).f1))).setCell ⟨gb103, 2, none⟩ (.int .i64 ((rd_T53 l0_3 x35_2).f2)))) := ⟨pb HB⟩
            (try clear BK101)
            (try clear BK103)
            (try clear HB)
            generalize (((w28.setCell ⟨gb103, 0, none⟩ (.int .i64 ((rd_T53 l0_3 x35_2).f0))).setCell ⟨gb103, 1, none⟩ (.int .i64 ((rd_T53 l0_3 x35_2).f1))).setCell ⟨gb103, 2, none⟩ (.int .i64 ((rd_T53 l0_3 x35_2).f2))) = w31 at n0_ n1_ n2_ ⊢
            have BK101 := n0_
            have BK103 := n1_
            have HB := n2_
            clear n0_ n1_ n2_
            replace BK101 := uD (uJ BK101.out)
            replace BK103 := uD (uJ BK103.out)
            replace HB := uD (uK HB.out)
            have q33 : (x35_2 : Int) ≤ ((l0_3.length : Int) : Int) := of_decide_eq_true (by first | (with_reducible assumption) | assumption)
            obtain ⟨i033, hi033, _, hsz33, _⟩ := info_parts info53
            have hroom33 : l0_3.length ≤ c0_3 := HC0_3.out
            have hC33 : Kd.C k53 _ (some ad102) l0_3.length l0_3 := HR0_3.out
            have hcut33 := cut_to (P := Try.prog) 27 53 .i64 Try.underlying27 hi033 (some ad102) l0_3.length c0_3 x35_2 (of_decide_eq_true (by first | (with_reducible assumption) | assumption)) q33 hroom33
            have hr33 := Kd.C_take (m := (x35_2 : Int).toNat) hC33 (by omega)
            have hy33 : y104.length = (x35_2 : Int).toNat := (by rw [Ny104.out, List.length_take]; omega)
            rw [← Ny104.out] at hr33
            rw [← hy33] at hcut33
            have HR107 := uD hr33
            have HC107 := uD (show y104.length ≤ c0_3 from by omega)
            clear hr33 hC33 hroom33 hi033 hsz33
            have KY33 := uD hy33
            clear hy33
            replace q33 := eq_true q33
            refine start_ (n := 35) (S := fun w' => w'.cell? ⟨gb103, 0, none⟩ = some (.int .i64 ((rd_T53 l0_3 x35_2).f0)) ∧ w'.cell? ⟨gb103, 1, none⟩ = some (.int .i64 ((rd_T53 l0_3 x35_2).f1)) ∧ w'.cell? ⟨gb103, 2, none⟩ = some (.int .i64 ((rd_T53 l0_3 x35_2).f2)) ∧ w'.cell? ⟨gb101, 0, none⟩ = some (.int .i64 a0_0) ∧ w'.cell? ⟨gb101, 1, none⟩ = some (.int .i64 a0_1) ∧ w'.cell? ⟨gb101, 2, none⟩ = some (.bool a0_2) ∧ w'.cell? ⟨gb101, 3, none⟩ = some (.slice (some ad102) l0_3.length c0_3)) (ds := []) #[F,F,F,F,F,F,F,F,F,F,F,F,F,F,F,F,F,F,F,F,F,F,F,F,F,F,F,F,F,F,F,F,F,F,F] (by kernel_rfl) rfl rfl ⟨(uF BK103.out 0).trans rfl, (uF BK103.out 1).trans rfl, (uF BK103.out 2).trans rfl, (uF BK101.out 0).trans rfl, (uF BK101.out 1).trans rfl, (uF BK101.out 2).trans rfl, (uF BK101.out 3).trans rfl⟩ (fun hHeld => ?_); refine with_tabW impl_BeltOk.tab7 impl_BeltOk.bits7 (fun HT_ HW_ => ?_)
            generalize w31.drew = w32 at BK101 BK103 HB HR107 hHeld ⊢
            refine pu 0 (some 40) #[T,F,F,F,F,F,F,F,F,F,F,F,F,F,F,F,F,F,F,F,F,F,F,F,F,F,F,F,F,F,F,F,F,F,F] HT_ ?_
            refine tk 1 (some 41) #[T,T,F,F,F,F,F,F,F,F,F,F,F,F,F,F,F,F,F,F,F,F,F,F,F,F,F,F,F,F,F,F,F,F,F] HT_ HW_ hHeld ?_
            refine pu 2 (some 42) #[T,T,T,F,F,F,F,F,F,F,F,F,F,F,F,F,F,F,F,F,F,F,F,F,F,F,F,F,F,F,F,F,F,F,F] HT_ ?_
            refine pu 3 (some 43) #[T,T,T,T,F,F,F,F,F,F,F,F,F,F,F,F,F,F,F,F,F,F,F,F,F,F,F,F,F,F,F,F,F,F,F] HT_ ?_
            refine pu 4 (some 44) #[T,T,T,T,T,F,F,F,F,F,F,F,F,F,F,F,F,F,F,F,F,F,F,F,F,F,F,F,F,F,F,F,F,F,F] HT_ ?_
            refine pu 6 (some 46) #[T,T,T,T,T,F,T,F,F,F,F,F,F,F,F,F,F,F,F,F,F,F,F,F,F,F,F,F,F,F,F,F,F,F,F] HT_ ?_
            refine pu 8 (some 48) #[T,T,T,T,T,F,T,F,T,F,F,F,F,F,F,F,F,F,F,F,F,F,F,F,F,F,F,F,F,F,F,F,F,F,F] HT_ ?_
            refine tk 5 (some 45) #[T,T,T,T,T,T,T,F,T,F,F,F,F,F,F,F,F,F,F,F,F,F,F,F,F,F,F,F,F,F,F,F,F,F,F] HT_ HW_ hHeld ?_
            refine pu 7 (some 47) #[T,T,T,T,T,T,T,T,T,F,F,F,F,F,F,F,F,F,F,F,F,F,F,F,F,F,F,F,F,F,F,F,F,F,F] HT_ ?_
            refine tk 9 (some 49) #[T,T,T,T,T,T,T,T,T,T,F,F,F,F,F,F,F,F,F,F,F,F,F,F,F,F,F,F,F,F,F,F,F,F,F] HT_ HW_ hHeld ?_
            refine one_ (i := 10) (N := some 50) #[T,T,T,T,T,T,T,T,T,T,T,F,F,F,F,F,F,F,F,F,F,F,F,F,F,F,F,F,F,F,F,F,F,F,F] rfl rfl (one_of HT_.out (by kernel_rfl)) (by decide) (fun K hK => ?_)
            refine goes_ Try.func50 (by kernel_rfl) rfl #[.slice (some ad102) y104.length c0_3, .int .i64 ((rd_T53 l0_3 x35_2).f0)] (by rfl) rfl rfl (by (try simp only [List.map_toArray, List.map_cons, List.map_nil]); first | done | rfl | (simp only [List.length_drop, List.length_take]; rfl)) ?_
            with_reducible refine (impl_isOn.calls _ _ y104 ((rd_T53 l0_3 x35_2).f0) true _ ?side1 ?side2 A26.out).mono ?_
            (case side1 => exact pc (Kd.C_below HR107.out HB.out))
            (case side2 => exact HC107.out)
            rintro e w34 ⟨rfl, hb⟩
            refine ⟨_, rfl, ?_⟩
            replace BK101 := uD (blk_below (pk BK101) hb)
            replace BK103 := uD (blk_below (pk BK103) hb)
            replace HB := uD (uO (pb HB) hb)
            (try clear hb)
            (try clear hb2)
            (try clear hk)
            (try clear hi)
            refine hK.out _ _ ⟨(uF BK103.out 0).trans rfl, (uF BK103.out 1).trans rfl, (uF BK103.out 2).trans rfl, (uF BK101.out 0).trans rfl, (uF BK101.out 1).trans rfl, (uF BK101.out 2).trans rfl, (uF BK101.out 3).trans rfl⟩ (fun hHeld => ?_)
            clear hK K
            refine norm_ (a' := ?_) ?_ ?_
            rotate_left
            ·show uc _ (some 50) _ = _
             simp only [uc, uA, uB, uC, uZ, ua]
             rfl
            refine pu 11 (some 51) #[T,T,T,T,T,T,T,T,T,T,T,T,F,F,F,F,F,F,F,F,F,F,F,F,F,F,F,F,F,F,F,F,F,F,F] HT_ ?_
            refine pu 12 (some 52) #[T,T,T,T,T,T,T,T,T,T,T,T,T,F,F,F,F,F,F,F,F,F,F,F,F,F,F,F,F,F,F,F,F,F,F] HT_ ?_
            refine ub (i := 13) (N := some 53) (v := undef) (a' := ?_) #[T,T,T,T,T,T,T,T,T,T,T,T,T,T,F,F,F,F,F,F,F,F,F,F,F,F,F,F,F,F,F,F,F,F,F] rfl rfl (uY HT_.out (by kernel_rfl)) (fun _ _ _ h => h) (Or.inr ⟨by rfl, rfl⟩) ?_ ?_
            rotate_left
            ·simp only [uc, uA, uB, uC, uZ, ua]
             rfl
            refine ub (i := 14) (N := some 54) (v := undef) (a' := ?_) #[T,T,T,T,T,T,T,T,T,T,T,T,T,T,T,F,F,F,F,F,F,F,F,F,F,F,F,F,F,F,F,F,F,F,F] rfl rfl (uY HT_.out (by kernel_rfl)) (fun _ _ _ h => h) (Or.inr ⟨by rfl, rfl⟩) ?_ ?_
            rotate_left
            ·simp only [uc, uA, uB, uC, uZ, ua]
             rfl
            refine ub (i := 15) (N := some 55) (v := undef) (a' := ?_) #[T,T,T,T,T,T,T,T,T,T,T,T,T,T,T,T,F,F,F,F,F,F,F,F,F,F,F,F,F,F,F,F,F,F,F] rfl rfl (uY HT_.out (by kernel_rfl)) (fun _ _ _ h => h) (Or.inr ⟨by rfl, rfl⟩) ?_ ?_
            rotate_left
            ·simp only [uc, uA, uB, uC, uZ, ua]
             rfl
            refine pu 16 (some 56) #[T,T,T,T,T,T,T,T,T,T,T,T,T,T,T,T,T,F,F,F,F,F,F,F,F,F,F,F,F,F,F,F,F,F,F] HT_ ?_
            refine pu 17 (some 57) #[T,T,T,T,T,T,T,T,T,T,T,T,T,T,T,T,T,T,F,F,F,F,F,F,F,F,F,F,F,F,F,F,F,F,F] HT_ ?_
            refine ub (i := 18) (N := some 58) (v := undef) (a' := ?_) #[T,T,T,T,T,T,T,T,T,T,T,T,T,T,T,T,T,T,T,F,F,F,F,F,F,F,F,F,F,F,F,F,F,F,F] rfl rfl (uY HT_.out (by kernel_rfl)) (fun _ _ _ h => h) (Or.inr ⟨by rfl, rfl⟩) ?_ ?_
            rotate_left
            ·simp only [uc, uA, uB, uC, uZ, ua]
             rfl
            refine ub (i := 19) (N := some 59) (v := undef) (a' := ?_) #[T,T,T,T,T,T,T,T,T,T,T,T,T,T,T,T,T,T,T,T,F,F,F,F,F,F,F,F,F,F,F,F,F,F,F] rfl rfl (uY HT_.out (by kernel_rfl)) (fun _ _ _ h => h) (Or.inr ⟨by rfl, rfl⟩) ?_ ?_
            rotate_left
            ·simp only [uc, uA, uB, uC, uZ, ua]
             rfl
            refine ub (i := 20) (N := some 60) (v := undef) (a' := ?_) #[T,T,T,T,T,T,T,T,T,T,T,T,T,T,T,T,T,T,T,T,T,F,F,F,F,F,F,F,F,F,F,F,F,F,F] rfl rfl (uY HT_.out (by kernel_rfl)) (fun _ _ _ h => h) (Or.inr ⟨by rfl, rfl⟩) ?_ ?_
            rotate_left
            ·simp only [uc, uA, uB, uC, uZ, ua]
             rfl
            refine pu 21 (some 61) #[T,T,T,T,T,T,T,T,T,T,T,T,T,T,T,T,T,T,T,T,T,T,F,F,F,F,F,F,F,F,F,F,F,F,F] HT_ ?_
            refine pu 22 (some 62) #[T,T,T,T,T,T,T,T,T,T,T,T,T,T,T,T,T,T,T,T,T,T,T,F,F,F,F,F,F,F,F,F,F,F,F] HT_ ?_
            refine ub (i := 23) (N := some 63) (v := undef) (a' := ?_) #[T,T,T,T,T,T,T,T,T,T,T,T,T,T,T,T,T,T,T,T,T,T,T,T,F,F,F,F,F,F,F,F,F,F,F] rfl rfl (uY HT_.out (by kernel_rfl)) (fun _ _ _ h => h) (Or.inr ⟨by rfl, rfl⟩) ?_ ?_
            rotate_left
            ·simp only [uc, uA, uB, uC, uZ, ua]
             rfl
            refine ub (i := 24) (N := some 64) (v := undef) (a' := ?_) #[T,T,T,T,T,T,T,T,T,T,T,T,T,T,T,T,T,T,T,T,T,T,T,T,T,F,F,F,F,F,F,F,F,F,F] rfl rfl (uY HT_.out (by kernel_rfl)) (fun _ _ _ h => h) (Or.inr ⟨by rfl, rfl⟩) ?_ ?_
            rotate_left
            ·simp only [uc, uA, uB, uC, uZ, ua]
             rfl
            refine ub (i := 25) (N := some 65) (v := undef) (a' := ?_) #[T,T,T,T,T,T,T,T,T,T,T,T,T,T,T,T,T,T,T,T,T,T,T,T,T,T,F,F,F,F,F,F,F,F,F] rfl rfl (uY HT_.out (by kernel_rfl)) (fun _ _ _ h => h) (Or.inr ⟨by rfl, rfl⟩) ?_ ?_
            rotate_left
            ·simp only [uc, uA, uB, uC, uZ, ua]
             rfl
            refine ub (i := 26) (N := some 66) (v := undef) (a' := ?_) #[T,T,T,T,T,T,T,T,T,T,T,T,T,T,T,T,T,T,T,T,T,T,T,T,T,T,T,F,F,F,F,F,F,F,F] rfl rfl (uY HT_.out (by kernel_rfl)) (fun _ _ _ h => h) (Or.inr ⟨by rfl, rfl⟩) ?_ ?_
            rotate_left
            ·simp only [uc, uA, uB, uC, uZ, ua]
             rfl
            refine ub (i := 27) (N := some 67) (v := undef) (a' := ?_) #[T,T,T,T,T,T,T,T,T,T,T,T,T,T,T,T,T,T,T,T,T,T,T,T,T,T,T,T,F,F,F,F,F,F,F] rfl rfl (uY HT_.out (by kernel_rfl)) (fun _ _ _ h => h) (Or.inr ⟨by rfl, rfl⟩) ?_ ?_
            rotate_left
            ·simp only [uc, uA, uB, uC, uZ, ua]
             rfl
            refine pu 28 (some 68) #[T,T,T,T,T,T,T,T,T,T,T,T,T,T,T,T,T,T,T,T,T,T,T,T,T,T,T,T,T,F,F,F,F,F,F] HT_ ?_
            refine pu 29 (some 69) #[T,T,T,T,T,T,T,T,T,T,T,T,T,T,T,T,T,T,T,T,T,T,T,T,T,T,T,T,T,T,F,F,F,F,F] HT_ ?_
            refine ub (i := 30) (N := some 70) (v := undef) (a' := ?_) #[T,T,T,T,T,T,T,T,T,T,T,T,T,T,T,T,T,T,T,T,T,T,T,T,T,T,T,T,T,T,T,F,F,F,F] rfl rfl (uY HT_.out (by kernel_rfl)) (fun _ _ _ h => h) (Or.inr ⟨by rfl, rfl⟩) ?_ ?_
            rotate_left
            ·simp only [uc, uA, uB, uC, uZ, ua]
             rfl
            refine ub (i := 31) (N := some 71) (v := undef) (a' := ?_) #[T,T,T,T,T,T,T,T,T,T,T,T,T,T,T,T,T,T,T,T,T,T,T,T,T,T,T,T,T,T,T,T,F,F,F] rfl rfl (uY HT_.out (by kernel_rfl)) (fun _ _ _ h => h) (Or.inr ⟨by rfl, rfl⟩) ?_ ?_
            rotate_left
            ·simp only [uc, uA, uB, uC, uZ, ua]
             rfl
            refine ub (i := 32) (N := some 72) (v := undef) (a' := ?_) #[T,T,T,T,T,T,T,T,T,T,T,T,T,T,T,T,T,T,T,T,T,T,T,T,T,T,T,T,T,T,T,T,T,F,F] rfl rfl (uY HT_.out (by kernel_rfl)) (fun _ _ _ h => h) (Or.inr ⟨by rfl, rfl⟩) ?_ ?_
            rotate_left
            ·simp only [uc, uA, uB, uC, uZ, ua]
             rfl
            refine ub (i := 33) (N := some 73) (v := undef) (a' := ?_) #[T,T,T,T,T,T,T,T,T,T,T,T,T,T,T,T,T,T,T,T,T,T,T,T,T,T,T,T,T,T,T,T,T,T,F] rfl rfl (uY HT_.out (by kernel_rfl)) (fun _ _ _ h => h) (Or.inr ⟨by rfl, rfl⟩) ?_ ?_
            rotate_left
            ·simp only [uc, uA, uB, uC, uZ, ua]
             rfl
            refine pu 34 (some 74) #[T,T,T,T,T,T,T,T,T,T,T,T,T,T,T,T,T,T,T,T,T,T,T,T,T,T,T,T,T,T,T,T,T,T,T] HT_ ?_
            refine done_ (done_of HT_.out (by kernel_rfl)) ?_
            try go_wp2
            go_ret
            exact ⟨by first | rfl | (simp [errW_none, errW_some] <;> rfl) | (simp [*, errW_none, errW_some] <;> rfl), pb HB⟩
           ·replace c27 := Bool.eq_false_iff.mpr c27
            subst c27
            have H1 : (if ((rd_T53 l0_3 x35_2).f2) < 1 then (some false) else (if ((rd_T53 l0_3 x35_2).f2) > 60 then (some false) else (if ((rd_T53 l0_3 x35_2).f1) < ((rd_T53 l0_3 x35_2).f2) then (some false) else (if ((rd_T53 l0_3 x35_2).f1) > x3_2 then (some false) else (impl_BeltOk.l0 k2 (wrap64 ((wrap64 (((rd_T53 l0_3 x35_2).f1) - ((rd_T53 l0_3 x35_2).f2))) - a0_1)) l0_3 (l0_3.length : Int) (wrap64 (x35_2 + 1)) a0_0 a0_1 a0_2 l0_3))))) = some r := by rw [if_neg (show ¬ (false = true) by decide)] at H; first | done | exact H
            clear H
            have H := H1
            clear H1
            by_cases c35 : ((rd_T53 l0_3 x35_2).f2) < 1
            ·rw [if_pos c35] at H
             have c35b0 : decide (((rd_T53 l0_3 x35_2).f2) < 1) = true := decide_eq_true c35
             clear c35
             obtain rfl := Option.some.inj H
             have p102 : 0 ≤ (x35_2 : Int) := of_decide_eq_true (by first | (with_reducible assumption) | assumption)
             have q102 : x35_2 < (l0_3.length : Int) := of_decide_eq_true (by first | (with_reducible assumption) | assumption)
             obtain ⟨ad102, e102, hx102_0, hx102_1, hx102_2⟩ := at_T53 HR0_3.out x35_2 p102 q102
             cases e102
             replace hx102_0 := (HB.out.cell (World.block_lt_of_cell? w _ hx102_0)).trans hx102_0
             replace hx102_1 := (HB.out.cell (World.block_lt_of_cell? w _ hx102_1)).trans hx102_1
             replace hx102_2 := (HB.out.cell (World.block_lt_of_cell? w _ hx102_2)).trans hx102_2
             replace p102 := eq_true p102
             replace q102 := eq_true q102
             try go_wp2_with (first | ((with_reducible refine gate_dst (N := 5) rfl ?_); (try (refine gate_guard (by rfl) ?_; dsimp only)); refine bx 5 #[.int .i64 0, .int .i64 0, .int .i64 0] 53 ?_; intro gb103 hg w36 hbox hb; have BK103 := uD (hbox); have GW103 := uD ((by rw [hg]; exact (uN (pb HB)) : w.heap.size ≤ gb103)); have GE103 := uD ((by rw [hg]; exact (uN (pb HB)) : w.heap.size ≤ gb103)); replace HB := uD (uO (pb HB) hb); have NB101_103 := uD ((by rw [hg]; exact Nat.ne_of_lt (blk_lt (pk BK101)) : gb101 ≠ gb103)); have NB103_101 := uD ((by rw [hg]; exact Nat.ne_of_gt (blk_lt (pk BK101)) : gb103 ≠ gb101)); replace BK101 := uD (blk_below (pk BK101) hb); clear hb hbox hg; have hnb37 := NB103_101.out; have hnc37 := NB101_103.out; obtain ⟨hcz38_0, hcz38_1, hcz38_2, hfz38_0, hfz38_1, hfz38_2⟩ := cz3 BK103))
             have n0_ : Aside0 ((((w36.setCell ⟨gb103, 0, none⟩ (.int .i64 ((rd_T53 l0_3 x35_2).f0))).setCell ⟨gb103, 1, none⟩ (.int .i64 ((rd_T53 l0_3 x35_2).f1))).setCell ⟨gb103, 2, none⟩ (.int .i64 ((rd_T53 l0_3 x35_2).f2))).heap[gb101]? = some (.cells #[.int .i64 a0_0, .int .i64 a0_1, .bool a0_2, .slice (some ad102) l0_3.length c0_3] 29 (0, 0))) := ⟨by exact ps BK101⟩
             have n1_ : Aside0 ((((w36.setCell ⟨gb103, 0, none⟩ (.int .i64 ((rd_T53 l0_3 x35_2).f0))).setCell ⟨gb103, 1, none⟩ (.int .i64 ((rd_T53 l0_3 x35_2).f1))).setCell ⟨gb103, 2, none⟩ (.int .i64 ((rd_T53 l0_3 x35_2).f2))).heap[gb103]? = some (.cells #[.int .i64 ((rd_T53 l0_3 x35_2).f0), .int .i64 ((rd_T53 l0_3 x35_2).f1), .int .i64 ((rd_T53 l0_3 x35_2).f2)] 53 (0, 0))) := ⟨by (with_reducible repeat first|apply uH|apply uJ|apply uG); refine uP (cs := #[.int .i64 ((rd_T53 l0_3 x35_2).f0), .int .i64 ((rd_T53 l0_3 x35_2).f1), .int .i64 0]) ?_ 2 _ rfl; (with_reducible repeat first|apply uH|apply uJ|apply uG); refine uP (cs := #[.int .i64 ((rd_T53 l0_3 x35_2).f0), .int .i64 0, .int .i64 0]) ?_ 1 _ rfl; (with_reducible repeat first|apply uH|apply uJ|apply uG); refine uP (cs := #[.int .i64 0, .int .i64 0, .int .i64 0]) ?_ 0 _ rfl; (with_reducible repeat first|apply uH|apply uJ|apply uG); exact BK103.out⟩
             have n2_ : Aside0 (Below w.heap.size w (((w36.setCell ⟨gb103, 0, none⟩ (.int .i64 ((rd_T53 l0_3 x35_2).f0))).setCell ⟨gb103, 1, none⟩ (.int .i64 ((rd_T53 l0_3 x35_2).f1))).setCell ⟨gb103, 2, none⟩ (.int .i64 ((rd_T53 l0_3 x35_2).f2)))) := ⟨pb HB⟩
             (try clear BK101)
             (try clear BK103)
             (try clear HB)
             generalize (((w36.setCell ⟨gb103, 0, none⟩ (.int .i64 ((rd_T53 l0_3 x35_2).f0))).setCell ⟨gb103, 1, none⟩ (.int .i64 ((rd_T53 l0_3 x35_2).f1))).setCell ⟨gb103, 2, none⟩ (.int .i64 ((rd_T53 l0_3 x35_2).f2))) = w39 at n0_ n1_ n2_ ⊢
             have BK101 := n0_
             have BK103 := n1_
             have HB := n2_
             clear n0_ n1_ n2_
             replace BK101 := uD (uJ BK101.out)
             replace BK103 := uD (uJ BK103.out)
             replace HB := uD (uK HB.out)
             have q41 : (x35_2 : Int) ≤ ((l0_3.length : Int) : Int) := of_decide_eq_true (by first | (with_reducible assumption) | assumption)
             obtain ⟨i041, hi041, _, hsz41, _⟩ := info_parts info53
             have hroom41 : l0_3.length ≤ c0_3 := HC0_3.out
             have hC41 : Kd.C k53 _ (some ad102) l0_3.length l0_3 := HR0_3.out
             have hcut41 := cut_to (P := Try.prog) 27 53 .i64 Try.underlying27 hi041 (some ad102) l0_3.length c0_3 x35_2 (of_decide_eq_true (by first | (with_reducible assumption) | assumption)) q41 hroom41
             have hr41 := Kd.C_take (m := (x35_2 : Int).toNat) hC41 (by omega)
             have hy41 : y104.length = (x35_2 : Int).toNat := (by rw [Ny104.out, List.length_take]; omega)
             rw [← Ny104.out] at hr41
             rw [← hy41] at hcut41
             have HR107 := uD hr41
             have HC107 := uD (show y104.length ≤ c0_3 from by omega)
             clear hr41 hC41 hroom41 hi041 hsz41
             have KY41 := uD hy41
             clear hy41
             replace q41 := eq_true q41
             refine start_ (n := 35) (S := fun w' => w'.cell? ⟨gb103, 0, none⟩ = some (.int .i64 ((rd_T53 l0_3 x35_2).f0)) ∧ w'.cell? ⟨gb103, 1, none⟩ = some (.int .i64 ((rd_T53 l0_3 x35_2).f1)) ∧ w'.cell? ⟨gb103, 2, none⟩ = some (.int .i64 ((rd_T53 l0_3 x35_2).f2)) ∧ w'.cell? ⟨gb101, 0, none⟩ = some (.int .i64 a0_0) ∧ w'.cell? ⟨gb101, 1, none⟩ = some (.int .i64 a0_1) ∧ w'.cell? ⟨gb101, 2, none⟩ = some (.bool a0_2) ∧ w'.cell? ⟨gb101, 3, none⟩ = some (.slice (some ad102) l0_3.length c0_3)) (ds := []) #[F,F,F,F,F,F,F,F,F,F,F,F,F,F,F,F,F,F,F,F,F,F,F,F,F,F,F,F,F,F,F,F,F,F,F] (by kernel_rfl) rfl rfl ⟨(uF BK103.out 0).trans rfl, (uF BK103.out 1).trans rfl, (uF BK103.out 2).trans rfl, (uF BK101.out 0).trans rfl, (uF BK101.out 1).trans rfl, (uF BK101.out 2).trans rfl, (uF BK101.out 3).trans rfl⟩ (fun hHeld => ?_); refine with_tabW impl_BeltOk.tab7 impl_BeltOk.bits7 (fun HT_ HW_ => ?_)
             generalize w39.drew = w40 at BK101 BK103 HB HR107 hHeld ⊢
             refine pu 0 (some 40) #[T,F,F,F,F,F,F,F,F,F,F,F,F,F,F,F,F,F,F,F,F,F,F,F,F,F,F,F,F,F,F,F,F,F,F] HT_ ?_
             refine tk 1 (some 41) #[T,T,F,F,F,F,F,F,F,F,F,F,F,F,F,F,F,F,F,F,F,F,F,F,F,F,F,F,F,F,F,F,F,F,F] HT_ HW_ hHeld ?_
             refine pu 2 (some 42) #[T,T,T,F,F,F,F,F,F,F,F,F,F,F,F,F,F,F,F,F,F,F,F,F,F,F,F,F,F,F,F,F,F,F,F] HT_ ?_
             refine pu 3 (some 43) #[T,T,T,T,F,F,F,F,F,F,F,F,F,F,F,F,F,F,F,F,F,F,F,F,F,F,F,F,F,F,F,F,F,F,F] HT_ ?_
             refine pu 4 (some 44) #[T,T,T,T,T,F,F,F,F,F,F,F,F,F,F,F,F,F,F,F,F,F,F,F,F,F,F,F,F,F,F,F,F,F,F] HT_ ?_
             refine pu 6 (some 46) #[T,T,T,T,T,F,T,F,F,F,F,F,F,F,F,F,F,F,F,F,F,F,F,F,F,F,F,F,F,F,F,F,F,F,F] HT_ ?_
             refine pu 8 (some 48) #[T,T,T,T,T,F,T,F,T,F,F,F,F,F,F,F,F,F,F,F,F,F,F,F,F,F,F,F,F,F,F,F,F,F,F] HT_ ?_
             refine tk 5 (some 45) #[T,T,T,T,T,T,T,F,T,F,F,F,F,F,F,F,F,F,F,F,F,F,F,F,F,F,F,F,F,F,F,F,F,F,F] HT_ HW_ hHeld ?_
             refine pu 7 (some 47) #[T,T,T,T,T,T,T,T,T,F,F,F,F,F,F,F,F,F,F,F,F,F,F,F,F,F,F,F,F,F,F,F,F,F,F] HT_ ?_
             refine tk 9 (some 49) #[T,T,T,T,T,T,T,T,T,T,F,F,F,F,F,F,F,F,F,F,F,F,F,F,F,F,F,F,F,F,F,F,F,F,F] HT_ HW_ hHeld ?_
             refine one_ (i := 10) (N := some 50) #[T,T,T,T,T,T,T,T,T,T,T,F,F,F,F,F,F,F,F,F,F,F,F,F,F,F,F,F,F,F,F,F,F,F,F] rfl rfl (one_of HT_.out (by kernel_rfl)) (by decide) (fun K hK => ?_)
             refine goes_ Try.func50 (by kernel_rfl) rfl #[.slice (some ad102) y104.length c0_3, .int .i64 ((rd_T53 l0_3 x35_2).f0)] (by rfl) rfl rfl (by (try simp only [List.map_toArray, List.map_cons, List.map_nil]); first | done | rfl | (simp only [List.length_drop, List.length_take]; rfl)) ?_
             with_reducible refine (impl_isOn.calls _ _ y104 ((rd_T53 l0_3 x35_2).f0) false _ ?side1 ?side2 A26.out).mono ?_
             (case side1 => exact pc (Kd.C_below HR107.out HB.out))
             (case side2 => exact HC107.out)
             rintro e w42 ⟨rfl, hb⟩
             refine ⟨_, rfl, ?_⟩
             replace BK101 := uD (blk_below (pk BK101) hb)
             replace BK103 := uD (blk_below (pk BK103) hb)
             replace HB := uD (uO (pb HB) hb)
             (try clear hb)
             (try clear hb2)
             (try clear hk)
             (try clear hi)
             refine hK.out _ _ ⟨(uF BK103.out 0).trans rfl, (uF BK103.out 1).trans rfl, (uF BK103.out 2).trans rfl, (uF BK101.out 0).trans rfl, (uF BK101.out 1).trans rfl, (uF BK101.out 2).trans rfl, (uF BK101.out 3).trans rfl⟩ (fun hHeld => ?_)
             clear hK K
             refine norm_ (a' := ?_) ?_ ?_
             rotate_left
             ·show uc _ (some 50) _ = _
              simp only [uc, uA, uB, uC, uZ, ua]
              rfl
             refine pu 11 (some 51) #[T,T,T,T,T,T,T,T,T,T,T,T,F,F,F,F,F,F,F,F,F,F,F,F,F,F,F,F,F,F,F,F,F,F,F] HT_ ?_
             refine pu 12 (some 52) #[T,T,T,T,T,T,T,T,T,T,T,T,T,F,F,F,F,F,F,F,F,F,F,F,F,F,F,F,F,F,F,F,F,F,F] HT_ ?_
             refine pu 13 (some 53) #[T,T,T,T,T,T,T,T,T,T,T,T,T,T,F,F,F,F,F,F,F,F,F,F,F,F,F,F,F,F,F,F,F,F,F] HT_ ?_
             refine tk 14 (some 54) #[T,T,T,T,T,T,T,T,T,T,T,T,T,T,T,F,F,F,F,F,F,F,F,F,F,F,F,F,F,F,F,F,F,F,F] HT_ HW_ hHeld ?_
             refine pu 15 (some 55) #[T,T,T,T,T,T,T,T,T,T,T,T,T,T,T,T,F,F,F,F,F,F,F,F,F,F,F,F,F,F,F,F,F,F,F] HT_ ?_
             refine pu 16 (some 56) #[T,T,T,T,T,T,T,T,T,T,T,T,T,T,T,T,T,F,F,F,F,F,F,F,F,F,F,F,F,F,F,F,F,F,F] HT_ ?_
             refine pu 17 (some 57) #[T,T,T,T,T,T,T,T,T,T,T,T,T,T,T,T,T,T,F,F,F,F,F,F,F,F,F,F,F,F,F,F,F,F,F] HT_ ?_
             refine ub (i := 18) (N := some 58) (v := undef) (a' := ?_) #[T,T,T,T,T,T,T,T,T,T,T,T,T,T,T,T,T,T,T,F,F,F,F,F,F,F,F,F,F,F,F,F,F,F,F] rfl rfl (uY HT_.out (by kernel_rfl)) (fun _ _ _ h => h) (Or.inr ⟨by rfl, rfl⟩) ?_ ?_
             rotate_left
             ·simp only [uc, uA, uB, uC, uZ, ua]
              rfl
             refine ub (i := 19) (N := some 59) (v := undef) (a' := ?_) #[T,T,T,T,T,T,T,T,T,T,T,T,T,T,T,T,T,T,T,T,F,F,F,F,F,F,F,F,F,F,F,F,F,F,F] rfl rfl (uY HT_.out (by kernel_rfl)) (fun _ _ _ h => h) (Or.inr ⟨by rfl, rfl⟩) ?_ ?_
             rotate_left
             ·simp only [uc, uA, uB, uC, uZ, ua]
              rfl
             refine ub (i := 20) (N := some 60) (v := undef) (a' := ?_) #[T,T,T,T,T,T,T,T,T,T,T,T,T,T,T,T,T,T,T,T,T,F,F,F,F,F,F,F,F,F,F,F,F,F,F] rfl rfl (uY HT_.out (by kernel_rfl)) (fun _ _ _ h => h) (Or.inr ⟨by rfl, rfl⟩) ?_ ?_
             rotate_left
             ·simp only [uc, uA, uB, uC, uZ, ua]
              rfl
             refine pu 21 (some 61) #[T,T,T,T,T,T,T,T,T,T,T,T,T,T,T,T,T,T,T,T,T,T,F,F,F,F,F,F,F,F,F,F,F,F,F] HT_ ?_
             refine pu 22 (some 62) #[T,T,T,T,T,T,T,T,T,T,T,T,T,T,T,T,T,T,T,T,T,T,T,F,F,F,F,F,F,F,F,F,F,F,F] HT_ ?_
             refine ub (i := 23) (N := some 63) (v := undef) (a' := ?_) #[T,T,T,T,T,T,T,T,T,T,T,T,T,T,T,T,T,T,T,T,T,T,T,T,F,F,F,F,F,F,F,F,F,F,F] rfl rfl (uY HT_.out (by kernel_rfl)) (fun _ _ _ h => h) (Or.inr ⟨by rfl, rfl⟩) ?_ ?_
             rotate_left
             ·simp only [uc, uA, uB, uC, uZ, ua]
              rfl
             refine ub (i := 24) (N := some 64) (v := undef) (a' := ?_) #[T,T,T,T,T,T,T,T,T,T,T,T,T,T,T,T,T,T,T,T,T,T,T,T,T,F,F,F,F,F,F,F,F,F,F] rfl rfl (uY HT_.out (by kernel_rfl)) (fun _ _ _ h => h) (Or.inr ⟨by rfl, rfl⟩) ?_ ?_
             rotate_left
             ·simp only [uc, uA, uB, uC, uZ, ua]
              rfl
             refine ub (i := 25) (N := some 65) (v := undef) (a' := ?_) #[T,T,T,T,T,T,T,T,T,T,T,T,T,T,T,T,T,T,T,T,T,T,T,T,T,T,F,F,F,F,F,F,F,F,F] rfl rfl (uY HT_.out (by kernel_rfl)) (fun _ _ _ h => h) (Or.inr ⟨by rfl, rfl⟩) ?_ ?_
             rotate_left
             ·simp only [uc, uA, uB, uC, uZ, ua]
              rfl
             refine ub (i := 26) (N := some 66) (v := undef) (a' := ?_) #[T,T,T,T,T,T,T,T,T,T,T,T,T,T,T,T,T,T,T,T,T,T,T,T,T,T,T,F,F,F,F,F,F,F,F] rfl rfl (uY HT_.out (by kernel_rfl)) (fun _ _ _ h => h) (Or.inr ⟨by rfl, rfl⟩) ?_ ?_
             rotate_left
             ·simp only [uc, uA, uB, uC, uZ, ua]
              rfl
             refine ub (i := 27) (N := some 67) (v := undef) (a' := ?_) #[T,T,T,T,T,T,T,T,T,T,T,T,T,T,T,T,T,T,T,T,T,T,T,T,T,T,T,T,F,F,F,F,F,F,F] rfl rfl (uY HT_.out (by kernel_rfl)) (fun _ _ _ h => h) (Or.inr ⟨by rfl, rfl⟩) ?_ ?_
             rotate_left
             ·simp only [uc, uA, uB, uC, uZ, ua]
              rfl
             refine pu 28 (some 68) #[T,T,T,T,T,T,T,T,T,T,T,T,T,T,T,T,T,T,T,T,T,T,T,T,T,T,T,T,T,F,F,F,F,F,F] HT_ ?_
             refine pu 29 (some 69) #[T,T,T,T,T,T,T,T,T,T,T,T,T,T,T,T,T,T,T,T,T,T,T,T,T,T,T,T,T,T,F,F,F,F,F] HT_ ?_
             refine ub (i := 30) (N := some 70) (v := undef) (a' := ?_) #[T,T,T,T,T,T,T,T,T,T,T,T,T,T,T,T,T,T,T,T,T,T,T,T,T,T,T,T,T,T,T,F,F,F,F] rfl rfl (uY HT_.out (by kernel_rfl)) (fun _ _ _ h => h) (Or.inr ⟨by rfl, rfl⟩) ?_ ?_
             rotate_left
             ·simp only [uc, uA, uB, uC, uZ, ua]
              rfl
             refine ub (i := 31) (N := some 71) (v := undef) (a' := ?_) #[T,T,T,T,T,T,T,T,T,T,T,T,T,T,T,T,T,T,T,T,T,T,T,T,T,T,T,T,T,T,T,T,F,F,F] rfl rfl (uY HT_.out (by kernel_rfl)) (fun _ _ _ h => h) (Or.inr ⟨by rfl, rfl⟩) ?_ ?_
             rotate_left
             ·simp only [uc, uA, uB, uC, uZ, ua]
              rfl
             refine ub (i := 32) (N := some 72) (v := undef) (a' := ?_) #[T,T,T,T,T,T,T,T,T,T,T,T,T,T,T,T,T,T,T,T,T,T,T,T,T,T,T,T,T,T,T,T,T,F,F] rfl rfl (uY HT_.out (by kernel_rfl)) (fun _ _ _ h => h) (Or.inr ⟨by rfl, rfl⟩) ?_ ?_
             rotate_left
             ·simp only [uc, uA, uB, uC, uZ, ua]
              rfl
             refine ub (i := 33) (N := some 73) (v := undef) (a' := ?_) #[T,T,T,T,T,T,T,T,T,T,T,T,T,T,T,T,T,T,T,T,T,T,T,T,T,T,T,T,T,T,T,T,T,T,F] rfl rfl (uY HT_.out (by kernel_rfl)) (fun _ _ _ h => h) (Or.inr ⟨by rfl, rfl⟩) ?_ ?_
             rotate_left
             ·simp only [uc, uA, uB, uC, uZ, ua]
              rfl
             refine pu 34 (some 74) #[T,T,T,T,T,T,T,T,T,T,T,T,T,T,T,T,T,T,T,T,T,T,T,T,T,T,T,T,T,T,T,T,T,T,T] HT_ ?_
             refine done_ (done_of HT_.out (by kernel_rfl)) ?_
             try go_wp2
             go_ret
             exact ⟨by first | rfl | (simp [errW_none, errW_some] <;> rfl) | (simp [*, errW_none, errW_some] <;> rfl), pb HB⟩
            ·rw [if_neg c35] at H
             have c35b0 : decide (((rd_T53 l0_3 x35_2).f2) < 1) = false := decide_eq_false c35
             clear c35
             by_cases c43 : ((rd_T53 l0_3 x35_2).f2) > 60
             ·rw [if_pos c43] at H
              have c43b0 : decide (60 < ((rd_T53 l0_3 x35_2).f2)) = true := decide_eq_true c43
              clear c43
              obtain rfl := Option.some.inj H
              have p102 : 0 ≤ (x35_2 : Int) := of_decide_eq_true (by first | (with_reducible assumption) | assumption)
              have q102 : x35_2 < (l0_3.length : Int) := of_decide_eq_true (by first | (with_reducible assumption) | assumption)
              obtain ⟨ad102, e102, hx102_0, hx102_1, hx102_2⟩ := at_T53 HR0_3.out x35_2 p102 q102
              cases e102
              replace hx102_0 := (HB.out.cell (World.block_lt_of_cell? w _ hx102_0)).trans hx102_0
              replace hx102_1 := (HB.out.cell (World.block_lt_of_cell? w _ hx102_1)).trans hx102_1
              replace hx102_2 := (HB.out.cell (World.block_lt_of_cell? w _ hx102_2)).trans hx102_2
              replace p102 := eq_true p102
              replace q102 := eq_true q102
              try go_wp2_with (first | ((with_reducible refine gate_dst (N := 5) rfl ?_); (try (refine gate_guard (by rfl) ?_; dsimp only)); refine bx 5 #[.int .i64 0, .int .i64 0, .int .i64 0] 53 ?_; intro gb103 hg w44 hbox hb; have BK103 := uD (hbox); have GW103 := uD ((by rw [hg]; exact (uN (pb HB)) : w.heap.size ≤ gb103)); have GE103 := uD ((by rw [hg]; exact (uN (pb HB)) : w.heap.size ≤ gb103)); replace HB := uD (uO (pb HB) hb); have NB101_103 := uD ((by rw [hg]; exact Nat.ne_of_lt (blk_lt (pk BK101)) : gb101 ≠ gb103)); have NB103_101 := uD ((by rw [hg]; exact Nat.ne_of_gt (blk_lt (pk BK101)) : gb103 ≠ gb101)); replace BK101 := uD (blk_below (pk BK101) hb); clear hb hbox hg; have hnb45 := NB103_101.out; have hnc45 := NB101_103.out; obtain ⟨hcz46_0, hcz46_1, hcz46_2, hfz46_0, hfz46_1, hfz46_2⟩ := cz3 BK103))
              have n0_ : Aside0 ((((w44.setCell ⟨gb103, 0, none⟩ (.int .i64 ((rd_T53 l0_3 x35_2).f0))).setCell ⟨gb103, 1, none⟩ (.int .i64 ((rd_T53 l0_3 x35_2).f1))).setCell ⟨gb103, 2, none⟩ (.int .i64 ((rd_T53 l0_3 x35_2).f2))).heap[gb101]? = some (.cells #[.int .i64 a0_0, .int .i64 a0_1, .bool a0_2, .slice (some ad102) l0_3.length c0_3] 29 (0, 0))) := ⟨by exact ps BK101⟩
              have n1_ : Aside0 ((((w44.setCell ⟨gb103, 0, none⟩ (.int .i64 ((rd_T53 l0_3 x35_2).f0))).setCell ⟨gb103, 1, none⟩ (.int .i64 ((rd_T53 l0_3 x35_2).f1))).setCell ⟨gb103, 2, none⟩ (.int .i64 ((rd_T53 l0_3 x35_2).f2))).heap[gb103]? = some (.cells #[.int .i64 ((rd_T53 l0_3 x35_2).f0), .int .i64 ((rd_T53 l0_3 x35_2).f1), .int .i64 ((rd_T53 l0_3 x35_2).f2)] 53 (0, 0))) := ⟨by (with_reducible repeat first|apply uH|apply uJ|apply uG); refine uP (cs := #[.int .i64 ((rd_T53 l0_3 x35_2).f0), .int .i64 ((rd_T53 l0_3 x35_2).f1), .int .i64 0]) ?_ 2 _ rfl; (with_reducible repeat first|apply uH|apply uJ|apply uG); refine uP (cs := #[.int .i64 ((rd_T53 l0_3 x35_2).f0), .int .i64 0, .int .i64 0]) ?_ 1 _ rfl; (with_reducible repeat first|apply uH|apply uJ|apply uG); refine uP (cs := #[.int .i64 0, .int .i64 0, .int .i64 0]) ?_ 0 _ rfl; (with_reducible repeat first|apply uH|apply uJ|apply uG); exact BK103.out⟩
              have n2_ : Aside0 (Below w.heap.size w (((w44.setCell ⟨gb103, 0, none⟩ (.int .i64 ((rd_T53 l0_3 x35_2).f0))).setCell ⟨gb103, 1, none⟩ (.int .i64 ((rd_T53 l0_3 x35_2).f1))).setCell ⟨gb103, 2, none⟩ (.int .i64 ((rd_T53 l0_3 x35_2).f2)))) := ⟨pb HB⟩
              (try clear BK101)
              (try clear BK103)
              (try clear HB)
              generalize (((w44.setCell ⟨gb103, 0, none⟩ (.int .i64 ((rd_T53 l0_3 x35_2).f0))).setCell ⟨gb103, 1, none⟩ (.int .i64 ((rd_T53 l0_3 x35_2).f1))).setCell ⟨gb103, 2, none⟩ (.int .i64 ((rd_T53 l0_3 x35_2).f2))) = w47 at n0_ n1_ n2_ ⊢
              have BK101 := n0_
              have BK103 := n1_
              have HB := n2_
              clear n0_ n1_ n2_
              replace BK101 := uD (uJ BK101.out)
              replace BK103 := uD (uJ BK103.out)
              replace HB := uD (uK HB.out)
              have q49 : (x35_2 : Int) ≤ ((l0_3.length : Int) : Int) := of_decide_eq_true (by first | (with_reducible assumption) | assumption)
              obtain ⟨i049, hi049, _, hsz49, _⟩ := info_parts info53
              have hroom49 : l0_3.length ≤ c0_3 := HC0_3.out
              have hC49 : Kd.C k53 _ (some ad102) l0_3.length l0_3 := HR0_3.out
              have hcut49 := cut_to (P := Try.prog) 27 53 .i64 Try.underlying27 hi049 (some ad102) l0_3.length c0_3 x35_2 (of_decide_eq_true (by first | (with_reducible assumption) | assumption)) q49 hroom49
              have hr49 := Kd.C_take (m := (x35_2 : Int).toNat) hC49 (by omega)
              have hy49 : y104.length = (x35_2 : Int).toNat := (by rw [Ny104.out, List.length_take]; omega)
              rw [← Ny104.out] at hr49
              rw [← hy49] at hcut49
              have HR107 := uD hr49
              have HC107 := uD (show y104.length ≤ c0_3 from by omega)
              clear hr49 hC49 hroom49 hi049 hsz49
              have KY49 := uD hy49
              clear hy49
              replace q49 := eq_true q49
              refine start_ (n := 35) (S := fun w' => w'.cell? ⟨gb103, 0, none⟩ = some (.int .i64 ((rd_T53 l0_3 x35_2).f0)) ∧ w'.cell? ⟨gb103, 1, none⟩ = some (.int .i64 ((rd_T53 l0_3 x35_2).f1)) ∧ w'.cell? ⟨gb103, 2, none⟩ = some (.int .i64 ((rd_T53 l0_3 x35_2).f2)) ∧ w'.cell? ⟨gb101, 0, none⟩ = some (.int .i64 a0_0) ∧ w'.cell? ⟨gb101, 1, none⟩ = some (.int .i64 a0_1) ∧ w'.cell? ⟨gb101, 2, none⟩ = some (.bool a0_2) ∧ w'.cell? ⟨gb101, 3, none⟩ = some (.slice (some ad102) l0_3.length c0_3)) (ds := []) #[F,F,F,F,F,F,F,F,F,F,F,F,F,F,F,F,F,F,F,F,F,F,F,F,F,F,F,F,F,F,F,F,F,F,F] (by kernel_rfl) rfl rfl ⟨(uF BK103.out 0).trans rfl, (uF BK103.out 1).trans rfl, (uF BK103.out 2).trans rfl, (uF BK101.out 0).trans rfl, (uF BK101.out 1).trans rfl, (uF BK101.out 2).trans rfl, (uF BK101.out 3).trans rfl⟩ (fun hHeld => ?_); refine with_tabW impl_BeltOk.tab7 impl_BeltOk.bits7 (fun HT_ HW_ => ?_)
              generalize w47.drew = w48 at BK101 BK103 HB HR107 hHeld ⊢
              refine pu 0 (some 40) #[T,F,F,F,F,F,F,F,F,F,F,F,F,F,F,F,F,F,F,F,F,F,F,F,F,F,F,F,F,F,F,F,F,F,F] HT_ ?_
              refine tk 1 (some 41) #[T,T,F,F,F,F,F,F,F,F,F,F,F,F,F,F,F,F,F,F,F,F,F,F,F,F,F,F,F,F,F,F,F,F,F] HT_ HW_ hHeld ?_
              refine pu 2 (some 42) #[T,T,T,F,F,F,F,F,F,F,F,F,F,F,F,F,F,F,F,F,F,F,F,F,F,F,F,F,F,F,F,F,F,F,F] HT_ ?_
              refine pu 3 (some 43) #[T,T,T,T,F,F,F,F,F,F,F,F,F,F,F,F,F,F,F,F,F,F,F,F,F,F,F,F,F,F,F,F,F,F,F] HT_ ?_
              refine pu 4 (some 44) #[T,T,T,T,T,F,F,F,F,F,F,F,F,F,F,F,F,F,F,F,F,F,F,F,F,F,F,F,F,F,F,F,F,F,F] HT_ ?_
              refine pu 6 (some 46) #[T,T,T,T,T,F,T,F,F,F,F,F,F,F,F,F,F,F,F,F,F,F,F,F,F,F,F,F,F,F,F,F,F,F,F] HT_ ?_
              refine pu 8 (some 48) #[T,T,T,T,T,F,T,F,T,F,F,F,F,F,F,F,F,F,F,F,F,F,F,F,F,F,F,F,F,F,F,F,F,F,F] HT_ ?_
              refine tk 5 (some 45) #[T,T,T,T,T,T,T,F,T,F,F,F,F,F,F,F,F,F,F,F,F,F,F,F,F,F,F,F,F,F,F,F,F,F,F] HT_ HW_ hHeld ?_
              refine pu 7 (some 47) #[T,T,T,T,T,T,T,T,T,F,F,F,F,F,F,F,F,F,F,F,F,F,F,F,F,F,F,F,F,F,F,F,F,F,F] HT_ ?_
              refine tk 9 (some 49) #[T,T,T,T,T,T,T,T,T,T,F,F,F,F,F,F,F,F,F,F,F,F,F,F,F,F,F,F,F,F,F,F,F,F,F] HT_ HW_ hHeld ?_
              refine one_ (i := 10) (N := some 50) #[T,T,T,T,T,T,T,T,T,T,T,F,F,F,F,F,F,F,F,F,F,F,F,F,F,F,F,F,F,F,F,F,F,F,F] rfl rfl (one_of HT_.out (by kernel_rfl)) (by decide) (fun K hK => ?_)
              refine goes_ Try.func50 (by kernel_rfl) rfl #[.slice (some ad102) y104.length c0_3, .int .i64 ((rd_T53 l0_3 x35_2).f0)] (by rfl) rfl rfl (by (try simp only [List.map_toArray, List.map_cons, List.map_nil]); first | done | rfl | (simp only [List.length_drop, List.length_take]; rfl)) ?_
              with_reducible refine (impl_isOn.calls _ _ y104 ((rd_T53 l0_3 x35_2).f0) false _ ?side1 ?side2 A26.out).mono ?_
              (case side1 => exact pc (Kd.C_below HR107.out HB.out))
              (case side2 => exact HC107.out)
              rintro e w50 ⟨rfl, hb⟩
              refine ⟨_, rfl, ?_⟩
              replace BK101 := uD (blk_below (pk BK101) hb)
              replace BK103 := uD (blk_below (pk BK103) hb)
              replace HB := uD (uO (pb HB) hb)
              (try clear hb)
              (try clear hb2)
              (try clear hk)
              (try clear hi)
              refine hK.out _ _ ⟨(uF BK103.out 0).trans rfl, (uF BK103.out 1).trans rfl, (uF BK103.out 2).trans rfl, (uF BK101.out 0).trans rfl, (uF BK101.out 1).trans rfl, (uF BK101.out 2).trans rfl, (uF BK101.out 3).trans rfl⟩ (fun hHeld => ?_)
              clear hK K
              refine norm_ (a' := ?_) ?_ ?_
              rotate_left
              ·show uc _ (some 50) _ = _
               simp only [uc, uA, uB, uC, uZ, ua]
               rfl
              refine pu 11 (some 51) #[T,T,T,T,T,T,T,T,T,T,T,T,F,F,F,F,F,F,F,F,F,F,F,F,F,F,F,F,F,F,F,F,F,F,F] HT_ ?_
              refine pu 12 (some 52) #[T,T,T,T,T,T,T,T,T,T,T,T,T,F,F,F,F,F,F,F,F,F,F,F,F,F,F,F,F,F,F,F,F,F,F] HT_ ?_
              refine pu 13 (some 53) #[T,T,T,T,T,T,T,T,T,T,T,T,T,T,F,F,F,F,F,F,F,F,F,F,F,F,F,F,F,F,F,F,F,F,F] HT_ ?_
              refine tk 14 (some 54) #[T,T,T,T,T,T,T,T,T,T,T,T,T,T,T,F,F,F,F,F,F,F,F,F,F,F,F,F,F,F,F,F,F,F,F] HT_ HW_ hHeld ?_
              refine pu 15 (some 55) #[T,T,T,T,T,T,T,T,T,T,T,T,T,T,T,T,F,F,F,F,F,F,F,F,F,F,F,F,F,F,F,F,F,F,F] HT_ ?_
              refine pu 16 (some 56) #[T,T,T,T,T,T,T,T,T,T,T,T,T,T,T,T,T,F,F,F,F,F,F,F,F,F,F,F,F,F,F,F,F,F,F] HT_ ?_
              refine pu 17 (some 57) #[T,T,T,T,T,T,T,T,T,T,T,T,T,T,T,T,T,T,F,F,F,F,F,F,F,F,F,F,F,F,F,F,F,F,F] HT_ ?_
              refine pu 18 (some 58) #[T,T,T,T,T,T,T,T,T,T,T,T,T,T,T,T,T,T,T,F,F,F,F,F,F,F,F,F,F,F,F,F,F,F,F] HT_ ?_
              refine tk 19 (some 59) #[T,T,T,T,T,T,T,T,T,T,T,T,T,T,T,T,T,T,T,T,F,F,F,F,F,F,F,F,F,F,F,F,F,F,F] HT_ HW_ hHeld ?_
              refine pu 20 (some 60) #[T,T,T,T,T,T,T,T,T,T,T,T,T,T,T,T,T,T,T,T,T,F,F,F,F,F,F,F,F,F,F,F,F,F,F] HT_ ?_
              refine pu 21 (some 61) #[T,T,T,T,T,T,T,T,T,T,T,T,T,T,T,T,T,T,T,T,T,T,F,F,F,F,F,F,F,F,F,F,F,F,F] HT_ ?_
              refine pu 22 (some 62) #[T,T,T,T,T,T,T,T,T,T,T,T,T,T,T,T,T,T,T,T,T,T,T,F,F,F,F,F,F,F,F,F,F,F,F] HT_ ?_
              refine ub (i := 23) (N := some 63) (v := undef) (a' := ?_) #[T,T,T,T,T,T,T,T,T,T,T,T,T,T,T,T,T,T,T,T,T,T,T,T,F,F,F,F,F,F,F,F,F,F,F] rfl rfl (uY HT_.out (by kernel_rfl)) (fun _ _ _ h => h) (Or.inr ⟨by rfl, rfl⟩) ?_ ?_
              rotate_left
              ·simp only [uc, uA, uB, uC, uZ, ua]
               rfl
              refine ub (i := 24) (N := some 64) (v := undef) (a' := ?_) #[T,T,T,T,T,T,T,T,T,T,T,T,T,T,T,T,T,T,T,T,T,T,T,T,T,F,F,F,F,F,F,F,F,F,F] rfl rfl (uY HT_.out (by kernel_rfl)) (fun _ _ _ h => h) (Or.inr ⟨by rfl, rfl⟩) ?_ ?_
              rotate_left
              ·simp only [uc, uA, uB, uC, uZ, ua]
               rfl
              refine ub (i := 25) (N := some 65) (v := undef) (a' := ?_) #[T,T,T,T,T,T,T,T,T,T,T,T,T,T,T,T,T,T,T,T,T,T,T,T,T,T,F,F,F,F,F,F,F,F,F] rfl rfl (uY HT_.out (by kernel_rfl)) (fun _ _ _ h => h) (Or.inr ⟨by rfl, rfl⟩) ?_ ?_
              rotate_left
              ·simp only [uc, uA, uB, uC, uZ, ua]
               rfl
              refine ub (i := 26) (N := some 66) (v := undef) (a' := ?_) #[T,T,T,T,T,T,T,T,T,T,T,T,T,T,T,T,T,T,T,T,T,T,T,T,T,T,T,F,F,F,F,F,F,F,F] rfl rfl (uY HT_.out (by kernel_rfl)) (fun _ _ _ h => h) (Or.inr ⟨by rfl, rfl⟩) ?_ ?_
              rotate_left
              ·simp only [uc, uA, uB, uC, uZ, ua]
               rfl
              refine ub (i := 27) (N := some 67) (v := undef) (a' := ?_) #[T,T,T,T,T,T,T,T,T,T,T,T,T,T,T,T,T,T,T,T,T,T,T,T,T,T,T,T,F,F,F,F,F,F,F] rfl rfl (uY HT_.out (by kernel_rfl)) (fun _ _ _ h => h) (Or.inr ⟨by rfl, rfl⟩) ?_ ?_
              rotate_left
              ·simp only [uc, uA, uB, uC, uZ, ua]
               rfl
              refine pu 28 (some 68) #[T,T,T,T,T,T,T,T,T,T,T,T,T,T,T,T,T,T,T,T,T,T,T,T,T,T,T,T,T,F,F,F,F,F,F] HT_ ?_
              refine pu 29 (some 69) #[T,T,T,T,T,T,T,T,T,T,T,T,T,T,T,T,T,T,T,T,T,T,T,T,T,T,T,T,T,T,F,F,F,F,F] HT_ ?_
              refine ub (i := 30) (N := some 70) (v := undef) (a' := ?_) #[T,T,T,T,T,T,T,T,T,T,T,T,T,T,T,T,T,T,T,T,T,T,T,T,T,T,T,T,T,T,T,F,F,F,F] rfl rfl (uY HT_.out (by kernel_rfl)) (fun _ _ _ h => h) (Or.inr ⟨by rfl, rfl⟩) ?_ ?_
              rotate_left
              ·simp only [uc, uA, uB, uC, uZ, ua]
               rfl
              refine ub (i := 31) (N := some 71) (v := undef) (a' := ?_) #[T,T,T,T,T,T,T,T,T,T,T,T,T,T,T,T,T,T,T,T,T,T,T,T,T,T,T,T,T,T,T,T,F,F,F] rfl rfl (uY HT_.out (by kernel_rfl)) (fun _ _ _ h => h) (Or.inr ⟨by rfl, rfl⟩) ?_ ?_
              rotate_left
              ·simp only [uc, uA, uB, uC, uZ, ua]
               rfl
              refine ub (i := 32) (N := some 72) (v := undef) (a' := ?_) #[T,T,T,T,T,T,T,T,T,T,T,T,T,T,T,T,T,T,T,T,T,T,T,T,T,T,T,T,T,T,T,T,T,F,F] rfl rfl (uY HT_.out (by kernel_rfl)) (fun _ _ _ h => h) (Or.inr ⟨by rfl, rfl⟩) ?_ ?_
              rotate_left
              ·simp only [uc, uA, uB, uC, uZ, ua]
               rfl
              refine ub (i := 33) (N := some 73) (v := undef) (a' := ?_) #[T,T,T,T,T,T,T,T,T,T,T,T,T,T,T,T,T,T,T,T,T,T,T,T,T,T,T,T,T,T,T,T,T,T,F] rfl rfl (uY HT_.out (by kernel_rfl)) (fun _ _ _ h => h) (Or.inr ⟨by rfl, rfl⟩) ?_ ?_
              rotate_left
              ·simp only [uc, uA, uB, uC, uZ, ua]
               rfl
              refine pu 34 (some 74) #[T,T,T,T,T,T,T,T,T,T,T,T,T,T,T,T,T,T,T,T,T,T,T,T,T,T,T,T,T,T,T,T,T,T,T] HT_ ?_
              refine done_ (done_of HT_.out (by kernel_rfl)) ?_
              try go_wp2
              go_ret
              exact ⟨by first | rfl | (simp [errW_none, errW_some] <;> rfl) | (simp [*, errW_none, errW_some] <;> rfl), pb HB⟩
             ·rw [if_neg c43] at H
              have c43b0 : decide (60 < ((rd_T53 l0_3 x35_2).f2)) = false := decide_eq_false c43
              clear c43
              by_cases c51 : ((rd_T53 l0_3 x35_2).f1) < ((rd_T53 l0_3 x35_2).f2)
              ·rw [if_pos c51] at H
               have c51b0 : decide (((rd_T53 l0_3 x35_2).f1) < ((rd_T53 l0_3 x35_2).f2)) = true := decide_eq_true c51
               clear c51
               obtain rfl := Option.some.inj H
               have p102 : 0 ≤ (x35_2 : Int) := of_decide_eq_true (by first | (with_reducible assumption) | assumption)
               have q102 : x35_2 < (l0_3.length : Int) := of_decide_eq_true (by first | (with_reducible assumption) | assumption)
               obtain ⟨ad102, e102, hx102_0, hx102_1, hx102_2⟩ := at_T53 HR0_3.out x35_2 p102 q102
               cases e102
               replace hx102_0 := (HB.out.cell (World.block_lt_of_cell? w _ hx102_0)).trans hx102_0
               replace hx102_1 := (HB.out.cell (World.block_lt_of_cell? w _ hx102_1)).trans hx102_1
               replace hx102_2 := (HB.out.cell (World.block_lt_of_cell? w _ hx102_2)).trans hx102_2
               replace p102 := eq_true p102
               replace q102 := eq_true q102
               try go_wp2_with (first | ((with_reducible refine gate_dst (N := 5) rfl ?_); (try (refine gate_guard (by rfl) ?_; dsimp only)); refine bx 5 #[.int .i64 0, .int .i64 0, .int .i64 0] 53 ?_; intro gb103 hg w52 hbox hb; have BK103 := uD (hbox); have GW103 := uD ((by rw [hg]; exact (uN (pb HB)) : w.heap.size ≤ gb103)); have GE103 := uD ((by rw [hg]; exact (uN (pb HB)) : w.heap.size ≤ gb103)); replace HB := uD (uO (pb HB) hb); have NB101_103 := uD ((by rw [hg]; exact Nat.ne_of_lt (blk_lt (pk BK101)) : gb101 ≠ gb103)); have NB103_101 := uD ((by rw [hg]; exact Nat.ne_of_gt (blk_lt (pk BK101)) : gb103 ≠ gb101)); replace BK101 := uD (blk_below (pk BK101) hb); clear hb hbox hg; have hnb53 := NB103_101.out; have hnc53 := NB101_103.out; obtain ⟨hcz54_0, hcz54_1, hcz54_2, hfz54_0, hfz54_1, hfz54_2⟩ := cz3 BK103))
               have n0_ : Aside0 ((((w52.setCell ⟨gb103, 0, none⟩ (.int .i64 ((rd_T53 l0_3 x35_2).f0))).setCell ⟨gb103, 1, none⟩ (.int .i64 ((rd_T53 l0_3 x35_2).f1))).setCell ⟨gb103, 2, none⟩ (.int .i64 ((rd_T53 l0_3 x35_2).f2))).heap[gb101]? = some (.cells #[.int .i64 a0_0, .int .i64 a0_1, .bool a0_2, .slice (some ad102) l0_3.length c0_3] 29 (0, 0))) := ⟨by exact ps BK101⟩
               have n1_ : Aside0 ((((w52.setCell ⟨gb103, 0, none⟩ (.int .i64 ((rd_T53 l0_3 x35_2).f0))).setCell ⟨gb103, 1, none⟩ (.int .i64 ((rd_T53 l0_3 x35_2).f1))).setCell ⟨gb103, 2, none⟩ (.int .i64 ((rd_T53 l0_3 x35_2).f2))).heap[gb103]? = some (.cells #[.int .i64 ((rd_T53 l0_3 x35_2).f0), .int .i64 ((rd_T53 l0_3 x35_2).f1), .int .i64 ((rd_T53 l0_3 x35_2).f2)] 53 (0, 0))) := ⟨by (with_reducible repeat first|apply uH|apply uJ|apply uG); refine uP (cs := #[.int .i64 ((rd_T53 l0_3 x35_2).f0), .int .i64 ((rd_T53 l0_3 x35_2).f1), .int .i64 0]) ?_ 2 _ rfl; (with_reducible repeat first|apply uH|apply uJ|apply uG); refine uP (cs := #[.int .i64 ((rd_T53 l0_3 x35_2).f0), .int .i64 0, .int .i64 0]) ?_ 1 _ rfl; (with_reducible repeat first|apply uH|apply uJ|apply uG); refine uP (cs := #[.int .i64 0, .int .i64 0, .int .i64 0]) ?_ 0 _ rfl; (with_reducible repeat first|apply uH|apply uJ|apply uG); exact BK103.out⟩
               have n2_ : Aside0 (Below w.heap.size w (((w52.setCell ⟨gb103, 0, none⟩ (.int .i64 ((rd_T53 l0_3 x35_2).f0))).setCell ⟨gb103, 1, none⟩ (.int .i64 ((rd_T53 l0_3 x35_2).f1))).setCell ⟨gb103, 2, none⟩ (.int .i64 ((rd_T53 l0_3 x35_2).f2)))) := ⟨pb HB⟩
               (try clear BK101)
               (try clear BK103)
               (try clear HB)
               generalize (((w52.setCell ⟨gb103, 0, none⟩ (.int .i64 ((rd_T53 l0_3 x35_2).f0))).setCell ⟨gb103, 1, none⟩ (.int .i64 ((rd_T53 l0_3 x35_2).f1))).setCell ⟨gb103, 2, none⟩ (.int .i64 ((rd_T53 l0_3 x35_2).f2))) = w55 at n0_ n1_ n2_ ⊢
               have BK101 := n0_
               have BK103 := n1_
               have HB := n2_
               clear n0_ n1_ n2_
               replace BK101 := uD (uJ BK101.out)
               replace BK103 := uD (uJ BK103.out)
               replace HB := uD (uK HB.out)
               have q57 : (x35_2 : Int) ≤ ((l0_3.length : Int) : Int) := of_decide_eq_true (by first | (with_reducible assumption) | assumption)
               obtain ⟨i057, hi057, _, hsz57, _⟩ := info_parts info53
               have hroom57 : l0_3.length ≤ c0_3 := HC0_3.out
               have hC57 : Kd.C k53 _ (some ad102) l0_3.length l0_3 := HR0_3.out
               have hcut57 := cut_to (P := Try.prog) 27 53 .i64 Try.underlying27 hi057 (some ad102) l0_3.length c0_3 x35_2 (of_decide_eq_true (by first | (with_reducible assumption) | assumption)) q57 hroom57
               have hr57 := Kd.C_take (m := (x35_2 : Int).toNat) hC57 (by omega)
               have hy57 : y104.length = (x35_2 : Int).toNat := (by rw [Ny104.out, List.length_take]; omega)
               rw [← Ny104.out] at hr57
               rw [← hy57] at hcut57
               have HR107 := uD hr57
               have HC107 := uD (show y104.length ≤ c0_3 from by omega)
               clear hr57 hC57 hroom57 hi057 hsz57
               have KY57 := uD hy57
               clear hy57
               replace q57 := eq_true q57
               refine start_ (n := 35) (S := fun w' => w'.cell? ⟨gb103, 0, none⟩ = some (.int .i64 ((rd_T53 l0_3 x35_2).f0)) ∧ w'.cell? ⟨gb103, 1, none⟩ = some (.int .i64 ((rd_T53 l0_3 x35_2).f1)) ∧ w'.cell? ⟨gb103, 2, none⟩ = some (.int .i64 ((rd_T53 l0_3 x35_2).f2)) ∧ w'.cell? ⟨gb101, 0, none⟩ = some (.int .i64 a0_0) ∧ w'.cell? ⟨gb101, 1, none⟩ = some (.int .i64 a0_1) ∧ w'.cell? ⟨gb101, 2, none⟩ = some (.bool a0_2) ∧ w'.cell? ⟨gb101, 3, none⟩ = some (.slice (some ad102) l0_3.length c0_3)) (ds := []) #[F,F,F,F,F,F,F,F,F,F,F,F,F,F,F,F,F,F,F,F,F,F,F,F,F,F,F,F,F,F,F,F,F,F,F] (by kernel_rfl) rfl rfl ⟨(uF BK103.out 0).trans rfl, (uF BK103.out 1).trans rfl, (uF BK103.out 2).trans rfl, (uF BK101.out 0).trans rfl, (uF BK101.out 1).trans rfl, (uF BK101.out 2).trans rfl, (uF BK101.out 3).trans rfl⟩ (fun hHeld => ?_); refine with_tabW impl_BeltOk.tab7 impl_BeltOk.bits7 (fun HT_ HW_ => ?_)
               generalize w55.drew = w56 at BK101 BK103 HB HR107 hHeld ⊢
               refine pu 0 (some 40) #[T,F,F,F,F,F,F,F,F,F,F,F,F,F,F,F,F,F,F,F,F,F,F,F,F,F,F,F,F,F,F,F,F,F,F] HT_ ?_
               refine tk 1 (some 41) #[T,T,F,F,F,F,F,F,F,F,F,F,F,F,F,F,F,F,F,F,F,F,F,F,F,F,F,F,F,F,F,F,F,F,F] HT_ HW_ hHeld ?_
               refine pu 2 (some 42) #[T,T,T,F,F,F,F,F,F,F,F,F,F,F,F,F,F,F,F,F,F,F,F,F,F,F,F,F,F,F,F,F,F,F,F] HT_ ?_
               refine pu 3 (some 43) #[T,T,T,T,F,F,F,F,F,F,F,F,F,F,F,F,F,F,F,F,F,F,F,F,F,F,F,F,F,F,F,F,F,F,F] HT_ ?_
               refine pu 4 (some 44) #[T,T,T,T,T,F,F,F,F,F,F,F,F,F,F,F,F,F,F,F,F,F,F,F,F,F,F,F,F,F,F,F,F,F,F] HT_ ?_
               refine pu 6 (some 46) #[T,T,T,T,T,F,T,F,F,F,F,F,F,F,F,F,F,F,F,F,F,F,F,F,F,F,F,F,F,F,F,F,F,F,F] HT_ ?_
               refine pu 8 (some 48) #[T,T,T,T,T,F,T,F,T,F,F,F,F,F,F,F,F,F,F,F,F,F,F,F,F,F,F,F,F,F,F,F,F,F,F] HT_ ?_
               refine tk 5 (some 45) #[T,T,T,T,T,T,T,F,T,F,F,F,F,F,F,F,F,F,F,F,F,F,F,F,F,F,F,F,F,F,F,F,F,F,F] HT_ HW_ hHeld ?_
               refine pu 7 (some 47) #[T,T,T,T,T,T,T,T,T,F,F,F,F,F,F,F,F,F,F,F,F,F,F,F,F,F,F,F,F,F,F,F,F,F,F] HT_ ?_
               refine tk 9 (some 49) #[T,T,T,T,T,T,T,T,T,T,F,F,F,F,F,F,F,F,F,F,F,F,F,F,F,F,F,F,F,F,F,F,F,F,F] HT_ HW_ hHeld ?_
               refine one_ (i := 10) (N := some 50) #[T,T,T,T,T,T,T,T,T,T,T,F,F,F,F,F,F,F,F,F,F,F,F,F,F,F,F,F,F,F,F,F,F,F,F] rfl rfl (one_of HT_.out (by kernel_rfl)) (by decide) (fun K hK => ?_)
               refine goes_ Try.func50 (by kernel_rfl) rfl #[.slice (some ad102) y104.length c0_3, .int .i64 ((rd_T53 l0_3 x35_2).f0)] (by rfl) rfl rfl (by (try simp only [List.map_toArray, List.map_cons, List.map_nil]); first | done | rfl | (simp only [List.length_drop, List.length_take]; rfl)) ?_
               with_reducible refine (impl_isOn.calls _ _ y104 ((rd_T53 l0_3 x35_2).f0) false _ ?side1 ?side2 A26.out).mono ?_
               (case side1 => exact pc (Kd.C_below HR107.out HB.out))
               (case side2 => exact HC107.out)
               rintro e w58 ⟨rfl, hb⟩
               refine ⟨_, rfl, ?_⟩
               replace BK101 := uD (blk_below (pk BK101) hb)
               replace BK103 := uD (blk_below (pk BK103) hb)
               replace HB := uD (uO (pb HB) hb)
               (try clear hb)
               (try clear hb2)
               (try clear hk)
               (try clear hi)
               refine hK.out _ _ ⟨(uF BK103.out 0).trans rfl, (uF BK103.out 1).trans rfl, (uF BK103.out 2).trans rfl, (uF BK101.out 0).trans rfl, (uF BK101.out 1).trans rfl, (uF BK101.out 2).trans rfl, (uF BK101.out 3).trans rfl⟩ (fun hHeld => ?_)
               clear hK K
               refine norm_ (a' := ?_) ?_ ?_
               rotate_left
               ·show uc _ (some 50) _ = _
                simp only [uc, uA, uB, uC, uZ, ua]
                rfl
               refine pu 11 (some 51) #[T,T,T,T,T,T,T,T,T,T,T,T,F,F,F,F,F,F,F,F,F,F,F,F,F,F,F,F,F,F,F,F,F,F,F] HT_ ?_
               refine pu 12 (some 52) #[T,T,T,T,T,T,T,T,T,T,T,T,T,F,F,F,F,F,F,F,F,F,F,F,F,F,F,F,F,F,F,F,F,F,F] HT_ ?_
               refine pu 13 (some 53) #[T,T,T,T,T,T,T,T,T,T,T,T,T,T,F,F,F,F,F,F,F,F,F,F,F,F,F,F,F,F,F,F,F,F,F] HT_ ?_
               refine tk 14 (some 54) #[T,T,T,T,T,T,T,T,T,T,T,T,T,T,T,F,F,F,F,F,F,F,F,F,F,F,F,F,F,F,F,F,F,F,F] HT_ HW_ hHeld ?_
               refine pu 15 (some 55) #[T,T,T,T,T,T,T,T,T,T,T,T,T,T,T,T,F,F,F,F,F,F,F,F,F,F,F,F,F,F,F,F,F,F,F] HT_ ?_
               refine pu 16 (some 56) #[T,T,T,T,T,T,T,T,T,T,T,T,T,T,T,T,T,F,F,F,F,F,F,F,F,F,F,F,F,F,F,F,F,F,F] HT_ ?_
               refine pu 17 (some 57) #[T,T,T,T,T,T,T,T,T,T,T,T,T,T,T,T,T,T,F,F,F,F,F,F,F,F,F,F,F,F,F,F,F,F,F] HT_ ?_
               refine pu 18 (some 58) #[T,T,T,T,T,T,T,T,T,T,T,T,T,T,T,T,T,T,T,F,F,F,F,F,F,F,F,F,F,F,F,F,F,F,F] HT_ ?_
               refine tk 19 (some 59) #[T,T,T,T,T,T,T,T,T,T,T,T,T,T,T,T,T,T,T,T,F,F,F,F,F,F,F,F,F,F,F,F,F,F,F] HT_ HW_ hHeld ?_
               refine pu 20 (some 60) #[T,T,T,T,T,T,T,T,T,T,T,T,T,T,T,T,T,T,T,T,T,F,F,F,F,F,F,F,F,F,F,F,F,F,F] HT_ ?_
               refine pu 21 (some 61) #[T,T,T,T,T,T,T,T,T,T,T,T,T,T,T,T,T,T,T,T,T,T,F,F,F,F,F,F,F,F,F,F,F,F,F] HT_ ?_
               refine pu 22 (some 62) #[T,T,T,T,T,T,T,T,T,T,T,T,T,T,T,T,T,T,T,T,T,T,T,F,F,F,F,F,F,F,F,F,F,F,F] HT_ ?_
               refine pu 23 (some 63) #[T,T,T,T,T,T,T,T,T,T,T,T,T,T,T,T,T,T,T,T,T,T,T,T,F,F,F,F,F,F,F,F,F,F,F] HT_ ?_
               refine pu 25 (some 65) #[T,T,T,T,T,T,T,T,T,T,T,T,T,T,T,T,T,T,T,T,T,T,T,T,F,T,F,F,F,F,F,F,F,F,F] HT_ ?_
               refine tk 24 (some 64) #[T,T,T,T,T,T,T,T,T,T,T,T,T,T,T,T,T,T,T,T,T,T,T,T,T,T,F,F,F,F,F,F,F,F,F] HT_ HW_ hHeld ?_
               refine tk 26 (some 66) #[T,T,T,T,T,T,T,T,T,T,T,T,T,T,T,T,T,T,T,T,T,T,T,T,T,T,T,F,F,F,F,F,F,F,F] HT_ HW_ hHeld ?_
               refine pu 27 (some 67) #[T,T,T,T,T,T,T,T,T,T,T,T,T,T,T,T,T,T,T,T,T,T,T,T,T,T,T,T,F,F,F,F,F,F,F] HT_ ?_
               refine pu 28 (some 68) #[T,T,T,T,T,T,T,T,T,T,T,T,T,T,T,T,T,T,T,T,T,T,T,T,T,T,T,T,T,F,F,F,F,F,F] HT_ ?_
               refine pu 29 (some 69) #[T,T,T,T,T,T,T,T,T,T,T,T,T,T,T,T,T,T,T,T,T,T,T,T,T,T,T,T,T,T,F,F,F,F,F] HT_ ?_
               refine ub (i := 30) (N := some 70) (v := undef) (a' := ?_) #[T,T,T,T,T,T,T,T,T,T,T,T,T,T,T,T,T,T,T,T,T,T,T,T,T,T,T,T,T,T,T,F,F,F,F] rfl rfl (uY HT_.out (by kernel_rfl)) (fun _ _ _ h => h) (Or.inr ⟨by rfl, rfl⟩) ?_ ?_
               rotate_left
               ·simp only [uc, uA, uB, uC, uZ, ua]
                rfl
               refine ub (i := 31) (N := some 71) (v := undef) (a' := ?_) #[T,T,T,T,T,T,T,T,T,T,T,T,T,T,T,T,T,T,T,T,T,T,T,T,T,T,T,T,T,T,T,T,F,F,F] rfl rfl (uY HT_.out (by kernel_rfl)) (fun _ _ _ h => h) (Or.inr ⟨by rfl, rfl⟩) ?_ ?_
               rotate_left
               ·simp only [uc, uA, uB, uC, uZ, ua]
                rfl
               refine ub (i := 32) (N := some 72) (v := undef) (a' := ?_) #[T,T,T,T,T,T,T,T,T,T,T,T,T,T,T,T,T,T,T,T,T,T,T,T,T,T,T,T,T,T,T,T,T,F,F] rfl rfl (uY HT_.out (by kernel_rfl)) (fun _ _ _ h => h) (Or.inr ⟨by rfl, rfl⟩) ?_ ?_
               rotate_left
               ·simp only [uc, uA, uB, uC, uZ, ua]
                rfl
               refine ub (i := 33) (N := some 73) (v := undef) (a' := ?_) #[T,T,T,T,T,T,T,T,T,T,T,T,T,T,T,T,T,T,T,T,T,T,T,T,T,T,T,T,T,T,T,T,T,T,F] rfl rfl (uY HT_.out (by kernel_rfl)) (fun _ _ _ h => h) (Or.inr ⟨by rfl, rfl⟩) ?_ ?_
               rotate_left
               ·simp only [uc, uA, uB, uC, uZ, ua]
                rfl
               refine pu 34 (some 74) #[T,T,T,T,T,T,T,T,T,T,T,T,T,T,T,T,T,T,T,T,T,T,T,T,T,T,T,T,T,T,T,T,T,T,T] HT_ ?_
               refine done_ (done_of HT_.out (by kernel_rfl)) ?_
               try go_wp2
               go_ret
               exact ⟨by first | rfl | (simp [errW_none, errW_some] <;> rfl) | (simp [*, errW_none, errW_some] <;> rfl), pb HB⟩
              ·rw [if_neg c51] at H
               have c51b0 : decide (((rd_T53 l0_3 x35_2).f1) < ((rd_T53 l0_3 x35_2).f2)) = false := decide_eq_false c51
               clear c51
               by_cases c59 : ((rd_T53 l0_3 x35_2).f1) > x3_2
               ·rw [if_pos c59] at H
                have c59b0 : decide (x3_2 < ((rd_T53 l0_3 x35_2).f1)) = true := decide_eq_true c59
                clear c59
                obtain rfl := Option.some.inj H
                have p102 : 0 ≤ (x35_2 : Int) := of_decide_eq_true (by first | (with_reducible assumption) | assumption)
                have q102 : x35_2 < (l0_3.length : Int) := of_decide_eq_true (by first | (with_reducible assumption) | assumption)
                obtain ⟨ad102, e102, hx102_0, hx102_1, hx102_2⟩ := at_T53 HR0_3.out x35_2 p102 q102
                cases e102
                replace hx102_0 := (HB.out.cell (World.block_lt_of_cell? w _ hx102_0)).trans hx102_0
                replace hx102_1 := (HB.out.cell (World.block_lt_of_cell? w _ hx102_1)).trans hx102_1
                replace hx102_2 := (HB.out.cell (World.block_lt_of_cell? w _ hx102_2)).trans hx102_2
                replace p102 := eq_true p102
                replace q102 := eq_true q102
                try go_wp2_with (first | ((with_reducible refine gate_dst (N := 5) rfl ?_); (try (refine gate_guard (by rfl) ?_; dsimp only)); refine bx 5 #[.int .i64 0, .int .i64 0, .int .i64 0] 53 ?_; intro gb103 hg w60 hbox hb; have BK103 := uD (hbox); have GW103 := uD ((by rw [hg]; exact (uN (pb HB)) : w.heap.size ≤ gb103)); have GE103 := uD ((by rw [hg]; exact (uN (pb HB)) : w.heap.size ≤ gb103)); replace HB := uD (uO (pb HB) hb); have NB101_103 := uD ((by rw [hg]; exact Nat.ne_of_lt (blk_lt (pk BK101)) : gb101 ≠ gb103)); have NB103_101 := uD ((by rw [hg]; exact Nat.ne_of_gt (blk_lt (pk BK101)) : gb103 ≠ gb101)); replace BK101 := uD (blk_below (pk BK101) hb); clear hb hbox hg; have hnb61 := NB103_101.out; have hnc61 := NB101_103.out; obtain ⟨hcz62_0, hcz62_1, hcz62_2, hfz62_0, hfz62_1, hfz62_2⟩ := cz3 BK103))
                have n0_ : Aside0 ((((w60.setCell ⟨gb103, 0, none⟩ (.int .i64 ((rd_T53 l0_3 x35_2).f0))).setCell ⟨gb103, 1, none⟩ (.int .i64 ((rd_T53 l0_3 x35_2).f1))).setCell ⟨gb103, 2, none⟩ (.int .i64 ((rd_T53 l0_3 x35_2).f2))).heap[gb101]? = some (.cells #[.int .i64 a0_0, .int .i64 a0_1, .bool a0_2, .slice (some ad102) l0_3.length c0_3] 29 (0, 0))) := ⟨by exact ps BK101⟩
                have n1_ : Aside0 ((((w60.setCell ⟨gb103, 0, none⟩ (.int .i64 ((rd_T53 l0_3 x35_2).f0))).setCell ⟨gb103, 1, none⟩ (.int .i64 ((rd_T53 l0_3 x35_2).f1))).setCell ⟨gb103, 2, none⟩ (.int .i64 ((rd_T53 l0_3 x35_2).f2))).heap[gb103]? = some (.cells #[.int .i64 ((rd_T53 l0_3 x35_2).f0), .int .i64 ((rd_T53 l0_3 x35_2).f1), .int .i64 ((rd_T53 l0_3 x35_2).f2)] 53 (0, 0))) := ⟨by (with_reducible repeat first|apply uH|apply uJ|apply uG); refine uP (cs := #[.int .i64 ((rd_T53 l0_3 x35_2).f0), .int .i64 ((rd_T53 l0_3 x35_2).f1), .int .i64 0]) ?_ 2 _ rfl; (with_reducible repeat first|apply uH|apply uJ|apply uG); refine uP (cs := #[.int .i64 ((rd_T53 l0_3 x35_2).f0), .int .i64 0, .int .i64 0]) ?_ 1 _ rfl; (with_reducible repeat first|apply uH|apply uJ|apply uG); refine uP (cs := #[.int .i64 0, .int .i64 0, .int .i64 0]) ?_ 0 _ rfl; (with_reducible repeat first|apply uH|apply uJ|apply uG); exact BK103.out⟩
                have n2_ : Aside0 (Below w.heap.size w (((w60.setCell ⟨gb103, 0, none⟩ (.int .i64 ((rd_T53 l0_3 x35_2).f0))).setCell ⟨gb103, 1, none⟩ (.int .i64 ((rd_T53 l0_3 x35_2).f1))).setCell ⟨gb103, 2, none⟩ (.int .i64 ((rd_T53 l0_3 x35_2).f2)))) := ⟨pb HB⟩
                (try clear BK101)
                (try clear BK103)
                (try clear HB)
                generalize (((w60.setCell ⟨gb103, 0, none⟩ (.int .i64 ((rd_T53 l0_3 x35_2).f0))).setCell ⟨gb103, 1, none⟩ (.int .i64 ((rd_T53 l0_3 x35_2).f1))).setCell ⟨gb103, 2, none⟩ (.int .i64 ((rd_T53 l0_3 x35_2).f2))) = w63 at n0_ n1_ n2_ ⊢
                have BK101 := n0_
                have BK103 := n1_
                have HB := n2_
                clear n0_ n1_ n2_
                replace BK101 := uD (uJ BK101.out)
                replace BK103 := uD (uJ BK103.out)
                replace HB := uD (uK HB.out)
                have q65 : (x35_2 : Int) ≤ ((l0_3.length : Int) : Int) := of_decide_eq_true (by first | (with_reducible assumption) | assumption)
                obtain ⟨i065, hi065, _, hsz65, _⟩ := info_parts info53
                have hroom65 : l0_3.length ≤ c0_3 := HC0_3.out
                have hC65 : Kd.C k53 _ (some ad102) l0_3.length l0_3 := HR0_3.out
                have hcut65 := cut_to (P := Try.prog) 27 53 .i64 Try.underlying27 hi065 (some ad102) l0_3.length c0_3 x35_2 (of_decide_eq_true (by first | (with_reducible assumption) | assumption)) q65 hroom65
                have hr65 := Kd.C_take (m := (x35_2 : Int).toNat) hC65 (by omega)
                have hy65 : y104.length = (x35_2 : Int).toNat := (by rw [Ny104.out, List.length_take]; omega)
                rw [← Ny104.out] at hr65
                rw [← hy65] at hcut65
                have HR107 := uD hr65
                have HC107 := uD (show y104.length ≤ c0_3 from by omega)
                clear hr65 hC65 hroom65 hi065 hsz65
                have KY65 := uD hy65
                clear hy65
                replace q65 := eq_true q65
                refine start_ (n := 35) (S := fun w' => w'.cell? ⟨gb103, 0, none⟩ = some (.int .i64 ((rd_T53 l0_3 x35_2).f0)) ∧ w'.cell? ⟨gb103, 1, none⟩ = some (.int .i64 ((rd_T53 l0_3 x35_2).f1)) ∧ w'.cell? ⟨gb103, 2, none⟩ = some (.int .i64 ((rd_T53 l0_3 x35_2).f2)) ∧ w'.cell? ⟨gb101, 0, none⟩ = some (.int .i64 a0_0) ∧ w'.cell? ⟨gb101, 1, none⟩ = some (.int .i64 a0_1) ∧ w'.cell? ⟨gb101, 2, none⟩ = some (.bool a0_2) ∧ w'.cell? ⟨gb101, 3, none⟩ = some (.slice (some ad102) l0_3.length c0_3)) (ds := []) #[F,F,F,F,F,F,F,F,F,F,F,F,F,F,F,F,F,F,F,F,F,F,F,F,F,F,F,F,F,F,F,F,F,F,F] (by kernel_rfl) rfl rfl ⟨(uF BK103.out 0).trans rfl, (uF BK103.out 1).trans rfl, (uF BK103.out 2).trans rfl, (uF BK101.out 0).trans rfl, (uF BK101.out 1).trans rfl, (uF BK101.out 2).trans rfl, (uF BK101.out 3).trans rfl⟩ (fun hHeld => ?_); refine with_tabW impl_BeltOk.tab7 impl_BeltOk.bits7 (fun HT_ HW_ => ?_)
                generalize w63.drew = w64 at BK101 BK103 HB HR107 hHeld ⊢
                refine pu 0 (some 40) #[T,F,F,F,F,F,F,F,F,F,F,F,F,F,F,F,F,F,F,F,F,F,F,F,F,F,F,F,F,F,F,F,F,F,F] HT_ ?_
                refine tk 1 (some 41) #[T,T,F,F,F,F,F,F,F,F,F,F,F,F,F,F,F,F,F,F,F,F,F,F,F,F,F,F,F,F,F,F,F,F,F] HT_ HW_ hHeld ?_
                refine pu 2 (some 42) #[T,T,T,F,F,F,F,F,F,F,F,F,F,F,F,F,F,F,F,F,F,F,F,F,F,F,F,F,F,F,F,F,F,F,F] HT_ ?_
                refine pu 3 (some 43) #[T,T,T,T,F,F,F,F,F,F,F,F,F,F,F,F,F,F,F,F,F,F,F,F,F,F,F,F,F,F,F,F,F,F,F] HT_ ?_
                refine pu 4 (some 44) #[T,T,T,T,T,F,F,F,F,F,F,F,F,F,F,F,F,F,F,F,F,F,F,F,F,F,F,F,F,F,F,F,F,F,F] HT_ ?_
                refine pu 6 (some 46) #[T,T,T,T,T,F,T,F,F,F,F,F,F,F,F,F,F,F,F,F,F,F,F,F,F,F,F,F,F,F,F,F,F,F,F] HT_ ?_
                refine pu 8 (some 48) #[T,T,T,T,T,F,T,F,T,F,F,F,F,F,F,F,F,F,F,F,F,F,F,F,F,F,F,F,F,F,F,F,F,F,F] HT_ ?_
                refine tk 5 (some 45) #[T,T,T,T,T,T,T,F,T,F,F,F,F,F,F,F,F,F,F,F,F,F,F,F,F,F,F,F,F,F,F,F,F,F,F] HT_ HW_ hHeld ?_
                refine pu 7 (some 47) #[T,T,T,T,T,T,T,T,T,F,F,F,F,F,F,F,F,F,F,F,F,F,F,F,F,F,F,F,F,F,F,F,F,F,F] HT_ ?_
                refine tk 9 (some 49) #[T,T,T,T,T,T,T,T,T,T,F,F,F,F,F,F,F,F,F,F,F,F,F,F,F,F,F,F,F,F,F,F,F,F,F] HT_ HW_ hHeld ?_
                refine one_ (i := 10) (N := some 50) #[T,T,T,T,T,T,T,T,T,T,T,F,F,F,F,F,F,F,F,F,F,F,F,F,F,F,F,F,F,F,F,F,F,F,F] rfl rfl (one_of HT_.out (by kernel_rfl)) (by decide) (fun K hK => ?_)
                refine goes_ Try.func50 (by kernel_rfl) rfl #[.slice (some ad102) y104.length c0_3, .int .i64 ((rd_T53 l0_3 x35_2).f0)] (by rfl) rfl rfl (by (try simp only [List.map_toArray, List.map_cons, List.map_nil]); first | done | rfl | (simp only [List.length_drop, List.length_take]; rfl)) ?_
                with_reducible refine (impl_isOn.calls _ _ y104 ((rd_T53 l0_3 x35_2).f0) false _ ?side1 ?side2 A26.out).mono ?_
                (case side1 => exact pc (Kd.C_below HR107.out HB.out))
                (case side2 => exact HC107.out)
                rintro e w66 ⟨rfl, hb⟩
                refine ⟨_, rfl, ?_⟩
                replace BK101 := uD (blk_below (pk BK101) hb)
                replace BK103 := uD (blk_below (pk BK103) hb)
                replace HB := uD (uO (pb HB) hb)
                (try clear hb)
                (try clear hb2)
                (try clear hk)
                (try clear hi)
                refine hK.out _ _ ⟨(uF BK103.out 0).trans rfl, (uF BK103.out 1).trans rfl, (uF BK103.out 2).trans rfl, (uF BK101.out 0).trans rfl, (uF BK101.out 1).trans rfl, (uF BK101.out 2).trans rfl, (uF BK101.out 3).trans rfl⟩ (fun hHeld => ?_)
                clear hK K
                refine norm_ (a' := ?_) ?_ ?_
                rotate_left
                ·show uc _ (some 50) _ = _
                 simp only [uc, uA, uB, uC, uZ, ua]
                 rfl
                refine pu 11 (some 51) #[T,T,T,T,T,T,T,T,T,T,T,T,F,F,F,F,F,F,F,F,F,F,F,F,F,F,F,F,F,F,F,F,F,F,F] HT_ ?_
                refine pu 12 (some 52) #[T,T,T,T,T,T,T,T,T,T,T,T,T,F,F,F,F,F,F,F,F,F,F,F,F,F,F,F,F,F,F,F,F,F,F] HT_ ?_
                refine pu 13 (some 53) #[T,T,T,T,T,T,T,T,T,T,T,T,T,T,F,F,F,F,F,F,F,F,F,F,F,F,F,F,F,F,F,F,F,F,F] HT_ ?_
                refine tk 14 (some 54) #[T,T,T,T,T,T,T,T,T,T,T,T,T,T,T,F,F,F,F,F,F,F,F,F,F,F,F,F,F,F,F,F,F,F,F] HT_ HW_ hHeld ?_
                refine pu 15 (some 55) #[T,T,T,T,T,T,T,T,T,T,T,T,T,T,T,T,F,F,F,F,F,F,F,F,F,F,F,F,F,F,F,F,F,F,F] HT_ ?_
                refine pu 16 (some 56) #[T,T,T,T,T,T,T,T,T,T,T,T,T,T,T,T,T,F,F,F,F,F,F,F,F,F,F,F,F,F,F,F,F,F,F] HT_ ?_
                refine pu 17 (some 57) #[T,T,T,T,T,T,T,T,T,T,T,T,T,T,T,T,T,T,F,F,F,F,F,F,F,F,F,F,F,F,F,F,F,F,F] HT_ ?_
                refine pu 18 (some 58) #[T,T,T,T,T,T,T,T,T,T,T,T,T,T,T,T,T,T,T,F,F,F,F,F,F,F,F,F,F,F,F,F,F,F,F] HT_ ?_
                refine tk 19 (some 59) #[T,T,T,T,T,T,T,T,T,T,T,T,T,T,T,T,T,T,T,T,F,F,F,F,F,F,F,F,F,F,F,F,F,F,F] HT_ HW_ hHeld ?_
                refine pu 20 (some 60) #[T,T,T,T,T,T,T,T,T,T,T,T,T,T,T,T,T,T,T,T,T,F,F,F,F,F,F,F,F,F,F,F,F,F,F] HT_ ?_
                refine pu 21 (some 61) #[T,T,T,T,T,T,T,T,T,T,T,T,T,T,T,T,T,T,T,T,T,T,F,F,F,F,F,F,F,F,F,F,F,F,F] HT_ ?_
                refine pu 22 (some 62) #[T,T,T,T,T,T,T,T,T,T,T,T,T,T,T,T,T,T,T,T,T,T,T,F,F,F,F,F,F,F,F,F,F,F,F] HT_ ?_
                refine pu 23 (some 63) #[T,T,T,T,T,T,T,T,T,T,T,T,T,T,T,T,T,T,T,T,T,T,T,T,F,F,F,F,F,F,F,F,F,F,F] HT_ ?_
                refine pu 25 (some 65) #[T,T,T,T,T,T,T,T,T,T,T,T,T,T,T,T,T,T,T,T,T,T,T,T,F,T,F,F,F,F,F,F,F,F,F] HT_ ?_
                refine tk 24 (some 64) #[T,T,T,T,T,T,T,T,T,T,T,T,T,T,T,T,T,T,T,T,T,T,T,T,T,T,F,F,F,F,F,F,F,F,F] HT_ HW_ hHeld ?_
                refine tk 26 (some 66) #[T,T,T,T,T,T,T,T,T,T,T,T,T,T,T,T,T,T,T,T,T,T,T,T,T,T,T,F,F,F,F,F,F,F,F] HT_ HW_ hHeld ?_
                refine pu 27 (some 67) #[T,T,T,T,T,T,T,T,T,T,T,T,T,T,T,T,T,T,T,T,T,T,T,T,T,T,T,T,F,F,F,F,F,F,F] HT_ ?_
                refine pu 28 (some 68) #[T,T,T,T,T,T,T,T,T,T,T,T,T,T,T,T,T,T,T,T,T,T,T,T,T,T,T,T,T,F,F,F,F,F,F] HT_ ?_
                refine pu 29 (some 69) #[T,T,T,T,T,T,T,T,T,T,T,T,T,T,T,T,T,T,T,T,T,T,T,T,T,T,T,T,T,T,F,F,F,F,F] HT_ ?_
                refine pu 30 (some 70) #[T,T,T,T,T,T,T,T,T,T,T,T,T,T,T,T,T,T,T,T,T,T,T,T,T,T,T,T,T,T,T,F,F,F,F] HT_ ?_
                refine pu 32 (some 72) #[T,T,T,T,T,T,T,T,T,T,T,T,T,T,T,T,T,T,T,T,T,T,T,T,T,T,T,T,T,T,T,F,T,F,F] HT_ ?_
                refine tk 31 (some 71) #[T,T,T,T,T,T,T,T,T,T,T,T,T,T,T,T,T,T,T,T,T,T,T,T,T,T,T,T,T,T,T,T,T,F,F] HT_ HW_ hHeld ?_
                refine pu 33 (some 73) #[T,T,T,T,T,T,T,T,T,T,T,T,T,T,T,T,T,T,T,T,T,T,T,T,T,T,T,T,T,T,T,T,T,T,F] HT_ ?_
                refine pu 34 (some 74) #[T,T,T,T,T,T,T,T,T,T,T,T,T,T,T,T,T,T,T,T,T,T,T,T,T,T,T,T,T,T,T,T,T,T,T] HT_ ?_
                refine done_ (done_of HT_.out (by kernel_rfl)) ?_
                try go_wp2
                go_ret
                exact ⟨by first | rfl | (simp [errW_none, errW_some] <;> rfl) | (simp [*, errW_none, errW_some] <;> rfl), pb HB⟩
               ·rw [if_neg c59] at H
                have c59b0 : decide (x3_2 < ((rd_T53 l0_3 x35_2).f1)) = false := decide_eq_false c59
                clear c59
                have H' := uD H
                clear H
                have p102 : 0 ≤ (x35_2 : Int) := of_decide_eq_true (by first | (with_reducible assumption) | assumption)
                have q102 : x35_2 < (l0_3.length : Int) := of_decide_eq_true (by first | (with_reducible assumption) | assumption)
                obtain ⟨ad102, e102, hx102_0, hx102_1, hx102_2⟩ := at_T53 HR0_3.out x35_2 p102 q102
                cases e102
                replace hx102_0 := (HB.out.cell (World.block_lt_of_cell? w _ hx102_0)).trans hx102_0
                replace hx102_1 := (HB.out.cell (World.block_lt_of_cell? w _ hx102_1)).trans hx102_1
                replace hx102_2 := (HB.out.cell (World.block_lt_of_cell? w _ hx102_2)).trans hx102_2
                replace p102 := eq_true p102
                replace q102 := eq_true q102
                try go_wp2_with (first | ((with_reducible refine gate_dst (N := 5) rfl ?_); (try (refine gate_guard (by rfl) ?_; dsimp only)); refine bx 5 #[.int .i64 0, .int .i64 0, .int .i64 0] 53 ?_; intro gb103 hg w67 hbox hb; have BK103 := uD (hbox); have GW103 := uD ((by rw [hg]; exact (uN (pb HB)) : w.heap.size ≤ gb103)); have GE103 := uD ((by rw [hg]; exact (uN (pb HB)) : w.heap.size ≤ gb103)); replace HB := uD (uO (pb HB) hb); have NB101_103 := uD ((by rw [hg]; exact Nat.ne_of_lt (blk_lt (pk BK101)) : gb101 ≠ gb103)); have NB103_101 := uD ((by rw [hg]; exact Nat.ne_of_gt (blk_lt (pk BK101)) : gb103 ≠ gb101)); replace BK101 := uD (blk_below (pk BK101) hb); clear hb hbox hg; have hnb68 := NB103_101.out; have hnc68 := NB101_103.out; obtain ⟨hcz69_0, hcz69_1, hcz69_2, hfz69_0, hfz69_1, hfz69_2⟩ := cz3 BK103))
                have n0_ : Aside0 ((((w67.setCell ⟨gb103, 0, none⟩ (.int .i64 ((rd_T53 l0_3 x35_2).f0))).setCell ⟨gb103, 1, none⟩ (.int .i64 ((rd_T53 l0_3 x35_2).f1))).setCell ⟨gb103, 2, none⟩ (.int .i64 ((rd_T53 l0_3 x35_2).f2))).heap[gb101]? = some (.cells #[.int .i64 a0_0, .int .i64 a0_1, .bool a0_2, .slice (some ad102) l0_3.length c0_3] 29 (0, 0))) := ⟨by exact ps BK101⟩
                have n1_ : Aside0 ((((w67.setCell ⟨gb103, 0, none⟩ (.int .i64 ((rd_T53 l0_3 x35_2).f0))).setCell ⟨gb103, 1, none⟩ (.int .i64 ((rd_T53 l0_3 x35_2).f1))).setCell ⟨gb103, 2, none⟩ (.int .i64 ((rd_T53 l0_3 x35_2).f2))).heap[gb103]? = some (.cells #[.int .i64 ((rd_T53 l0_3 x35_2).f0), .int .i64 ((rd_T53 l0_3 x35_2).f1), .int .i64 ((rd_T53 l0_3 x35_2).f2)] 53 (0, 0))) := ⟨by (with_reducible repeat first|apply uH|apply uJ|apply uG); refine uP (cs := #[.int .i64 ((rd_T53 l0_3 x35_2).f0), .int .i64 ((rd_T53 l0_3 x35_2).f1), .int .i64 0]) ?_ 2 _ rfl; (with_reducible repeat first|apply uH|apply uJ|apply uG); refine uP (cs := #[.int .i64 ((rd_T53 l0_3 x35_2).f0), .int .i64 0, .int .i64 0]) ?_ 1 _ rfl; (with_reducible repeat first|apply uH|apply uJ|apply uG); refine uP (cs := #[.int .i64 0, .int .i64 0, .int .i64 0]) ?_ 0 _ rfl; (with_reducible repeat first|apply uH|apply uJ|apply uG); exact BK103.out⟩
                have n2_ : Aside0 (Below w.heap.size w (((w67.setCell ⟨gb103, 0, none⟩ (.int .i64 ((rd_T53 l0_3 x35_2).f0))).setCell ⟨gb103, 1, none⟩ (.int .i64 ((rd_T53 l0_3 x35_2).f1))).setCell ⟨gb103, 2, none⟩ (.int .i64 ((rd_T53 l0_3 x35_2).f2)))) := ⟨pb HB⟩
                (try clear BK101)
                (try clear BK103)
                (try clear HB)
                generalize (((w67.setCell ⟨gb103, 0, none⟩ (.int .i64 ((rd_T53 l0_3 x35_2).f0))).setCell ⟨gb103, 1, none⟩ (.int .i64 ((rd_T53 l0_3 x35_2).f1))).setCell ⟨gb103, 2, none⟩ (.int .i64 ((rd_T53 l0_3 x35_2).f2))) = w70 at n0_ n1_ n2_ ⊢
                have BK101 := n0_
                have BK103 := n1_
                have HB := n2_
                clear n0_ n1_ n2_
                replace BK101 := uD (uJ BK101.out)
                replace BK103 := uD (uJ BK103.out)
                replace HB := uD (uK HB.out)
                have q72 : (x35_2 : Int) ≤ ((l0_3.length : Int) : Int) := of_decide_eq_true (by first | (with_reducible assumption) | assumption)
                obtain ⟨i072, hi072, _, hsz72, _⟩ := info_parts info53
                have hroom72 : l0_3.length ≤ c0_3 := HC0_3.out
                have hC72 : Kd.C k53 _ (some ad102) l0_3.length l0_3 := HR0_3.out
                have hcut72 := cut_to (P := Try.prog) 27 53 .i64 Try.underlying27 hi072 (some ad102) l0_3.length c0_3 x35_2 (of_decide_eq_true (by first | (with_reducible assumption) | assumption)) q72 hroom72
                have hr72 := Kd.C_take (m := (x35_2 : Int).toNat) hC72 (by omega)
                have hy72 : y104.length = (x35_2 : Int).toNat := (by rw [Ny104.out, List.length_take]; omega)
                rw [← Ny104.out] at hr72
                rw [← hy72] at hcut72
                have HR107 := uD hr72
                have HC107 := uD (show y104.length ≤ c0_3 from by omega)
                clear hr72 hC72 hroom72 hi072 hsz72
                have KY72 := uD hy72
                clear hy72
                replace q72 := eq_true q72
                refine start_ (n := 35) (S := fun w' => w'.cell? ⟨gb103, 0, none⟩ = some (.int .i64 ((rd_T53 l0_3 x35_2).f0)) ∧ w'.cell? ⟨gb103, 1, none⟩ = some (.int .i64 ((rd_T53 l0_3 x35_2).f1)) ∧ w'.cell? ⟨gb103, 2, none⟩ = some (.int .i64 ((rd_T53 l0_3 x35_2).f2)) ∧ w'.cell? ⟨gb101, 0, none⟩ = some (.int .i64 a0_0) ∧ w'.cell? ⟨gb101, 1, none⟩ = some (.int .i64 a0_1) ∧ w'.cell? ⟨gb101, 2, none⟩ = some (.bool a0_2) ∧ w'.cell? ⟨gb101, 3, none⟩ = some (.slice (some ad102) l0_3.length c0_3)) (ds := []) #[F,F,F,F,F,F,F,F,F,F,F,F,F,F,F,F,F,F,F,F,F,F,F,F,F,F,F,F,F,F,F,F,F,F,F] (by kernel_rfl) rfl rfl ⟨(uF BK103.out 0).trans rfl, (uF BK103.out 1).trans rfl, (uF BK103.out 2).trans rfl, (uF BK101.out 0).trans rfl, (uF BK101.out 1).trans rfl, (uF BK101.out 2).trans rfl, (uF BK101.out 3).trans rfl⟩ (fun hHeld => ?_); refine with_tabW impl_BeltOk.tab7 impl_BeltOk.bits7 (fun HT_ HW_ => ?_)
                generalize w70.drew = w71 at BK101 BK103 HB HR107 hHeld ⊢
                refine pu 0 (some 40) #[T,F,F,F,F,F,F,F,F,F,F,F,F,F,F,F,F,F,F,F,F,F,F,F,F,F,F,F,F,F,F,F,F,F,F] HT_ ?_
                refine tk 1 (some 41) #[T,T,F,F,F,F,F,F,F,F,F,F,F,F,F,F,F,F,F,F,F,F,F,F,F,F,F,F,F,F,F,F,F,F,F] HT_ HW_ hHeld ?_
                refine pu 2 (some 42) #[T,T,T,F,F,F,F,F,F,F,F,F,F,F,F,F,F,F,F,F,F,F,F,F,F,F,F,F,F,F,F,F,F,F,F] HT_ ?_
                refine pu 3 (some 43) #[T,T,T,T,F,F,F,F,F,F,F,F,F,F,F,F,F,F,F,F,F,F,F,F,F,F,F,F,F,F,F,F,F,F,F] HT_ ?_
                refine pu 4 (some 44) #[T,T,T,T,T,F,F,F,F,F,F,F,F,F,F,F,F,F,F,F,F,F,F,F,F,F,F,F,F,F,F,F,F,F,F] HT_ ?_
                refine pu 6 (some 46) #[T,T,T,T,T,F,T,F,F,F,F,F,F,F,F,F,F,F,F,F,F,F,F,F,F,F,F,F,F,F,F,F,F,F,F] HT_ ?_
                refine pu 8 (some 48) #[T,T,T,T,T,F,T,F,T,F,F,F,F,F,F,F,F,F,F,F,F,F,F,F,F,F,F,F,F,F,F,F,F,F,F] HT_ ?_
                refine tk 5 (some 45) #[T,T,T,T,T,T,T,F,T,F,F,F,F,F,F,F,F,F,F,F,F,F,F,F,F,F,F,F,F,F,F,F,F,F,F] HT_ HW_ hHeld ?_
                refine pu 7 (some 47) #[T,T,T,T,T,T,T,T,T,F,F,F,F,F,F,F,F,F,F,F,F,F,F,F,F,F,F,F,F,F,F,F,F,F,F] HT_ ?_
                refine tk 9 (some 49) #[T,T,T,T,T,T,T,T,T,T,F,F,F,F,F,F,F,F,F,F,F,F,F,F,F,F,F,F,F,F,F,F,F,F,F] HT_ HW_ hHeld ?_
                refine one_ (i := 10) (N := some 50) #[T,T,T,T,T,T,T,T,T,T,T,F,F,F,F,F,F,F,F,F,F,F,F,F,F,F,F,F,F,F,F,F,F,F,F] rfl rfl (one_of HT_.out (by kernel_rfl)) (by decide) (fun K hK => ?_)
                refine goes_ Try.func50 (by kernel_rfl) rfl #[.slice (some ad102) y104.length c0_3, .int .i64 ((rd_T53 l0_3 x35_2).f0)] (by rfl) rfl rfl (by (try simp only [List.map_toArray, List.map_cons, List.map_nil]); first | done | rfl | (simp only [List.length_drop, List.length_take]; rfl)) ?_
                with_reducible refine (impl_isOn.calls _ _ y104 ((rd_T53 l0_3 x35_2).f0) false _ ?side1 ?side2 A26.out).mono ?_
                (case side1 => exact pc (Kd.C_below HR107.out HB.out))
                (case side2 => exact HC107.out)
                rintro e w73 ⟨rfl, hb⟩
                refine ⟨_, rfl, ?_⟩
                replace BK101 := uD (blk_below (pk BK101) hb)
                replace BK103 := uD (blk_below (pk BK103) hb)
                replace HB := uD (uO (pb HB) hb)
                (try clear hb)
                (try clear hb2)
                (try clear hk)
                (try clear hi)
                refine hK.out _ _ ⟨(uF BK103.out 0).trans rfl, (uF BK103.out 1).trans rfl, (uF BK103.out 2).trans rfl, (uF BK101.out 0).trans rfl, (uF BK101.out 1).trans rfl, (uF BK101.out 2).trans rfl, (uF BK101.out 3).trans rfl⟩ (fun hHeld => ?_)
                clear hK K
                refine norm_ (a' := ?_) ?_ ?_
                rotate_left
                ·show uc _ (some 50) _ = _
                 simp only [uc, uA, uB, uC, uZ, ua]
                 rfl
                refine pu 11 (some 51) #[T,T,T,T,T,T,T,T,T,T,T,T,F,F,F,F,F,F,F,F,F,F,F,F,F,F,F,F,F,F,F,F,F,F,F] HT_ ?_
                refine pu 12 (some 52) #[T,T,T,T,T,T,T,T,T,T,T,T,T,F,F,F,F,F,F,F,F,F,F,F,F,F,F,F,F,F,F,F,F,F,F] HT_ ?_
                refine pu 13 (some 53) #[T,T,T,T,T,T,T,T,T,T,T,T,T,T,F,F,F,F,F,F,F,F,F,F,F,F,F,F,F,F,F,F,F,F,F] HT_ ?_
                refine tk 14 (some 54) #[T,T,T,T,T,T,T,T,T,T,T,T,T,T,T,F,F,F,F,F,F,F,F,F,F,F,F,F,F,F,F,F,F,F,F] HT_ HW_ hHeld ?_
                refine pu 15 (some 55) #[T,T,T,T,T,T,T,T,T,T,T,T,T,T,T,T,F,F,F,F,F,F,F,F,F,F,F,F,F,F,F,F,F,F,F] HT_ ?_
                refine pu 16 (some 56) #[T,T,T,T,T,T,T,T,T,T,T,T,T,T,T,T,T,F,F,F,F,F,F,F,F,F,F,F,F,F,F,F,F,F,F] HT_ ?_
                refine pu 17 (some 57) #[T,T,T,T,T,T,T,T,T,T,T,T,T,T,T,T,T,T,F,F,F,F,F,F,F,F,F,F,F,F,F,F,F,F,F] HT_ ?_
                refine pu 18 (some 58) #[T,T,T,T,T,T,T,T,T,T,T,T,T,T,T,T,T,T,T,F,F,F,F,F,F,F,F,F,F,F,F,F,F,F,F] HT_ ?_
                refine tk 19 (some 59) #[T,T,T,T,T,T,T,T,T,T,T,T,T,T,T,T,T,T,T,T,F,F,F,F,F,F,F,F,F,F,F,F,F,F,F] HT_ HW_ hHeld ?_
                refine pu 20 (some 60) #[T,T,T,T,T,T,T,T,T,T,T,T,T,T,T,T,T,T,T,T,T,F,F,F,F,F,F,F,F,F,F,F,F,F,F] HT_ ?_
                refine pu 21 (some 61) #[T,T,T,T,T,T,T,T,T,T,T,T,T,T,T,T,T,T,T,T,T,T,F,F,F,F,F,F,F,F,F,F,F,F,F] HT_ ?_
                refine pu 22 (some 62) #[T,T,T,T,T,T,T,T,T,T,T,T,T,T,T,T,T,T,T,T,T,T,T,F,F,F,F,F,F,F,F,F,F,F,F] HT_ ?_
                refine pu 23 (some 63) #[T,T,T,T,T,T,T,T,T,T,T,T,T,T,T,T,T,T,T,T,T,T,T,T,F,F,F,F,F,F,F,F,F,F,F] HT_ ?_
                refine pu 25 (some 65) #[T,T,T,T,T,T,T,T,T,T,T,T,T,T,T,T,T,T,T,T,T,T,T,T,F,T,F,F,F,F,F,F,F,F,F] HT_ ?_
                refine tk 24 (some 64) #[T,T,T,T,T,T,T,T,T,T,T,T,T,T,T,T,T,T,T,T,T,T,T,T,T,T,F,F,F,F,F,F,F,F,F] HT_ HW_ hHeld ?_
                refine tk 26 (some 66) #[T,T,T,T,T,T,T,T,T,T,T,T,T,T,T,T,T,T,T,T,T,T,T,T,T,T,T,F,F,F,F,F,F,F,F] HT_ HW_ hHeld ?_
                refine pu 27 (some 67) #[T,T,T,T,T,T,T,T,T,T,T,T,T,T,T,T,T,T,T,T,T,T,T,T,T,T,T,T,F,F,F,F,F,F,F] HT_ ?_
                refine pu 28 (some 68) #[T,T,T,T,T,T,T,T,T,T,T,T,T,T,T,T,T,T,T,T,T,T,T,T,T,T,T,T,T,F,F,F,F,F,F] HT_ ?_
                refine pu 29 (some 69) #[T,T,T,T,T,T,T,T,T,T,T,T,T,T,T,T,T,T,T,T,T,T,T,T,T,T,T,T,T,T,F,F,F,F,F] HT_ ?_
                refine pu 30 (some 70) #[T,T,T,T,T,T,T,T,T,T,T,T,T,T,T,T,T,T,T,T,T,T,T,T,T,T,T,T,T,T,T,F,F,F,F] HT_ ?_
                refine pu 32 (some 72) #[T,T,T,T,T,T,T,T,T,T,T,T,T,T,T,T,T,T,T,T,T,T,T,T,T,T,T,T,T,T,T,F,T,F,F] HT_ ?_
                refine tk 31 (some 71) #[T,T,T,T,T,T,T,T,T,T,T,T,T,T,T,T,T,T,T,T,T,T,T,T,T,T,T,T,T,T,T,T,T,F,F] HT_ HW_ hHeld ?_
                refine pu 33 (some 73) #[T,T,T,T,T,T,T,T,T,T,T,T,T,T,T,T,T,T,T,T,T,T,T,T,T,T,T,T,T,T,T,T,T,T,F] HT_ ?_
                refine pu 34 (some 74) #[T,T,T,T,T,T,T,T,T,T,T,T,T,T,T,T,T,T,T,T,T,T,T,T,T,T,T,T,T,T,T,T,T,T,T] HT_ ?_
                refine done_ (done_of HT_.out (by kernel_rfl)) ?_
                obtain ⟨hcz74_0, hcz74_1, hcz74_2, hfz74_0, hfz74_1, hfz74_2⟩ := cz3 BK103
                obtain ⟨hcz75_0, hcz75_1, hcz75_2, hcz75_3, hfz75_0, hfz75_1, hfz75_2, hfz75_3⟩ := cz4 BK101
                try go_wp2
                go_roundg k2
                case measure => have := HJ1.out; have := HK2.out; omega
                case rel => exact ⟨(wrap64 ((wrap64 (((rd_T53 l0_3 x35_2).f1) - ((rd_T53 l0_3 x35_2).f2))) - a0_1)), (wrap64 (x35_2 + 1)), (by first | rfl | (simp; done) | (simp [*]; done)), (by first | rfl | (simp; done) | (simp [*]; done)), H', ⟨by have := HJ1.out; have := HK2.out; omega⟩, ⟨by (with_reducible repeat first|apply uH|apply uJ|apply uG); exact BK101.out⟩, ⟨pb HB⟩⟩
          ·rw [if_neg c25] at H
           exact absurd H (by simp)
        ·rw [if_neg c17] at H
         exact absurd H (by simp)
       ·rw [if_neg c16] at H
        exact absurd H (by simp)
      ·rw [if_neg c15] at H
       have c15b0 : decide (x35_2 < (l0_3.length : Int)) = false := decide_eq_false c15
       clear c15
       obtain rfl := Option.some.inj H
       go_wp2
       go_ret
       exact ⟨by first | rfl | (simp [errW_none, errW_some] <;> rfl) | (simp [*, errW_none, errW_some] <;> rfl), pb HB⟩

end Go.Proofs.Ytbdjbdoelbmjcaa.PFnBeltEnters
