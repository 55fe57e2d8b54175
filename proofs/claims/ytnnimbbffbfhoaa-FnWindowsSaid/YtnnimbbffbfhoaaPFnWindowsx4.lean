-- Written by a program of this session (wip/myprint.py: the kit's print with changes): not by print.sh itself.
import Derived.Test.YtnnimbbffbfhoaaPFnWindowsx0
import Derived.Test.YtnnimbbffbfhoaaPFnWindowsx2
import Derived.Test.YtnnimbbffbfhoaaPFnWindowsx3
namespace Go.Proofs.Ytnnimbbffbfhoaa.PFnWindows
open Go.RowKit Go.Proofs.YtnnimbbffbfhoaaW.PrintWords Go.Proofs.YtnnimbbffbfhoaaW.PrintLast Go.Proofs.YtnnimbbffbfhoaaW.PrintMore
open Go renaming Act.put → uc
open Go.Proofs.YtnnimbbffbfhoaaW.PrintLast renaming any_of → uY, i64_w → uZ, i32_w → ua, pure_ → ub
open Go.Proofs.YtnnimbbffbfhoaaW.PrintWords renaming Aside0.mk → uD, pw_below_drewN → uE, blk_cell → uF, blk_alloc → uG, blk_drewN → uH, blk_frozen → uI, blk_drew → uJ, below_drew1 → uK, below_alloc → uL, below_set → uM, below_size → uN, below_step → uO, Kd.R_drewN → uS, Kd.R_drew → uT, Kd.R_alloc → uU, Kd.R_mono → uX
open List renaming setIfInBounds_toArray → uA, set_cons_zero → uB, set_cons_succ → uC
attribute [local go_sem] max2_int min2_int max_two min_two max_three min_three max_four min_four   -- for this text's walks alone
set_option linter.unusedVariables false
set_option linter.unusedSimpArgs false

/-! ### spec_Clamp: function 76 -/
def spec_Clamp.j0 : Nat → Int → Int → Int → Bool → Option (Int)
 | 0, _, _, _, _ => none
 | k + 1, x0, x1, x2, x14 => if x14 = true then (some x1) else (if x0 > x2 then (some x2) else (some x0))
def spec_Clamp.f (k : Nat) (a0 : Int) (a1 : Int) (a2 : Int) : Option (Int) := if a2 < a1 then (spec_Clamp.j0 k a0 a1 a2 true) else (spec_Clamp.j0 k a0 a1 a2 (decide (a0 < a1)))
theorem spec_Clamp.mono_l : ∀ k, (∀ y0 y1 y2 y3, LeO (spec_Clamp.j0 k y0 y1 y2 y3) (spec_Clamp.j0 (k + 1) y0 y1 y2 y3))
 | 0 => fun _ _ _ _ r h => by simp [spec_Clamp.j0] at h
 | k + 1 => by
  have ih0 := spec_Clamp.mono_l k
  ·intro y0 y1 y2 y3
   unfold spec_Clamp.j0
   repeat' first
   | (with_reducible exact ih0 _ _ _ _)
   | (with_reducible exact LeO.refl _)
   | (with_reducible exact LeO.none _)
   | (with_reducible refine LeO.ite ?_ ?_)
   | (with_reducible refine LeO.bind ?_ (fun _ => ?_))
   | exact ih0 _ _ _ _
   | exact LeO.none _
   | refine LeO.ite ?_ ?_
   | refine LeO.bind ?_ (fun _ => ?_)
theorem spec_Clamp.mono : ∀ a0 a1 a2 k, LeO (spec_Clamp.f k a0 a1 a2) (spec_Clamp.f (k + 1) a0 a1 a2) := by
 intro a0 a1 a2 k
 have ih0 := spec_Clamp.mono_l k
 unfold spec_Clamp.f
 repeat' first
   | (with_reducible exact ih0 _ _ _ _)
   | (with_reducible exact LeO.refl _)
   | (with_reducible exact LeO.none _)
   | (with_reducible refine LeO.ite ?_ ?_)
   | (with_reducible refine LeO.bind ?_ (fun _ => ?_))
   | exact ih0 _ _ _ _
   | exact LeO.none _
   | refine LeO.ite ?_ ?_
   | refine LeO.bind ?_ (fun _ => ?_)
set_option maxHeartbeats 8000000 in
set_option maxRecDepth 100000 in
theorem spec_Clamp.calls (k : Nat) (a0 : Int) (a1 : Int) (a2 : Int) (r : Int) (w : World) (h : spec_Clamp.f k a0 a1 a2 = some r) :
  Calls Try.prog 76 #[.int .i64 a0, .int .i64 a1, .int .i64 a2] w fun e w' => e = .returned (.int .i64 r) ∧ Drawn0 w w' := by
 have H : (if a2 < a1 then (spec_Clamp.j0 k a0 a1 a2 true) else (spec_Clamp.j0 k a0 a1 a2 (decide (a0 < a1)))) = some r := h
 clear h
 have HC4 := uD H
 clear H
 go_enter Try.func76, Try.ntmps76
 go_upto_region 1 with (fail)
 go_cut [14] (fun v14 wc => ∃ (kq : Nat) (x14_3 : Bool), v14 = .bool x14_3 ∧ Aside0 (spec_Clamp.j0 kq a0 a1 a2 x14_3 = some r) ∧ Aside0 (kq ≤ k) ∧ Drawn0 w wc)
 case first =>
  have H := HC4.out
  clear HC4
  by_cases c5 : a2 < a1
  ·rw [if_pos c5] at H
   have c5b0 : decide (a2 < a1) = true := decide_eq_true c5
   clear c5
   (first | rw [c5b0] | (simp only [uZ, ua]; rw [c5b0]) | skip)
   have H' := uD H
   clear H
   go_wp2
   go_meet
   case rel => exact ⟨_, (true), (by first | rfl | (simp; done) | (simp [*]; done)), H', ⟨by first | omega | exact Nat.le_refl _⟩, by repeat (first | exact Drawn0.refl _ | apply Drawn0.step)⟩
  ·rw [if_neg c5] at H
   have c5b0 : decide (a2 < a1) = false := decide_eq_false c5
   clear c5
   (first | rw [c5b0] | (simp only [uZ, ua]; rw [c5b0]) | skip)
   have H' := uD H
   clear H
   go_wp2
   go_meet
   case rel => exact ⟨_, (decide (a0 < a1)), (by first | rfl | (simp; done) | (simp [*]; done)), H', ⟨by first | omega | exact Nat.le_refl _⟩, by repeat (first | exact Drawn0.refl _ | apply Drawn0.step)⟩
 case rest =>
  clear HC4
  try clear p2
  try clear c5
  try clear c5b0
  obtain ⟨kq, x14_3, rfl, HA, HJ3, ⟨mc3, rfl⟩⟩ := hcut
  cases kq with
  | zero => exact absurd HA.out (by simp [spec_Clamp.j0])
  | succ kj3 =>
   have H := HA.out
   clear HA
   simp only [spec_Clamp.j0] at H
   by_cases c6 : x14_3 = true
   ·subst c6
    have H1 : (some a1) = some r := by rw [if_pos rfl] at H; first | done | exact H
    clear H
    have H := H1
    clear H1
    obtain rfl := Option.some.inj H
    go_wp2
    go_ret
    exact ⟨by first | rfl | (simp; done) | (simp [*]; done), by repeat (first | exact Drawn0.refl _ | apply Drawn0.step)⟩
   ·replace c6 := Bool.eq_false_iff.mpr c6
    subst c6
    have H1 : (if a0 > a2 then (some a2) else (some a0)) = some r := by rw [if_neg (show ¬ (false = true) by decide)] at H; first | done | exact H
    clear H
    have H := H1
    clear H1
    by_cases c7 : a0 > a2
    ·rw [if_pos c7] at H
     have c7b0 : decide (a2 < a0) = true := decide_eq_true c7
     clear c7
     obtain rfl := Option.some.inj H
     go_wp2
     go_ret
     exact ⟨by first | rfl | (simp; done) | (simp [*]; done), by repeat (first | exact Drawn0.refl _ | apply Drawn0.step)⟩
    ·rw [if_neg c7] at H
     have c7b0 : decide (a2 < a0) = false := decide_eq_false c7
     clear c7
     obtain rfl := Option.some.inj H
     go_wp2
     go_ret
     exact ⟨by first | rfl | (simp; done) | (simp [*]; done), by repeat (first | exact Drawn0.refl _ | apply Drawn0.step)⟩

/-! ### spec_Windows: function 38 -/
mutual
def spec_Windows.j0 : Nat → Int → Int → Int → List (S47) → Bool → Int → Int → Bool → List (S74) → Option ((List (S47)) × Bool)
 | 0, _, _, _, _, _, _, _, _, _ => none
 | k + 1, x1, x2, x3, x10, x33, x112000, x112001, x112002, x112003 => if x33 = true then (some (x10, false)) else (spec_Windows.l0 k x1 x2 x3 x10 0 x112000 x112001 x112002 x112003)
def spec_Windows.l0 : Nat → Int → Int → Int → List (S47) → Int → Int → Int → Bool → List (S74) → Option ((List (S47)) × Bool)
 | 0, _, _, _, _, _, _, _, _, _ => none
 | k + 1, x1, x2, x3, x10, x11, x112000, x112001, x112002, x112003 => if x11 < (x112003.length : Int) then (if 0 ≤ x11 then (if ((rd_T74 x112003 x11).f1) ≥ x1 then (spec_Windows.l0 k x1 x2 x3 x10 (wrap64 (x11 + 1)) x112000 x112001 x112002 x112003) else ((spec_Clamp.f k (wrap64 ((wrap64 ((wrap64 (x2 + x1)) - ((rd_T74 x112003 x11).f1))) - x3)) 0 100000).bind fun t125 => ((spec_Clamp.f k (wrap64 ((wrap64 ((wrap64 (x2 + x1)) - ((rd_T74 x112003 x11).f1))) + x3)) 0 100000).bind fun t126 => (if x10.length < 5864062014805 then (spec_Windows.l0 k x1 x2 x3 (x10 ++ [(⟨(rd_T74 x112003 x11).f0, t125, t126⟩ : S47)]) (wrap64 (x11 + 1)) x112000 x112001 x112002 x112003) else (none))))) else (none)) else (if (x10.length : Int) > 6 then (some ((([] : List (S47))), false)) else (some (x10, true)))
end
def spec_Windows.f (k : Nat) (a0_0 : Int) (a0_1 : Int) (a0_2 : Bool) (l0_3 : List (S74)) (a1 : Int) (a2 : Int) (a3 : Int) : Option ((List (S47)) × Bool) := (some (([] : List (S47)) : List (S47))).bind fun y112 => ((spec_BeltOk.f k a0_0 a0_1 a0_2 l0_3).bind fun t115 => (if t115 = true then ((spec_l01In.f a1 1 a0_0).bind fun t116 => (if t116 = true then ((spec_l01In.f a2 0 100000).bind fun t117 => (if t117 = true then ((spec_l01In.f a3 0 100000).bind fun t118 => (spec_Windows.j0 k a1 a2 a3 y112 (!t118) a0_0 a0_1 a0_2 l0_3)) else (spec_Windows.j0 k a1 a2 a3 y112 true a0_0 a0_1 a0_2 l0_3))) else (spec_Windows.j0 k a1 a2 a3 y112 true a0_0 a0_1 a0_2 l0_3))) else (spec_Windows.j0 k a1 a2 a3 y112 true a0_0 a0_1 a0_2 l0_3)))
theorem spec_Windows.mono_l : ∀ k, (∀ y0 y1 y2 y3 y4 y5 y6 y7 y8, LeO (spec_Windows.j0 k y0 y1 y2 y3 y4 y5 y6 y7 y8) (spec_Windows.j0 (k + 1) y0 y1 y2 y3 y4 y5 y6 y7 y8)) ∧ (∀ y0 y1 y2 y3 y4 y5 y6 y7 y8, LeO (spec_Windows.l0 k y0 y1 y2 y3 y4 y5 y6 y7 y8) (spec_Windows.l0 (k + 1) y0 y1 y2 y3 y4 y5 y6 y7 y8))
 | 0 => ⟨fun _ _ _ _ _ _ _ _ _ r h => by simp [spec_Windows.j0] at h, fun _ _ _ _ _ _ _ _ _ r h => by simp [spec_Windows.l0] at h⟩
 | k + 1 => by
  obtain ⟨ih0, ih1⟩ := spec_Windows.mono_l k
  refine ⟨?_, ?_⟩
  ·intro y0 y1 y2 y3 y4 y5 y6 y7 y8
   unfold spec_Windows.j0
   repeat' first
   | (with_reducible exact ih0 _ _ _ _ _ _ _ _ _)
   | (with_reducible exact ih1 _ _ _ _ _ _ _ _ _)
   | (with_reducible exact spec_BeltOk.mono _ _ _ _ _)
   | (with_reducible exact spec_Clamp.mono _ _ _ _)
   | (with_reducible exact LeO.refl _)
   | (with_reducible exact LeO.none _)
   | (with_reducible refine LeO.ite ?_ ?_)
   | (with_reducible refine LeO.bind ?_ (fun _ => ?_))
   | exact ih0 _ _ _ _ _ _ _ _ _
   | exact ih1 _ _ _ _ _ _ _ _ _
   | exact spec_BeltOk.mono _ _ _ _ _
   | exact spec_Clamp.mono _ _ _ _
   | exact LeO.none _
   | refine LeO.ite ?_ ?_
   | refine LeO.bind ?_ (fun _ => ?_)
  ·intro y0 y1 y2 y3 y4 y5 y6 y7 y8
   unfold spec_Windows.l0
   repeat' first
   | (with_reducible exact ih0 _ _ _ _ _ _ _ _ _)
   | (with_reducible exact ih1 _ _ _ _ _ _ _ _ _)
   | (with_reducible exact spec_BeltOk.mono _ _ _ _ _)
   | (with_reducible exact spec_Clamp.mono _ _ _ _)
   | (with_reducible exact LeO.refl _)
   | (with_reducible exact LeO.none _)
   | (with_reducible refine LeO.ite ?_ ?_)
   | (with_reducible refine LeO.bind ?_ (fun _ => ?_))
   | exact ih0 _ _ _ _ _ _ _ _ _
   | exact ih1 _ _ _ _ _ _ _ _ _
   | exact spec_BeltOk.mono _ _ _ _ _
   | exact spec_Clamp.mono _ _ _ _
   | exact LeO.none _
   | refine LeO.ite ?_ ?_
   | refine LeO.bind ?_ (fun _ => ?_)
theorem spec_Windows.mono : ∀ a0 a1 a2 a3 a4 a5 a6 k, LeO (spec_Windows.f k a0 a1 a2 a3 a4 a5 a6) (spec_Windows.f (k + 1) a0 a1 a2 a3 a4 a5 a6) := by
 intro a0 a1 a2 a3 a4 a5 a6 k
 obtain ⟨ih0, ih1⟩ := spec_Windows.mono_l k
 unfold spec_Windows.f
 repeat' first
   | (with_reducible exact ih0 _ _ _ _ _ _ _ _ _)
   | (with_reducible exact ih1 _ _ _ _ _ _ _ _ _)
   | (with_reducible exact spec_BeltOk.mono _ _ _ _ _)
   | (with_reducible exact spec_Clamp.mono _ _ _ _)
   | (with_reducible exact LeO.refl _)
   | (with_reducible exact LeO.none _)
   | (with_reducible refine LeO.ite ?_ ?_)
   | (with_reducible refine LeO.bind ?_ (fun _ => ?_))
   | exact ih0 _ _ _ _ _ _ _ _ _
   | exact ih1 _ _ _ _ _ _ _ _ _
   | exact spec_BeltOk.mono _ _ _ _ _
   | exact spec_Clamp.mono _ _ _ _
   | exact LeO.none _
   | refine LeO.ite ?_ ?_
   | refine LeO.bind ?_ (fun _ => ?_)
def spec_Windows.T9 : Bool × List (List Nat × List Nat) := (true, [([], []), ([], []), ([1], [1]), ([], []), ([2, 3], [2, 3]), ([4], [4]), ([5], [5]), ([], []), ([], []), ([7, 8], [7, 8]), ([9], [9]), ([], []), ([], []), ([11, 12], [11, 12]), ([13, 10], [13]), ([6, 10, 14], [6, 10, 14]), ([15], [15]), ([0, 16, 14], [0, 16]), ([17, 17, 0, 1, 2, 3, 4, 5, 6, 7, 8, 9, 10, 11, 12, 13, 14, 15, 16, 17], [0, 17])])
def spec_Windows.B9 : List Nat := [0, 0, 2, 0, 14, 30, 62, 0, 0, 384, 896, 0, 0, 6144, 16256, 32766, 65534, 131071, 262143]
theorem spec_Windows.tab9 : rtab .any (opsOf Try.f38 9) = spec_Windows.T9 := by kernel_rfl
theorem spec_Windows.bits9 : waitsOk spec_Windows.T9.2 spec_Windows.B9 = true := by kernel_rfl
set_option maxHeartbeats 8000000 in
set_option maxRecDepth 100000 in
theorem spec_Windows.calls (k : Nat) (a0_0 : Int) (a0_1 : Int) (a0_2 : Bool) (A0_3 : Option Addr) (c0_3 : Nat) (l0_3 : List (S74)) (a1 : Int) (a2 : Int) (a3 : Int) (r1 : List (S47)) (r2 : Bool) (w : World) (hr0_3 : Kd.C k74 w A0_3 l0_3.length l0_3) (hc0_3 : l0_3.length ≤ c0_3) (h : spec_Windows.f k a0_0 a0_1 a0_2 l0_3 a1 a2 a3 = some (r1, r2)) :
  Calls Try.prog 38 #[.agg #[.int .i64 a0_0, .int .i64 a0_1, .bool a0_2, .slice A0_3 l0_3.length c0_3], .int .i64 a1, .int .i64 a2, .int .i64 a3] w fun e w' => ∃ v0_ : Value, e = .returned (.tuple #[v0_, .bool r2]) ∧ Kd.R k47 47 w' w.heap.size (fun _ => True) v0_ r1 ∧ Below w.heap.size w w' := by
 have hu63 := Try.underlying63
 have hu47 := Try.underlying47
 have HR0_3 := uD hr0_3
 have HC0_3 := uD hc0_3
 clear hr0_3 hc0_3
 have HB := uD (Below.refl w.heap.size w)
 have H : ((some (([] : List (S47)) : List (S47))).bind fun y112 => ((spec_BeltOk.f k a0_0 a0_1 a0_2 l0_3).bind fun t115 => (if t115 = true then ((spec_l01In.f a1 1 a0_0).bind fun t116 => (if t116 = true then ((spec_l01In.f a2 0 100000).bind fun t117 => (if t117 = true then ((spec_l01In.f a3 0 100000).bind fun t118 => (spec_Windows.j0 k a1 a2 a3 y112 (!t118) a0_0 a0_1 a0_2 l0_3)) else (spec_Windows.j0 k a1 a2 a3 y112 true a0_0 a0_1 a0_2 l0_3))) else (spec_Windows.j0 k a1 a2 a3 y112 true a0_0 a0_1 a0_2 l0_3))) else (spec_Windows.j0 k a1 a2 a3 y112 true a0_0 a0_1 a0_2 l0_3)))) = some (r1, r2) := h
 clear h
 obtain ⟨y112, hy112⟩ : ∃ y_ : List (S47), y_ = (([] : List (S47))) := ⟨_, rfl⟩
 replace H : ((spec_BeltOk.f k a0_0 a0_1 a0_2 l0_3).bind fun t115 => (if t115 = true then ((spec_l01In.f a1 1 a0_0).bind fun t116 => (if t116 = true then ((spec_l01In.f a2 0 100000).bind fun t117 => (if t117 = true then ((spec_l01In.f a3 0 100000).bind fun t118 => (spec_Windows.j0 k a1 a2 a3 y112 (!t118) a0_0 a0_1 a0_2 l0_3)) else (spec_Windows.j0 k a1 a2 a3 y112 true a0_0 a0_1 a0_2 l0_3))) else (spec_Windows.j0 k a1 a2 a3 y112 true a0_0 a0_1 a0_2 l0_3))) else (spec_Windows.j0 k a1 a2 a3 y112 true a0_0 a0_1 a0_2 l0_3))) = some (r1, r2) := by first | (rw [hy112]; with_reducible exact H) | (have H2_ := (Option.bind_some _ _).symm.trans H; rw [hy112]; with_reducible exact H2_) | (have H2_ := (Option.bind_some _ _).symm.trans H; with_reducible exact H2_) | with_reducible exact H | (rw [hy112]; exact H) | exact H
 have Ny112 := uD hy112
 clear hy112
 have HC5 := uD H
 clear H
 go_enter Try.func38, Try.ntmps38
 go_upto_region 2 with (first | ((with_reducible refine gate_dst (N := 4) rfl ?_); refine box_event ?hg (N := 4) ?hd (cs := #[.int .i64 a0_0, .int .i64 a0_1, .bool a0_2, .slice A0_3 l0_3.length c0_3]) (t := 63) ?hr ?_; (case hd => rfl); (case hg => rfl); (case hr => first | (go_simp; done) | (go_simp; rfl)); intro gb111 hg w6 hbox hb; have n0_ := uD (uO (by repeat (first | (with_reducible first | exact HB.out | apply uL | apply uE | apply uK) | exact HB.out)) hb); have n1_ := uD (hbox); have n2_ := uD ((by rw [hg]; exact (uN (by repeat (first | (with_reducible first | exact HB.out | apply uL | apply uE | apply uK) | exact HB.out))) : w.heap.size ≤ gb111)); have n3_ := uD ((by rw [hg]; exact (uN (by repeat (first | (with_reducible first | exact HB.out | apply uL | apply uE | apply uK) | exact HB.out))) : w.heap.size ≤ gb111)); clear HB; have HB := n0_; have BK111 := n1_; have GW111 := n2_; have GE111 := n3_; clear n0_ n1_ n2_ n3_; clear hb hbox hg) | ((with_reducible refine gate_dst (N := 13) rfl ?_); refine Kd.R_lit k47 _ 47 ?hg (N := 13) ?hd (xs := ([] : List (S47))) (inner := []) (ok := fun _ => True) (okp := fun _ => True) ?hr ?hp (fun _ hk => hk) trivial (Below.refl _ _) (Nat.le_refl _) (by simp) ?_; (case hd => rfl); (case hg => rfl); (case hr => first | (go_simp; done) | (go_simp; rfl)); (case hp => exact (Reps.none _ _)); intro v113 w7 ho8 hb hg_ hnew_; clear hg_ hnew_; (first | rw [← Ny112.out] at ho8 | (simp only [Int.reduceToNat] at ho8; rw [← Ny112.out] at ho8)); have n0_ := uD (Kd.R_lower ho8 (uN (by repeat (first | (with_reducible first | exact HB.out | apply uL | apply uE | apply uK | refine uM ?_ GE111.out) | exact HB.out)))); have n1_ := uD (blk_below (g := gb111) (o := .cells #[.int .i64 a0_0, .int .i64 a0_1, .bool a0_2, .slice A0_3 l0_3.length c0_3] 63 (0, 0)) (by (with_reducible repeat (first | refine uH ?_ _ | refine uJ ?_ | refine uG ?_ _)); exact BK111.out) hb); have n2_ := uD (uO (by repeat (first | (with_reducible first | exact HB.out | apply uL | apply uE | apply uK | refine uM ?_ GE111.out) | exact HB.out)) hb); clear BK111; clear HB; have HO114 := n0_; have BK111 := n1_; have HB := n2_; clear n0_ n1_ n2_; clear hb ho8))
 (try simp only [uc, uA, uB, uC])
 go_cut [33] (fun v33 wc => ∃ (kq : Nat) (x33_4 : Bool), v33 = .bool x33_4 ∧ Aside0 (spec_Windows.j0 kq a1 a2 a3 y112 x33_4 a0_0 a0_1 a0_2 l0_3 = some (r1, r2)) ∧ Aside0 (kq ≤ k) ∧ Aside0 (Kd.R k47 47 wc w.heap.size (fun _ => True) v113 y112) ∧ Aside0 (wc.heap[gb111]? = some (.cells #[.int .i64 a0_0, .int .i64 a0_1, .bool a0_2, (.slice A0_3 l0_3.length c0_3)] 63 (0, 0))) ∧ Aside0 (Below w.heap.size w wc))
 case first =>
  have H := HC5.out
  clear HC5
  replace H := Option.bind_eq_some_iff.mp H
  obtain ⟨t115, A90, H⟩ := H
  replace H : (if t115 = true then ((spec_l01In.f a1 1 a0_0).bind fun t116 => (if t116 = true then ((spec_l01In.f a2 0 100000).bind fun t117 => (if t117 = true then ((spec_l01In.f a3 0 100000).bind fun t118 => (spec_Windows.j0 k a1 a2 a3 y112 (!t118) a0_0 a0_1 a0_2 l0_3)) else (spec_Windows.j0 k a1 a2 a3 y112 true a0_0 a0_1 a0_2 l0_3))) else (spec_Windows.j0 k a1 a2 a3 y112 true a0_0 a0_1 a0_2 l0_3))) else (spec_Windows.j0 k a1 a2 a3 y112 true a0_0 a0_1 a0_2 l0_3)) = some (r1, r2) := H
  have A9 := uD A90
  clear A90
  by_cases c10 : t115 = true
  ·subst c10
   have H1 : ((spec_l01In.f a1 1 a0_0).bind fun t116 => (if t116 = true then ((spec_l01In.f a2 0 100000).bind fun t117 => (if t117 = true then ((spec_l01In.f a3 0 100000).bind fun t118 => (spec_Windows.j0 k a1 a2 a3 y112 (!t118) a0_0 a0_1 a0_2 l0_3)) else (spec_Windows.j0 k a1 a2 a3 y112 true a0_0 a0_1 a0_2 l0_3))) else (spec_Windows.j0 k a1 a2 a3 y112 true a0_0 a0_1 a0_2 l0_3))) = some (r1, r2) := by rw [if_pos rfl] at H; first | done | exact H
   clear H
   have H := H1
   clear H1
   replace H := Option.bind_eq_some_iff.mp H
   obtain ⟨t116, A110, H⟩ := H
   replace H : (if t116 = true then ((spec_l01In.f a2 0 100000).bind fun t117 => (if t117 = true then ((spec_l01In.f a3 0 100000).bind fun t118 => (spec_Windows.j0 k a1 a2 a3 y112 (!t118) a0_0 a0_1 a0_2 l0_3)) else (spec_Windows.j0 k a1 a2 a3 y112 true a0_0 a0_1 a0_2 l0_3))) else (spec_Windows.j0 k a1 a2 a3 y112 true a0_0 a0_1 a0_2 l0_3)) = some (r1, r2) := H
   have A11 := uD A110
   clear A110
   by_cases c12 : t116 = true
   ·subst c12
    have H1 : ((spec_l01In.f a2 0 100000).bind fun t117 => (if t117 = true then ((spec_l01In.f a3 0 100000).bind fun t118 => (spec_Windows.j0 k a1 a2 a3 y112 (!t118) a0_0 a0_1 a0_2 l0_3)) else (spec_Windows.j0 k a1 a2 a3 y112 true a0_0 a0_1 a0_2 l0_3))) = some (r1, r2) := by rw [if_pos rfl] at H; first | done | exact H
    clear H
    have H := H1
    clear H1
    replace H := Option.bind_eq_some_iff.mp H
    obtain ⟨t117, A130, H⟩ := H
    replace H : (if t117 = true then ((spec_l01In.f a3 0 100000).bind fun t118 => (spec_Windows.j0 k a1 a2 a3 y112 (!t118) a0_0 a0_1 a0_2 l0_3)) else (spec_Windows.j0 k a1 a2 a3 y112 true a0_0 a0_1 a0_2 l0_3)) = some (r1, r2) := H
    have A13 := uD A130
    clear A130
    by_cases c14 : t117 = true
    ·subst c14
     have H1 : ((spec_l01In.f a3 0 100000).bind fun t118 => (spec_Windows.j0 k a1 a2 a3 y112 (!t118) a0_0 a0_1 a0_2 l0_3)) = some (r1, r2) := by rw [if_pos rfl] at H; first | done | exact H
     clear H
     have H := H1
     clear H1
     replace H := Option.bind_eq_some_iff.mp H
     obtain ⟨t118, A150, H⟩ := H
     replace H : (spec_Windows.j0 k a1 a2 a3 y112 (!t118) a0_0 a0_1 a0_2 l0_3) = some (r1, r2) := H
     have A15 := uD A150
     clear A150
     have H' := uD H
     clear H
     have hcz16_0 : w7.cell? ⟨gb111, 0, none⟩ = some (.int .i64 a0_0) := (uF BK111.out 0).trans rfl
     have hcz16_1 : w7.cell? ⟨gb111, 1, none⟩ = some (.int .i64 a0_1) := (uF BK111.out 1).trans rfl
     have hcz16_2 : w7.cell? ⟨gb111, 2, none⟩ = some (.bool a0_2) := (uF BK111.out 2).trans rfl
     have hcz16_3 : w7.cell? ⟨gb111, 3, none⟩ = some (.slice A0_3 l0_3.length c0_3) := (uF BK111.out 3).trans rfl
     have hfz16_0 := uI BK111.out 0
     have hfz16_1 := uI BK111.out 1
     have hfz16_2 := uI BK111.out 2
     have hfz16_3 := uI BK111.out 3
     go_wp2_with (first | ((with_reducible refine gate_callee (f := 75) rfl ?_); refine goesL_ (some 15) rfl rfl Try.func75 (by kernel_rfl) rfl #[.agg #[.int .i64 a0_0, .int .i64 a0_1, .bool a0_2, .slice A0_3 l0_3.length c0_3]] rfl (by (try simp only [List.map_toArray, List.map_cons, List.map_nil]); first | done | rfl | (simp only [List.length_drop, List.length_take]; rfl)) ?_; (with_reducible refine (spec_BeltOk.calls k a0_0 a0_1 a0_2 _ _ l0_3 true _ ?side1 ?side2 A9.out).mono ?_); (case side1 => repeat (first | exact (Kd.C_below HR0_3.out HB.out) | (with_reducible refine Kd.C_alloc ?_ _) | (with_reducible refine Kd.C_drewN ?_ _) | (with_reducible refine Kd.C_drew ?_))); (case side2 => exact HC0_3.out); rintro e w17 ⟨rfl, hb⟩; refine ⟨_, rfl, ?_⟩; have n0_ := uD (Kd.R_below (by (with_reducible repeat (first | apply uU | apply uS | apply uT)); exact HO114.out) hb); have n1_ := uD (blk_below (g := gb111) (o := .cells #[.int .i64 a0_0, .int .i64 a0_1, .bool a0_2, .slice A0_3 l0_3.length c0_3] 63 (0, 0)) (by (with_reducible repeat (first | refine uH ?_ _ | refine uJ ?_ | refine uG ?_ _)); exact BK111.out) hb); have n2_ := uD (uO (by repeat (first | (with_reducible first | exact HB.out | apply uL | apply uE | apply uK | refine uM ?_ GE111.out) | exact HB.out)) hb); clear HO114; clear BK111; clear HB; have HO114 := n0_; have BK111 := n1_; have HB := n2_; clear n0_ n1_ n2_; (try clear hb); (try clear hb2); (try clear hk); (try clear hi); have hcz18_0 : w17.cell? ⟨gb111, 0, none⟩ = some (.int .i64 a0_0) := (uF BK111.out 0).trans rfl; have hcz18_1 : w17.cell? ⟨gb111, 1, none⟩ = some (.int .i64 a0_1) := (uF BK111.out 1).trans rfl; have hcz18_2 : w17.cell? ⟨gb111, 2, none⟩ = some (.bool a0_2) := (uF BK111.out 2).trans rfl; have hcz18_3 : w17.cell? ⟨gb111, 3, none⟩ = some (.slice A0_3 l0_3.length c0_3) := (uF BK111.out 3).trans rfl; have hfz18_0 := uI BK111.out 0; have hfz18_1 := uI BK111.out 1; have hfz18_2 := uI BK111.out 2; have hfz18_3 := uI BK111.out 3) | (go_at_call 57; (with_reducible refine (spec_l01In.calls a1 1 a0_0 true _ A11.out).mono ?_); rintro e w' ⟨rfl, ⟨nd, rfl⟩⟩) | (go_at_call 57; (with_reducible refine (spec_l01In.calls a2 0 100000 true _ A13.out).mono ?_); rintro e w' ⟨rfl, ⟨nd, rfl⟩⟩) | (go_at_call 57; (with_reducible refine (spec_l01In.calls a3 0 100000 t118 _ A15.out).mono ?_); rintro e w' ⟨rfl, ⟨nd, rfl⟩⟩))
     go_meet
     case rel => exact ⟨_, (!t118), (by first | rfl | (simp; done) | (simp [*]; done)), H', ⟨by first | omega | exact Nat.le_refl _⟩, ⟨by (with_reducible repeat (first | apply uU | apply uS | apply uT)); exact HO114.out⟩, ⟨by (with_reducible repeat (first | refine uH ?_ _ | refine uJ ?_ | refine uG ?_ _)); exact BK111.out⟩, ⟨by repeat (first | (with_reducible first | exact HB.out | apply uL | apply uE | apply uK | refine uM ?_ GE111.out) | exact HB.out)⟩⟩
    ·replace c14 := Bool.eq_false_iff.mpr c14
     subst c14
     have H1 : (spec_Windows.j0 k a1 a2 a3 y112 true a0_0 a0_1 a0_2 l0_3) = some (r1, r2) := by rw [if_neg (show ¬ (false = true) by decide)] at H; first | done | exact H
     clear H
     have H := H1
     clear H1
     have H' := uD H
     clear H
     have hcz19_0 : w7.cell? ⟨gb111, 0, none⟩ = some (.int .i64 a0_0) := (uF BK111.out 0).trans rfl
     have hcz19_1 : w7.cell? ⟨gb111, 1, none⟩ = some (.int .i64 a0_1) := (uF BK111.out 1).trans rfl
     have hcz19_2 : w7.cell? ⟨gb111, 2, none⟩ = some (.bool a0_2) := (uF BK111.out 2).trans rfl
     have hcz19_3 : w7.cell? ⟨gb111, 3, none⟩ = some (.slice A0_3 l0_3.length c0_3) := (uF BK111.out 3).trans rfl
     have hfz19_0 := uI BK111.out 0
     have hfz19_1 := uI BK111.out 1
     have hfz19_2 := uI BK111.out 2
     have hfz19_3 := uI BK111.out 3
     go_wp2_with (first | ((with_reducible refine gate_callee (f := 75) rfl ?_); refine goesL_ (some 15) rfl rfl Try.func75 (by kernel_rfl) rfl #[.agg #[.int .i64 a0_0, .int .i64 a0_1, .bool a0_2, .slice A0_3 l0_3.length c0_3]] rfl (by (try simp only [List.map_toArray, List.map_cons, List.map_nil]); first | done | rfl | (simp only [List.length_drop, List.length_take]; rfl)) ?_; (with_reducible refine (spec_BeltOk.calls k a0_0 a0_1 a0_2 _ _ l0_3 true _ ?side1 ?side2 A9.out).mono ?_); (case side1 => repeat (first | exact (Kd.C_below HR0_3.out HB.out) | (with_reducible refine Kd.C_alloc ?_ _) | (with_reducible refine Kd.C_drewN ?_ _) | (with_reducible refine Kd.C_drew ?_))); (case side2 => exact HC0_3.out); rintro e w20 ⟨rfl, hb⟩; refine ⟨_, rfl, ?_⟩; have n0_ := uD (Kd.R_below (by (with_reducible repeat (first | apply uU | apply uS | apply uT)); exact HO114.out) hb); have n1_ := uD (blk_below (g := gb111) (o := .cells #[.int .i64 a0_0, .int .i64 a0_1, .bool a0_2, .slice A0_3 l0_3.length c0_3] 63 (0, 0)) (by (with_reducible repeat (first | refine uH ?_ _ | refine uJ ?_ | refine uG ?_ _)); exact BK111.out) hb); have n2_ := uD (uO (by repeat (first | (with_reducible first | exact HB.out | apply uL | apply uE | apply uK | refine uM ?_ GE111.out) | exact HB.out)) hb); clear HO114; clear BK111; clear HB; have HO114 := n0_; have BK111 := n1_; have HB := n2_; clear n0_ n1_ n2_; (try clear hb); (try clear hb2); (try clear hk); (try clear hi); have hcz21_0 : w20.cell? ⟨gb111, 0, none⟩ = some (.int .i64 a0_0) := (uF BK111.out 0).trans rfl; have hcz21_1 : w20.cell? ⟨gb111, 1, none⟩ = some (.int .i64 a0_1) := (uF BK111.out 1).trans rfl; have hcz21_2 : w20.cell? ⟨gb111, 2, none⟩ = some (.bool a0_2) := (uF BK111.out 2).trans rfl; have hcz21_3 : w20.cell? ⟨gb111, 3, none⟩ = some (.slice A0_3 l0_3.length c0_3) := (uF BK111.out 3).trans rfl; have hfz21_0 := uI BK111.out 0; have hfz21_1 := uI BK111.out 1; have hfz21_2 := uI BK111.out 2; have hfz21_3 := uI BK111.out 3) | (go_at_call 57; (with_reducible refine (spec_l01In.calls a1 1 a0_0 true _ A11.out).mono ?_); rintro e w' ⟨rfl, ⟨nd, rfl⟩⟩) | (go_at_call 57; (with_reducible refine (spec_l01In.calls a2 0 100000 false _ A13.out).mono ?_); rintro e w' ⟨rfl, ⟨nd, rfl⟩⟩))
     go_meet
     case rel => exact ⟨_, (true), (by first | rfl | (simp; done) | (simp [*]; done)), H', ⟨by first | omega | exact Nat.le_refl _⟩, ⟨by (with_reducible repeat (first | apply uU | apply uS | apply uT)); exact HO114.out⟩, ⟨by (with_reducible repeat (first | refine uH ?_ _ | refine uJ ?_ | refine uG ?_ _)); exact BK111.out⟩, ⟨by repeat (first | (with_reducible first | exact HB.out | apply uL | apply uE | apply uK | refine uM ?_ GE111.out) | exact HB.out)⟩⟩
   ·replace c12 := Bool.eq_false_iff.mpr c12
    subst c12
    have H1 : (spec_Windows.j0 k a1 a2 a3 y112 true a0_0 a0_1 a0_2 l0_3) = some (r1, r2) := by rw [if_neg (show ¬ (false = true) by decide)] at H; first | done | exact H
    clear H
    have H := H1
    clear H1
    have H' := uD H
    clear H
    have hcz22_0 : w7.cell? ⟨gb111, 0, none⟩ = some (.int .i64 a0_0) := (uF BK111.out 0).trans rfl
    have hcz22_1 : w7.cell? ⟨gb111, 1, none⟩ = some (.int .i64 a0_1) := (uF BK111.out 1).trans rfl
    have hcz22_2 : w7.cell? ⟨gb111, 2, none⟩ = some (.bool a0_2) := (uF BK111.out 2).trans rfl
    have hcz22_3 : w7.cell? ⟨gb111, 3, none⟩ = some (.slice A0_3 l0_3.length c0_3) := (uF BK111.out 3).trans rfl
    have hfz22_0 := uI BK111.out 0
    have hfz22_1 := uI BK111.out 1
    have hfz22_2 := uI BK111.out 2
    have hfz22_3 := uI BK111.out 3
    go_wp2_with (first | ((with_reducible refine gate_callee (f := 75) rfl ?_); refine goesL_ (some 15) rfl rfl Try.func75 (by kernel_rfl) rfl #[.agg #[.int .i64 a0_0, .int .i64 a0_1, .bool a0_2, .slice A0_3 l0_3.length c0_3]] rfl (by (try simp only [List.map_toArray, List.map_cons, List.map_nil]); first | done | rfl | (simp only [List.length_drop, List.length_take]; rfl)) ?_; (with_reducible refine (spec_BeltOk.calls k a0_0 a0_1 a0_2 _ _ l0_3 true _ ?side1 ?side2 A9.out).mono ?_); (case side1 => repeat (first | exact (Kd.C_below HR0_3.out HB.out) | (with_reducible refine Kd.C_alloc ?_ _) | (with_reducible refine Kd.C_drewN ?_ _) | (with_reducible refine Kd.C_drew ?_))); (case side2 => exact HC0_3.out); rintro e w23 ⟨rfl, hb⟩; refine ⟨_, rfl, ?_⟩; have n0_ := uD (Kd.R_below (by (with_reducible repeat (first | apply uU | apply uS | apply uT)); exact HO114.out) hb); have n1_ := uD (blk_below (g := gb111) (o := .cells #[.int .i64 a0_0, .int .i64 a0_1, .bool a0_2, .slice A0_3 l0_3.length c0_3] 63 (0, 0)) (by (with_reducible repeat (first | refine uH ?_ _ | refine uJ ?_ | refine uG ?_ _)); exact BK111.out) hb); have n2_ := uD (uO (by repeat (first | (with_reducible first | exact HB.out | apply uL | apply uE | apply uK | refine uM ?_ GE111.out) | exact HB.out)) hb); clear HO114; clear BK111; clear HB; have HO114 := n0_; have BK111 := n1_; have HB := n2_; clear n0_ n1_ n2_; (try clear hb); (try clear hb2); (try clear hk); (try clear hi); have hcz24_0 : w23.cell? ⟨gb111, 0, none⟩ = some (.int .i64 a0_0) := (uF BK111.out 0).trans rfl; have hcz24_1 : w23.cell? ⟨gb111, 1, none⟩ = some (.int .i64 a0_1) := (uF BK111.out 1).trans rfl; have hcz24_2 : w23.cell? ⟨gb111, 2, none⟩ = some (.bool a0_2) := (uF BK111.out 2).trans rfl; have hcz24_3 : w23.cell? ⟨gb111, 3, none⟩ = some (.slice A0_3 l0_3.length c0_3) := (uF BK111.out 3).trans rfl; have hfz24_0 := uI BK111.out 0; have hfz24_1 := uI BK111.out 1; have hfz24_2 := uI BK111.out 2; have hfz24_3 := uI BK111.out 3) | (go_at_call 57; (with_reducible refine (spec_l01In.calls a1 1 a0_0 false _ A11.out).mono ?_); rintro e w' ⟨rfl, ⟨nd, rfl⟩⟩))
    go_meet
    case rel => exact ⟨_, (true), (by first | rfl | (simp; done) | (simp [*]; done)), H', ⟨by first | omega | exact Nat.le_refl _⟩, ⟨by (with_reducible repeat (first | apply uU | apply uS | apply uT)); exact HO114.out⟩, ⟨by (with_reducible repeat (first | refine uH ?_ _ | refine uJ ?_ | refine uG ?_ _)); exact BK111.out⟩, ⟨by repeat (first | (with_reducible first | exact HB.out | apply uL | apply uE | apply uK | refine uM ?_ GE111.out) | exact HB.out)⟩⟩
  ·replace c10 := Bool.eq_false_iff.mpr c10
   subst c10
   have H1 : (spec_Windows.j0 k a1 a2 a3 y112 true a0_0 a0_1 a0_2 l0_3) = some (r1, r2) := by rw [if_neg (show ¬ (false = true) by decide)] at H; first | done | exact H
   clear H
   have H := H1
   clear H1
   have H' := uD H
   clear H
   have hcz25_0 : w7.cell? ⟨gb111, 0, none⟩ = some (.int .i64 a0_0) := (uF BK111.out 0).trans rfl
   have hcz25_1 : w7.cell? ⟨gb111, 1, none⟩ = some (.int .i64 a0_1) := (uF BK111.out 1).trans rfl
   have hcz25_2 : w7.cell? ⟨gb111, 2, none⟩ = some (.bool a0_2) := (uF BK111.out 2).trans rfl
   have hcz25_3 : w7.cell? ⟨gb111, 3, none⟩ = some (.slice A0_3 l0_3.length c0_3) := (uF BK111.out 3).trans rfl
   have hfz25_0 := uI BK111.out 0
   have hfz25_1 := uI BK111.out 1
   have hfz25_2 := uI BK111.out 2
   have hfz25_3 := uI BK111.out 3
   go_wp2_with (first | ((with_reducible refine gate_callee (f := 75) rfl ?_); refine goesL_ (some 15) rfl rfl Try.func75 (by kernel_rfl) rfl #[.agg #[.int .i64 a0_0, .int .i64 a0_1, .bool a0_2, .slice A0_3 l0_3.length c0_3]] rfl (by (try simp only [List.map_toArray, List.map_cons, List.map_nil]); first | done | rfl | (simp only [List.length_drop, List.length_take]; rfl)) ?_; (with_reducible refine (spec_BeltOk.calls k a0_0 a0_1 a0_2 _ _ l0_3 false _ ?side1 ?side2 A9.out).mono ?_); (case side1 => repeat (first | exact (Kd.C_below HR0_3.out HB.out) | (with_reducible refine Kd.C_alloc ?_ _) | (with_reducible refine Kd.C_drewN ?_ _) | (with_reducible refine Kd.C_drew ?_))); (case side2 => exact HC0_3.out); rintro e w26 ⟨rfl, hb⟩; refine ⟨_, rfl, ?_⟩; have n0_ := uD (Kd.R_below (by (with_reducible repeat (first | apply uU | apply uS | apply uT)); exact HO114.out) hb); have n1_ := uD (blk_below (g := gb111) (o := .cells #[.int .i64 a0_0, .int .i64 a0_1, .bool a0_2, .slice A0_3 l0_3.length c0_3] 63 (0, 0)) (by (with_reducible repeat (first | refine uH ?_ _ | refine uJ ?_ | refine uG ?_ _)); exact BK111.out) hb); have n2_ := uD (uO (by repeat (first | (with_reducible first | exact HB.out | apply uL | apply uE | apply uK | refine uM ?_ GE111.out) | exact HB.out)) hb); clear HO114; clear BK111; clear HB; have HO114 := n0_; have BK111 := n1_; have HB := n2_; clear n0_ n1_ n2_; (try clear hb); (try clear hb2); (try clear hk); (try clear hi)))
   go_meet
   case rel => exact ⟨_, (true), (by first | rfl | (simp; done) | (simp [*]; done)), H', ⟨by first | omega | exact Nat.le_refl _⟩, ⟨by (with_reducible repeat (first | apply uU | apply uS | apply uT)); exact HO114.out⟩, ⟨by (with_reducible repeat (first | refine uH ?_ _ | refine uJ ?_ | refine uG ?_ _)); exact BK111.out⟩, ⟨by repeat (first | (with_reducible first | exact HB.out | apply uL | apply uE | apply uK | refine uM ?_ GE111.out) | exact HB.out)⟩⟩
 case rest =>
  clear HC5
  try clear c1
  try clear p2
  try clear c3
  try clear c7
  try clear c10
  try clear c12
  try clear c14
  try clear hcz16_0
  try clear hcz16_1
  try clear hcz16_2
  try clear hcz16_3
  try clear hcz18_0
  try clear hcz18_1
  try clear hcz18_2
  try clear hcz18_3
  try clear hcz19_0
  try clear hcz19_1
  try clear hcz19_2
  try clear hcz19_3
  try clear hcz21_0
  try clear hcz21_1
  try clear hcz21_2
  try clear hcz21_3
  try clear hcz22_0
  try clear hcz22_1
  try clear hcz22_2
  try clear hcz22_3
  try clear hcz24_0
  try clear hcz24_1
  try clear hcz24_2
  try clear hcz24_3
  try clear hcz25_0
  try clear hcz25_1
  try clear hcz25_2
  try clear hcz25_3
  try clear hfz16_0
  try clear hfz16_1
  try clear hfz16_2
  try clear hfz16_3
  try clear hfz18_0
  try clear hfz18_1
  try clear hfz18_2
  try clear hfz18_3
  try clear hfz19_0
  try clear hfz19_1
  try clear hfz19_2
  try clear hfz19_3
  try clear hfz21_0
  try clear hfz21_1
  try clear hfz21_2
  try clear hfz21_3
  try clear hfz22_0
  try clear hfz22_1
  try clear hfz22_2
  try clear hfz22_3
  try clear hfz24_0
  try clear hfz24_1
  try clear hfz24_2
  try clear hfz24_3
  try clear hfz25_0
  try clear hfz25_1
  try clear hfz25_2
  try clear hfz25_3
  obtain ⟨kq, x33_4, rfl, HA, HJ4, HO_10, BK111, HB⟩ := hcut
  cases kq with
  | zero => exact absurd HA.out (by simp [spec_Windows.j0])
  | succ kj4 =>
   have H := HA.out
   clear HA
   simp only [spec_Windows.j0] at H
   by_cases c27 : x33_4 = true
   ·subst c27
    have H1 : (some (y112, false)) = some (r1, r2) := by rw [if_pos rfl] at H; first | done | exact H
    clear H
    have H := H1
    clear H1
    simp only [Option.some.injEq, Prod.mk.injEq] at H
    obtain ⟨rfl, rfl⟩ := H
    go_wp2
    go_ret2
    exact ⟨_, by first | rfl | (simp [errW_none, errW_some] <;> rfl) | (simp [*, errW_none, errW_some] <;> rfl), by (with_reducible repeat (first | apply uU | apply uS | apply uT)); exact HO_10.out, by repeat (first | (with_reducible first | exact HB.out | apply uL | apply uE | apply uK | refine uM ?_ GE111.out) | exact HB.out)⟩
   ·replace c27 := Bool.eq_false_iff.mpr c27
    subst c27
    have H1 : (spec_Windows.l0 kj4 a1 a2 a3 y112 0 a0_0 a0_1 a0_2 l0_3) = some (r1, r2) := by rw [if_neg (show ¬ (false = true) by decide)] at H; first | done | exact H
    clear H
    have H := H1
    clear H1
    have H' := uD H
    clear H
    go_wp2
    go_loopg [10, 11] kj4 (fun kq v10 v11 w' => ∃ (x10_2 : List (S47)) (x11_2 : Int), v11 = .int .i64 x11_2 ∧ Aside0 (spec_Windows.l0 kq a1 a2 a3 x10_2 x11_2 a0_0 a0_1 a0_2 l0_3 = some (r1, r2)) ∧ Aside0 (kq ≤ kj4) ∧ Aside0 (Kd.R k47 47 w' w.heap.size (fun _ => True) v10 x10_2) ∧ Aside0 (w'.heap[gb111]? = some (.cells #[.int .i64 a0_0, .int .i64 a0_1, .bool a0_2, (.slice A0_3 l0_3.length c0_3)] 63 (0, 0))) ∧ Aside0 (Below w.heap.size w w'))
    case atStart => exact ⟨(y112), (0), (by first | rfl | (simp; done) | (simp [*]; done)), H', ⟨Nat.le_refl _⟩, ⟨by (with_reducible repeat (first | apply uU | apply uS | apply uT)); exact HO_10.out⟩, ⟨by (with_reducible repeat (first | refine uH ?_ _ | refine uJ ?_ | refine uG ?_ _)); exact BK111.out⟩, ⟨by repeat (first | (with_reducible first | exact HB.out | apply uL | apply uE | apply uK | refine uM ?_ GE111.out) | exact HB.out)⟩⟩
    case round =>
     clear H'
     try clear c1
     try clear c2
     try clear p2
     try clear c3
     try clear c7
     try clear c10
     try clear c12
     try clear c14
     try clear c27
     try clear hcz16_0
     try clear hcz16_1
     try clear hcz16_2
     try clear hcz16_3
     try clear hcz18_0
     try clear hcz18_1
     try clear hcz18_2
     try clear hcz18_3
     try clear hcz19_0
     try clear hcz19_1
     try clear hcz19_2
     try clear hcz19_3
     try clear hcz21_0
     try clear hcz21_1
     try clear hcz21_2
     try clear hcz21_3
     try clear hcz22_0
     try clear hcz22_1
     try clear hcz22_2
     try clear hcz22_3
     try clear hcz24_0
     try clear hcz24_1
     try clear hcz24_2
     try clear hcz24_3
     try clear hcz25_0
     try clear hcz25_1
     try clear hcz25_2
     try clear hcz25_3
     try clear hfz16_0
     try clear hfz16_1
     try clear hfz16_2
     try clear hfz16_3
     try clear hfz18_0
     try clear hfz18_1
     try clear hfz18_2
     try clear hfz18_3
     try clear hfz19_0
     try clear hfz19_1
     try clear hfz19_2
     try clear hfz19_3
     try clear hfz21_0
     try clear hfz21_1
     try clear hfz21_2
     try clear hfz21_3
     try clear hfz22_0
     try clear hfz22_1
     try clear hfz22_2
     try clear hfz22_3
     try clear hfz24_0
     try clear hfz24_1
     try clear hfz24_2
     try clear hfz24_3
     try clear hfz25_0
     try clear hfz25_1
     try clear hfz25_2
     try clear hfz25_3
     try clear p2
     obtain ⟨x10_2, x11_2, rfl, HA, HK2, HO_10, BK111, HB⟩ := hrel
     cases gk with
     | zero => exact absurd HA.out (by simp [spec_Windows.l0])
     | succ k2 =>
      have H := HA.out
      clear HA
      simp only [spec_Windows.l0] at H
      by_cases c28 : x11_2 < (l0_3.length : Int)
      ·rw [if_pos c28] at H
       have c28b0 : decide (x11_2 < (l0_3.length : Int)) = true := decide_eq_true c28
       clear c28
       by_cases c29 : 0 ≤ x11_2
       ·rw [if_pos c29] at H
        have c29b0 : decide (0 ≤ x11_2) = true := decide_eq_true c29
        clear c29
        by_cases c30 : ((rd_T74 l0_3 x11_2).f1) ≥ a1
        ·rw [if_pos c30] at H
         have c30b0 : decide (a1 ≤ ((rd_T74 l0_3 x11_2).f1)) = true := decide_eq_true c30
         clear c30
         have H' := uD H
         clear H
         have hcz31_0 : wr.cell? ⟨gb111, 0, none⟩ = some (.int .i64 a0_0) := (uF BK111.out 0).trans rfl
         have hcz31_1 : wr.cell? ⟨gb111, 1, none⟩ = some (.int .i64 a0_1) := (uF BK111.out 1).trans rfl
         have hcz31_2 : wr.cell? ⟨gb111, 2, none⟩ = some (.bool a0_2) := (uF BK111.out 2).trans rfl
         have hcz31_3 : wr.cell? ⟨gb111, 3, none⟩ = some (.slice A0_3 l0_3.length c0_3) := (uF BK111.out 3).trans rfl
         have hfz31_0 := uI BK111.out 0
         have hfz31_1 := uI BK111.out 1
         have hfz31_2 := uI BK111.out 2
         have hfz31_3 := uI BK111.out 3
         have p122 : 0 ≤ (x11_2 : Int) := of_decide_eq_true (by first | (with_reducible assumption) | assumption)
         have q122 : x11_2 < (l0_3.length : Int) := of_decide_eq_true (by first | (with_reducible assumption) | assumption)
         obtain ⟨ad122, e122, hx122_0, hx122_1, hx122_2⟩ := at_T74 HR0_3.out x11_2 p122 q122
         cases e122
         replace hx122_0 := (HB.out.cell (World.block_lt_of_cell? w _ hx122_0)).trans hx122_0
         replace hx122_1 := (HB.out.cell (World.block_lt_of_cell? w _ hx122_1)).trans hx122_1
         replace hx122_2 := (HB.out.cell (World.block_lt_of_cell? w _ hx122_2)).trans hx122_2
         replace p122 := eq_true p122
         replace q122 := eq_true q122
         go_wp2
         go_roundg k2
         case measure => have := HJ4.out; have := HK2.out; omega
         case rel => exact ⟨(x10_2), (wrap64 (x11_2 + 1)), (by first | rfl | (simp; done) | (simp [*]; done)), H', ⟨by have := HJ4.out; have := HK2.out; omega⟩, ⟨by (with_reducible repeat (first | apply uU | apply uS | apply uT)); exact HO_10.out⟩, ⟨by (with_reducible repeat (first | refine uH ?_ _ | refine uJ ?_ | refine uG ?_ _)); exact BK111.out⟩, ⟨by repeat (first | (with_reducible first | exact HB.out | apply uL | apply uE | apply uK | refine uM ?_ GE111.out) | exact HB.out)⟩⟩
        ·rw [if_neg c30] at H
         have c30b0 : decide (a1 ≤ ((rd_T74 l0_3 x11_2).f1)) = false := decide_eq_false c30
         clear c30
         replace H := Option.bind_eq_some_iff.mp H
         obtain ⟨t125, A320, H⟩ := H
         replace H : ((spec_Clamp.f k2 (wrap64 ((wrap64 ((wrap64 (a2 + a1)) - ((rd_T74 l0_3 x11_2).f1))) + a3)) 0 100000).bind fun t126 => (if x10_2.length < 5864062014805 then (spec_Windows.l0 k2 a1 a2 a3 (x10_2 ++ [(⟨(rd_T74 l0_3 x11_2).f0, t125, t126⟩ : S47)]) (wrap64 (x11_2 + 1)) a0_0 a0_1 a0_2 l0_3) else (none))) = some (r1, r2) := H
         have A32 := uD A320
         clear A320
         replace H := Option.bind_eq_some_iff.mp H
         obtain ⟨t126, A330, H⟩ := H
         replace H : (if x10_2.length < 5864062014805 then (spec_Windows.l0 k2 a1 a2 a3 (x10_2 ++ [(⟨(rd_T74 l0_3 x11_2).f0, t125, t126⟩ : S47)]) (wrap64 (x11_2 + 1)) a0_0 a0_1 a0_2 l0_3) else (none)) = some (r1, r2) := H
         have A33 := uD A330
         clear A330
         by_cases c34 : x10_2.length < 5864062014805
         ·rw [if_pos c34] at H
          have LMc34 := uD c34
          clear c34
          obtain ⟨y127, hy127⟩ : ∃ y_ : List (S47), y_ = (x10_2 ++ [(⟨(rd_T74 l0_3 x11_2).f0, t125, t126⟩ : S47)]) := ⟨_, rfl⟩
          replace H : (spec_Windows.l0 k2 a1 a2 a3 y127 (wrap64 (x11_2 + 1)) a0_0 a0_1 a0_2 l0_3) = some (r1, r2) := by first | (rw [hy127]; with_reducible exact H) | (have H2_ := (Option.bind_some _ _).symm.trans H; rw [hy127]; with_reducible exact H2_) | (have H2_ := (Option.bind_some _ _).symm.trans H; with_reducible exact H2_) | with_reducible exact H | (rw [hy127]; exact H) | exact H
          have Ny127 := uD hy127
          clear hy127
          have H' := uD H
          clear H
          have hcz35_0 : wr.cell? ⟨gb111, 0, none⟩ = some (.int .i64 a0_0) := (uF BK111.out 0).trans rfl
          have hcz35_1 : wr.cell? ⟨gb111, 1, none⟩ = some (.int .i64 a0_1) := (uF BK111.out 1).trans rfl
          have hcz35_2 : wr.cell? ⟨gb111, 2, none⟩ = some (.bool a0_2) := (uF BK111.out 2).trans rfl
          have hcz35_3 : wr.cell? ⟨gb111, 3, none⟩ = some (.slice A0_3 l0_3.length c0_3) := (uF BK111.out 3).trans rfl
          have hfz35_0 := uI BK111.out 0
          have hfz35_1 := uI BK111.out 1
          have hfz35_2 := uI BK111.out 2
          have hfz35_3 := uI BK111.out 3
          have p122 : 0 ≤ (x11_2 : Int) := of_decide_eq_true (by first | (with_reducible assumption) | assumption)
          have q122 : x11_2 < (l0_3.length : Int) := of_decide_eq_true (by first | (with_reducible assumption) | assumption)
          obtain ⟨ad122, e122, hx122_0, hx122_1, hx122_2⟩ := at_T74 HR0_3.out x11_2 p122 q122
          cases e122
          replace hx122_0 := (HB.out.cell (World.block_lt_of_cell? w _ hx122_0)).trans hx122_0
          replace hx122_1 := (HB.out.cell (World.block_lt_of_cell? w _ hx122_1)).trans hx122_1
          replace hx122_2 := (HB.out.cell (World.block_lt_of_cell? w _ hx122_2)).trans hx122_2
          replace p122 := eq_true p122
          replace q122 := eq_true q122
          have p123 : 0 ≤ (x11_2 : Int) := of_decide_eq_true (by first | (with_reducible assumption) | assumption)
          have q123 : x11_2 < (l0_3.length : Int) := of_decide_eq_true (by first | (with_reducible assumption) | assumption)
          obtain ⟨ad123, e123, hx123_0, hx123_1, hx123_2⟩ := at_T74 HR0_3.out x11_2 p123 q123
          obtain rfl : ad122 = ad123 := (by injection e123)
          replace hx123_0 := (HB.out.cell (World.block_lt_of_cell? w _ hx123_0)).trans hx123_0
          replace hx123_1 := (HB.out.cell (World.block_lt_of_cell? w _ hx123_1)).trans hx123_1
          replace hx123_2 := (HB.out.cell (World.block_lt_of_cell? w _ hx123_2)).trans hx123_2
          replace p123 := eq_true p123
          replace q123 := eq_true q123
          try go_wp2
          have n0_ := uD (uT HO_10.out)
          have n1_ := uD (uJ BK111.out)
          have n2_ := uD (uK HB.out)
          clear HO_10
          clear BK111
          clear HB
          have HO_10 := n0_
          have BK111 := n1_
          have HB := n2_
          clear n0_ n1_ n2_
          have p124 : 0 ≤ (x11_2 : Int) := of_decide_eq_true (by first | (with_reducible assumption) | assumption)
          have q124 : x11_2 < (l0_3.length : Int) := of_decide_eq_true (by first | (with_reducible assumption) | assumption)
          obtain ⟨ad124, e124, hx124_0, hx124_1, hx124_2⟩ := at_T74 HR0_3.out x11_2 p124 q124
          have hw124_2 := hx124_2
          have hw124_1 := hx124_1
          have hw124_0 := hx124_0
          obtain rfl : ad122 = ad124 := (by injection e124)
          replace hx124_0 := (HB.out.cell (World.block_lt_of_cell? w _ hx124_0)).trans hx124_0
          replace hx124_1 := (HB.out.cell (World.block_lt_of_cell? w _ hx124_1)).trans hx124_1
          replace hx124_2 := (HB.out.cell (World.block_lt_of_cell? w _ hx124_2)).trans hx124_2
          replace p124 := eq_true p124
          replace q124 := eq_true q124
          refine start_ (n := 19) (S := fun w' => w'.cell? ⟨gb111, 0, none⟩ = some (.int .i64 a0_0) ∧ w'.cell? ⟨gb111, 1, none⟩ = some (.int .i64 a0_1) ∧ w'.cell? ⟨gb111, 2, none⟩ = some (.bool a0_2) ∧ w'.cell? ⟨gb111, 3, none⟩ = some (.slice (some ad122) l0_3.length c0_3) ∧ w'.cell? (ad122.add ((x11_2).toNat * 3)) = some (.int .i64 ((rd_T74 l0_3 x11_2).f0)) ∧ w'.cell? ⟨(ad122.add ((x11_2).toNat * 3)).block, (ad122.add ((x11_2).toNat * 3)).off + 1, none⟩ = some (.int .i64 ((rd_T74 l0_3 x11_2).f1)) ∧ w'.cell? ⟨(ad122.add ((x11_2).toNat * 3)).block, (ad122.add ((x11_2).toNat * 3)).off + 2, none⟩ = some (.int .i64 ((rd_T74 l0_3 x11_2).f2))) (ds := []) #[false, false, false, false, false, false, false, false, false, false, false, false, false, false, false, false, false, false, false] (by kernel_rfl) rfl rfl ⟨(uF BK111.out 0).trans rfl, (uF BK111.out 1).trans rfl, (uF BK111.out 2).trans rfl, (uF BK111.out 3).trans rfl, ((HB.out.cell (World.block_lt_of_cell? w _ hw124_0)).trans hw124_0), ((HB.out.cell (World.block_lt_of_cell? w _ hw124_1)).trans hw124_1), ((HB.out.cell (World.block_lt_of_cell? w _ hw124_2)).trans hw124_2)⟩ (fun hHeld => ?_); refine with_tabW spec_Windows.tab9 spec_Windows.bits9 (fun HT_ HW_ => ?_)
          generalize wr.drew = w36 at HO_10 BK111 HB hx124_0 hx124_1 hx124_2 hHeld ⊢
          refine ub (i := 0) (N := some 60) (v := ?_) (a' := ?_) #[true, false, false, false, false, false, false, false, false, false, false, false, false, false, false, false, false, false, false] rfl rfl (uY HT_.out (by kernel_rfl)) (fun _ _ _ h => h) (Or.inl ⟨by rfl, ?_⟩) ?_ ?_
          rotate_left
          ·intro w'
           go_simp
           with_reducible rfl
          rotate_left
          ·simp only [uc, uA, uB, uC, uZ, ua]
           rfl
          refine ub (i := 1) (N := some 61) (v := ?_) (a' := ?_) #[true, true, false, false, false, false, false, false, false, false, false, false, false, false, false, false, false, false, false] rfl rfl (uY HT_.out (by kernel_rfl)) (fun _ _ _ h => h) (Or.inl ⟨by rfl, ?_⟩) ?_ ?_
          rotate_left
          ·intro w'
           go_simp
           with_reducible rfl
          rotate_left
          ·simp only [uc, uA, uB, uC, uZ, ua]
           rfl
          refine ub (i := 3) (N := some 63) (v := ?_) (a' := ?_) #[true, true, false, true, false, false, false, false, false, false, false, false, false, false, false, false, false, false, false] rfl rfl (uY HT_.out (by kernel_rfl)) (fun _ _ _ h => h) (Or.inl ⟨by rfl, ?_⟩) ?_ ?_
          rotate_left
          ·intro w'
           go_simp
           with_reducible rfl
          rotate_left
          ·simp only [uc, uA, uB, uC, uZ, ua]
           rfl
          refine ub (i := 7) (N := some 67) (v := ?_) (a' := ?_) #[true, true, false, true, false, false, false, true, false, false, false, false, false, false, false, false, false, false, false] rfl rfl (uY HT_.out (by kernel_rfl)) (fun _ _ _ h => h) (Or.inl ⟨by rfl, ?_⟩) ?_ ?_
          rotate_left
          ·intro w'
           go_simp
           with_reducible rfl
          rotate_left
          ·simp only [uc, uA, uB, uC, uZ, ua]
           rfl
          refine ub (i := 8) (N := some 68) (v := ?_) (a' := ?_) #[true, true, false, true, false, false, false, true, true, false, false, false, false, false, false, false, false, false, false] rfl rfl (uY HT_.out (by kernel_rfl)) (fun _ _ _ h => h) (Or.inl ⟨by rfl, ?_⟩) ?_ ?_
          rotate_left
          ·intro w'
           go_simp
           with_reducible rfl
          rotate_left
          ·simp only [uc, uA, uB, uC, uZ, ua]
           rfl
          refine ub (i := 9) (N := some 69) (v := ?_) (a' := ?_) #[true, true, false, true, false, false, false, true, true, true, false, false, false, false, false, false, false, false, false] rfl rfl (uY HT_.out (by kernel_rfl)) (fun _ _ _ h => h) (Or.inl ⟨by rfl, ?_⟩) ?_ ?_
          rotate_left
          ·intro w'
           go_simp
           with_reducible rfl
          rotate_left
          ·simp only [uc, uA, uB, uC, uZ, ua]
           rfl
          refine ub (i := 11) (N := some 71) (v := ?_) (a' := ?_) #[true, true, false, true, false, false, false, true, true, true, false, true, false, false, false, false, false, false, false] rfl rfl (uY HT_.out (by kernel_rfl)) (fun _ _ _ h => h) (Or.inl ⟨by rfl, ?_⟩) ?_ ?_
          rotate_left
          ·intro w'
           go_simp
           with_reducible rfl
          rotate_left
          ·simp only [uc, uA, uB, uC, uZ, ua]
           rfl
          refine ub (i := 12) (N := some 72) (v := ?_) (a' := ?_) #[true, true, false, true, false, false, false, true, true, true, false, true, true, false, false, false, false, false, false] rfl rfl (uY HT_.out (by kernel_rfl)) (fun _ _ _ h => h) (Or.inl ⟨by rfl, ?_⟩) ?_ ?_
          rotate_left
          ·intro w'
           go_simp
           with_reducible rfl
          rotate_left
          ·simp only [uc, uA, uB, uC, uZ, ua]
           rfl
          refine ub (i := 13) (N := some 73) (v := ?_) (a' := ?_) #[true, true, false, true, false, false, false, true, true, true, false, true, true, true, false, false, false, false, false] rfl rfl (uY HT_.out (by kernel_rfl)) (fun _ _ _ h => h) (Or.inl ⟨by rfl, ?_⟩) ?_ ?_
          rotate_left
          ·intro w'
           go_simp
           with_reducible rfl
          rotate_left
          ·simp only [uc, uA, uB, uC, uZ, ua]
           rfl
          refine take_ (i := 2) (N := some 62) (v := ?_) (a' := ?_) #[true, true, true, true, false, false, false, true, true, true, false, true, true, true, false, false, false, false, false] rfl rfl (take_ofW HT_.out HW_.out (by kernel_rfl)) (fun _ _ _ h => h) (Or.inl ⟨by rfl, ?_⟩) hHeld ?_ ?_
          rotate_left
          ·rintro w' ⟨s0, s1, s2, s3, s4, s5, s6⟩
           go_simp
           with_reducible rfl
          rotate_left
          ·simp only [uc, uA, uB, uC, uZ, ua]
           rfl
          refine ub (i := 4) (N := some 64) (v := ?_) (a' := ?_) #[true, true, true, true, true, false, false, true, true, true, false, true, true, true, false, false, false, false, false] rfl rfl (uY HT_.out (by kernel_rfl)) (fun _ _ _ h => h) (Or.inl ⟨by rfl, ?_⟩) ?_ ?_
          rotate_left
          ·intro w'
           go_simp
           with_reducible rfl
          rotate_left
          ·simp only [uc, uA, uB, uC, uZ, ua]
           rfl
          refine ub (i := 5) (N := some 65) (v := ?_) (a' := ?_) #[true, true, true, true, true, true, false, true, true, true, false, true, true, true, false, false, false, false, false] rfl rfl (uY HT_.out (by kernel_rfl)) (fun _ _ _ h => h) (Or.inl ⟨by rfl, ?_⟩) ?_ ?_
          rotate_left
          ·intro w'
           go_simp
           with_reducible rfl
          rotate_left
          ·simp only [uc, uA, uB, uC, uZ, ua]
           rfl
          refine take_ (i := 6) (N := some 66) (v := ?_) (a' := ?_) #[true, true, true, true, true, true, true, true, true, true, false, true, true, true, false, false, false, false, false] rfl rfl (take_ofW HT_.out HW_.out (by kernel_rfl)) (fun _ _ _ h => h) (Or.inl ⟨by rfl, ?_⟩) hHeld ?_ ?_
          rotate_left
          ·rintro w' ⟨s0, s1, s2, s3, s4, s5, s6⟩
           go_simp
           with_reducible rfl
          rotate_left
          ·simp only [uc, uA, uB, uC, uZ, ua]
           rfl
          refine one_ (i := 10) (N := some 70) #[true, true, true, true, true, true, true, true, true, true, true, true, true, true, false, false, false, false, false] rfl rfl (one_of HT_.out (by kernel_rfl)) (by decide) (fun K hK => ?_)
          refine goes_ Try.func76 (by kernel_rfl) rfl #[.int .i64 (wrap64 ((wrap64 ((wrap64 (a2 + a1)) - ((rd_T74 l0_3 x11_2).f1))) - a3)), .int .i64 0, .int .i64 100000] (by rfl) rfl rfl (by (try simp only [List.map_toArray, List.map_cons, List.map_nil]); first | done | rfl | (simp only [List.length_drop, List.length_take]; rfl)) ?_
          with_reducible refine (spec_Clamp.calls k2 (wrap64 ((wrap64 ((wrap64 (a2 + a1)) - ((rd_T74 l0_3 x11_2).f1))) - a3)) 0 100000 t125 _ A32.out).mono ?_
          rintro e w' ⟨rfl, ⟨nd, rfl⟩⟩
          refine ⟨_, rfl, ?_⟩
          refine hK.out _ _ ⟨(uF BK111.out 0).trans rfl, (uF BK111.out 1).trans rfl, (uF BK111.out 2).trans rfl, (uF BK111.out 3).trans rfl, ((HB.out.cell (World.block_lt_of_cell? w _ hw124_0)).trans hw124_0), ((HB.out.cell (World.block_lt_of_cell? w _ hw124_1)).trans hw124_1), ((HB.out.cell (World.block_lt_of_cell? w _ hw124_2)).trans hw124_2)⟩ (fun hHeld => ?_)
          clear hK K
          refine norm_ (a' := ?_) ?_ ?_
          rotate_left
          ·show uc _ (some 70) _ = _
           simp only [uc, uA, uB, uC, uZ, ua]
           rfl
          refine one_ (i := 14) (N := some 74) #[true, true, true, true, true, true, true, true, true, true, true, true, true, true, true, false, false, false, false] rfl rfl (one_of HT_.out (by kernel_rfl)) (by decide) (fun K hK => ?_)
          refine goes_ Try.func76 (by kernel_rfl) rfl #[.int .i64 (wrap64 ((wrap64 ((wrap64 (a2 + a1)) - ((rd_T74 l0_3 x11_2).f1))) + a3)), .int .i64 0, .int .i64 100000] (by rfl) rfl rfl (by (try simp only [List.map_toArray, List.map_cons, List.map_nil]); first | done | rfl | (simp only [List.length_drop, List.length_take]; rfl)) ?_
          with_reducible refine (spec_Clamp.calls k2 (wrap64 ((wrap64 ((wrap64 (a2 + a1)) - ((rd_T74 l0_3 x11_2).f1))) + a3)) 0 100000 t126 _ A33.out).mono ?_
          rintro e w' ⟨rfl, ⟨nd, rfl⟩⟩
          refine ⟨_, rfl, ?_⟩
          refine hK.out _ _ ⟨(uF BK111.out 0).trans rfl, (uF BK111.out 1).trans rfl, (uF BK111.out 2).trans rfl, (uF BK111.out 3).trans rfl, ((HB.out.cell (World.block_lt_of_cell? w _ hw124_0)).trans hw124_0), ((HB.out.cell (World.block_lt_of_cell? w _ hw124_1)).trans hw124_1), ((HB.out.cell (World.block_lt_of_cell? w _ hw124_2)).trans hw124_2)⟩ (fun hHeld => ?_)
          clear hK K
          refine norm_ (a' := ?_) ?_ ?_
          rotate_left
          ·show uc _ (some 74) _ = _
           simp only [uc, uA, uB, uC, uZ, ua]
           rfl
          refine ub (i := 15) (N := some 75) (v := ?_) (a' := ?_) #[true, true, true, true, true, true, true, true, true, true, true, true, true, true, true, true, false, false, false] rfl rfl (uY HT_.out (by kernel_rfl)) (fun _ _ _ h => h) (Or.inl ⟨by rfl, ?_⟩) ?_ ?_
          rotate_left
          ·intro w'
           go_simp
           with_reducible rfl
          rotate_left
          ·simp only [uc, uA, uB, uC, uZ, ua]
           rfl
          refine one_ (i := 16) (N := some 76) #[true, true, true, true, true, true, true, true, true, true, true, true, true, true, true, true, true, false, false] rfl rfl (one_of HT_.out (by kernel_rfl)) (by decide) (fun K hK => ?_)
          refine value_ (w1 := ?_) (v := ?_) (by rfl) rfl ?_ ?_
          rotate_left 2
          ·go_simp
           constructor
           ·rfl
           ·rfl
          refine hK.out _ _ ⟨(uF (uG BK111.out _) 0).trans rfl, (uF (uG BK111.out _) 1).trans rfl, (uF (uG BK111.out _) 2).trans rfl, (uF (uG BK111.out _) 3).trans rfl, (World.cell?_alloc_lt _ _ _ (World.block_lt_of_cell? _ _ (((HB.out.cell (World.block_lt_of_cell? w _ hw124_0)).trans hw124_0)))).trans (((HB.out.cell (World.block_lt_of_cell? w _ hw124_0)).trans hw124_0)), (World.cell?_alloc_lt _ _ _ (World.block_lt_of_cell? _ _ (((HB.out.cell (World.block_lt_of_cell? w _ hw124_1)).trans hw124_1)))).trans (((HB.out.cell (World.block_lt_of_cell? w _ hw124_1)).trans hw124_1)), (World.cell?_alloc_lt _ _ _ (World.block_lt_of_cell? _ _ (((HB.out.cell (World.block_lt_of_cell? w _ hw124_2)).trans hw124_2)))).trans (((HB.out.cell (World.block_lt_of_cell? w _ hw124_2)).trans hw124_2))⟩ (fun hHeld => ?_)
          clear hK K
          refine norm_ (a' := ?_) ?_ ?_
          rotate_left
          ·show uc _ (some 76) _ = _
           simp only [uc, uA, uB, uC, uZ, ua]
           rfl
          refine one_ (i := 17) (N := some 77) #[true, true, true, true, true, true, true, true, true, true, true, true, true, true, true, true, true, true, false] rfl rfl (one_of HT_.out (by kernel_rfl)) (by decide) (fun K hK => ?_)
          refine Kd.R_append_step k47 (w0 := w) w.heap.size (by rfl) (.tmp 60) (.tmp 76) 25 47 (.agg #[(.int .i64 0), (.int .i64 0), (.int .i64 0)]) 24 rfl Try.underlying25 info47 rfl (by decide) (by omega) u10 x10_2 (⟨(rd_T74 l0_3 x11_2).f0, t125, t126⟩ : S47) [.int .i64 ((rd_T74 l0_3 x11_2).f0), .int .i64 t125, .int .i64 t126] (fun _ => True) (fun _ => False) rfl rfl ?aP (fun _ hk => hk.elim) ?aF ?aO ?aB ?aS ?aL ?_
          (case aP => exact k47_mkM _ _ _ (⟨(rd_T74 l0_3 x11_2).f0, t125, t126⟩ : S47))
          (case aB => exact (by repeat (first | (with_reducible first | exact HB.out | apply uL | apply uE | apply uK | refine uM ?_ GE111.out) | exact HB.out)))
          (case aF => exact (fun _ _ => trivial))
          (case aO => exact (by (with_reducible repeat (first | apply uU | apply uS | apply uT)); exact HO_10.out))
          (case aS => exact (uN (by repeat (first | (with_reducible first | exact HB.out | apply uL | apply uE | apply uK | refine uM ?_ GE111.out) | exact HB.out))))
          (case aL => have := LMc34.out; omega)
          intro v128 w37 ho hb hg hat
          rw [← Ny127.out] at ho
          have n0_ := uD (blk_grown (g := gb111) (o := .cells #[.int .i64 a0_0, .int .i64 a0_1, .bool a0_2, .slice (some ad122) l0_3.length c0_3] 63 (0, 0)) (by (with_reducible repeat (first | refine uH ?_ _ | refine uJ ?_ | refine uG ?_ _)); exact BK111.out) hg (Kd.R_ne HO_10.out BK111.out (by decide)))
          have n1_ := uD (hb)
          have n2_ := uD (ho)
          clear BK111
          clear HB
          clear HO_10
          have BK111 := n0_
          have HB := n1_
          have HO129 := n2_
          clear n0_ n1_ n2_
          clear ho hb hg hat
          refine hK.out _ _ ⟨(uF BK111.out 0).trans rfl, (uF BK111.out 1).trans rfl, (uF BK111.out 2).trans rfl, (uF BK111.out 3).trans rfl, ((HB.out.cell (World.block_lt_of_cell? w _ hw124_0)).trans hw124_0), ((HB.out.cell (World.block_lt_of_cell? w _ hw124_1)).trans hw124_1), ((HB.out.cell (World.block_lt_of_cell? w _ hw124_2)).trans hw124_2)⟩ (fun hHeld => ?_)
          clear hK K
          refine norm_ (a' := ?_) ?_ ?_
          rotate_left
          ·show uc _ (some 77) _ = _
           simp only [uc, uA, uB, uC, uZ, ua]
           rfl
          refine ub (i := 18) (N := some 10) (v := ?_) (a' := ?_) #[true, true, true, true, true, true, true, true, true, true, true, true, true, true, true, true, true, true, true] rfl rfl (uY HT_.out (by kernel_rfl)) (fun _ _ _ h => h) (Or.inl ⟨by rfl, ?_⟩) ?_ ?_
          rotate_left
          ·intro w'
           go_simp
           with_reducible rfl
          rotate_left
          ·simp only [uc, uA, uB, uC, uZ, ua]
           rfl
          refine done_ (done_of HT_.out (by kernel_rfl)) ?_
          try go_wp2
          go_roundg k2
          case measure => have := HJ4.out; have := HK2.out; omega
          case rel => exact ⟨(y127), (wrap64 (x11_2 + 1)), (by first | rfl | (simp; done) | (simp [*]; done)), H', ⟨by have := HJ4.out; have := HK2.out; omega⟩, ⟨by (with_reducible repeat (first | apply uU | apply uS | apply uT)); exact HO129.out⟩, ⟨by (with_reducible repeat (first | refine uH ?_ _ | refine uJ ?_ | refine uG ?_ _)); exact BK111.out⟩, ⟨by repeat (first | (with_reducible first | exact HB.out | apply uL | apply uE | apply uK | refine uM ?_ GE111.out) | exact HB.out)⟩⟩
         ·rw [if_neg c34] at H
          exact absurd H (by simp)
       ·rw [if_neg c29] at H
        exact absurd H (by simp)
      ·rw [if_neg c28] at H
       have c28b0 : decide (x11_2 < (l0_3.length : Int)) = false := decide_eq_false c28
       clear c28
       by_cases c38 : (x10_2.length : Int) > 6
       ·rw [if_pos c38] at H
        have c38b0 : decide (6 < (x10_2.length : Int)) = true := decide_eq_true c38
        have c38b1 : decide (6 < x10_2.length) = true := decide_eq_true (by omega)
        clear c38
        obtain ⟨y119, hy119⟩ : ∃ y_ : List (S47), y_ = (([] : List (S47))) := ⟨_, rfl⟩
        replace H : (some (y119, false)) = some (r1, r2) := by first | (rw [hy119]; with_reducible exact H) | (have H2_ := (Option.bind_some _ _).symm.trans H; rw [hy119]; with_reducible exact H2_) | (have H2_ := (Option.bind_some _ _).symm.trans H; with_reducible exact H2_) | with_reducible exact H | (rw [hy119]; exact H) | exact H
        have Ny119 := uD hy119
        clear hy119
        simp only [Option.some.injEq, Prod.mk.injEq] at H
        obtain ⟨rfl, rfl⟩ := H
        have hcz39_0 : wr.cell? ⟨gb111, 0, none⟩ = some (.int .i64 a0_0) := (uF BK111.out 0).trans rfl
        have hcz39_1 : wr.cell? ⟨gb111, 1, none⟩ = some (.int .i64 a0_1) := (uF BK111.out 1).trans rfl
        have hcz39_2 : wr.cell? ⟨gb111, 2, none⟩ = some (.bool a0_2) := (uF BK111.out 2).trans rfl
        have hcz39_3 : wr.cell? ⟨gb111, 3, none⟩ = some (.slice A0_3 l0_3.length c0_3) := (uF BK111.out 3).trans rfl
        have hfz39_0 := uI BK111.out 0
        have hfz39_1 := uI BK111.out 1
        have hfz39_2 := uI BK111.out 2
        have hfz39_3 := uI BK111.out 3
        obtain ⟨Ao40, co40, eo40⟩ := Kd.R_slice HO_10.out
        subst eo40
        go_wp2_with (first | ((with_reducible refine gate_dst (N := 81) rfl ?_); refine Kd.R_lit k47 _ 47 ?hg (N := 81) ?hd (xs := ([] : List (S47))) (inner := []) (ok := fun _ => True) (okp := fun _ => True) ?hr ?hp (fun _ hk => hk) trivial (Below.refl _ _) (Nat.le_refl _) (by simp) ?_; (case hd => rfl); (case hg => rfl); (case hr => first | (go_simp; done) | (go_simp; rfl)); (case hp => exact (Reps.none _ _)); intro v120 w41 ho42 hb hg_ hnew_; clear hg_ hnew_; (first | rw [← Ny119.out] at ho42 | (simp only [Int.reduceToNat] at ho42; rw [← Ny119.out] at ho42)); have n0_ := uD (Kd.R_elder' (by (with_reducible repeat (first | apply uU | apply uS | apply uT)); exact HO_10.out) (Kd.R_base ho42) hb); have n1_ := uD (Kd.R_lower (Kd.R_new' ho42 (Kd.R_lt (by (with_reducible repeat (first | apply uU | apply uS | apply uT)); exact HO_10.out))) (uN (by repeat (first | (with_reducible first | exact HB.out | apply uL | apply uE | apply uK | refine uM ?_ GE111.out) | exact HB.out)))); have n2_ := uD (blk_below (g := gb111) (o := .cells #[.int .i64 a0_0, .int .i64 a0_1, .bool a0_2, .slice A0_3 l0_3.length c0_3] 63 (0, 0)) (by (with_reducible repeat (first | refine uH ?_ _ | refine uJ ?_ | refine uG ?_ _)); exact BK111.out) hb); have n3_ := uD (uO (by repeat (first | (with_reducible first | exact HB.out | apply uL | apply uE | apply uK | refine uM ?_ GE111.out) | exact HB.out)) hb); clear HO_10; clear BK111; clear HB; have HO_10 := n0_; have HO121 := n1_; have BK111 := n2_; have HB := n3_; clear n0_ n1_ n2_ n3_; clear hb ho42))
        go_ret2
        exact ⟨_, by first | rfl | (simp [errW_none, errW_some] <;> rfl) | (simp [*, errW_none, errW_some] <;> rfl), by (with_reducible repeat (first | apply uU | apply uS | apply uT)); exact uX HO121.out (fun _ hk => trivial), by repeat (first | (with_reducible first | exact HB.out | apply uL | apply uE | apply uK | refine uM ?_ GE111.out) | exact HB.out)⟩
       ·rw [if_neg c38] at H
        have c38b0 : decide (6 < (x10_2.length : Int)) = false := decide_eq_false c38
        have c38b1 : decide (6 < x10_2.length) = false := decide_eq_false (by omega)
        clear c38
        simp only [Option.some.injEq, Prod.mk.injEq] at H
        obtain ⟨rfl, rfl⟩ := H
        have hcz43_0 : wr.cell? ⟨gb111, 0, none⟩ = some (.int .i64 a0_0) := (uF BK111.out 0).trans rfl
        have hcz43_1 : wr.cell? ⟨gb111, 1, none⟩ = some (.int .i64 a0_1) := (uF BK111.out 1).trans rfl
        have hcz43_2 : wr.cell? ⟨gb111, 2, none⟩ = some (.bool a0_2) := (uF BK111.out 2).trans rfl
        have hcz43_3 : wr.cell? ⟨gb111, 3, none⟩ = some (.slice A0_3 l0_3.length c0_3) := (uF BK111.out 3).trans rfl
        have hfz43_0 := uI BK111.out 0
        have hfz43_1 := uI BK111.out 1
        have hfz43_2 := uI BK111.out 2
        have hfz43_3 := uI BK111.out 3
        obtain ⟨Ao44, co44, eo44⟩ := Kd.R_slice HO_10.out
        subst eo44
        go_wp2
        go_ret2
        exact ⟨_, by first | rfl | (simp [errW_none, errW_some] <;> rfl) | (simp [*, errW_none, errW_some] <;> rfl), by (with_reducible repeat (first | apply uU | apply uS | apply uT)); exact HO_10.out, by repeat (first | (with_reducible first | exact HB.out | apply uL | apply uE | apply uK | refine uM ?_ GE111.out) | exact HB.out)⟩

/-! ### impl_isTick: function 59 -/
def impl_isTick.f (a0 : Int) : Option (Bool) := if a0 ≥ 0 then (some (decide (a0 ≤ 100000))) else (some false)
set_option maxHeartbeats 8000000 in
set_option maxRecDepth 100000 in
theorem impl_isTick.calls (a0 : Int) (r : Bool) (w : World) (h : impl_isTick.f a0 = some r) :
  Calls Try.prog 59 #[.int .i64 a0] w fun e w' => e = .returned (.bool r) ∧ Drawn0 w w' := by
 have H : (if a0 ≥ 0 then (some (decide (a0 ≤ 100000))) else (some false)) = some r := h
 clear h
 by_cases c2 : a0 ≥ 0
 ·rw [if_pos c2] at H
  have c2b0 : decide (0 ≤ a0) = true := decide_eq_true c2
  clear c2
  obtain rfl := Option.some.inj H
  go_enter Try.func59, Try.ntmps59
  go_wp2
  go_ret
  exact ⟨by first | rfl | (simp; done) | (simp [*]; done), by repeat (first | exact Drawn0.refl _ | apply Drawn0.step)⟩
 ·rw [if_neg c2] at H
  have c2b0 : decide (0 ≤ a0) = false := decide_eq_false c2
  clear c2
  obtain rfl := Option.some.inj H
  go_enter Try.func59, Try.ntmps59
  go_wp2
  go_ret
  exact ⟨by first | rfl | (simp; done) | (simp [*]; done), by repeat (first | exact Drawn0.refl _ | apply Drawn0.step)⟩

-- NOT PRINTED: function 113 (impl_Item_113)

-- NOT PRINTED: function 110 (impl_Item_110)

end Go.Proofs.Ytnnimbbffbfhoaa.PFnWindows
