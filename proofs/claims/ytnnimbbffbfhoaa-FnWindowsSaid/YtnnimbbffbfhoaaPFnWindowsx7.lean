-- Written by a program of this session (wip/myprint.py: the kit's print with changes): not by print.sh itself.
import Derived.Test.YtnnimbbffbfhoaaPFnWindowsx0
import Derived.Test.YtnnimbbffbfhoaaPFnWindowsx4
import Derived.Test.YtnnimbbffbfhoaaPFnWindowsx6
namespace Go.Proofs.Ytnnimbbffbfhoaa.PFnWindows
open Go.RowKit Go.Proofs.YtnnimbbffbfhoaaW.PrintWords Go.Proofs.YtnnimbbffbfhoaaW.PrintLast Go.Proofs.YtnnimbbffbfhoaaW.PrintMore
open Go renaming Act.put → uc
open Go.Proofs.YtnnimbbffbfhoaaW.PrintLast renaming any_of → uY, i64_w → uZ, i32_w → ua, pure_ → ub
open Go.Proofs.YtnnimbbffbfhoaaW.PrintWords renaming Aside0.mk → uD, pw_below_drewN → uE, blk_cell → uF, blk_alloc → uG, blk_drewN → uH, blk_frozen → uI, blk_drew → uJ, below_drew1 → uK, below_alloc → uL, below_set → uM, below_size → uN, below_step → uO, blk_put → uP, blk_far → uQ, Kd.R_drewN → uS, Kd.R_drew → uT, Kd.R_alloc → uU, Kd.R_far → uV, Kd.R_types → uW, Kd.R_mono → uX
open List renaming setIfInBounds_toArray → uA, set_cons_zero → uB, set_cons_succ → uC
attribute [local go_sem] max2_int min2_int max_two min_two max_three min_three max_four min_four   -- for this text's walks alone
set_option linter.unusedVariables false
set_option linter.unusedSimpArgs false

/-! ### impl_Clamp: function 79 -/
def impl_Clamp.f (a0 : Int) (a1 : Int) (a2 : Int) : Option (Int) := some (mx a1 (mn a0 a2))
set_option maxHeartbeats 8000000 in
set_option maxRecDepth 100000 in
theorem impl_Clamp.calls (a0 : Int) (a1 : Int) (a2 : Int) (r : Int) (w : World) (h : impl_Clamp.f a0 a1 a2 = some r) :
  Calls Try.prog 79 #[.int .i64 a0, .int .i64 a1, .int .i64 a2] w fun e w' => e = .returned (.int .i64 r) ∧ Below w.heap.size w w' := by
 have HB := uD (Below.refl w.heap.size w)
 have H : (some (mx a1 (mn a0 a2))) = some r := h
 clear h
 obtain ⟨ji4, hji4⟩ : ∃ j_ : Int, (mn a0 a2) = j_ := ⟨_, rfl⟩
 replace H : (some (mx a1 (ji4))) = some r := by first | (rw [hji4] at H; exact H) | (simp only [hji4] at H ⊢; exact H)
 have hji4_ : (if a2 < a0 then a2 else a0) = ji4 := hji4
 obtain ⟨ji5, hji5⟩ : ∃ j_ : Int, (mx a1 (ji4)) = j_ := ⟨_, rfl⟩
 replace H : (some ji5) = some r := by first | (rw [hji5] at H; exact H) | (simp only [hji5] at H ⊢; exact H)
 have hji5_ : (if a1 < (ji4) then (ji4) else a1) = ji5 := hji5
 obtain rfl := Option.some.inj H
 go_enter Try.func79, Try.ntmps79
 go_wp2
 go_ret
 exact ⟨by first | rfl | (simp [errW_none, errW_some] <;> rfl) | (simp only [← hji4, ← hji5]; first | rfl | (simp [errW_none, errW_some] <;> rfl)) | (simp [*, errW_none, errW_some] <;> rfl), by repeat (first | (with_reducible first | exact HB.out | apply uL | apply uE | apply uK) | exact HB.out)⟩

/-! ### impl_Windows: function 40 -/
mutual
def impl_Windows.j0 : Nat → Int → Int → Int → Bool → Int → Int → Bool → List (S74) → Option ((List (S47)) × Bool)
 | 0, _, _, _, _, _, _, _, _ => none
 | k + 1, x1, x2, x3, x36, x139000, x139001, x139002, x139003 => if x36 = true then (some (([] : List (S47)), false)) else (impl_Windows.l0 k x1 x2 x3 ([] : List (S47)) x139003 (x139003.length : Int) 0)
def impl_Windows.l0 : Nat → Int → Int → Int → List (S47) → List (S74) → Int → Int → Option ((List (S47)) × Bool)
 | 0, _, _, _, _, _, _, _ => none
 | k + 1, x1, x2, x3, x10, x38, x39, x40 => if x40 < x39 then (if 0 ≤ x40 then (if x40 < (x38.length : Int) then (if ((rd_T74 x38 x40).f1) < x1 then ((impl_Clamp.f (wrap64 ((wrap64 ((wrap64 (x2 + x1)) - ((rd_T74 x38 x40).f1))) - x3)) 0 100000).bind fun t144 => ((impl_Clamp.f (wrap64 ((wrap64 ((wrap64 (x2 + x1)) - ((rd_T74 x38 x40).f1))) + x3)) 0 100000).bind fun t145 => (if x10.length < 5864062014805 then (impl_Windows.l0 k x1 x2 x3 (x10 ++ [(⟨(rd_T74 x38 x40).f0, t144, t145⟩ : S47)]) x38 x39 (wrap64 (x40 + 1))) else (none)))) else (impl_Windows.l0 k x1 x2 x3 x10 x38 x39 (wrap64 (x40 + 1)))) else (none)) else (none)) else (if (x10.length : Int) > 6 then (some (([] : List (S47)), false)) else (some (x10, true)))
end
def impl_Windows.f (k : Nat) (a0_0 : Int) (a0_1 : Int) (a0_2 : Bool) (l0_3 : List (S74)) (a1 : Int) (a2 : Int) (a3 : Int) : Option ((List (S47)) × Bool) := (impl_BeltOk.f k a0_0 a0_1 a0_2 l0_3).bind fun t139 => (if t139 = true then (if a1 < 1 then (impl_Windows.j0 k a1 a2 a3 true a0_0 a0_1 a0_2 l0_3) else (if a1 > a0_0 then (impl_Windows.j0 k a1 a2 a3 true a0_0 a0_1 a0_2 l0_3) else ((impl_isTick.f a2).bind fun t140 => (if t140 = true then ((impl_isTick.f a3).bind fun t141 => (impl_Windows.j0 k a1 a2 a3 (!t141) a0_0 a0_1 a0_2 l0_3)) else (impl_Windows.j0 k a1 a2 a3 true a0_0 a0_1 a0_2 l0_3))))) else (impl_Windows.j0 k a1 a2 a3 true a0_0 a0_1 a0_2 l0_3))
theorem impl_Windows.mono_l : ∀ k, (∀ y0 y1 y2 y3 y4 y5 y6 y7, LeO (impl_Windows.j0 k y0 y1 y2 y3 y4 y5 y6 y7) (impl_Windows.j0 (k + 1) y0 y1 y2 y3 y4 y5 y6 y7)) ∧ (∀ y0 y1 y2 y3 y4 y5 y6, LeO (impl_Windows.l0 k y0 y1 y2 y3 y4 y5 y6) (impl_Windows.l0 (k + 1) y0 y1 y2 y3 y4 y5 y6))
 | 0 => ⟨fun _ _ _ _ _ _ _ _ r h => by simp [impl_Windows.j0] at h, fun _ _ _ _ _ _ _ r h => by simp [impl_Windows.l0] at h⟩
 | k + 1 => by
  obtain ⟨ih0, ih1⟩ := impl_Windows.mono_l k
  refine ⟨?_, ?_⟩
  ·intro y0 y1 y2 y3 y4 y5 y6 y7
   unfold impl_Windows.j0
   repeat' first
   | (with_reducible exact ih0 _ _ _ _ _ _ _ _)
   | (with_reducible exact ih1 _ _ _ _ _ _ _)
   | (with_reducible exact impl_BeltOk.mono _ _ _ _ _)
   | (with_reducible exact LeO.refl _)
   | (with_reducible exact LeO.none _)
   | (with_reducible refine LeO.ite ?_ ?_)
   | (with_reducible refine LeO.bind ?_ (fun _ => ?_))
   | exact ih0 _ _ _ _ _ _ _ _
   | exact ih1 _ _ _ _ _ _ _
   | exact impl_BeltOk.mono _ _ _ _ _
   | exact LeO.none _
   | refine LeO.ite ?_ ?_
   | refine LeO.bind ?_ (fun _ => ?_)
  ·intro y0 y1 y2 y3 y4 y5 y6
   unfold impl_Windows.l0
   repeat' first
   | (with_reducible exact ih0 _ _ _ _ _ _ _ _)
   | (with_reducible exact ih1 _ _ _ _ _ _ _)
   | (with_reducible exact impl_BeltOk.mono _ _ _ _ _)
   | (with_reducible exact LeO.refl _)
   | (with_reducible exact LeO.none _)
   | (with_reducible refine LeO.ite ?_ ?_)
   | (with_reducible refine LeO.bind ?_ (fun _ => ?_))
   | exact ih0 _ _ _ _ _ _ _ _
   | exact ih1 _ _ _ _ _ _ _
   | exact impl_BeltOk.mono _ _ _ _ _
   | exact LeO.none _
   | refine LeO.ite ?_ ?_
   | refine LeO.bind ?_ (fun _ => ?_)
theorem impl_Windows.mono : ∀ a0 a1 a2 a3 a4 a5 a6 k, LeO (impl_Windows.f k a0 a1 a2 a3 a4 a5 a6) (impl_Windows.f (k + 1) a0 a1 a2 a3 a4 a5 a6) := by
 intro a0 a1 a2 a3 a4 a5 a6 k
 obtain ⟨ih0, ih1⟩ := impl_Windows.mono_l k
 unfold impl_Windows.f
 repeat' first
   | (with_reducible exact ih0 _ _ _ _ _ _ _ _)
   | (with_reducible exact ih1 _ _ _ _ _ _ _)
   | (with_reducible exact impl_BeltOk.mono _ _ _ _ _)
   | (with_reducible exact LeO.refl _)
   | (with_reducible exact LeO.none _)
   | (with_reducible refine LeO.ite ?_ ?_)
   | (with_reducible refine LeO.bind ?_ (fun _ => ?_))
   | exact ih0 _ _ _ _ _ _ _ _
   | exact ih1 _ _ _ _ _ _ _
   | exact impl_BeltOk.mono _ _ _ _ _
   | exact LeO.none _
   | refine LeO.ite ?_ ?_
   | refine LeO.bind ?_ (fun _ => ?_)
def impl_Windows.T9 : Bool × List (List Nat × List Nat) := (true, [([], []), ([], []), ([1], [1]), ([], []), ([], []), ([3, 4], [3, 4]), ([5], [5]), ([], []), ([], []), ([7, 8], [7, 8]), ([9, 6], [9]), ([2, 6, 10], [2, 6, 10]), ([11], [11]), ([0, 12, 10], [0, 12]), ([13, 13, 0, 1, 2, 3, 4, 5, 6, 7, 8, 9, 10, 11, 12, 13], [0, 13])])
def impl_Windows.B9 : List Nat := [0, 0, 2, 0, 0, 24, 56, 0, 0, 384, 1016, 2046, 4094, 8191, 16383]
theorem impl_Windows.tab9 : rtab .any (opsOf Try.f40 9) = impl_Windows.T9 := by kernel_rfl
theorem impl_Windows.bits9 : waitsOk impl_Windows.T9.2 impl_Windows.B9 = true := by kernel_rfl
set_option maxHeartbeats 8000000 in
set_option maxRecDepth 100000 in
theorem impl_Windows.calls (k : Nat) (a0_0 : Int) (a0_1 : Int) (a0_2 : Bool) (A0_3 : Option Addr) (c0_3 : Nat) (l0_3 : List (S74)) (a1 : Int) (a2 : Int) (a3 : Int) (r1 : List (S47)) (r2 : Bool) (w : World) (hr0_3 : Kd.C k74 w A0_3 l0_3.length l0_3) (hc0_3 : l0_3.length ≤ c0_3) (h : impl_Windows.f k a0_0 a0_1 a0_2 l0_3 a1 a2 a3 = some (r1, r2)) :
  Calls Try.prog 40 #[.agg #[.int .i64 a0_0, .int .i64 a0_1, .bool a0_2, .slice A0_3 l0_3.length c0_3], .int .i64 a1, .int .i64 a2, .int .i64 a3] w fun e w' => ∃ v0_ : Value, e = .returned (.tuple #[v0_, .bool r2]) ∧ Kd.R k47 47 w' w.heap.size (fun _ => True) v0_ r1 ∧ Below w.heap.size w w' := by
 have hu63 := Try.underlying63
 have hu74 := Try.underlying74
 have hu47 := Try.underlying47
 have HR0_3 := uD hr0_3
 have HC0_3 := uD hc0_3
 clear hr0_3 hc0_3
 have HB := uD (Below.refl w.heap.size w)
 have H : ((impl_BeltOk.f k a0_0 a0_1 a0_2 l0_3).bind fun t139 => (if t139 = true then (if a1 < 1 then (impl_Windows.j0 k a1 a2 a3 true a0_0 a0_1 a0_2 l0_3) else (if a1 > a0_0 then (impl_Windows.j0 k a1 a2 a3 true a0_0 a0_1 a0_2 l0_3) else ((impl_isTick.f a2).bind fun t140 => (if t140 = true then ((impl_isTick.f a3).bind fun t141 => (impl_Windows.j0 k a1 a2 a3 (!t141) a0_0 a0_1 a0_2 l0_3)) else (impl_Windows.j0 k a1 a2 a3 true a0_0 a0_1 a0_2 l0_3))))) else (impl_Windows.j0 k a1 a2 a3 true a0_0 a0_1 a0_2 l0_3))) = some (r1, r2) := h
 clear h
 have HC5 := uD H
 clear H
 go_enter Try.func40, Try.ntmps40
 go_upto_region 1 with (first | ((with_reducible refine gate_dst (N := 4) rfl ?_); refine box_event ?hg (N := 4) ?hd (cs := #[.int .i64 a0_0, .int .i64 a0_1, .bool a0_2, .slice A0_3 l0_3.length c0_3]) (t := 63) ?hr ?_; (case hd => rfl); (case hg => rfl); (case hr => first | (go_simp; done) | (go_simp; rfl)); intro gb138 hg w6 hbox hb; have n0_ := uD (uO (by repeat (first | (with_reducible first | exact HB.out | apply uL | apply uE | apply uK) | exact HB.out)) hb); have n1_ := uD (hbox); have n2_ := uD ((by rw [hg]; exact (uN (by repeat (first | (with_reducible first | exact HB.out | apply uL | apply uE | apply uK) | exact HB.out))) : w.heap.size ≤ gb138)); have n3_ := uD ((by rw [hg]; exact (uN (by repeat (first | (with_reducible first | exact HB.out | apply uL | apply uE | apply uK) | exact HB.out))) : w.heap.size ≤ gb138)); clear HB; have HB := n0_; have BK138 := n1_; have GW138 := n2_; have GE138 := n3_; clear n0_ n1_ n2_ n3_; clear hb hbox hg))
 (try simp only [uc, uA, uB, uC])
 go_cut [36] (fun v36 wc => ∃ (kq : Nat) (x36_4 : Bool), v36 = .bool x36_4 ∧ Aside0 (impl_Windows.j0 kq a1 a2 a3 x36_4 a0_0 a0_1 a0_2 l0_3 = some (r1, r2)) ∧ Aside0 (kq ≤ k) ∧ Aside0 (wc.heap[gb138]? = some (.cells #[.int .i64 a0_0, .int .i64 a0_1, .bool a0_2, (.slice A0_3 l0_3.length c0_3)] 63 (0, 0))) ∧ Aside0 (Below w.heap.size w wc))
 case first =>
  have H := HC5.out
  clear HC5
  replace H := Option.bind_eq_some_iff.mp H
  obtain ⟨t139, A70, H⟩ := H
  replace H : (if t139 = true then (if a1 < 1 then (impl_Windows.j0 k a1 a2 a3 true a0_0 a0_1 a0_2 l0_3) else (if a1 > a0_0 then (impl_Windows.j0 k a1 a2 a3 true a0_0 a0_1 a0_2 l0_3) else ((impl_isTick.f a2).bind fun t140 => (if t140 = true then ((impl_isTick.f a3).bind fun t141 => (impl_Windows.j0 k a1 a2 a3 (!t141) a0_0 a0_1 a0_2 l0_3)) else (impl_Windows.j0 k a1 a2 a3 true a0_0 a0_1 a0_2 l0_3))))) else (impl_Windows.j0 k a1 a2 a3 true a0_0 a0_1 a0_2 l0_3)) = some (r1, r2) := H
  have A7 := uD A70
  clear A70
  by_cases c8 : t139 = true
  ·subst c8
   have H1 : (if a1 < 1 then (impl_Windows.j0 k a1 a2 a3 true a0_0 a0_1 a0_2 l0_3) else (if a1 > a0_0 then (impl_Windows.j0 k a1 a2 a3 true a0_0 a0_1 a0_2 l0_3) else ((impl_isTick.f a2).bind fun t140 => (if t140 = true then ((impl_isTick.f a3).bind fun t141 => (impl_Windows.j0 k a1 a2 a3 (!t141) a0_0 a0_1 a0_2 l0_3)) else (impl_Windows.j0 k a1 a2 a3 true a0_0 a0_1 a0_2 l0_3))))) = some (r1, r2) := by rw [if_pos rfl] at H; first | done | exact H
   clear H
   have H := H1
   clear H1
   by_cases c9 : a1 < 1
   ·rw [if_pos c9] at H
    have c9b0 : decide (a1 < 1) = true := decide_eq_true c9
    clear c9
    (first | rw [c9b0] | (simp only [uZ, ua]; rw [c9b0]) | skip)
    have H' := uD H
    clear H
    have hcz10_0 : w6.cell? ⟨gb138, 0, none⟩ = some (.int .i64 a0_0) := (uF BK138.out 0).trans rfl
    have hcz10_1 : w6.cell? ⟨gb138, 1, none⟩ = some (.int .i64 a0_1) := (uF BK138.out 1).trans rfl
    have hcz10_2 : w6.cell? ⟨gb138, 2, none⟩ = some (.bool a0_2) := (uF BK138.out 2).trans rfl
    have hcz10_3 : w6.cell? ⟨gb138, 3, none⟩ = some (.slice A0_3 l0_3.length c0_3) := (uF BK138.out 3).trans rfl
    have hfz10_0 := uI BK138.out 0
    have hfz10_1 := uI BK138.out 1
    have hfz10_2 := uI BK138.out 2
    have hfz10_3 := uI BK138.out 3
    go_wp2_with (first | ((with_reducible refine gate_callee (f := 78) rfl ?_); refine goesL_ (some 15) rfl rfl Try.func78 (by kernel_rfl) rfl #[.agg #[.int .i64 a0_0, .int .i64 a0_1, .bool a0_2, .slice A0_3 l0_3.length c0_3]] rfl (by (try simp only [List.map_toArray, List.map_cons, List.map_nil]); first | done | rfl | (simp only [List.length_drop, List.length_take]; rfl)) ?_; (with_reducible refine (impl_BeltOk.calls k a0_0 a0_1 a0_2 _ _ l0_3 true _ ?side1 ?side2 A7.out).mono ?_); (case side1 => repeat (first | exact (Kd.C_below HR0_3.out HB.out) | (with_reducible refine Kd.C_alloc ?_ _) | (with_reducible refine Kd.C_drewN ?_ _) | (with_reducible refine Kd.C_drew ?_))); (case side2 => exact HC0_3.out); rintro e w11 ⟨rfl, hb⟩; refine ⟨_, rfl, ?_⟩; have n0_ := uD (blk_below (g := gb138) (o := .cells #[.int .i64 a0_0, .int .i64 a0_1, .bool a0_2, .slice A0_3 l0_3.length c0_3] 63 (0, 0)) (by (with_reducible repeat (first | refine uH ?_ _ | refine uJ ?_ | refine uG ?_ _)); exact BK138.out) hb); have n1_ := uD (uO (by repeat (first | (with_reducible first | exact HB.out | apply uL | apply uE | apply uK | refine uM ?_ GE138.out) | exact HB.out)) hb); clear BK138; clear HB; have BK138 := n0_; have HB := n1_; clear n0_ n1_; (try clear hb); (try clear hb2); (try clear hk); (try clear hi)))
    go_meet
    case rel => exact ⟨_, (true), (by first | rfl | (simp; done) | (simp [*]; done)), H', ⟨by first | omega | exact Nat.le_refl _⟩, ⟨by (with_reducible repeat (first | refine uH ?_ _ | refine uJ ?_ | refine uG ?_ _)); exact BK138.out⟩, ⟨by repeat (first | (with_reducible first | exact HB.out | apply uL | apply uE | apply uK | refine uM ?_ GE138.out) | exact HB.out)⟩⟩
   ·rw [if_neg c9] at H
    have c9b0 : decide (a1 < 1) = false := decide_eq_false c9
    clear c9
    (first | rw [c9b0] | (simp only [uZ, ua]; rw [c9b0]) | skip)
    by_cases c12 : a1 > a0_0
    ·rw [if_pos c12] at H
     have c12b0 : decide (a0_0 < a1) = true := decide_eq_true c12
     clear c12
     have H' := uD H
     clear H
     have hcz13_0 : w6.cell? ⟨gb138, 0, none⟩ = some (.int .i64 a0_0) := (uF BK138.out 0).trans rfl
     have hcz13_1 : w6.cell? ⟨gb138, 1, none⟩ = some (.int .i64 a0_1) := (uF BK138.out 1).trans rfl
     have hcz13_2 : w6.cell? ⟨gb138, 2, none⟩ = some (.bool a0_2) := (uF BK138.out 2).trans rfl
     have hcz13_3 : w6.cell? ⟨gb138, 3, none⟩ = some (.slice A0_3 l0_3.length c0_3) := (uF BK138.out 3).trans rfl
     have hfz13_0 := uI BK138.out 0
     have hfz13_1 := uI BK138.out 1
     have hfz13_2 := uI BK138.out 2
     have hfz13_3 := uI BK138.out 3
     go_wp2_with (first | ((with_reducible refine gate_callee (f := 78) rfl ?_); refine goesL_ (some 15) rfl rfl Try.func78 (by kernel_rfl) rfl #[.agg #[.int .i64 a0_0, .int .i64 a0_1, .bool a0_2, .slice A0_3 l0_3.length c0_3]] rfl (by (try simp only [List.map_toArray, List.map_cons, List.map_nil]); first | done | rfl | (simp only [List.length_drop, List.length_take]; rfl)) ?_; (with_reducible refine (impl_BeltOk.calls k a0_0 a0_1 a0_2 _ _ l0_3 true _ ?side1 ?side2 A7.out).mono ?_); (case side1 => repeat (first | exact (Kd.C_below HR0_3.out HB.out) | (with_reducible refine Kd.C_alloc ?_ _) | (with_reducible refine Kd.C_drewN ?_ _) | (with_reducible refine Kd.C_drew ?_))); (case side2 => exact HC0_3.out); rintro e w14 ⟨rfl, hb⟩; refine ⟨_, rfl, ?_⟩; have n0_ := uD (blk_below (g := gb138) (o := .cells #[.int .i64 a0_0, .int .i64 a0_1, .bool a0_2, .slice A0_3 l0_3.length c0_3] 63 (0, 0)) (by (with_reducible repeat (first | refine uH ?_ _ | refine uJ ?_ | refine uG ?_ _)); exact BK138.out) hb); have n1_ := uD (uO (by repeat (first | (with_reducible first | exact HB.out | apply uL | apply uE | apply uK | refine uM ?_ GE138.out) | exact HB.out)) hb); clear BK138; clear HB; have BK138 := n0_; have HB := n1_; clear n0_ n1_; (try clear hb); (try clear hb2); (try clear hk); (try clear hi); have hcz15_0 : w14.cell? ⟨gb138, 0, none⟩ = some (.int .i64 a0_0) := (uF BK138.out 0).trans rfl; have hcz15_1 : w14.cell? ⟨gb138, 1, none⟩ = some (.int .i64 a0_1) := (uF BK138.out 1).trans rfl; have hcz15_2 : w14.cell? ⟨gb138, 2, none⟩ = some (.bool a0_2) := (uF BK138.out 2).trans rfl; have hcz15_3 : w14.cell? ⟨gb138, 3, none⟩ = some (.slice A0_3 l0_3.length c0_3) := (uF BK138.out 3).trans rfl; have hfz15_0 := uI BK138.out 0; have hfz15_1 := uI BK138.out 1; have hfz15_2 := uI BK138.out 2; have hfz15_3 := uI BK138.out 3))
     go_meet
     case rel => exact ⟨_, (true), (by first | rfl | (simp; done) | (simp [*]; done)), H', ⟨by first | omega | exact Nat.le_refl _⟩, ⟨by (with_reducible repeat (first | refine uH ?_ _ | refine uJ ?_ | refine uG ?_ _)); exact BK138.out⟩, ⟨by repeat (first | (with_reducible first | exact HB.out | apply uL | apply uE | apply uK | refine uM ?_ GE138.out) | exact HB.out)⟩⟩
    ·rw [if_neg c12] at H
     have c12b0 : decide (a0_0 < a1) = false := decide_eq_false c12
     clear c12
     replace H := Option.bind_eq_some_iff.mp H
     obtain ⟨t140, A160, H⟩ := H
     replace H : (if t140 = true then ((impl_isTick.f a3).bind fun t141 => (impl_Windows.j0 k a1 a2 a3 (!t141) a0_0 a0_1 a0_2 l0_3)) else (impl_Windows.j0 k a1 a2 a3 true a0_0 a0_1 a0_2 l0_3)) = some (r1, r2) := H
     have A16 := uD A160
     clear A160
     by_cases c17 : t140 = true
     ·subst c17
      have H1 : ((impl_isTick.f a3).bind fun t141 => (impl_Windows.j0 k a1 a2 a3 (!t141) a0_0 a0_1 a0_2 l0_3)) = some (r1, r2) := by rw [if_pos rfl] at H; first | done | exact H
      clear H
      have H := H1
      clear H1
      replace H := Option.bind_eq_some_iff.mp H
      obtain ⟨t141, A180, H⟩ := H
      replace H : (impl_Windows.j0 k a1 a2 a3 (!t141) a0_0 a0_1 a0_2 l0_3) = some (r1, r2) := H
      have A18 := uD A180
      clear A180
      have H' := uD H
      clear H
      have hcz19_0 : w6.cell? ⟨gb138, 0, none⟩ = some (.int .i64 a0_0) := (uF BK138.out 0).trans rfl
      have hcz19_1 : w6.cell? ⟨gb138, 1, none⟩ = some (.int .i64 a0_1) := (uF BK138.out 1).trans rfl
      have hcz19_2 : w6.cell? ⟨gb138, 2, none⟩ = some (.bool a0_2) := (uF BK138.out 2).trans rfl
      have hcz19_3 : w6.cell? ⟨gb138, 3, none⟩ = some (.slice A0_3 l0_3.length c0_3) := (uF BK138.out 3).trans rfl
      have hfz19_0 := uI BK138.out 0
      have hfz19_1 := uI BK138.out 1
      have hfz19_2 := uI BK138.out 2
      have hfz19_3 := uI BK138.out 3
      go_wp2_with (first | ((with_reducible refine gate_callee (f := 78) rfl ?_); refine goesL_ (some 15) rfl rfl Try.func78 (by kernel_rfl) rfl #[.agg #[.int .i64 a0_0, .int .i64 a0_1, .bool a0_2, .slice A0_3 l0_3.length c0_3]] rfl (by (try simp only [List.map_toArray, List.map_cons, List.map_nil]); first | done | rfl | (simp only [List.length_drop, List.length_take]; rfl)) ?_; (with_reducible refine (impl_BeltOk.calls k a0_0 a0_1 a0_2 _ _ l0_3 true _ ?side1 ?side2 A7.out).mono ?_); (case side1 => repeat (first | exact (Kd.C_below HR0_3.out HB.out) | (with_reducible refine Kd.C_alloc ?_ _) | (with_reducible refine Kd.C_drewN ?_ _) | (with_reducible refine Kd.C_drew ?_))); (case side2 => exact HC0_3.out); rintro e w20 ⟨rfl, hb⟩; refine ⟨_, rfl, ?_⟩; have n0_ := uD (blk_below (g := gb138) (o := .cells #[.int .i64 a0_0, .int .i64 a0_1, .bool a0_2, .slice A0_3 l0_3.length c0_3] 63 (0, 0)) (by (with_reducible repeat (first | refine uH ?_ _ | refine uJ ?_ | refine uG ?_ _)); exact BK138.out) hb); have n1_ := uD (uO (by repeat (first | (with_reducible first | exact HB.out | apply uL | apply uE | apply uK | refine uM ?_ GE138.out) | exact HB.out)) hb); clear BK138; clear HB; have BK138 := n0_; have HB := n1_; clear n0_ n1_; (try clear hb); (try clear hb2); (try clear hk); (try clear hi); have hcz21_0 : w20.cell? ⟨gb138, 0, none⟩ = some (.int .i64 a0_0) := (uF BK138.out 0).trans rfl; have hcz21_1 : w20.cell? ⟨gb138, 1, none⟩ = some (.int .i64 a0_1) := (uF BK138.out 1).trans rfl; have hcz21_2 : w20.cell? ⟨gb138, 2, none⟩ = some (.bool a0_2) := (uF BK138.out 2).trans rfl; have hcz21_3 : w20.cell? ⟨gb138, 3, none⟩ = some (.slice A0_3 l0_3.length c0_3) := (uF BK138.out 3).trans rfl; have hfz21_0 := uI BK138.out 0; have hfz21_1 := uI BK138.out 1; have hfz21_2 := uI BK138.out 2; have hfz21_3 := uI BK138.out 3) | (go_at_call 59; (with_reducible refine (impl_isTick.calls a2 true _ A16.out).mono ?_); rintro e w' ⟨rfl, ⟨nd, rfl⟩⟩) | (go_at_call 59; (with_reducible refine (impl_isTick.calls a3 t141 _ A18.out).mono ?_); rintro e w' ⟨rfl, ⟨nd, rfl⟩⟩))
      go_meet
      case rel => exact ⟨_, (!t141), (by first | rfl | (simp; done) | (simp [*]; done)), H', ⟨by first | omega | exact Nat.le_refl _⟩, ⟨by (with_reducible repeat (first | refine uH ?_ _ | refine uJ ?_ | refine uG ?_ _)); exact BK138.out⟩, ⟨by repeat (first | (with_reducible first | exact HB.out | apply uL | apply uE | apply uK | refine uM ?_ GE138.out) | exact HB.out)⟩⟩
     ·replace c17 := Bool.eq_false_iff.mpr c17
      subst c17
      have H1 : (impl_Windows.j0 k a1 a2 a3 true a0_0 a0_1 a0_2 l0_3) = some (r1, r2) := by rw [if_neg (show ¬ (false = true) by decide)] at H; first | done | exact H
      clear H
      have H := H1
      clear H1
      have H' := uD H
      clear H
      have hcz22_0 : w6.cell? ⟨gb138, 0, none⟩ = some (.int .i64 a0_0) := (uF BK138.out 0).trans rfl
      have hcz22_1 : w6.cell? ⟨gb138, 1, none⟩ = some (.int .i64 a0_1) := (uF BK138.out 1).trans rfl
      have hcz22_2 : w6.cell? ⟨gb138, 2, none⟩ = some (.bool a0_2) := (uF BK138.out 2).trans rfl
      have hcz22_3 : w6.cell? ⟨gb138, 3, none⟩ = some (.slice A0_3 l0_3.length c0_3) := (uF BK138.out 3).trans rfl
      have hfz22_0 := uI BK138.out 0
      have hfz22_1 := uI BK138.out 1
      have hfz22_2 := uI BK138.out 2
      have hfz22_3 := uI BK138.out 3
      go_wp2_with (first | ((with_reducible refine gate_callee (f := 78) rfl ?_); refine goesL_ (some 15) rfl rfl Try.func78 (by kernel_rfl) rfl #[.agg #[.int .i64 a0_0, .int .i64 a0_1, .bool a0_2, .slice A0_3 l0_3.length c0_3]] rfl (by (try simp only [List.map_toArray, List.map_cons, List.map_nil]); first | done | rfl | (simp only [List.length_drop, List.length_take]; rfl)) ?_; (with_reducible refine (impl_BeltOk.calls k a0_0 a0_1 a0_2 _ _ l0_3 true _ ?side1 ?side2 A7.out).mono ?_); (case side1 => repeat (first | exact (Kd.C_below HR0_3.out HB.out) | (with_reducible refine Kd.C_alloc ?_ _) | (with_reducible refine Kd.C_drewN ?_ _) | (with_reducible refine Kd.C_drew ?_))); (case side2 => exact HC0_3.out); rintro e w23 ⟨rfl, hb⟩; refine ⟨_, rfl, ?_⟩; have n0_ := uD (blk_below (g := gb138) (o := .cells #[.int .i64 a0_0, .int .i64 a0_1, .bool a0_2, .slice A0_3 l0_3.length c0_3] 63 (0, 0)) (by (with_reducible repeat (first | refine uH ?_ _ | refine uJ ?_ | refine uG ?_ _)); exact BK138.out) hb); have n1_ := uD (uO (by repeat (first | (with_reducible first | exact HB.out | apply uL | apply uE | apply uK | refine uM ?_ GE138.out) | exact HB.out)) hb); clear BK138; clear HB; have BK138 := n0_; have HB := n1_; clear n0_ n1_; (try clear hb); (try clear hb2); (try clear hk); (try clear hi); have hcz24_0 : w23.cell? ⟨gb138, 0, none⟩ = some (.int .i64 a0_0) := (uF BK138.out 0).trans rfl; have hcz24_1 : w23.cell? ⟨gb138, 1, none⟩ = some (.int .i64 a0_1) := (uF BK138.out 1).trans rfl; have hcz24_2 : w23.cell? ⟨gb138, 2, none⟩ = some (.bool a0_2) := (uF BK138.out 2).trans rfl; have hcz24_3 : w23.cell? ⟨gb138, 3, none⟩ = some (.slice A0_3 l0_3.length c0_3) := (uF BK138.out 3).trans rfl; have hfz24_0 := uI BK138.out 0; have hfz24_1 := uI BK138.out 1; have hfz24_2 := uI BK138.out 2; have hfz24_3 := uI BK138.out 3) | (go_at_call 59; (with_reducible refine (impl_isTick.calls a2 false _ A16.out).mono ?_); rintro e w' ⟨rfl, ⟨nd, rfl⟩⟩))
      go_meet
      case rel => exact ⟨_, (true), (by first | rfl | (simp; done) | (simp [*]; done)), H', ⟨by first | omega | exact Nat.le_refl _⟩, ⟨by (with_reducible repeat (first | refine uH ?_ _ | refine uJ ?_ | refine uG ?_ _)); exact BK138.out⟩, ⟨by repeat (first | (with_reducible first | exact HB.out | apply uL | apply uE | apply uK | refine uM ?_ GE138.out) | exact HB.out)⟩⟩
  ·replace c8 := Bool.eq_false_iff.mpr c8
   subst c8
   have H1 : (impl_Windows.j0 k a1 a2 a3 true a0_0 a0_1 a0_2 l0_3) = some (r1, r2) := by rw [if_neg (show ¬ (false = true) by decide)] at H; first | done | exact H
   clear H
   have H := H1
   clear H1
   have H' := uD H
   clear H
   have hcz25_0 : w6.cell? ⟨gb138, 0, none⟩ = some (.int .i64 a0_0) := (uF BK138.out 0).trans rfl
   have hcz25_1 : w6.cell? ⟨gb138, 1, none⟩ = some (.int .i64 a0_1) := (uF BK138.out 1).trans rfl
   have hcz25_2 : w6.cell? ⟨gb138, 2, none⟩ = some (.bool a0_2) := (uF BK138.out 2).trans rfl
   have hcz25_3 : w6.cell? ⟨gb138, 3, none⟩ = some (.slice A0_3 l0_3.length c0_3) := (uF BK138.out 3).trans rfl
   have hfz25_0 := uI BK138.out 0
   have hfz25_1 := uI BK138.out 1
   have hfz25_2 := uI BK138.out 2
   have hfz25_3 := uI BK138.out 3
   go_wp2_with (first | ((with_reducible refine gate_callee (f := 78) rfl ?_); refine goesL_ (some 15) rfl rfl Try.func78 (by kernel_rfl) rfl #[.agg #[.int .i64 a0_0, .int .i64 a0_1, .bool a0_2, .slice A0_3 l0_3.length c0_3]] rfl (by (try simp only [List.map_toArray, List.map_cons, List.map_nil]); first | done | rfl | (simp only [List.length_drop, List.length_take]; rfl)) ?_; (with_reducible refine (impl_BeltOk.calls k a0_0 a0_1 a0_2 _ _ l0_3 false _ ?side1 ?side2 A7.out).mono ?_); (case side1 => repeat (first | exact (Kd.C_below HR0_3.out HB.out) | (with_reducible refine Kd.C_alloc ?_ _) | (with_reducible refine Kd.C_drewN ?_ _) | (with_reducible refine Kd.C_drew ?_))); (case side2 => exact HC0_3.out); rintro e w26 ⟨rfl, hb⟩; refine ⟨_, rfl, ?_⟩; have n0_ := uD (blk_below (g := gb138) (o := .cells #[.int .i64 a0_0, .int .i64 a0_1, .bool a0_2, .slice A0_3 l0_3.length c0_3] 63 (0, 0)) (by (with_reducible repeat (first | refine uH ?_ _ | refine uJ ?_ | refine uG ?_ _)); exact BK138.out) hb); have n1_ := uD (uO (by repeat (first | (with_reducible first | exact HB.out | apply uL | apply uE | apply uK | refine uM ?_ GE138.out) | exact HB.out)) hb); clear BK138; clear HB; have BK138 := n0_; have HB := n1_; clear n0_ n1_; (try clear hb); (try clear hb2); (try clear hk); (try clear hi)))
   go_meet
   case rel => exact ⟨_, (true), (by first | rfl | (simp; done) | (simp [*]; done)), H', ⟨by first | omega | exact Nat.le_refl _⟩, ⟨by (with_reducible repeat (first | refine uH ?_ _ | refine uJ ?_ | refine uG ?_ _)); exact BK138.out⟩, ⟨by repeat (first | (with_reducible first | exact HB.out | apply uL | apply uE | apply uK | refine uM ?_ GE138.out) | exact HB.out)⟩⟩
 case rest =>
  clear HC5
  try clear c1
  try clear p2
  try clear c4
  try clear c7
  try clear c8
  try clear c9
  try clear c9b0
  try clear c12
  try clear c12b0
  try clear c17
  try clear hcz10_0
  try clear hcz10_1
  try clear hcz10_2
  try clear hcz10_3
  try clear hcz13_0
  try clear hcz13_1
  try clear hcz13_2
  try clear hcz13_3
  try clear hcz15_0
  try clear hcz15_1
  try clear hcz15_2
  try clear hcz15_3
  try clear hcz19_0
  try clear hcz19_1
  try clear hcz19_2
  try clear hcz19_3
  try clear hcz21_0
  try clear hcz21_1
  try clear hcz21_2
  try clear hcz21_3
  try clear hcz22_0
  try clear hcz22_1
  try clear hcz22_2
  try clear hcz22_3
  try clear hcz24_0
  try clear hcz24_1
  try clear hcz24_2
  try clear hcz24_3
  try clear hcz25_0
  try clear hcz25_1
  try clear hcz25_2
  try clear hcz25_3
  try clear hfz10_0
  try clear hfz10_1
  try clear hfz10_2
  try clear hfz10_3
  try clear hfz13_0
  try clear hfz13_1
  try clear hfz13_2
  try clear hfz13_3
  try clear hfz15_0
  try clear hfz15_1
  try clear hfz15_2
  try clear hfz15_3
  try clear hfz19_0
  try clear hfz19_1
  try clear hfz19_2
  try clear hfz19_3
  try clear hfz21_0
  try clear hfz21_1
  try clear hfz21_2
  try clear hfz21_3
  try clear hfz22_0
  try clear hfz22_1
  try clear hfz22_2
  try clear hfz22_3
  try clear hfz24_0
  try clear hfz24_1
  try clear hfz24_2
  try clear hfz24_3
  try clear hfz25_0
  try clear hfz25_1
  try clear hfz25_2
  try clear hfz25_3
  obtain ⟨kq, x36_4, rfl, HA, HJ4, BK138, HB⟩ := hcut
  cases kq with
  | zero => exact absurd HA.out (by simp [impl_Windows.j0])
  | succ kj4 =>
   have H := HA.out
   clear HA
   simp only [impl_Windows.j0] at H
   by_cases c27 : x36_4 = true
   ·subst c27
    have H1 : (some (([] : List (S47)), false)) = some (r1, r2) := by rw [if_pos rfl] at H; first | done | exact H
    clear H
    have H := H1
    clear H1
    simp only [Option.some.injEq, Prod.mk.injEq] at H
    obtain ⟨rfl, rfl⟩ := H
    go_wp2
    go_ret2
    exact ⟨_, by first | rfl | (simp [errW_none, errW_some] <;> rfl) | (simp [*, errW_none, errW_some] <;> rfl), by first | exact Kd.R_nil _ _ _ _ _ | exact Kd.N_nil _ _ _ _ _ | exact Kd.V_nil _ _ _ _ _ | exact Kd.Q_nil _ _ _ _ _ | exact Kd.S_nil _ _ _ _ _, by repeat (first | (with_reducible first | exact HB.out | apply uL | apply uE | apply uK | refine uM ?_ GE138.out) | exact HB.out)⟩
   ·replace c27 := Bool.eq_false_iff.mpr c27
    subst c27
    have H1 : (impl_Windows.l0 kj4 a1 a2 a3 ([] : List (S47)) l0_3 (l0_3.length : Int) 0) = some (r1, r2) := by rw [if_neg (show ¬ (false = true) by decide)] at H; first | done | exact H
    clear H
    have H := H1
    clear H1
    have H' := uD H
    clear H
    have hcz28_0 : wc.cell? ⟨gb138, 0, none⟩ = some (.int .i64 a0_0) := (uF BK138.out 0).trans rfl
    have hcz28_1 : wc.cell? ⟨gb138, 1, none⟩ = some (.int .i64 a0_1) := (uF BK138.out 1).trans rfl
    have hcz28_2 : wc.cell? ⟨gb138, 2, none⟩ = some (.bool a0_2) := (uF BK138.out 2).trans rfl
    have hcz28_3 : wc.cell? ⟨gb138, 3, none⟩ = some (.slice A0_3 l0_3.length c0_3) := (uF BK138.out 3).trans rfl
    have hfz28_0 := uI BK138.out 0
    have hfz28_1 := uI BK138.out 1
    have hfz28_2 := uI BK138.out 2
    have hfz28_3 := uI BK138.out 3
    go_wp2
    go_loopg [10, 40] kj4 (fun kq v10 v40 w' => ∃ (x10_2 : List (S47)) (x40_2 : Int), v40 = .int .i64 x40_2 ∧ Aside0 (impl_Windows.l0 kq a1 a2 a3 x10_2 l0_3 (l0_3.length : Int) x40_2 = some (r1, r2)) ∧ Aside0 (kq ≤ kj4) ∧ Aside0 (Kd.R k47 47 w' w.heap.size (fun _ => True) v10 x10_2) ∧ Aside0 (w'.heap[gb138]? = some (.cells #[.int .i64 a0_0, .int .i64 a0_1, .bool a0_2, (.slice A0_3 l0_3.length c0_3)] 63 (0, 0))) ∧ Aside0 (Below w.heap.size w w'))
    case atStart => exact ⟨(([] : List (S47))), (0), (by first | rfl | (simp; done) | (simp [*]; done)), H', ⟨Nat.le_refl _⟩, ⟨by first | exact Kd.R_nil _ _ _ _ _ | exact Kd.N_nil _ _ _ _ _ | exact Kd.V_nil _ _ _ _ _ | exact Kd.Q_nil _ _ _ _ _ | exact Kd.S_nil _ _ _ _ _⟩, ⟨by (with_reducible repeat (first | refine uH ?_ _ | refine uJ ?_ | refine uG ?_ _)); exact BK138.out⟩, ⟨by repeat (first | (with_reducible first | exact HB.out | apply uL | apply uE | apply uK | refine uM ?_ GE138.out) | exact HB.out)⟩⟩
    case round =>
     clear H'
     try clear c1
     try clear c2
     try clear p2
     try clear c4
     try clear c7
     try clear c8
     try clear c9
     try clear c9b0
     try clear c12
     try clear c12b0
     try clear c17
     try clear c27
     try clear hcz10_0
     try clear hcz10_1
     try clear hcz10_2
     try clear hcz10_3
     try clear hcz13_0
     try clear hcz13_1
     try clear hcz13_2
     try clear hcz13_3
     try clear hcz15_0
     try clear hcz15_1
     try clear hcz15_2
     try clear hcz15_3
     try clear hcz19_0
     try clear hcz19_1
     try clear hcz19_2
     try clear hcz19_3
     try clear hcz21_0
     try clear hcz21_1
     try clear hcz21_2
     try clear hcz21_3
     try clear hcz22_0
     try clear hcz22_1
     try clear hcz22_2
     try clear hcz22_3
     try clear hcz24_0
     try clear hcz24_1
     try clear hcz24_2
     try clear hcz24_3
     try clear hcz25_0
     try clear hcz25_1
     try clear hcz25_2
     try clear hcz25_3
     try clear hcz28_0
     try clear hcz28_1
     try clear hcz28_2
     try clear hcz28_3
     try clear hfz10_0
     try clear hfz10_1
     try clear hfz10_2
     try clear hfz10_3
     try clear hfz13_0
     try clear hfz13_1
     try clear hfz13_2
     try clear hfz13_3
     try clear hfz15_0
     try clear hfz15_1
     try clear hfz15_2
     try clear hfz15_3
     try clear hfz19_0
     try clear hfz19_1
     try clear hfz19_2
     try clear hfz19_3
     try clear hfz21_0
     try clear hfz21_1
     try clear hfz21_2
     try clear hfz21_3
     try clear hfz22_0
     try clear hfz22_1
     try clear hfz22_2
     try clear hfz22_3
     try clear hfz24_0
     try clear hfz24_1
     try clear hfz24_2
     try clear hfz24_3
     try clear hfz25_0
     try clear hfz25_1
     try clear hfz25_2
     try clear hfz25_3
     try clear hfz28_0
     try clear hfz28_1
     try clear hfz28_2
     try clear hfz28_3
     try clear p2
     obtain ⟨x10_2, x40_2, rfl, HA, HK2, HO_10, BK138, HB⟩ := hrel
     cases gk with
     | zero => exact absurd HA.out (by simp [impl_Windows.l0])
     | succ k2 =>
      have H := HA.out
      clear HA
      simp only [impl_Windows.l0] at H
      by_cases c29 : x40_2 < (l0_3.length : Int)
      ·rw [if_pos c29] at H
       have c29b0 : decide (x40_2 < (l0_3.length : Int)) = true := decide_eq_true c29
       clear c29
       by_cases c30 : 0 ≤ x40_2
       ·rw [if_pos c30] at H
        have c30b0 : decide (0 ≤ x40_2) = true := decide_eq_true c30
        clear c30
        by_cases c31 : x40_2 < (l0_3.length : Int)
        ·rw [if_pos c31] at H
         have c31b0 : decide (x40_2 < (l0_3.length : Int)) = true := decide_eq_true c31
         clear c31
         by_cases c32 : ((rd_T74 l0_3 x40_2).f1) < a1
         ·rw [if_pos c32] at H
          have c32b0 : decide (((rd_T74 l0_3 x40_2).f1) < a1) = true := decide_eq_true c32
          clear c32
          replace H := Option.bind_eq_some_iff.mp H
          obtain ⟨t144, A330, H⟩ := H
          replace H : ((impl_Clamp.f (wrap64 ((wrap64 ((wrap64 (a2 + a1)) - ((rd_T74 l0_3 x40_2).f1))) + a3)) 0 100000).bind fun t145 => (if x10_2.length < 5864062014805 then (impl_Windows.l0 k2 a1 a2 a3 (x10_2 ++ [(⟨(rd_T74 l0_3 x40_2).f0, t144, t145⟩ : S47)]) l0_3 (l0_3.length : Int) (wrap64 (x40_2 + 1))) else (none))) = some (r1, r2) := H
          have A33 := uD A330
          clear A330
          replace H := Option.bind_eq_some_iff.mp H
          obtain ⟨t145, A340, H⟩ := H
          replace H : (if x10_2.length < 5864062014805 then (impl_Windows.l0 k2 a1 a2 a3 (x10_2 ++ [(⟨(rd_T74 l0_3 x40_2).f0, t144, t145⟩ : S47)]) l0_3 (l0_3.length : Int) (wrap64 (x40_2 + 1))) else (none)) = some (r1, r2) := H
          have A34 := uD A340
          clear A340
          by_cases c35 : x10_2.length < 5864062014805
          ·rw [if_pos c35] at H
           have LMc35 := uD c35
           clear c35
           obtain ⟨y146, hy146⟩ : ∃ y_ : List (S47), y_ = (x10_2 ++ [(⟨(rd_T74 l0_3 x40_2).f0, t144, t145⟩ : S47)]) := ⟨_, rfl⟩
           replace H : (impl_Windows.l0 k2 a1 a2 a3 y146 l0_3 (l0_3.length : Int) (wrap64 (x40_2 + 1))) = some (r1, r2) := by first | (rw [hy146]; with_reducible exact H) | (have H2_ := (Option.bind_some _ _).symm.trans H; rw [hy146]; with_reducible exact H2_) | (have H2_ := (Option.bind_some _ _).symm.trans H; with_reducible exact H2_) | with_reducible exact H | (rw [hy146]; exact H) | exact H
           have Ny146 := uD hy146
           clear hy146
           have H' := uD H
           clear H
           have p142 : 0 ≤ (x40_2 : Int) := of_decide_eq_true (by first | (with_reducible assumption) | assumption)
           have q142 : x40_2 < (l0_3.length : Int) := of_decide_eq_true (by first | (with_reducible assumption) | assumption)
           obtain ⟨ad142, e142, hx142_0, hx142_1, hx142_2⟩ := at_T74 HR0_3.out x40_2 p142 q142
           cases e142
           replace hx142_0 := (HB.out.cell (World.block_lt_of_cell? w _ hx142_0)).trans hx142_0
           replace hx142_1 := (HB.out.cell (World.block_lt_of_cell? w _ hx142_1)).trans hx142_1
           replace hx142_2 := (HB.out.cell (World.block_lt_of_cell? w _ hx142_2)).trans hx142_2
           replace p142 := eq_true p142
           replace q142 := eq_true q142
           try go_wp2_with (first | ((with_reducible refine gate_dst (N := 12) rfl ?_); refine box_event ?hg (N := 12) ?hd (cs := #[.int .i64 0, .int .i64 0, .int .i64 0]) (t := 74) ?hr ?_; (case hd => rfl); (case hg => rfl); (case hr => first | (go_simp; done) | (go_simp; rfl)); intro gb143 hg w36 hbox hb; have n0_ := uD (Kd.R_below (by (with_reducible repeat (first | apply uU | apply uS | apply uT)); exact HO_10.out) hb); have n1_ := uD (blk_below (g := gb138) (o := .cells #[.int .i64 a0_0, .int .i64 a0_1, .bool a0_2, .slice (some ad142) l0_3.length c0_3] 63 (0, 0)) (by (with_reducible repeat (first | refine uH ?_ _ | refine uJ ?_ | refine uG ?_ _)); exact BK138.out) hb); have n2_ := uD (uO (by repeat (first | (with_reducible first | exact HB.out | apply uL | apply uE | apply uK | refine uM ?_ GE138.out) | exact HB.out)) hb); have n3_ := uD (hbox); have n4_ := uD ((by rw [hg]; exact (uN (by repeat (first | (with_reducible first | exact HB.out | apply uL | apply uE | apply uK | refine uM ?_ GE138.out) | exact HB.out))) : w.heap.size ≤ gb143)); have n5_ := uD ((by rw [hg]; exact (uN (by repeat (first | (with_reducible first | exact HB.out | apply uL | apply uE | apply uK | refine uM ?_ GE138.out) | exact HB.out))) : w.heap.size ≤ gb143)); have n6_ := uD ((by rw [hg]; exact Nat.ne_of_lt (blk_lt (g := gb138) (o := .cells #[.int .i64 a0_0, .int .i64 a0_1, .bool a0_2, .slice (some ad142) l0_3.length c0_3] 63 (0, 0)) (by (with_reducible repeat (first | refine uH ?_ _ | refine uJ ?_ | refine uG ?_ _)); exact BK138.out)) : gb138 ≠ gb143)); have n7_ := uD ((by rw [hg]; exact Nat.ne_of_gt (blk_lt (g := gb138) (o := .cells #[.int .i64 a0_0, .int .i64 a0_1, .bool a0_2, .slice (some ad142) l0_3.length c0_3] 63 (0, 0)) (by (with_reducible repeat (first | refine uH ?_ _ | refine uJ ?_ | refine uG ?_ _)); exact BK138.out)) : gb143 ≠ gb138)); clear HO_10; clear BK138; clear HB; have HO_10 := n0_; have BK138 := n1_; have HB := n2_; have BK143 := n3_; have GW143 := n4_; have GE143 := n5_; have NB138_143 := n6_; have NB143_138 := n7_; clear n0_ n1_ n2_ n3_ n4_ n5_ n6_ n7_; clear hb hbox hg; have hnb37 := NB143_138.out; have hnc37 := NB138_143.out; have hcz38_0 : w36.cell? ⟨gb143, 0, none⟩ = some (.int .i64 0) := (uF BK143.out 0).trans rfl; have hcz38_1 : w36.cell? ⟨gb143, 1, none⟩ = some (.int .i64 0) := (uF BK143.out 1).trans rfl; have hcz38_2 : w36.cell? ⟨gb143, 2, none⟩ = some (.int .i64 0) := (uF BK143.out 2).trans rfl; have hfz38_0 := uI BK143.out 0; have hfz38_1 := uI BK143.out 1; have hfz38_2 := uI BK143.out 2))
           have n0_ : Aside0 (Kd.R k47 47 (((w36.setCell ⟨gb143, 0, none⟩ (.int .i64 ((rd_T74 l0_3 x40_2).f0))).setCell ⟨gb143, 1, none⟩ (.int .i64 ((rd_T74 l0_3 x40_2).f1))).setCell ⟨gb143, 2, none⟩ (.int .i64 ((rd_T74 l0_3 x40_2).f2))) w.heap.size (fun _ => True) u10 x10_2) := ⟨by (with_reducible repeat (first | apply uU | apply uS | apply uT)); exact uX (uV (p := ⟨gb143, 2, none⟩) (uV (p := ⟨gb143, 1, none⟩) (uV (p := ⟨gb143, 0, none⟩) (uW HO_10.out BK143.out (by decide)) (fun _ hk => hk.2) (.int .i64 ((rd_T74 l0_3 x40_2).f0))) (fun _ hk => hk.2) (.int .i64 ((rd_T74 l0_3 x40_2).f1))) (fun _ hk => hk.2) (.int .i64 ((rd_T74 l0_3 x40_2).f2))) (fun _ hk => trivial)⟩
           have n1_ : Aside0 ((((w36.setCell ⟨gb143, 0, none⟩ (.int .i64 ((rd_T74 l0_3 x40_2).f0))).setCell ⟨gb143, 1, none⟩ (.int .i64 ((rd_T74 l0_3 x40_2).f1))).setCell ⟨gb143, 2, none⟩ (.int .i64 ((rd_T74 l0_3 x40_2).f2))).heap[gb138]? = some (.cells #[.int .i64 a0_0, .int .i64 a0_1, .bool a0_2, .slice (some ad142) l0_3.length c0_3] 63 (0, 0))) := ⟨by (with_reducible repeat (first | refine uH ?_ _ | refine uJ ?_ | refine uG ?_ _)); refine uQ ?_ NB138_143.out _; (with_reducible repeat (first | refine uH ?_ _ | refine uJ ?_ | refine uG ?_ _)); refine uQ ?_ NB138_143.out _; (with_reducible repeat (first | refine uH ?_ _ | refine uJ ?_ | refine uG ?_ _)); refine uQ ?_ NB138_143.out _; (with_reducible repeat (first | refine uH ?_ _ | refine uJ ?_ | refine uG ?_ _)); exact BK138.out⟩
           have n2_ : Aside0 ((((w36.setCell ⟨gb143, 0, none⟩ (.int .i64 ((rd_T74 l0_3 x40_2).f0))).setCell ⟨gb143, 1, none⟩ (.int .i64 ((rd_T74 l0_3 x40_2).f1))).setCell ⟨gb143, 2, none⟩ (.int .i64 ((rd_T74 l0_3 x40_2).f2))).heap[gb143]? = some (.cells #[.int .i64 ((rd_T74 l0_3 x40_2).f0), .int .i64 ((rd_T74 l0_3 x40_2).f1), .int .i64 ((rd_T74 l0_3 x40_2).f2)] 74 (0, 0))) := ⟨by (with_reducible repeat (first | refine uH ?_ _ | refine uJ ?_ | refine uG ?_ _)); refine uP (cs := #[.int .i64 ((rd_T74 l0_3 x40_2).f0), .int .i64 ((rd_T74 l0_3 x40_2).f1), .int .i64 0]) ?_ 2 _ rfl; (with_reducible repeat (first | refine uH ?_ _ | refine uJ ?_ | refine uG ?_ _)); refine uP (cs := #[.int .i64 ((rd_T74 l0_3 x40_2).f0), .int .i64 0, .int .i64 0]) ?_ 1 _ rfl; (with_reducible repeat (first | refine uH ?_ _ | refine uJ ?_ | refine uG ?_ _)); refine uP (cs := #[.int .i64 0, .int .i64 0, .int .i64 0]) ?_ 0 _ rfl; (with_reducible repeat (first | refine uH ?_ _ | refine uJ ?_ | refine uG ?_ _)); exact BK143.out⟩
           have n3_ : Aside0 (Below w.heap.size w (((w36.setCell ⟨gb143, 0, none⟩ (.int .i64 ((rd_T74 l0_3 x40_2).f0))).setCell ⟨gb143, 1, none⟩ (.int .i64 ((rd_T74 l0_3 x40_2).f1))).setCell ⟨gb143, 2, none⟩ (.int .i64 ((rd_T74 l0_3 x40_2).f2)))) := ⟨by repeat (first | (with_reducible first | exact HB.out | apply uL | apply uE | apply uK | refine uM ?_ GE138.out | refine uM ?_ GE143.out) | exact HB.out)⟩
           (try clear HO_10)
           (try clear BK138)
           (try clear BK143)
           (try clear HB)
           generalize (((w36.setCell ⟨gb143, 0, none⟩ (.int .i64 ((rd_T74 l0_3 x40_2).f0))).setCell ⟨gb143, 1, none⟩ (.int .i64 ((rd_T74 l0_3 x40_2).f1))).setCell ⟨gb143, 2, none⟩ (.int .i64 ((rd_T74 l0_3 x40_2).f2))) = w39 at n0_ n1_ n2_ n3_ ⊢
           have HO_10 := n0_
           have BK138 := n1_
           have BK143 := n2_
           have HB := n3_
           clear n0_ n1_ n2_ n3_
           have n0_ := uD (uT HO_10.out)
           have n1_ := uD (uJ BK138.out)
           have n2_ := uD (uJ BK143.out)
           have n3_ := uD (uK HB.out)
           clear HO_10
           clear BK138
           clear BK143
           clear HB
           have HO_10 := n0_
           have BK138 := n1_
           have BK143 := n2_
           have HB := n3_
           clear n0_ n1_ n2_ n3_
           refine start_ (n := 15) (S := fun w' => w'.cell? ⟨gb143, 0, none⟩ = some (.int .i64 ((rd_T74 l0_3 x40_2).f0)) ∧ w'.cell? ⟨gb143, 1, none⟩ = some (.int .i64 ((rd_T74 l0_3 x40_2).f1)) ∧ w'.cell? ⟨gb143, 2, none⟩ = some (.int .i64 ((rd_T74 l0_3 x40_2).f2))) (ds := []) #[false, false, false, false, false, false, false, false, false, false, false, false, false, false, false] (by kernel_rfl) rfl rfl ⟨(uF BK143.out 0).trans rfl, (uF BK143.out 1).trans rfl, (uF BK143.out 2).trans rfl⟩ (fun hHeld => ?_); refine with_tabW impl_Windows.tab9 impl_Windows.bits9 (fun HT_ HW_ => ?_)
           generalize w39.drew = w40 at HO_10 BK138 BK143 HB hHeld ⊢
           refine ub (i := 0) (N := some 54) (v := ?_) (a' := ?_) #[true, false, false, false, false, false, false, false, false, false, false, false, false, false, false] rfl rfl (uY HT_.out (by kernel_rfl)) (fun _ _ _ h => h) (Or.inl ⟨by rfl, ?_⟩) ?_ ?_
           rotate_left
           ·intro w'
            go_simp
            with_reducible rfl
           rotate_left
           ·simp only [uc, uA, uB, uC, uZ, ua]
            rfl
           refine ub (i := 1) (N := some 55) (v := ?_) (a' := ?_) #[true, true, false, false, false, false, false, false, false, false, false, false, false, false, false] rfl rfl (uY HT_.out (by kernel_rfl)) (fun _ _ _ h => h) (Or.inl ⟨by rfl, ?_⟩) ?_ ?_
           rotate_left
           ·intro w'
            go_simp
            with_reducible rfl
           rotate_left
           ·simp only [uc, uA, uB, uC, uZ, ua]
            rfl
           refine ub (i := 3) (N := some 57) (v := ?_) (a' := ?_) #[true, true, false, true, false, false, false, false, false, false, false, false, false, false, false] rfl rfl (uY HT_.out (by kernel_rfl)) (fun _ _ _ h => h) (Or.inl ⟨by rfl, ?_⟩) ?_ ?_
           rotate_left
           ·intro w'
            go_simp
            with_reducible rfl
           rotate_left
           ·simp only [uc, uA, uB, uC, uZ, ua]
            rfl
           refine ub (i := 4) (N := some 58) (v := ?_) (a' := ?_) #[true, true, false, true, true, false, false, false, false, false, false, false, false, false, false] rfl rfl (uY HT_.out (by kernel_rfl)) (fun _ _ _ h => h) (Or.inl ⟨by rfl, ?_⟩) ?_ ?_
           rotate_left
           ·intro w'
            go_simp
            with_reducible rfl
           rotate_left
           ·simp only [uc, uA, uB, uC, uZ, ua]
            rfl
           refine ub (i := 5) (N := some 59) (v := ?_) (a' := ?_) #[true, true, false, true, true, true, false, false, false, false, false, false, false, false, false] rfl rfl (uY HT_.out (by kernel_rfl)) (fun _ _ _ h => h) (Or.inl ⟨by rfl, ?_⟩) ?_ ?_
           rotate_left
           ·intro w'
            go_simp
            with_reducible rfl
           rotate_left
           ·simp only [uc, uA, uB, uC, uZ, ua]
            rfl
           refine ub (i := 7) (N := some 61) (v := ?_) (a' := ?_) #[true, true, false, true, true, true, false, true, false, false, false, false, false, false, false] rfl rfl (uY HT_.out (by kernel_rfl)) (fun _ _ _ h => h) (Or.inl ⟨by rfl, ?_⟩) ?_ ?_
           rotate_left
           ·intro w'
            go_simp
            with_reducible rfl
           rotate_left
           ·simp only [uc, uA, uB, uC, uZ, ua]
            rfl
           refine ub (i := 8) (N := some 62) (v := ?_) (a' := ?_) #[true, true, false, true, true, true, false, true, true, false, false, false, false, false, false] rfl rfl (uY HT_.out (by kernel_rfl)) (fun _ _ _ h => h) (Or.inl ⟨by rfl, ?_⟩) ?_ ?_
           rotate_left
           ·intro w'
            go_simp
            with_reducible rfl
           rotate_left
           ·simp only [uc, uA, uB, uC, uZ, ua]
            rfl
           refine ub (i := 9) (N := some 63) (v := ?_) (a' := ?_) #[true, true, false, true, true, true, false, true, true, true, false, false, false, false, false] rfl rfl (uY HT_.out (by kernel_rfl)) (fun _ _ _ h => h) (Or.inl ⟨by rfl, ?_⟩) ?_ ?_
           rotate_left
           ·intro w'
            go_simp
            with_reducible rfl
           rotate_left
           ·simp only [uc, uA, uB, uC, uZ, ua]
            rfl
           refine take_ (i := 2) (N := some 56) (v := ?_) (a' := ?_) #[true, true, true, true, true, true, false, true, true, true, false, false, false, false, false] rfl rfl (take_ofW HT_.out HW_.out (by kernel_rfl)) (fun _ _ _ h => h) (Or.inl ⟨by rfl, ?_⟩) hHeld ?_ ?_
           rotate_left
           ·rintro w' ⟨s0, s1, s2⟩
            go_simp
            with_reducible rfl
           rotate_left
           ·simp only [uc, uA, uB, uC, uZ, ua]
            rfl
           refine one_ (i := 6) (N := some 60) #[true, true, true, true, true, true, true, true, true, true, false, false, false, false, false] rfl rfl (one_of HT_.out (by kernel_rfl)) (by decide) (fun K hK => ?_)
           refine goes_ Try.func79 (by kernel_rfl) rfl #[.int .i64 (wrap64 ((wrap64 ((wrap64 (a2 + a1)) - ((rd_T74 l0_3 x40_2).f1))) - a3)), .int .i64 0, .int .i64 100000] (by rfl) rfl rfl (by (try simp only [List.map_toArray, List.map_cons, List.map_nil]); first | done | rfl | (simp only [List.length_drop, List.length_take]; rfl)) ?_
           with_reducible refine (impl_Clamp.calls (wrap64 ((wrap64 ((wrap64 (a2 + a1)) - ((rd_T74 l0_3 x40_2).f1))) - a3)) 0 100000 t144 _ A33.out).mono ?_
           rintro e w41 ⟨rfl, hb⟩
           refine ⟨_, rfl, ?_⟩
           have n0_ := uD (Kd.R_below (by (with_reducible repeat (first | apply uU | apply uS | apply uT)); exact HO_10.out) hb)
           have n1_ := uD (blk_below (g := gb138) (o := .cells #[.int .i64 a0_0, .int .i64 a0_1, .bool a0_2, .slice (some ad142) l0_3.length c0_3] 63 (0, 0)) (by (with_reducible repeat (first | refine uH ?_ _ | refine uJ ?_ | refine uG ?_ _)); exact BK138.out) hb)
           have n2_ := uD (blk_below (g := gb143) (o := .cells #[.int .i64 ((rd_T74 l0_3 x40_2).f0), .int .i64 ((rd_T74 l0_3 x40_2).f1), .int .i64 ((rd_T74 l0_3 x40_2).f2)] 74 (0, 0)) (by (with_reducible repeat (first | refine uH ?_ _ | refine uJ ?_ | refine uG ?_ _)); exact BK143.out) hb)
           have n3_ := uD (uO (by repeat (first | (with_reducible first | exact HB.out | apply uL | apply uE | apply uK | refine uM ?_ GE138.out | refine uM ?_ GE143.out) | exact HB.out)) hb)
           clear HO_10
           clear BK138
           clear BK143
           clear HB
           have HO_10 := n0_
           have BK138 := n1_
           have BK143 := n2_
           have HB := n3_
           clear n0_ n1_ n2_ n3_
           (try clear hb)
           (try clear hb2)
           (try clear hk)
           (try clear hi)
           refine hK.out _ _ ⟨(uF BK143.out 0).trans rfl, (uF BK143.out 1).trans rfl, (uF BK143.out 2).trans rfl⟩ (fun hHeld => ?_)
           clear hK K
           refine norm_ (a' := ?_) ?_ ?_
           rotate_left
           ·show uc _ (some 60) _ = _
            simp only [uc, uA, uB, uC, uZ, ua]
            rfl
           refine one_ (i := 10) (N := some 64) #[true, true, true, true, true, true, true, true, true, true, true, false, false, false, false] rfl rfl (one_of HT_.out (by kernel_rfl)) (by decide) (fun K hK => ?_)
           refine goes_ Try.func79 (by kernel_rfl) rfl #[.int .i64 (wrap64 ((wrap64 ((wrap64 (a2 + a1)) - ((rd_T74 l0_3 x40_2).f1))) + a3)), .int .i64 0, .int .i64 100000] (by rfl) rfl rfl (by (try simp only [List.map_toArray, List.map_cons, List.map_nil]); first | done | rfl | (simp only [List.length_drop, List.length_take]; rfl)) ?_
           with_reducible refine (impl_Clamp.calls (wrap64 ((wrap64 ((wrap64 (a2 + a1)) - ((rd_T74 l0_3 x40_2).f1))) + a3)) 0 100000 t145 _ A34.out).mono ?_
           rintro e w42 ⟨rfl, hb⟩
           refine ⟨_, rfl, ?_⟩
           have n0_ := uD (Kd.R_below (by (with_reducible repeat (first | apply uU | apply uS | apply uT)); exact HO_10.out) hb)
           have n1_ := uD (blk_below (g := gb138) (o := .cells #[.int .i64 a0_0, .int .i64 a0_1, .bool a0_2, .slice (some ad142) l0_3.length c0_3] 63 (0, 0)) (by (with_reducible repeat (first | refine uH ?_ _ | refine uJ ?_ | refine uG ?_ _)); exact BK138.out) hb)
           have n2_ := uD (blk_below (g := gb143) (o := .cells #[.int .i64 ((rd_T74 l0_3 x40_2).f0), .int .i64 ((rd_T74 l0_3 x40_2).f1), .int .i64 ((rd_T74 l0_3 x40_2).f2)] 74 (0, 0)) (by (with_reducible repeat (first | refine uH ?_ _ | refine uJ ?_ | refine uG ?_ _)); exact BK143.out) hb)
           have n3_ := uD (uO (by repeat (first | (with_reducible first | exact HB.out | apply uL | apply uE | apply uK | refine uM ?_ GE138.out | refine uM ?_ GE143.out) | exact HB.out)) hb)
           clear HO_10
           clear BK138
           clear BK143
           clear HB
           have HO_10 := n0_
           have BK138 := n1_
           have BK143 := n2_
           have HB := n3_
           clear n0_ n1_ n2_ n3_
           (try clear hb)
           (try clear hb2)
           (try clear hk)
           (try clear hi)
           refine hK.out _ _ ⟨(uF BK143.out 0).trans rfl, (uF BK143.out 1).trans rfl, (uF BK143.out 2).trans rfl⟩ (fun hHeld => ?_)
           clear hK K
           refine norm_ (a' := ?_) ?_ ?_
           rotate_left
           ·show uc _ (some 64) _ = _
            simp only [uc, uA, uB, uC, uZ, ua]
            rfl
           refine ub (i := 11) (N := some 65) (v := ?_) (a' := ?_) #[true, true, true, true, true, true, true, true, true, true, true, true, false, false, false] rfl rfl (uY HT_.out (by kernel_rfl)) (fun _ _ _ h => h) (Or.inl ⟨by rfl, ?_⟩) ?_ ?_
           rotate_left
           ·intro w'
            go_simp
            with_reducible rfl
           rotate_left
           ·simp only [uc, uA, uB, uC, uZ, ua]
            rfl
           refine one_ (i := 12) (N := some 66) #[true, true, true, true, true, true, true, true, true, true, true, true, true, false, false] rfl rfl (one_of HT_.out (by kernel_rfl)) (by decide) (fun K hK => ?_)
           refine value_ (w1 := ?_) (v := ?_) (by rfl) rfl ?_ ?_
           rotate_left 2
           ·go_simp
            constructor
            ·rfl
            ·rfl
           refine hK.out _ _ ⟨(uF (uG BK143.out _) 0).trans rfl, (uF (uG BK143.out _) 1).trans rfl, (uF (uG BK143.out _) 2).trans rfl⟩ (fun hHeld => ?_)
           clear hK K
           refine norm_ (a' := ?_) ?_ ?_
           rotate_left
           ·show uc _ (some 66) _ = _
            simp only [uc, uA, uB, uC, uZ, ua]
            rfl
           refine one_ (i := 13) (N := some 67) #[true, true, true, true, true, true, true, true, true, true, true, true, true, true, false] rfl rfl (one_of HT_.out (by kernel_rfl)) (by decide) (fun K hK => ?_)
           refine Kd.R_append_step k47 (w0 := w) w.heap.size (by rfl) (.tmp 54) (.tmp 66) 25 47 (.agg #[(.int .i64 0), (.int .i64 0), (.int .i64 0)]) 24 rfl Try.underlying25 info47 rfl (by decide) (by omega) u10 x10_2 (⟨(rd_T74 l0_3 x40_2).f0, t144, t145⟩ : S47) [.int .i64 ((rd_T74 l0_3 x40_2).f0), .int .i64 t144, .int .i64 t145] (fun _ => True) (fun _ => False) rfl rfl ?aP (fun _ hk => hk.elim) ?aF ?aO ?aB ?aS ?aL ?_
           (case aP => exact k47_mkM _ _ _ (⟨(rd_T74 l0_3 x40_2).f0, t144, t145⟩ : S47))
           (case aB => exact (by repeat (first | (with_reducible first | exact HB.out | apply uL | apply uE | apply uK | refine uM ?_ GE138.out | refine uM ?_ GE143.out) | exact HB.out)))
           (case aF => exact (fun _ _ => trivial))
           (case aO => exact (by (with_reducible repeat (first | apply uU | apply uS | apply uT)); exact HO_10.out))
           (case aS => exact (uN (by repeat (first | (with_reducible first | exact HB.out | apply uL | apply uE | apply uK | refine uM ?_ GE138.out | refine uM ?_ GE143.out) | exact HB.out))))
           (case aL => have := LMc35.out; omega)
           intro v147 w43 ho hb hg hat
           rw [← Ny146.out] at ho
           have n0_ := uD (blk_grown (g := gb138) (o := .cells #[.int .i64 a0_0, .int .i64 a0_1, .bool a0_2, .slice (some ad142) l0_3.length c0_3] 63 (0, 0)) (by (with_reducible repeat (first | refine uH ?_ _ | refine uJ ?_ | refine uG ?_ _)); exact BK138.out) hg (Kd.R_ne HO_10.out BK138.out (by decide)))
           have n1_ := uD (blk_grown (g := gb143) (o := .cells #[.int .i64 ((rd_T74 l0_3 x40_2).f0), .int .i64 ((rd_T74 l0_3 x40_2).f1), .int .i64 ((rd_T74 l0_3 x40_2).f2)] 74 (0, 0)) (by (with_reducible repeat (first | refine uH ?_ _ | refine uJ ?_ | refine uG ?_ _)); exact BK143.out) hg (Kd.R_ne HO_10.out BK143.out (by decide)))
           have n2_ := uD (hb)
           have n3_ := uD (ho)
           clear BK138
           clear BK143
           clear HB
           clear HO_10
           have BK138 := n0_
           have BK143 := n1_
           have HB := n2_
           have HO148 := n3_
           clear n0_ n1_ n2_ n3_
           clear ho hb hg hat
           refine hK.out _ _ ⟨(uF BK143.out 0).trans rfl, (uF BK143.out 1).trans rfl, (uF BK143.out 2).trans rfl⟩ (fun hHeld => ?_)
           clear hK K
           refine norm_ (a' := ?_) ?_ ?_
           rotate_left
           ·show uc _ (some 67) _ = _
            simp only [uc, uA, uB, uC, uZ, ua]
            rfl
           refine ub (i := 14) (N := some 10) (v := ?_) (a' := ?_) #[true, true, true, true, true, true, true, true, true, true, true, true, true, true, true] rfl rfl (uY HT_.out (by kernel_rfl)) (fun _ _ _ h => h) (Or.inl ⟨by rfl, ?_⟩) ?_ ?_
           rotate_left
           ·intro w'
            go_simp
            with_reducible rfl
           rotate_left
           ·simp only [uc, uA, uB, uC, uZ, ua]
            rfl
           refine done_ (done_of HT_.out (by kernel_rfl)) ?_
           try go_wp2
           go_roundg k2
           case measure => have := HJ4.out; have := HK2.out; omega
           case rel => exact ⟨(y146), (wrap64 (x40_2 + 1)), (by first | rfl | (simp; done) | (simp [*]; done)), H', ⟨by have := HJ4.out; have := HK2.out; omega⟩, ⟨by (with_reducible repeat (first | apply uU | apply uS | apply uT)); exact HO148.out⟩, ⟨by (with_reducible repeat (first | refine uH ?_ _ | refine uJ ?_ | refine uG ?_ _)); exact BK138.out⟩, ⟨by repeat (first | (with_reducible first | exact HB.out | apply uL | apply uE | apply uK | refine uM ?_ GE138.out | refine uM ?_ GE143.out) | exact HB.out)⟩⟩
          ·rw [if_neg c35] at H
           exact absurd H (by simp)
         ·rw [if_neg c32] at H
          have c32b0 : decide (((rd_T74 l0_3 x40_2).f1) < a1) = false := decide_eq_false c32
          clear c32
          have H' := uD H
          clear H
          have p142 : 0 ≤ (x40_2 : Int) := of_decide_eq_true (by first | (with_reducible assumption) | assumption)
          have q142 : x40_2 < (l0_3.length : Int) := of_decide_eq_true (by first | (with_reducible assumption) | assumption)
          obtain ⟨ad142, e142, hx142_0, hx142_1, hx142_2⟩ := at_T74 HR0_3.out x40_2 p142 q142
          cases e142
          replace hx142_0 := (HB.out.cell (World.block_lt_of_cell? w _ hx142_0)).trans hx142_0
          replace hx142_1 := (HB.out.cell (World.block_lt_of_cell? w _ hx142_1)).trans hx142_1
          replace hx142_2 := (HB.out.cell (World.block_lt_of_cell? w _ hx142_2)).trans hx142_2
          replace p142 := eq_true p142
          replace q142 := eq_true q142
          go_wp2_with (first | ((with_reducible refine gate_dst (N := 12) rfl ?_); refine box_event ?hg (N := 12) ?hd (cs := #[.int .i64 0, .int .i64 0, .int .i64 0]) (t := 74) ?hr ?_; (case hd => rfl); (case hg => rfl); (case hr => first | (go_simp; done) | (go_simp; rfl)); intro gb143 hg w44 hbox hb; have n0_ := uD (Kd.R_below (by (with_reducible repeat (first | apply uU | apply uS | apply uT)); exact HO_10.out) hb); have n1_ := uD (blk_below (g := gb138) (o := .cells #[.int .i64 a0_0, .int .i64 a0_1, .bool a0_2, .slice (some ad142) l0_3.length c0_3] 63 (0, 0)) (by (with_reducible repeat (first | refine uH ?_ _ | refine uJ ?_ | refine uG ?_ _)); exact BK138.out) hb); have n2_ := uD (uO (by repeat (first | (with_reducible first | exact HB.out | apply uL | apply uE | apply uK | refine uM ?_ GE138.out) | exact HB.out)) hb); have n3_ := uD (hbox); have n4_ := uD ((by rw [hg]; exact (uN (by repeat (first | (with_reducible first | exact HB.out | apply uL | apply uE | apply uK | refine uM ?_ GE138.out) | exact HB.out))) : w.heap.size ≤ gb143)); have n5_ := uD ((by rw [hg]; exact (uN (by repeat (first | (with_reducible first | exact HB.out | apply uL | apply uE | apply uK | refine uM ?_ GE138.out) | exact HB.out))) : w.heap.size ≤ gb143)); have n6_ := uD ((by rw [hg]; exact Nat.ne_of_lt (blk_lt (g := gb138) (o := .cells #[.int .i64 a0_0, .int .i64 a0_1, .bool a0_2, .slice (some ad142) l0_3.length c0_3] 63 (0, 0)) (by (with_reducible repeat (first | refine uH ?_ _ | refine uJ ?_ | refine uG ?_ _)); exact BK138.out)) : gb138 ≠ gb143)); have n7_ := uD ((by rw [hg]; exact Nat.ne_of_gt (blk_lt (g := gb138) (o := .cells #[.int .i64 a0_0, .int .i64 a0_1, .bool a0_2, .slice (some ad142) l0_3.length c0_3] 63 (0, 0)) (by (with_reducible repeat (first | refine uH ?_ _ | refine uJ ?_ | refine uG ?_ _)); exact BK138.out)) : gb143 ≠ gb138)); clear HO_10; clear BK138; clear HB; have HO_10 := n0_; have BK138 := n1_; have HB := n2_; have BK143 := n3_; have GW143 := n4_; have GE143 := n5_; have NB138_143 := n6_; have NB143_138 := n7_; clear n0_ n1_ n2_ n3_ n4_ n5_ n6_ n7_; clear hb hbox hg; have hnb45 := NB143_138.out; have hnc45 := NB138_143.out; have hcz46_0 : w44.cell? ⟨gb143, 0, none⟩ = some (.int .i64 0) := (uF BK143.out 0).trans rfl; have hcz46_1 : w44.cell? ⟨gb143, 1, none⟩ = some (.int .i64 0) := (uF BK143.out 1).trans rfl; have hcz46_2 : w44.cell? ⟨gb143, 2, none⟩ = some (.int .i64 0) := (uF BK143.out 2).trans rfl; have hfz46_0 := uI BK143.out 0; have hfz46_1 := uI BK143.out 1; have hfz46_2 := uI BK143.out 2))
          go_roundg k2
          case measure => have := HJ4.out; have := HK2.out; omega
          case rel => exact ⟨(x10_2), (wrap64 (x40_2 + 1)), (by first | rfl | (simp; done) | (simp [*]; done)), H', ⟨by have := HJ4.out; have := HK2.out; omega⟩, ⟨by (with_reducible repeat (first | apply uU | apply uS | apply uT)); exact uX (uV (p := ⟨gb143, 2, none⟩) (uV (p := ⟨gb143, 1, none⟩) (uV (p := ⟨gb143, 0, none⟩) (uW HO_10.out BK143.out (by decide)) (fun _ hk => hk.2) (.int .i64 ((rd_T74 l0_3 x40_2).f0))) (fun _ hk => hk.2) (.int .i64 ((rd_T74 l0_3 x40_2).f1))) (fun _ hk => hk.2) (.int .i64 ((rd_T74 l0_3 x40_2).f2))) (fun _ hk => trivial)⟩, ⟨by (with_reducible repeat (first | refine uH ?_ _ | refine uJ ?_ | refine uG ?_ _)); refine uQ ?_ NB138_143.out _; (with_reducible repeat (first | refine uH ?_ _ | refine uJ ?_ | refine uG ?_ _)); refine uQ ?_ NB138_143.out _; (with_reducible repeat (first | refine uH ?_ _ | refine uJ ?_ | refine uG ?_ _)); refine uQ ?_ NB138_143.out _; (with_reducible repeat (first | refine uH ?_ _ | refine uJ ?_ | refine uG ?_ _)); exact BK138.out⟩, ⟨by repeat (first | (with_reducible first | exact HB.out | apply uL | apply uE | apply uK | refine uM ?_ GE138.out | refine uM ?_ GE143.out) | exact HB.out)⟩⟩
        ·rw [if_neg c31] at H
         exact absurd H (by simp)
       ·rw [if_neg c30] at H
        exact absurd H (by simp)
      ·rw [if_neg c29] at H
       have c29b0 : decide (x40_2 < (l0_3.length : Int)) = false := decide_eq_false c29
       clear c29
       by_cases c47 : (x10_2.length : Int) > 6
       ·rw [if_pos c47] at H
        have c47b0 : decide (6 < (x10_2.length : Int)) = true := decide_eq_true c47
        have c47b1 : decide (6 < x10_2.length) = true := decide_eq_true (by omega)
        clear c47
        simp only [Option.some.injEq, Prod.mk.injEq] at H
        obtain ⟨rfl, rfl⟩ := H
        obtain ⟨Ao48, co48, eo48⟩ := Kd.R_slice HO_10.out
        subst eo48
        go_wp2
        go_ret2
        exact ⟨_, by first | rfl | (simp [errW_none, errW_some] <;> rfl) | (simp [*, errW_none, errW_some] <;> rfl), by first | exact Kd.R_nil _ _ _ _ _ | exact Kd.N_nil _ _ _ _ _ | exact Kd.V_nil _ _ _ _ _ | exact Kd.Q_nil _ _ _ _ _ | exact Kd.S_nil _ _ _ _ _, by repeat (first | (with_reducible first | exact HB.out | apply uL | apply uE | apply uK | refine uM ?_ GE138.out) | exact HB.out)⟩
       ·rw [if_neg c47] at H
        have c47b0 : decide (6 < (x10_2.length : Int)) = false := decide_eq_false c47
        have c47b1 : decide (6 < x10_2.length) = false := decide_eq_false (by omega)
        clear c47
        simp only [Option.some.injEq, Prod.mk.injEq] at H
        obtain ⟨rfl, rfl⟩ := H
        obtain ⟨Ao49, co49, eo49⟩ := Kd.R_slice HO_10.out
        subst eo49
        go_wp2
        go_ret2
        exact ⟨_, by first | rfl | (simp [errW_none, errW_some] <;> rfl) | (simp [*, errW_none, errW_some] <;> rfl), by (with_reducible repeat (first | apply uU | apply uS | apply uT)); exact HO_10.out, by repeat (first | (with_reducible first | exact HB.out | apply uL | apply uE | apply uK | refine uM ?_ GE138.out) | exact HB.out)⟩

end Go.Proofs.Ytnnimbbffbfhoaa.PFnWindows
