-- Written by a program of this session (wip/myprint.py: the kit's print with changes): not by print.sh itself.
import Derived.Test.YtnnimbbffbfhoaaPFnBeltRoomx0
import Derived.Test.YtnnimbbffbfhoaaPFnBeltRoomx7
import Derived.Test.YtnnimbbffbfhoaaPFnBeltRoomx8
import Derived.Test.YtnnimbbffbfhoaaPFnBeltRoomx9
import Derived.Test.YtnnimbbffbfhoaaPFnBeltRoomx10
namespace Go.Proofs.Ytnnimbbffbfhoaa.PFnBeltRoom
open Go.RowKit Go.Proofs.YtnnimbbffbfhoaaW.PrintWords Go.Proofs.YtnnimbbffbfhoaaW.PrintLast Go.Proofs.YtnnimbbffbfhoaaW.PrintMore
open Go renaming Act.put → uc
open Go.Proofs.YtnnimbbffbfhoaaW.PrintLast renaming any_of → uY, i64_w → uZ, i32_w → ua, pure_ → ub
open Go.Proofs.YtnnimbbffbfhoaaW.PrintWords renaming Aside0.mk → uD, blk_cell → uF, blk_alloc → uG, blk_drewN → uH, blk_frozen → uI, blk_drew → uJ, below_drew1 → uK, below_size → uN, below_step → uO, blk_put → uP, Kd.R_drewN → uS, Kd.R_drew → uT, Kd.R_alloc → uU, Kd.R_far → uV, Kd.R_types → uW, Kd.R_mono → uX
open List renaming setIfInBounds_toArray → uA, set_cons_zero → uB, set_cons_succ → uC
open Bool renaming true → T, false → F
attribute [local go_sem] max2_int min2_int max_two min_two max_three min_three max_four min_four   -- for this text's walks alone
set_option linter.unusedVariables false
set_option linter.unusedSimpArgs false

/-! ### spec_RoomFor: function 50 -/
mutual
def spec_RoomFor.l0 : Nat → List Int → Int → Int → Int → Bool → List (S74) → Option (Int)
 | 0, _, _, _, _, _, _ => none
 | k + 1, x1, x5, x365000, x365001, x365002, x365003 => if x5 < (x1.length : Int) then (if 0 ≤ x5 then ((spec_l01In.f (rd x1 x5) 1 60).bind fun t367 => (if t367 = true then (spec_RoomFor.l0 k x1 (wrap64 (x5 + 1)) x365000 x365001 x365002 x365003) else (some (-1)))) else (none)) else ((spec_Move.f k x365000 x365001 x365002 x365003 400).bind fun bt368 => (spec_RoomFor.l1 k x1 0 bt368.1 bt368.2.1 bt368.2.2.1 bt368.2.2.2))
def spec_RoomFor.l1 : Nat → List Int → Int → Int → Int → Bool → List (S74) → Option (Int)
 | 0, _, _, _, _, _, _ => none
 | k + 1, x1, x6, x365000, x365001, x365002, x365003 => if x6 < (x1.length : Int) then (if (x365003.length : Int) ≥ 40 then (spec_RoomFor.j2 k x1 x6 true x365000 x365001 x365002 x365003) else (if 0 ≤ x6 then ((spec_FreeBehind.f k x365000 x365001 x365002 x365003).bind fun t375 => (spec_RoomFor.j2 k x1 x6 (decide ((rd x1 x6) > t375)) x365000 x365001 x365002 x365003)) else (none))) else (some (x1.length : Int))
def spec_RoomFor.j2 : Nat → List Int → Int → Bool → Int → Int → Bool → List (S74) → Option (Int)
 | 0, _, _, _, _, _, _, _ => none
 | k + 1, x1, x6, x42, x365000, x365001, x365002, x365003 => if x42 = true then (some x6) else ((some (([] : List (S74)) : List (S74))).bind fun y376 => (if y376.length + x365003.length < 5864062014805 then ((some (y376 ++ x365003 : List (S74))).bind fun y379 => ((spec_l02New.f k x365000 x365001 x365002 x365003).bind fun t382 => (if 0 ≤ x6 then (if x6 < (x1.length : Int) then (if y379.length < 5864062014805 then ((spec_Move.f k x365000 x365001 x365002 (y379 ++ [(⟨t382, rd x1 x6, rd x1 x6⟩ : S74)]) 400).bind fun bt388 => (spec_RoomFor.l1 k x1 (wrap64 (x6 + 1)) bt388.1 bt388.2.1 bt388.2.2.1 bt388.2.2.2)) else (none)) else (none)) else (none)))) else (none)))
end
def spec_RoomFor.f (k : Nat) (a0_0 : Int) (a0_1 : Int) (a0_2 : Bool) (l0_3 : List (S74)) (l1 : List Int) : Option (Int) := (spec_BeltOk.f k a0_0 a0_1 a0_2 l0_3).bind fun t365 => (if t365 = true then (spec_RoomFor.l0 k l1 0 a0_0 a0_1 a0_2 l0_3) else (some (-1)))
theorem spec_RoomFor.mono_l : ∀ k, (∀ y0 y1 y2 y3 y4 y5, LeO (spec_RoomFor.l0 k y0 y1 y2 y3 y4 y5) (spec_RoomFor.l0 (k + 1) y0 y1 y2 y3 y4 y5)) ∧ (∀ y0 y1 y2 y3 y4 y5, LeO (spec_RoomFor.l1 k y0 y1 y2 y3 y4 y5) (spec_RoomFor.l1 (k + 1) y0 y1 y2 y3 y4 y5)) ∧ (∀ y0 y1 y2 y3 y4 y5 y6, LeO (spec_RoomFor.j2 k y0 y1 y2 y3 y4 y5 y6) (spec_RoomFor.j2 (k + 1) y0 y1 y2 y3 y4 y5 y6))
 | 0 => ⟨fun _ _ _ _ _ _ r h => by simp [spec_RoomFor.l0] at h, fun _ _ _ _ _ _ r h => by simp [spec_RoomFor.l1] at h, fun _ _ _ _ _ _ _ r h => by simp [spec_RoomFor.j2] at h⟩
 | k + 1 => by
  obtain ⟨ih0, ih1, ih2⟩ := spec_RoomFor.mono_l k
  refine ⟨?_, ?_, ?_⟩
  ·intro y0 y1 y2 y3 y4 y5
   unfold spec_RoomFor.l0
   repeat' first
   | (with_reducible exact ih0 _ _ _ _ _ _)
   | (with_reducible exact ih1 _ _ _ _ _ _)
   | (with_reducible exact ih2 _ _ _ _ _ _ _)
   | (with_reducible exact spec_BeltOk.mono _ _ _ _ _)
   | (with_reducible exact spec_FreeBehind.mono _ _ _ _ _)
   | (with_reducible exact spec_Move.mono _ _ _ _ _ _)
   | (with_reducible exact spec_l02New.mono _ _ _ _ _)
   | (with_reducible exact LeO.refl _)
   | (with_reducible exact LeO.none _)
   | (with_reducible refine LeO.ite ?_ ?_)
   | (with_reducible refine LeO.bind ?_ (fun _ => ?_))
   | exact ih0 _ _ _ _ _ _
   | exact ih1 _ _ _ _ _ _
   | exact ih2 _ _ _ _ _ _ _
   | exact spec_BeltOk.mono _ _ _ _ _
   | exact spec_FreeBehind.mono _ _ _ _ _
   | exact spec_Move.mono _ _ _ _ _ _
   | exact spec_l02New.mono _ _ _ _ _
   | exact LeO.none _
   | refine LeO.ite ?_ ?_
   | refine LeO.bind ?_ (fun _ => ?_)
  ·intro y0 y1 y2 y3 y4 y5
   unfold spec_RoomFor.l1
   repeat' first
   | (with_reducible exact ih0 _ _ _ _ _ _)
   | (with_reducible exact ih1 _ _ _ _ _ _)
   | (with_reducible exact ih2 _ _ _ _ _ _ _)
   | (with_reducible exact spec_BeltOk.mono _ _ _ _ _)
   | (with_reducible exact spec_FreeBehind.mono _ _ _ _ _)
   | (with_reducible exact spec_Move.mono _ _ _ _ _ _)
   | (with_reducible exact spec_l02New.mono _ _ _ _ _)
   | (with_reducible exact LeO.refl _)
   | (with_reducible exact LeO.none _)
   | (with_reducible refine LeO.ite ?_ ?_)
   | (with_reducible refine LeO.bind ?_ (fun _ => ?_))
   | exact ih0 _ _ _ _ _ _
   | exact ih1 _ _ _ _ _ _
   | exact ih2 _ _ _ _ _ _ _
   | exact spec_BeltOk.mono _ _ _ _ _
   | exact spec_FreeBehind.mono _ _ _ _ _
   | exact spec_Move.mono _ _ _ _ _ _
   | exact spec_l02New.mono _ _ _ _ _
   | exact LeO.none _
   | refine LeO.ite ?_ ?_
   | refine LeO.bind ?_ (fun _ => ?_)
  ·intro y0 y1 y2 y3 y4 y5 y6
   unfold spec_RoomFor.j2
   repeat' first
   | (with_reducible exact ih0 _ _ _ _ _ _)
   | (with_reducible exact ih1 _ _ _ _ _ _)
   | (with_reducible exact ih2 _ _ _ _ _ _ _)
   | (with_reducible exact spec_BeltOk.mono _ _ _ _ _)
   | (with_reducible exact spec_FreeBehind.mono _ _ _ _ _)
   | (with_reducible exact spec_Move.mono _ _ _ _ _ _)
   | (with_reducible exact spec_l02New.mono _ _ _ _ _)
   | (with_reducible exact LeO.refl _)
   | (with_reducible exact LeO.none _)
   | (with_reducible refine LeO.ite ?_ ?_)
   | (with_reducible refine LeO.bind ?_ (fun _ => ?_))
   | exact ih0 _ _ _ _ _ _
   | exact ih1 _ _ _ _ _ _
   | exact ih2 _ _ _ _ _ _ _
   | exact spec_BeltOk.mono _ _ _ _ _
   | exact spec_FreeBehind.mono _ _ _ _ _
   | exact spec_Move.mono _ _ _ _ _ _
   | exact spec_l02New.mono _ _ _ _ _
   | exact LeO.none _
   | refine LeO.ite ?_ ?_
   | refine LeO.bind ?_ (fun _ => ?_)
theorem spec_RoomFor.mono : ∀ a0 a1 a2 a3 a4 k, LeO (spec_RoomFor.f k a0 a1 a2 a3 a4) (spec_RoomFor.f (k + 1) a0 a1 a2 a3 a4) := by
 intro a0 a1 a2 a3 a4 k
 obtain ⟨ih0, ih1, ih2⟩ := spec_RoomFor.mono_l k
 unfold spec_RoomFor.f
 repeat' first
   | (with_reducible exact ih0 _ _ _ _ _ _)
   | (with_reducible exact ih1 _ _ _ _ _ _)
   | (with_reducible exact ih2 _ _ _ _ _ _ _)
   | (with_reducible exact spec_BeltOk.mono _ _ _ _ _)
   | (with_reducible exact spec_FreeBehind.mono _ _ _ _ _)
   | (with_reducible exact spec_Move.mono _ _ _ _ _ _)
   | (with_reducible exact spec_l02New.mono _ _ _ _ _)
   | (with_reducible exact LeO.refl _)
   | (with_reducible exact LeO.none _)
   | (with_reducible refine LeO.ite ?_ ?_)
   | (with_reducible refine LeO.bind ?_ (fun _ => ?_))
   | exact ih0 _ _ _ _ _ _
   | exact ih1 _ _ _ _ _ _
   | exact ih2 _ _ _ _ _ _ _
   | exact spec_BeltOk.mono _ _ _ _ _
   | exact spec_FreeBehind.mono _ _ _ _ _
   | exact spec_Move.mono _ _ _ _ _ _
   | exact spec_l02New.mono _ _ _ _ _
   | exact LeO.none _
   | refine LeO.ite ?_ ?_
   | refine LeO.bind ?_ (fun _ => ?_)
def spec_RoomFor.T12 : Bool × List (List Nat × List Nat) := (true, [([], []), ([0], [0]), ([1], [1]), ([2], [2]), ([3], [3]), ([4], [4]), ([4], [4]), ([5, 6, 4], [4, 5, 6]), ([7, 4], [4, 7]), ([4], [4]), ([9, 4, 4], [4, 9]), ([8, 10, 4], [4, 8, 10]), ([4, 11], [4, 11])])
def spec_RoomFor.B12 : List Nat := [0, 1, 3, 7, 15, 31, 31, 127, 255, 31, 543, 2047, 4095]
theorem spec_RoomFor.tab12 : rtab .any (opsOf Try.f50 12) = spec_RoomFor.T12 := by kernel_rfl
theorem spec_RoomFor.bits12 : waitsOk spec_RoomFor.T12.2 spec_RoomFor.B12 = true := by kernel_rfl
def spec_RoomFor.T14 : Bool × List (List Nat × List Nat) := (true, [([], []), ([], []), ([1], [1]), ([0, 2], [0, 2]), ([], []), ([4, 3], [4]), ([], []), ([], []), ([6, 7], [6, 7]), ([8], [8]), ([], []), ([], []), ([10, 11], [10, 11]), ([12], [12]), ([5, 9, 13], [5, 9, 13]), ([14], [14]), ([3, 15, 5], [3, 15]), ([0, 1, 2, 3, 4, 5, 6, 7, 8, 9, 10, 11, 12, 13, 14, 15, 16], []), ([17, 16, 16, 0, 1, 2, 3, 4, 5, 6, 7, 8, 9, 10, 11, 12, 13, 14, 15, 16], [16, 17])])
def spec_RoomFor.B14 : List Nat := [0, 0, 2, 7, 0, 31, 0, 0, 192, 448, 0, 0, 3072, 7168, 16383, 32767, 65535, 131071, 262143]
theorem spec_RoomFor.tab14 : rtab .any (opsOf Try.f50 14) = spec_RoomFor.T14 := by kernel_rfl
theorem spec_RoomFor.bits14 : waitsOk spec_RoomFor.T14.2 spec_RoomFor.B14 = true := by kernel_rfl
set_option maxHeartbeats 8000000 in
set_option maxRecDepth 100000 in
theorem spec_RoomFor.calls (k : Nat) (a0_0 : Int) (a0_1 : Int) (a0_2 : Bool) (A0_3 : Option Addr) (c0_3 : Nat) (l0_3 : List (S74)) (A1 : Option Addr) (c1 : Nat) (l1 : List Int) (r : Int) (w : World) (hr0_3 : Kd.C k74 w A0_3 l0_3.length l0_3) (hc0_3 : l0_3.length ≤ c0_3) (hr1 : Kd.C (Kd.int .i64) w A1 l1.length l1) (hc1 : l1.length ≤ c1) (h : spec_RoomFor.f k a0_0 a0_1 a0_2 l0_3 l1 = some r) :
  Calls Try.prog 50 #[.agg #[.int .i64 a0_0, .int .i64 a0_1, .bool a0_2, .slice A0_3 l0_3.length c0_3], .slice A1 l1.length c1] w fun e w' => e = .returned (.int .i64 r) ∧ Below w.heap.size w w' := by
 have hu63 := Try.underlying63
 have hu74 := Try.underlying74
 have HR0_3 := uD hr0_3
 have HC0_3 := uD hc0_3
 clear hr0_3 hc0_3
 have HR1 := uD hr1
 have HC1 := uD hc1
 clear hr1 hc1
 have HB := uD (Below.refl w.heap.size w)
 have H : ((spec_BeltOk.f k a0_0 a0_1 a0_2 l0_3).bind fun t365 => (if t365 = true then (spec_RoomFor.l0 k l1 0 a0_0 a0_1 a0_2 l0_3) else (some (-1)))) = some r := h
 clear h
 replace H := Option.bind_eq_some_iff.mp H
 obtain ⟨t365, A30, H⟩ := H
 replace H : (if t365 = true then (spec_RoomFor.l0 k l1 0 a0_0 a0_1 a0_2 l0_3) else (some (-1))) = some r := H
 have A3 := uD A30
 clear A30
 by_cases c4 : t365 = true
 ·subst c4
  have H1 : (spec_RoomFor.l0 k l1 0 a0_0 a0_1 a0_2 l0_3) = some r := by rw [if_pos rfl] at H; first | done | exact H
  clear H
  have H := H1
  clear H1
  have H' := uD H
  clear H
  go_enter Try.func50, Try.ntmps50
  go_wp2_with (first | ((with_reducible refine gate_dst (N := 2) rfl ?_); refine box_event ?hg (N := 2) ?hd (cs := #[.int .i64 a0_0, .int .i64 a0_1, .bool a0_2, .slice A0_3 l0_3.length c0_3]) (t := 63) ?hr ?_; (case hd => rfl); (case hg => rfl); (case hr => first | (go_simp; done) | (go_simp; rfl)); intro gb364 hg w5 hbox hb; have BK364 := uD (hbox); have GW364 := uD ((by rw [hg]; exact (uN (pb HB)) : w.heap.size ≤ gb364)); have GE364 := uD ((by rw [hg]; exact (uN (pb HB)) : w.heap.size ≤ gb364)); replace HB := uD (uO (pb HB) hb); clear hb hbox hg; obtain ⟨hcz6_0, hcz6_1, hcz6_2, hcz6_3, hfz6_0, hfz6_1, hfz6_2, hfz6_3⟩ := cz4 BK364) | ((with_reducible refine gate_callee (f := 75) rfl ?_); refine goesL_ (some 8) rfl rfl Try.func75 (by kernel_rfl) rfl #[.agg #[.int .i64 a0_0, .int .i64 a0_1, .bool a0_2, .slice A0_3 l0_3.length c0_3]] rfl (by (try simp only [List.map_toArray, List.map_cons, List.map_nil]); first | done | rfl | (simp only [List.length_drop, List.length_take]; rfl)) ?_; (with_reducible refine (spec_BeltOk.calls k a0_0 a0_1 a0_2 _ _ l0_3 true _ ?side1 ?side2 A3.out).mono ?_); (case side1 => repeat (first | exact (Kd.C_below HR0_3.out HB.out) | (with_reducible refine Kd.C_alloc ?_ _) | (with_reducible refine Kd.C_drewN ?_ _) | (with_reducible refine Kd.C_drew ?_))); (case side2 => exact HC0_3.out); rintro e w7 ⟨rfl, hb⟩; refine ⟨_, rfl, ?_⟩; replace BK364 := uD (blk_below (pk BK364) hb); replace HB := uD (uO (pb HB) hb); (try clear hb); (try clear hb2); (try clear hk); (try clear hi)))
  go_loopg [5] k (fun kq v5 w' => ∃ (x5_1 : Int), v5 = .int .i64 x5_1 ∧ Aside0 (spec_RoomFor.l0 kq l1 x5_1 a0_0 a0_1 a0_2 l0_3 = some r) ∧ Aside0 (kq ≤ k) ∧ Aside0 (w'.heap[gb364]? = some (.cells #[.int .i64 a0_0, .int .i64 a0_1, .bool a0_2, (.slice A0_3 l0_3.length c0_3)] 63 (0, 0))) ∧ Aside0 (Below w.heap.size w w'))
  case atStart => exact ⟨(0), (by first | rfl | (simp; done) | (simp [*]; done)), H', ⟨Nat.le_refl _⟩, ⟨by (with_reducible repeat first|apply uH|apply uJ|apply uG); exact BK364.out⟩, ⟨pb HB⟩⟩
  case round =>
   clear H'
   try clear c1
   try clear p2
   try clear c4
   try clear c5
   try clear c7
   try clear hcz6_0
   try clear hcz6_1
   try clear hcz6_2
   try clear hcz6_3
   try clear hfz6_0
   try clear hfz6_1
   try clear hfz6_2
   try clear hfz6_3
   obtain ⟨x5_1, rfl, HA, HK1, BK364, HB⟩ := hrel
   cases gk with
   | zero => exact absurd HA.out (by simp [spec_RoomFor.l0])
   | succ k1 =>
    have H := HA.out
    clear HA
    simp only [spec_RoomFor.l0] at H
    by_cases c8 : x5_1 < (l1.length : Int)
    ·rw [if_pos c8] at H
     have c8b0 : decide (x5_1 < (l1.length : Int)) = true := decide_eq_true c8
     clear c8
     by_cases c9 : 0 ≤ x5_1
     ·rw [if_pos c9] at H
      have c9b0 : decide (0 ≤ x5_1) = true := decide_eq_true c9
      clear c9
      replace H := Option.bind_eq_some_iff.mp H
      obtain ⟨t367, A100, H⟩ := H
      replace H : (if t367 = true then (spec_RoomFor.l0 k1 l1 (wrap64 (x5_1 + 1)) a0_0 a0_1 a0_2 l0_3) else (some (-1))) = some r := H
      have A10 := uD A100
      clear A100
      by_cases c11 : t367 = true
      ·subst c11
       have H1 : (spec_RoomFor.l0 k1 l1 (wrap64 (x5_1 + 1)) a0_0 a0_1 a0_2 l0_3) = some r := by rw [if_pos rfl] at H; first | done | exact H
       clear H
       have H := H1
       clear H1
       have H' := uD H
       clear H
       have p366 : 0 ≤ (x5_1 : Int) := of_decide_eq_true (by first | (with_reducible assumption) | assumption)
       have q366 : x5_1 < (l1.length : Int) := of_decide_eq_true (by first | (with_reducible assumption) | assumption)
       obtain ⟨ad366, e366, hx366_0⟩ := Kd.at_int HR1.out x5_1 p366 q366
       cases e366
       replace hx366_0 := (HB.out.cell (World.block_lt_of_cell? w _ hx366_0)).trans hx366_0
       replace p366 := eq_true p366
       replace q366 := eq_true q366
       go_wp2_with (first | ((with_reducible refine gate_callee (f := 57) rfl ?_); refine goesL_ (some 20) rfl rfl Try.func57 (by kernel_rfl) rfl #[.int .i64 (rd l1 x5_1), .int .i64 1, .int .i64 60] rfl (by (try simp only [List.map_toArray, List.map_cons, List.map_nil]); first | done | rfl | (simp only [List.length_drop, List.length_take]; rfl)) ?_; (with_reducible refine (spec_l01In.calls (rd l1 x5_1) 1 60 true _ A10.out).mono ?_); rintro e w' ⟨rfl, ⟨nd, rfl⟩⟩; refine ⟨_, rfl, ?_⟩))
       go_roundg k1
       case measure => have := HK1.out; omega
       case rel => exact ⟨(wrap64 (x5_1 + 1)), (by first | rfl | (simp; done) | (simp [*]; done)), H', ⟨by have := HK1.out; omega⟩, ⟨by (with_reducible repeat first|apply uH|apply uJ|apply uG); exact BK364.out⟩, ⟨pb HB⟩⟩
      ·replace c11 := Bool.eq_false_iff.mpr c11
       subst c11
       have H1 : (some (-1)) = some r := by rw [if_neg (show ¬ (false = true) by decide)] at H; first | done | exact H
       clear H
       have H := H1
       clear H1
       obtain rfl := Option.some.inj H
       have p366 : 0 ≤ (x5_1 : Int) := of_decide_eq_true (by first | (with_reducible assumption) | assumption)
       have q366 : x5_1 < (l1.length : Int) := of_decide_eq_true (by first | (with_reducible assumption) | assumption)
       obtain ⟨ad366, e366, hx366_0⟩ := Kd.at_int HR1.out x5_1 p366 q366
       cases e366
       replace hx366_0 := (HB.out.cell (World.block_lt_of_cell? w _ hx366_0)).trans hx366_0
       replace p366 := eq_true p366
       replace q366 := eq_true q366
       go_wp2_with (first | ((with_reducible refine gate_callee (f := 57) rfl ?_); refine goesL_ (some 20) rfl rfl Try.func57 (by kernel_rfl) rfl #[.int .i64 (rd l1 x5_1), .int .i64 1, .int .i64 60] rfl (by (try simp only [List.map_toArray, List.map_cons, List.map_nil]); first | done | rfl | (simp only [List.length_drop, List.length_take]; rfl)) ?_; (with_reducible refine (spec_l01In.calls (rd l1 x5_1) 1 60 false _ A10.out).mono ?_); rintro e w' ⟨rfl, ⟨nd, rfl⟩⟩; refine ⟨_, rfl, ?_⟩))
       go_ret
       exact ⟨by first | rfl | (simp [errW_none, errW_some] <;> rfl) | (simp [*, errW_none, errW_some] <;> rfl), pb HB⟩
     ·rw [if_neg c9] at H
      exact absurd H (by simp)
    ·rw [if_neg c8] at H
     have c8b0 : decide (x5_1 < (l1.length : Int)) = false := decide_eq_false c8
     clear c8
     replace H := Option.bind_eq_some_iff.mp H
     obtain ⟨⟨t368, t369, t370, t371⟩, A120, H⟩ := H
     replace H : (spec_RoomFor.l1 k1 l1 0 t368 t369 t370 t371) = some r := H
     have A12 := uD A120
     clear A120
     have H' := uD H
     clear H
     obtain ⟨hcz13_0, hcz13_1, hcz13_2, hcz13_3, hfz13_0, hfz13_1, hfz13_2, hfz13_3⟩ := cz4 BK364
     go_wp2_with (first | ((with_reducible refine gate_callee (f := 95) rfl ?_); refine goesL_ (some 23) rfl rfl Try.func95 (by kernel_rfl) rfl #[.agg #[.int .i64 a0_0, .int .i64 a0_1, .bool a0_2, .slice A0_3 l0_3.length c0_3], .int .i64 400] rfl (by (try simp only [List.map_toArray, List.map_cons, List.map_nil]); first | done | rfl | (simp only [List.length_drop, List.length_take]; rfl)) ?_; (with_reducible refine (spec_Move.calls k1 a0_0 a0_1 a0_2 _ _ l0_3 400 t368 t369 t370 t371 _ ?side1 ?side2 A12.out).mono ?_); (case side1 => repeat (first | exact (Kd.C_below HR0_3.out HB.out) | (with_reducible refine Kd.C_alloc ?_ _) | (with_reducible refine Kd.C_drewN ?_ _) | (with_reducible refine Kd.C_drew ?_))); (case side2 => exact HC0_3.out); rintro e w14 ⟨v372, rfl, ho0, hb⟩; refine ⟨_, rfl, ?_⟩; have HO373 := uD (Kd.R_lower ho0 (uN (pb HB))); replace BK364 := uD (blk_below (pk BK364) hb); replace HB := uD (uO (pb HB) hb); (try clear hb); (try clear hb2); (try clear hk); (try clear hi); (try clear ho0); obtain ⟨hcz15_0, hcz15_1, hcz15_2, hcz15_3, hfz15_0, hfz15_1, hfz15_2, hfz15_3⟩ := cz4 BK364; obtain ⟨Ao16, co16, eo16⟩ := Kd.R_slice HO373.out; subst eo16))
     go_loopg [6] k1 (fun kq v6 w' => ∃ (x6_2 : Int) (x365000_2 : Int) (x365001_2 : Int) (x365002_2 : Bool) (x365003_2 : List (S74)) (u365003 : Value), v6 = .int .i64 x6_2 ∧ Aside0 (spec_RoomFor.l1 kq l1 x6_2 x365000_2 x365001_2 x365002_2 x365003_2 = some r) ∧ Aside0 (kq ≤ k1) ∧ Aside0 (Kd.R k74 74 w' w.heap.size (fun _ => True) u365003 x365003_2) ∧ Aside0 (w'.heap[gb364]? = some (.cells #[.int .i64 x365000_2, .int .i64 x365001_2, .bool x365002_2, u365003] 63 (0, 0))) ∧ Aside0 (Below w.heap.size w w'))
     case atStart => exact ⟨(0), (t368), (t369), (t370), (t371), (.slice Ao16 t371.length co16), (by first | rfl | (simp; done) | (simp [*]; done)), H', ⟨Nat.le_refl _⟩, ⟨by (with_reducible repeat (first | apply uU | apply uS | apply uT)); exact uX (uV (p := ⟨gb364, 3, none⟩) (uV (p := ⟨gb364, 2, none⟩) (uV (p := ⟨gb364, 1, none⟩) (uV (p := ⟨gb364, 0, none⟩) (uW HO373.out BK364.out (by decide)) (fun _ hk => hk.2) (.int .i64 t368)) (fun _ hk => hk.2) (.int .i64 t369)) (fun _ hk => hk.2) (.bool t370)) (fun _ hk => hk.2) (.slice Ao16 t371.length co16)) (fun _ hk => trivial)⟩, ⟨by (with_reducible repeat first|apply uH|apply uJ|apply uG); refine uP (cs := #[.int .i64 t368, .int .i64 t369, .bool t370, .slice A0_3 l0_3.length c0_3]) ?_ 3 _ rfl; (with_reducible repeat first|apply uH|apply uJ|apply uG); refine uP (cs := #[.int .i64 t368, .int .i64 t369, .bool a0_2, .slice A0_3 l0_3.length c0_3]) ?_ 2 _ rfl; (with_reducible repeat first|apply uH|apply uJ|apply uG); refine uP (cs := #[.int .i64 t368, .int .i64 a0_1, .bool a0_2, .slice A0_3 l0_3.length c0_3]) ?_ 1 _ rfl; (with_reducible repeat first|apply uH|apply uJ|apply uG); refine uP (cs := #[.int .i64 a0_0, .int .i64 a0_1, .bool a0_2, .slice A0_3 l0_3.length c0_3]) ?_ 0 _ rfl; (with_reducible repeat first|apply uH|apply uJ|apply uG); exact BK364.out⟩, ⟨pb HB⟩⟩
     case round =>
      clear H'
      try clear c1
      try clear p2
      try clear p3
      try clear q3
      try clear hx3
      try clear c4
      try clear c5
      try clear p6
      try clear c7
      try clear c8
      try clear c8b0
      try clear c9
      try clear c9b0
      try clear c11
      try clear hcz13_0
      try clear hcz13_1
      try clear hcz13_2
      try clear hcz13_3
      try clear hcz15_0
      try clear hcz15_1
      try clear hcz15_2
      try clear hcz15_3
      try clear hcz6_0
      try clear hcz6_1
      try clear hcz6_2
      try clear hcz6_3
      try clear hfz13_0
      try clear hfz13_1
      try clear hfz13_2
      try clear hfz13_3
      try clear hfz15_0
      try clear hfz15_1
      try clear hfz15_2
      try clear hfz15_3
      try clear hfz6_0
      try clear hfz6_1
      try clear hfz6_2
      try clear hfz6_3
      try clear hx366_0
      try clear p2
      try clear p366
      try clear q366
      obtain ⟨x6_2, x365000_2, x365001_2, x365002_2, x365003_2, u365003, rfl, HA, HK2, HO_365003, BK364, HB⟩ := hrel
      cases gk with
      | zero => exact absurd HA.out (by simp [spec_RoomFor.l1])
      | succ k2 =>
       have H := HA.out
       clear HA
       simp only [spec_RoomFor.l1] at H
       by_cases c17 : x6_2 < (l1.length : Int)
       ·rw [if_pos c17] at H
        have c17b0 : decide (x6_2 < (l1.length : Int)) = true := decide_eq_true c17
        clear c17
        have HC18 := uD H
        clear H
        go_upto_region 12 with (fail)
        go_cut [42] (fun v42 wc => ∃ (kq : Nat) (x42_17 : Bool), v42 = .bool x42_17 ∧ Aside0 (spec_RoomFor.j2 kq l1 x6_2 x42_17 x365000_2 x365001_2 x365002_2 x365003_2 = some r) ∧ Aside0 (kq ≤ k2) ∧ Aside0 (Kd.R k74 74 wc w.heap.size (fun _ => True) u365003 x365003_2) ∧ Aside0 (wc.heap[gb364]? = some (.cells #[.int .i64 x365000_2, .int .i64 x365001_2, .bool x365002_2, u365003] 63 (0, 0))) ∧ Aside0 (Below w.heap.size w wc))
        case first =>
         have H := HC18.out
         clear HC18
         by_cases c19 : (x365003_2.length : Int) ≥ 40
         ·rw [if_pos c19] at H
          have c19b0 : decide (40 ≤ (x365003_2.length : Int)) = true := decide_eq_true c19
          have c19b1 : decide (40 ≤ x365003_2.length) = true := decide_eq_true (by omega)
          clear c19
          (first | rw [c19b0] | (simp only [uZ, ua]; rw [c19b0]) | skip)
          have H' := uD H
          clear H
          try go_wp2
          replace HO_365003 := uD (uT HO_365003.out)
          replace BK364 := uD (uJ BK364.out)
          replace HB := uD (uK HB.out)
          obtain ⟨Ao21, co21, eo21⟩ := Kd.R_slice HO_365003.out
          (first | subst eo21 | (injection eo21 with f1_ f2_ f3_; have f4_ := f1_.symm; have f5_ := f3_.symm; clear f1_ f2_ f3_; subst f4_; subst f5_))
          refine start_ (n := 13) (S := fun w' => w'.cell? ⟨gb364, 0, none⟩ = some (.int .i64 x365000_2) ∧ w'.cell? ⟨gb364, 1, none⟩ = some (.int .i64 x365001_2) ∧ w'.cell? ⟨gb364, 2, none⟩ = some (.bool x365002_2) ∧ w'.cell? ⟨gb364, 3, none⟩ = some (.slice Ao21 x365003_2.length co21)) (ds := []) #[F,F,F,F,F,F,F,F,F,F,F,F,F] (by kernel_rfl) rfl rfl ⟨(uF BK364.out 0).trans rfl, (uF BK364.out 1).trans rfl, (uF BK364.out 2).trans rfl, (uF BK364.out 3).trans rfl⟩ (fun hHeld => ?_); refine with_tabW spec_RoomFor.tab12 spec_RoomFor.bits12 (fun HT_ HW_ => ?_)
          generalize wr.drew = w20 at HO_365003 BK364 HB hHeld ⊢
          refine pu 0 (some 30) #[T,F,F,F,F,F,F,F,F,F,F,F,F] HT_ ?_
          refine take_ (i := 1) (N := some 31) (v := ?_) (a' := ?_) #[T,T,F,F,F,F,F,F,F,F,F,F,F] rfl rfl (take_ofW HT_.out HW_.out (by kernel_rfl)) (fun _ _ _ h => h) (Or.inl ⟨by rfl, ?_⟩) hHeld ?_ ?_
          rotate_left;(rintro w' ⟨s0, s1, s2, s3⟩;go_simp;with_reducible rfl);rotate_left;(simp only [uc,uA,uB,uC,uZ,ua];rfl)
          refine pu 2 (some 32) #[T,T,T,F,F,F,F,F,F,F,F,F,F] HT_ ?_
          refine pu 3 (some 33) #[T,T,T,T,F,F,F,F,F,F,F,F,F] HT_ ?_
          refine pu 4 (some 34) #[T,T,T,T,T,F,F,F,F,F,F,F,F] HT_ ?_
          refine ub (i := 5) (N := some 35) (v := undef) (a' := ?_) #[T,T,T,T,T,T,F,F,F,F,F,F,F] rfl rfl (uY HT_.out (by kernel_rfl)) (fun _ _ _ h => h) (Or.inr ⟨by rfl, rfl⟩) ?_ ?_
          rotate_left
          ·simp only [uc, uA, uB, uC, uZ, ua]
           rfl
          refine ub (i := 6) (N := some 36) (v := undef) (a' := ?_) #[T,T,T,T,T,T,T,F,F,F,F,F,F] rfl rfl (uY HT_.out (by kernel_rfl)) (fun _ _ _ h => h) (Or.inr ⟨by rfl, rfl⟩) ?_ ?_
          rotate_left
          ·simp only [uc, uA, uB, uC, uZ, ua]
           rfl
          refine ub (i := 7) (N := some 37) (v := undef) (a' := ?_) #[T,T,T,T,T,T,T,T,F,F,F,F,F] rfl rfl (uY HT_.out (by kernel_rfl)) (fun _ _ _ h => h) (Or.inr ⟨by rfl, rfl⟩) ?_ ?_
          rotate_left
          ·simp only [uc, uA, uB, uC, uZ, ua]
           rfl
          refine ub (i := 8) (N := some 38) (v := undef) (a' := ?_) #[T,T,T,T,T,T,T,T,T,F,F,F,F] rfl rfl (uY HT_.out (by kernel_rfl)) (fun _ _ _ h => h) (Or.inr ⟨by rfl, rfl⟩) ?_ ?_
          rotate_left
          ·simp only [uc, uA, uB, uC, uZ, ua]
           rfl
          refine ub (i := 9) (N := some 39) (v := undef) (a' := ?_) #[T,T,T,T,T,T,T,T,T,T,F,F,F] rfl rfl (uY HT_.out (by kernel_rfl)) (fun _ _ _ h => h) (Or.inr ⟨by rfl, rfl⟩) ?_ ?_
          rotate_left
          ·simp only [uc, uA, uB, uC, uZ, ua]
           rfl
          refine ub (i := 10) (N := some 40) (v := undef) (a' := ?_) #[T,T,T,T,T,T,T,T,T,T,T,F,F] rfl rfl (uY HT_.out (by kernel_rfl)) (fun _ _ _ h => h) (Or.inr ⟨by rfl, rfl⟩) ?_ ?_
          rotate_left
          ·simp only [uc, uA, uB, uC, uZ, ua]
           rfl
          refine ub (i := 11) (N := some 41) (v := undef) (a' := ?_) #[T,T,T,T,T,T,T,T,T,T,T,T,F] rfl rfl (uY HT_.out (by kernel_rfl)) (fun _ _ _ h => h) (Or.inr ⟨by rfl, rfl⟩) ?_ ?_
          rotate_left
          ·simp only [uc, uA, uB, uC, uZ, ua]
           rfl
          refine pu 12 (some 42) #[T,T,T,T,T,T,T,T,T,T,T,T,T] HT_ ?_
          refine done_ (done_of HT_.out (by kernel_rfl)) ?_
          try go_wp2
          go_meet
          case rel => exact ⟨_, (true), (by first | rfl | (simp; done) | (simp [*]; done)), H', ⟨by have := HK1.out; have := HK2.out; first | omega | exact Nat.le_refl _⟩, ⟨by (with_reducible repeat (first | apply uU | apply uS | apply uT)); exact HO_365003.out⟩, ⟨by (with_reducible repeat first|apply uH|apply uJ|apply uG); exact BK364.out⟩, ⟨pb HB⟩⟩
         ·rw [if_neg c19] at H
          have c19b0 : decide (40 ≤ (x365003_2.length : Int)) = false := decide_eq_false c19
          have c19b1 : decide (40 ≤ x365003_2.length) = false := decide_eq_false (by omega)
          clear c19
          (first | rw [c19b0] | (simp only [uZ, ua]; rw [c19b0]) | skip)
          by_cases c22 : 0 ≤ x6_2
          ·rw [if_pos c22] at H
           have c22b0 : decide (0 ≤ x6_2) = true := decide_eq_true c22
           clear c22
           replace H := Option.bind_eq_some_iff.mp H
           obtain ⟨t375, A230, H⟩ := H
           replace H : (spec_RoomFor.j2 k2 l1 x6_2 (decide ((rd l1 x6_2) > t375)) x365000_2 x365001_2 x365002_2 x365003_2) = some r := H
           have A23 := uD A230
           clear A230
           have H' := uD H
           clear H
           try go_wp2
           replace HO_365003 := uD (uT HO_365003.out)
           replace BK364 := uD (uJ BK364.out)
           replace HB := uD (uK HB.out)
           obtain ⟨Ao25, co25, eo25⟩ := Kd.R_slice HO_365003.out
           (first | subst eo25 | (injection eo25 with f1_ f2_ f3_; have f4_ := f1_.symm; have f5_ := f3_.symm; clear f1_ f2_ f3_; subst f4_; subst f5_))
           have p374 : 0 ≤ (x6_2 : Int) := of_decide_eq_true (by first | (with_reducible assumption) | assumption)
           have q374 : x6_2 < (l1.length : Int) := of_decide_eq_true (by first | (with_reducible assumption) | assumption)
           obtain ⟨ad374, e374, hx374_0⟩ := Kd.at_int HR1.out x6_2 p374 q374
           have hw374_0 := hx374_0
           cases e374
           replace hx374_0 := (HB.out.cell (World.block_lt_of_cell? w _ hx374_0)).trans hx374_0
           replace p374 := eq_true p374
           replace q374 := eq_true q374
           refine start_ (n := 13) (S := fun w' => w'.cell? ⟨gb364, 0, none⟩ = some (.int .i64 x365000_2) ∧ w'.cell? ⟨gb364, 1, none⟩ = some (.int .i64 x365001_2) ∧ w'.cell? ⟨gb364, 2, none⟩ = some (.bool x365002_2) ∧ w'.cell? ⟨gb364, 3, none⟩ = some (.slice Ao25 x365003_2.length co25) ∧ w'.cell? (ad374.add (x6_2).toNat) = some (.int .i64 (rd l1 x6_2))) (ds := []) #[F,F,F,F,F,F,F,F,F,F,F,F,F] (by kernel_rfl) rfl rfl ⟨(uF BK364.out 0).trans rfl, (uF BK364.out 1).trans rfl, (uF BK364.out 2).trans rfl, (uF BK364.out 3).trans rfl, ((HB.out.cell (World.block_lt_of_cell? w _ hw374_0)).trans hw374_0)⟩ (fun hHeld => ?_); refine with_tabW spec_RoomFor.tab12 spec_RoomFor.bits12 (fun HT_ HW_ => ?_)
           generalize wr.drew = w24 at HO_365003 BK364 HB hx374_0 hHeld ⊢
           refine pu 0 (some 30) #[T,F,F,F,F,F,F,F,F,F,F,F,F] HT_ ?_
           refine take_ (i := 1) (N := some 31) (v := ?_) (a' := ?_) #[T,T,F,F,F,F,F,F,F,F,F,F,F] rfl rfl (take_ofW HT_.out HW_.out (by kernel_rfl)) (fun _ _ _ h => h) (Or.inl ⟨by rfl, ?_⟩) hHeld ?_ ?_
           rotate_left;(rintro w' ⟨s0, s1, s2, s3, s4⟩;go_simp;with_reducible rfl);rotate_left;(simp only [uc,uA,uB,uC,uZ,ua];rfl)
           refine pu 2 (some 32) #[T,T,T,F,F,F,F,F,F,F,F,F,F] HT_ ?_
           refine pu 3 (some 33) #[T,T,T,T,F,F,F,F,F,F,F,F,F] HT_ ?_
           refine pu 4 (some 34) #[T,T,T,T,T,F,F,F,F,F,F,F,F] HT_ ?_
           refine pu 5 (some 35) #[T,T,T,T,T,T,F,F,F,F,F,F,F] HT_ ?_
           refine pu 6 (some 36) #[T,T,T,T,T,T,T,F,F,F,F,F,F] HT_ ?_
           refine pu 7 (some 37) #[T,T,T,T,T,T,T,T,F,F,F,F,F] HT_ ?_
           refine take_ (i := 8) (N := some 38) (v := ?_) (a' := ?_) #[T,T,T,T,T,T,T,T,T,F,F,F,F] rfl rfl (take_ofW HT_.out HW_.out (by kernel_rfl)) (fun _ _ _ h => h) (Or.inl ⟨by rfl, ?_⟩) hHeld ?_ ?_
           rotate_left;(rintro w' ⟨s0, s1, s2, s3, s4⟩;go_simp;with_reducible rfl);rotate_left;(simp only [uc,uA,uB,uC,uZ,ua];rfl)
           refine take_ (i := 9) (N := some 39) (v := ?_) (a' := ?_) #[T,T,T,T,T,T,T,T,T,T,F,F,F] rfl rfl (take_ofW HT_.out HW_.out (by kernel_rfl)) (fun _ _ _ h => h) (Or.inl ⟨by rfl, ?_⟩) hHeld ?_ ?_
           rotate_left;(rintro w' ⟨s0, s1, s2, s3, s4⟩;go_simp;with_reducible rfl);rotate_left;(simp only [uc,uA,uB,uC,uZ,ua];rfl)
           refine one_ (i := 10) (N := some 40) #[T,T,T,T,T,T,T,T,T,T,T,F,F] rfl rfl (one_of HT_.out (by kernel_rfl)) (by decide) (fun K hK => ?_)
           refine goes_ Try.func96 (by kernel_rfl) rfl #[.agg #[.int .i64 x365000_2, .int .i64 x365001_2, .bool x365002_2, .slice Ao25 x365003_2.length co25]] (by rfl) rfl rfl (by (try simp only [List.map_toArray, List.map_cons, List.map_nil]); first | done | rfl | (simp only [List.length_drop, List.length_take]; rfl)) ?_
           with_reducible refine (spec_FreeBehind.calls k2 x365000_2 x365001_2 x365002_2 _ _ x365003_2 t375 _ ?side1 ?side2 A23.out).mono ?_
           (case side1 => repeat (first | exact (Kd.R_reads' HO_365003.out).2.2 | (with_reducible refine Kd.C_alloc ?_ _) | (with_reducible refine Kd.C_drewN ?_ _) | (with_reducible refine Kd.C_drew ?_)))
           (case side2 => exact (Kd.R_reads' HO_365003.out).2.1)
           rintro e w26 ⟨rfl, hb⟩
           refine ⟨_, rfl, ?_⟩
           replace HO_365003 := uD (Kd.R_below (pr HO_365003) hb)
           replace BK364 := uD (blk_below (pk BK364) hb)
           replace HB := uD (uO (pb HB) hb)
           (try clear hb)
           (try clear hb2)
           (try clear hk)
           (try clear hi)
           refine hK.out _ _ ⟨(uF BK364.out 0).trans rfl, (uF BK364.out 1).trans rfl, (uF BK364.out 2).trans rfl, (uF BK364.out 3).trans rfl, ((HB.out.cell (World.block_lt_of_cell? w _ hw374_0)).trans hw374_0)⟩ (fun hHeld => ?_)
           clear hK K
           refine norm_ (a' := ?_) ?_ ?_
           rotate_left
           ·show uc _ (some 40) _ = _
            simp only [uc, uA, uB, uC, uZ, ua]
            rfl
           refine pu 11 (some 41) #[T,T,T,T,T,T,T,T,T,T,T,T,F] HT_ ?_
           refine pu 12 (some 42) #[T,T,T,T,T,T,T,T,T,T,T,T,T] HT_ ?_
           refine done_ (done_of HT_.out (by kernel_rfl)) ?_
           try go_wp2
           go_meet
           case rel => exact ⟨_, (decide ((rd l1 x6_2) > t375)), (by first | rfl | (simp; done) | (simp [*]; done)), H', ⟨by have := HK1.out; have := HK2.out; first | omega | exact Nat.le_refl _⟩, ⟨by (with_reducible repeat (first | apply uU | apply uS | apply uT)); exact HO_365003.out⟩, ⟨by (with_reducible repeat first|apply uH|apply uJ|apply uG); exact BK364.out⟩, ⟨pb HB⟩⟩
          ·rw [if_neg c22] at H
           exact absurd H (by simp)
        case rest =>
         clear HC18
         try clear c1
         try clear c2
         try clear p2
         try clear p3
         try clear q3
         try clear hx3
         try clear c4
         try clear c5
         try clear p6
         try clear c7
         try clear c8
         try clear c8b0
         try clear c9
         try clear c9b0
         try clear c11
         try clear c17
         try clear c17b0
         try clear c19
         try clear c19b0
         try clear c19b1
         try clear c22
         try clear c22b0
         try clear hcz13_0
         try clear hcz13_1
         try clear hcz13_2
         try clear hcz13_3
         try clear hcz15_0
         try clear hcz15_1
         try clear hcz15_2
         try clear hcz15_3
         try clear hcz6_0
         try clear hcz6_1
         try clear hcz6_2
         try clear hcz6_3
         try clear hfz13_0
         try clear hfz13_1
         try clear hfz13_2
         try clear hfz13_3
         try clear hfz15_0
         try clear hfz15_1
         try clear hfz15_2
         try clear hfz15_3
         try clear hfz6_0
         try clear hfz6_1
         try clear hfz6_2
         try clear hfz6_3
         try clear hx366_0
         try clear hx374_0
         try clear p2
         try clear p3
         try clear p366
         try clear p374
         try clear p6
         try clear q3
         try clear q366
         try clear q374
         obtain ⟨kq, x42_17, rfl, HA, HJ17, HO_365003, BK364, HB⟩ := hcut
         cases kq with
         | zero => exact absurd HA.out (by simp [spec_RoomFor.j2])
         | succ kj17 =>
          have H := HA.out
          clear HA
          simp only [spec_RoomFor.j2] at H
          by_cases c27 : x42_17 = true
          ·subst c27
           have H1 : (some x6_2) = some r := by rw [if_pos rfl] at H; first | done | exact H
           clear H
           have H := H1
           clear H1
           obtain rfl := Option.some.inj H
           go_wp2
           go_ret
           exact ⟨by first | rfl | (simp [errW_none, errW_some] <;> rfl) | (simp [*, errW_none, errW_some] <;> rfl), pb HB⟩
          ·replace c27 := Bool.eq_false_iff.mpr c27
           subst c27
           have H1 : ((some (([] : List (S74)) : List (S74))).bind fun y376 => (if y376.length + x365003_2.length < 5864062014805 then ((some (y376 ++ x365003_2 : List (S74))).bind fun y379 => ((spec_l02New.f kj17 x365000_2 x365001_2 x365002_2 x365003_2).bind fun t382 => (if 0 ≤ x6_2 then (if x6_2 < (l1.length : Int) then (if y379.length < 5864062014805 then ((spec_Move.f kj17 x365000_2 x365001_2 x365002_2 (y379 ++ [(⟨t382, rd l1 x6_2, rd l1 x6_2⟩ : S74)]) 400).bind fun bt388 => (spec_RoomFor.l1 kj17 l1 (wrap64 (x6_2 + 1)) bt388.1 bt388.2.1 bt388.2.2.1 bt388.2.2.2)) else (none)) else (none)) else (none)))) else (none))) = some r := by rw [if_neg (show ¬ (false = true) by decide)] at H; first | done | exact H
           clear H
           have H := H1
           clear H1
           obtain ⟨y376, hy376⟩ : ∃ y_ : List (S74), y_ = (([] : List (S74))) := ⟨_, rfl⟩
           replace H : (if y376.length + x365003_2.length < 5864062014805 then ((some (y376 ++ x365003_2 : List (S74))).bind fun y379 => ((spec_l02New.f kj17 x365000_2 x365001_2 x365002_2 x365003_2).bind fun t382 => (if 0 ≤ x6_2 then (if x6_2 < (l1.length : Int) then (if y379.length < 5864062014805 then ((spec_Move.f kj17 x365000_2 x365001_2 x365002_2 (y379 ++ [(⟨t382, rd l1 x6_2, rd l1 x6_2⟩ : S74)]) 400).bind fun bt388 => (spec_RoomFor.l1 kj17 l1 (wrap64 (x6_2 + 1)) bt388.1 bt388.2.1 bt388.2.2.1 bt388.2.2.2)) else (none)) else (none)) else (none)))) else (none)) = some r := by first | (rw [hy376]; with_reducible exact H) | (have H2_ := (Option.bind_some _ _).symm.trans H; rw [hy376]; with_reducible exact H2_) | (have H2_ := (Option.bind_some _ _).symm.trans H; with_reducible exact H2_) | with_reducible exact H | (rw [hy376]; exact H) | exact H
           have Ny376 := uD hy376
           clear hy376
           by_cases c28 : y376.length + x365003_2.length < 5864062014805
           ·rw [if_pos c28] at H
            have LMc28 := uD c28
            clear c28
            obtain ⟨y379, hy379⟩ : ∃ y_ : List (S74), y_ = (y376 ++ x365003_2) := ⟨_, rfl⟩
            replace H : ((spec_l02New.f kj17 x365000_2 x365001_2 x365002_2 x365003_2).bind fun t382 => (if 0 ≤ x6_2 then (if x6_2 < (l1.length : Int) then (if y379.length < 5864062014805 then ((spec_Move.f kj17 x365000_2 x365001_2 x365002_2 (y379 ++ [(⟨t382, rd l1 x6_2, rd l1 x6_2⟩ : S74)]) 400).bind fun bt388 => (spec_RoomFor.l1 kj17 l1 (wrap64 (x6_2 + 1)) bt388.1 bt388.2.1 bt388.2.2.1 bt388.2.2.2)) else (none)) else (none)) else (none))) = some r := by first | (rw [hy379]; with_reducible exact H) | (have H2_ := (Option.bind_some _ _).symm.trans H; rw [hy379]; with_reducible exact H2_) | (have H2_ := (Option.bind_some _ _).symm.trans H; with_reducible exact H2_) | with_reducible exact H | (rw [hy379]; exact H) | exact H
            have Ny379 := uD hy379
            clear hy379
            replace H := Option.bind_eq_some_iff.mp H
            obtain ⟨t382, A290, H⟩ := H
            replace H : (if 0 ≤ x6_2 then (if x6_2 < (l1.length : Int) then (if y379.length < 5864062014805 then ((spec_Move.f kj17 x365000_2 x365001_2 x365002_2 (y379 ++ [(⟨t382, rd l1 x6_2, rd l1 x6_2⟩ : S74)]) 400).bind fun bt388 => (spec_RoomFor.l1 kj17 l1 (wrap64 (x6_2 + 1)) bt388.1 bt388.2.1 bt388.2.2.1 bt388.2.2.2)) else (none)) else (none)) else (none)) = some r := H
            have A29 := uD A290
            clear A290
            by_cases c30 : 0 ≤ x6_2
            ·rw [if_pos c30] at H
             have c30b0 : decide (0 ≤ x6_2) = true := decide_eq_true c30
             clear c30
             by_cases c31 : x6_2 < (l1.length : Int)
             ·rw [if_pos c31] at H
              have c31b0 : decide (x6_2 < (l1.length : Int)) = true := decide_eq_true c31
              clear c31
              by_cases c32 : y379.length < 5864062014805
              ·rw [if_pos c32] at H
               have LMc32 := uD c32
               clear c32
               obtain ⟨y385, hy385⟩ : ∃ y_ : List (S74), y_ = (y379 ++ [(⟨t382, rd l1 x6_2, rd l1 x6_2⟩ : S74)]) := ⟨_, rfl⟩
               replace H : ((spec_Move.f kj17 x365000_2 x365001_2 x365002_2 y385 400).bind fun bt388 => (spec_RoomFor.l1 kj17 l1 (wrap64 (x6_2 + 1)) bt388.1 bt388.2.1 bt388.2.2.1 bt388.2.2.2)) = some r := by first | (rw [hy385]; with_reducible exact H) | (have H2_ := (Option.bind_some _ _).symm.trans H; rw [hy385]; with_reducible exact H2_) | (have H2_ := (Option.bind_some _ _).symm.trans H; with_reducible exact H2_) | with_reducible exact H | (rw [hy385]; exact H) | exact H
               have Ny385 := uD hy385
               clear hy385
               replace H := Option.bind_eq_some_iff.mp H
               obtain ⟨⟨t388, t389, t390, t391⟩, A330, H⟩ := H
               replace H : (spec_RoomFor.l1 kj17 l1 (wrap64 (x6_2 + 1)) t388 t389 t390 t391) = some r := H
               have A33 := uD A330
               clear A330
               have H' := uD H
               clear H
               try go_wp2
               replace HO_365003 := uD (uT HO_365003.out)
               replace BK364 := uD (uJ BK364.out)
               replace HB := uD (uK HB.out)
               have p383 : 0 ≤ (x6_2 : Int) := of_decide_eq_true (by first | (with_reducible assumption) | assumption)
               have q383 : x6_2 < (l1.length : Int) := of_decide_eq_true (by first | (with_reducible assumption) | assumption)
               obtain ⟨ad383, e383, hx383_0⟩ := Kd.at_int HR1.out x6_2 p383 q383
               have hw383_0 := hx383_0
               cases e383
               replace hx383_0 := (HB.out.cell (World.block_lt_of_cell? w _ hx383_0)).trans hx383_0
               replace p383 := eq_true p383
               replace q383 := eq_true q383
               have p384 : 0 ≤ (x6_2 : Int) := of_decide_eq_true (by first | (with_reducible assumption) | assumption)
               have q384 : x6_2 < (l1.length : Int) := of_decide_eq_true (by first | (with_reducible assumption) | assumption)
               obtain ⟨ad384, e384, hx384_0⟩ := Kd.at_int HR1.out x6_2 p384 q384
               have hw384_0 := hx384_0
               obtain rfl : ad383 = ad384 := (by injection e384)
               replace hx384_0 := (HB.out.cell (World.block_lt_of_cell? w _ hx384_0)).trans hx384_0
               replace p384 := eq_true p384
               replace q384 := eq_true q384
               refine start_ (n := 19) (S := fun w' => w'.cell? ⟨gb364, 0, none⟩ = some (.int .i64 x365000_2) ∧ w'.cell? ⟨gb364, 1, none⟩ = some (.int .i64 x365001_2) ∧ w'.cell? ⟨gb364, 2, none⟩ = some (.bool x365002_2) ∧ w'.cell? ⟨gb364, 3, none⟩ = some (u365003) ∧ w'.cell? (ad383.add (x6_2).toNat) = some (.int .i64 (rd l1 x6_2)) ∧ w'.cell? (ad383.add (x6_2).toNat) = some (.int .i64 (rd l1 x6_2))) (ds := [18]) #[F,F,F,F,F,F,F,F,F,F,F,F,F,F,F,F,F,F,F] (by kernel_rfl) rfl rfl ⟨(uF BK364.out 0).trans rfl, (uF BK364.out 1).trans rfl, (uF BK364.out 2).trans rfl, (uF BK364.out 3).trans rfl, ((HB.out.cell (World.block_lt_of_cell? w _ hw383_0)).trans hw383_0), ((HB.out.cell (World.block_lt_of_cell? w _ hw384_0)).trans hw384_0)⟩ (fun hHeld => ?_); refine with_tabW spec_RoomFor.tab14 spec_RoomFor.bits14 (fun HT_ HW_ => ?_)
               generalize wc.drew = w34 at HO_365003 BK364 HB hx383_0 hx384_0 hHeld ⊢
               refine pu 1 (some 45) #[F,T,F,F,F,F,F,F,F,F,F,F,F,F,F,F,F,F,F] HT_ ?_
               refine pu 6 (some 50) #[F,T,F,F,F,F,T,F,F,F,F,F,F,F,F,F,F,F,F] HT_ ?_
               refine pu 7 (some 51) #[F,T,F,F,F,F,T,T,F,F,F,F,F,F,F,F,F,F,F] HT_ ?_
               refine pu 8 (some 52) #[F,T,F,F,F,F,T,T,T,F,F,F,F,F,F,F,F,F,F] HT_ ?_
               refine pu 10 (some 54) #[F,T,F,F,F,F,T,T,T,F,T,F,F,F,F,F,F,F,F] HT_ ?_
               refine pu 11 (some 55) #[F,T,F,F,F,F,T,T,T,F,T,T,F,F,F,F,F,F,F] HT_ ?_
               refine pu 12 (some 56) #[F,T,F,F,F,F,T,T,T,F,T,T,T,F,F,F,F,F,F] HT_ ?_
               refine take_ (i := 2) (N := some 46) (v := ?_) (a' := ?_) #[F,T,T,F,F,F,T,T,T,F,T,T,T,F,F,F,F,F,F] rfl rfl (take_ofW HT_.out HW_.out (by kernel_rfl)) (fun _ _ _ h => h) (Or.inl ⟨by rfl, ?_⟩) hHeld ?_ ?_
               rotate_left;(rintro w' ⟨s0, s1, s2, s3, s4, s5⟩;go_simp;with_reducible rfl);rotate_left;(simp only [uc,uA,uB,uC,uZ,ua];rfl)
               refine take_ (i := 4) (N := some 48) (v := ?_) (a' := ?_) #[F,T,T,F,T,F,T,T,T,F,T,T,T,F,F,F,F,F,F] rfl rfl (take_ofW HT_.out HW_.out (by kernel_rfl)) (fun _ _ _ h => h) (Or.inl ⟨by rfl, ?_⟩) hHeld ?_ ?_
               rotate_left;(rintro w' ⟨s0, s1, s2, s3, s4, s5⟩;go_simp;with_reducible rfl);rotate_left;(simp only [uc,uA,uB,uC,uZ,ua];rfl)
               refine take_ (i := 9) (N := some 53) (v := ?_) (a' := ?_) #[F,T,T,F,T,F,T,T,T,T,T,T,T,F,F,F,F,F,F] rfl rfl (take_ofW HT_.out HW_.out (by kernel_rfl)) (fun _ _ _ h => h) (Or.inl ⟨by rfl, ?_⟩) hHeld ?_ ?_
               rotate_left;(rintro w' ⟨s0, s1, s2, s3, s4, s5⟩;go_simp;with_reducible rfl);rotate_left;(simp only [uc,uA,uB,uC,uZ,ua];rfl)
               refine take_ (i := 13) (N := some 57) (v := ?_) (a' := ?_) #[F,T,T,F,T,F,T,T,T,T,T,T,T,T,F,F,F,F,F] rfl rfl (take_ofW HT_.out HW_.out (by kernel_rfl)) (fun _ _ _ h => h) (Or.inl ⟨by rfl, ?_⟩) hHeld ?_ ?_
               rotate_left;(rintro w' ⟨s0, s1, s2, s3, s4, s5⟩;go_simp;with_reducible rfl);rotate_left;(simp only [uc,uA,uB,uC,uZ,ua];rfl)
               refine one_ (i := 0) (N := some 44) #[T,T,T,F,T,F,T,T,T,T,T,T,T,T,F,F,F,F,F] rfl rfl (one_of HT_.out (by kernel_rfl)) (by decide) (fun K hK => ?_)
               refine Kd.R_lit_step k74 _ 74 ?hg (N := 44) ?hd (xs := ([] : List (S74))) (inner := []) (ok := fun _ => True) (okp := fun _ => True) ?hr ?hp (fun _ hk => hk) trivial (Below.refl _ _) (Nat.le_refl _) (by simp) ?_; (case hd => rfl); (case hg => rfl); (case hr => first | (go_simp; done) | (go_simp; rfl)); (case hp => exact (Reps.none _ _))
               intro v377 w35 ho36 hb hg_ hnew_
               clear hg_ hnew_
               (first | rw [← Ny376.out] at ho36 | (simp only [Int.reduceToNat] at ho36; rw [← Ny376.out] at ho36))
               have HO378 := uD (Kd.R_lower (Kd.R_new' ho36 (Kd.R_lt (pr HO_365003))) (uN (pb HB)))
               replace HO_365003 := uD (Kd.R_elder' (pr HO_365003) (Kd.R_base ho36) hb)
               replace BK364 := uD (blk_below (pk BK364) hb)
               replace HB := uD (uO (pb HB) hb)
               clear hb ho36
               obtain ⟨Ao38, co38, eo38⟩ := Kd.R_slice HO_365003.out
               (first | subst eo38 | (injection eo38 with f1_ f2_ f3_; have f4_ := f1_.symm; have f5_ := f3_.symm; clear f1_ f2_ f3_; subst f4_; subst f5_))
               refine hK.out _ _ ⟨(uF BK364.out 0).trans rfl, (uF BK364.out 1).trans rfl, (uF BK364.out 2).trans rfl, (uF BK364.out 3).trans rfl, ((HB.out.cell (World.block_lt_of_cell? w _ hw383_0)).trans hw383_0), ((HB.out.cell (World.block_lt_of_cell? w _ hw384_0)).trans hw384_0)⟩ (fun hHeld => ?_)
               clear hK K
               refine norm_ (a' := ?_) ?_ ?_
               rotate_left
               ·show uc _ (some 44) _ = _
                simp only [uc, uA, uB, uC, uZ, ua]
                rfl
               refine one_ (i := 3) (N := some 47) #[T,T,T,T,T,F,T,T,T,T,T,T,T,T,F,F,F,F,F] rfl rfl (one_of HT_.out (by kernel_rfl)) (by decide) (fun K hK => ?_)
               refine Kd.R_append_rows_step k74 (w0 := w) w.heap.size (by rfl) (.tmp 44) (.tmp 46) 61 74 (.agg #[(.int .i64 0), (.int .i64 0), (.int .i64 0)]) 24 rfl Try.underlying61 info74 rfl (by decide) (by omega) v377 y376 x365003_2 _ _ _ (fun k_ => some k_ ≠ (.slice Ao38 x365003_2.length co38 : Value).ownBlock) (fun _ => False) rfl rfl ?aO ?aR (fun _ _ h => h) (fun _ h => h.elim) ?aF ?aB ?aS ?aL ?_
               (case aR => repeat (first | exact (Kd.R_reads' HO_365003.out).2.2 | (with_reducible refine Kd.C_alloc ?_ _) | (with_reducible refine Kd.C_drewN ?_ _) | (with_reducible refine Kd.C_drew ?_)))
               (case aB => exact (pb HB))
               (case aF => exact (fun k_ hk => Kd.fresh' (Kd.R_lt (pr HO_365003)) k_ hk))
               (case aO => exact (by (with_reducible repeat (first | apply uU | apply uS | apply uT)); exact uX HO378.out (fun _ hk => hk.2)))
               (case aS => exact (uN (pb HB)))
               (case aL => have := LMc28.out; omega)
               intro v380 w37 ho hb hg hat
               rw [← Ny379.out] at ho
               replace HO_365003 := uD (Kd.R_after (ok := (fun _ => True)) (pr HO_365003) hg hat)
               replace BK364 := uD (blk_grown (pk BK364) hg (Kd.R_ne HO378.out BK364.out (by decide)))
               replace HB := uD (hb)
               have HO381 := uD (ho)
               clear HO378
               clear ho hb hg hat
               refine hK.out _ _ ⟨(uF BK364.out 0).trans rfl, (uF BK364.out 1).trans rfl, (uF BK364.out 2).trans rfl, (uF BK364.out 3).trans rfl, ((HB.out.cell (World.block_lt_of_cell? w _ hw383_0)).trans hw383_0), ((HB.out.cell (World.block_lt_of_cell? w _ hw384_0)).trans hw384_0)⟩ (fun hHeld => ?_)
               clear hK K
               refine norm_ (a' := ?_) ?_ ?_
               rotate_left
               ·show uc _ (some 47) _ = _
                simp only [uc, uA, uB, uC, uZ, ua]
                rfl
               refine one_ (i := 5) (N := some 49) #[T,T,T,T,T,T,T,T,T,T,T,T,T,T,F,F,F,F,F] rfl rfl (one_of HT_.out (by kernel_rfl)) (by decide) (fun K hK => ?_)
               refine goes_ Try.func97 (by kernel_rfl) rfl #[.agg #[.int .i64 x365000_2, .int .i64 x365001_2, .bool x365002_2, .slice Ao38 x365003_2.length co38]] (by rfl) rfl rfl (by (try simp only [List.map_toArray, List.map_cons, List.map_nil]); first | done | rfl | (simp only [List.length_drop, List.length_take]; rfl)) ?_
               with_reducible refine (spec_l02New.calls kj17 x365000_2 x365001_2 x365002_2 _ _ x365003_2 t382 _ ?side1 ?side2 A29.out).mono ?_
               (case side1 => repeat (first | exact (Kd.R_reads' HO_365003.out).2.2 | (with_reducible refine Kd.C_alloc ?_ _) | (with_reducible refine Kd.C_drewN ?_ _) | (with_reducible refine Kd.C_drew ?_)))
               (case side2 => exact (Kd.R_reads' HO_365003.out).2.1)
               rintro e w39 ⟨rfl, hb⟩
               refine ⟨_, rfl, ?_⟩
               replace HO_365003 := uD (Kd.R_below (pr HO_365003) hb)
               replace HO381 := uD (Kd.R_below (pr HO381) hb)
               replace BK364 := uD (blk_below (pk BK364) hb)
               replace HB := uD (uO (pb HB) hb)
               (try clear hb)
               (try clear hb2)
               (try clear hk)
               (try clear hi)
               refine hK.out _ _ ⟨(uF BK364.out 0).trans rfl, (uF BK364.out 1).trans rfl, (uF BK364.out 2).trans rfl, (uF BK364.out 3).trans rfl, ((HB.out.cell (World.block_lt_of_cell? w _ hw383_0)).trans hw383_0), ((HB.out.cell (World.block_lt_of_cell? w _ hw384_0)).trans hw384_0)⟩ (fun hHeld => ?_)
               clear hK K
               refine norm_ (a' := ?_) ?_ ?_
               rotate_left
               ·show uc _ (some 49) _ = _
                simp only [uc, uA, uB, uC, uZ, ua]
                rfl
               refine pu 14 (some 58) #[T,T,T,T,T,T,T,T,T,T,T,T,T,T,T,F,F,F,F] HT_ ?_
               refine one_ (i := 15) (N := some 59) #[T,T,T,T,T,T,T,T,T,T,T,T,T,T,T,T,F,F,F] rfl rfl (one_of HT_.out (by kernel_rfl)) (by decide) (fun K hK => ?_)
               refine value_ (w1 := ?_) (v := ?_) (by rfl) rfl ?_ ?_
               rotate_left 2
               ·go_simp
                constructor
                ·rfl
                ·rfl
               refine hK.out _ _ ⟨(uF (uG BK364.out _) 0).trans rfl, (uF (uG BK364.out _) 1).trans rfl, (uF (uG BK364.out _) 2).trans rfl, (uF (uG BK364.out _) 3).trans rfl, (World.cell?_alloc_lt _ _ _ (World.block_lt_of_cell? _ _ (((HB.out.cell (World.block_lt_of_cell? w _ hw383_0)).trans hw383_0)))).trans (((HB.out.cell (World.block_lt_of_cell? w _ hw383_0)).trans hw383_0)), (World.cell?_alloc_lt _ _ _ (World.block_lt_of_cell? _ _ (((HB.out.cell (World.block_lt_of_cell? w _ hw384_0)).trans hw384_0)))).trans (((HB.out.cell (World.block_lt_of_cell? w _ hw384_0)).trans hw384_0))⟩ (fun hHeld => ?_)
               clear hK K
               refine norm_ (a' := ?_) ?_ ?_
               rotate_left
               ·show uc _ (some 59) _ = _
                simp only [uc, uA, uB, uC, uZ, ua]
                rfl
               refine one_ (i := 16) (N := some 60) #[T,T,T,T,T,T,T,T,T,T,T,T,T,T,T,T,T,F,F] rfl rfl (one_of HT_.out (by kernel_rfl)) (by decide) (fun K hK => ?_)
               refine Kd.R_append_step k74 (w0 := w) w.heap.size (by rfl) (.tmp 47) (.tmp 59) 61 74 (.agg #[(.int .i64 0), (.int .i64 0), (.int .i64 0)]) 24 rfl Try.underlying61 info74 rfl (by decide) (by omega) v380 y379 (⟨t382, rd l1 x6_2, rd l1 x6_2⟩ : S74) [.int .i64 t382, .int .i64 (rd l1 x6_2), .int .i64 (rd l1 x6_2)] (fun k_ => some k_ ≠ (.slice Ao38 x365003_2.length co38 : Value).ownBlock) (fun _ => False) rfl rfl ?aP (fun _ hk => hk.elim) ?aF ?aO ?aB ?aS ?aL ?_
               (case aP => exact k74_mkM _ _ _ (⟨t382, rd l1 x6_2, rd l1 x6_2⟩ : S74))
               (case aB => exact (pb HB))
               (case aF => exact (fun k_ hk => Kd.fresh' (Kd.R_lt (pr HO_365003)) k_ hk))
               (case aO => exact (pr HO381))
               (case aS => exact (uN (pb HB)))
               (case aL => have := LMc32.out; omega)
               intro v386 w40 ho hb hg hat
               rw [← Ny385.out] at ho
               replace HO_365003 := uD (Kd.R_after (ok := (fun _ => True)) (pr HO_365003) hg hat)
               replace BK364 := uD (blk_grown (pk BK364) hg (Kd.R_ne HO381.out BK364.out (by decide)))
               replace HB := uD (hb)
               have HO387 := uD (ho)
               clear HO381
               clear ho hb hg hat
               obtain ⟨Ao41, co41, eo41⟩ := Kd.R_slice HO387.out
               (first | subst eo41 | (injection eo41 with f1_ f2_ f3_; have f4_ := f1_.symm; have f5_ := f3_.symm; clear f1_ f2_ f3_; subst f4_; subst f5_))
               refine hK.out _ _ ⟨(uF BK364.out 0).trans rfl, (uF BK364.out 1).trans rfl, (uF BK364.out 2).trans rfl, (uF BK364.out 3).trans rfl, ((HB.out.cell (World.block_lt_of_cell? w _ hw383_0)).trans hw383_0), ((HB.out.cell (World.block_lt_of_cell? w _ hw384_0)).trans hw384_0)⟩ (fun hHeld => ?_)
               clear hK K
               refine norm_ (a' := ?_) ?_ ?_
               rotate_left
               ·show uc _ (some 60) _ = _
                simp only [uc, uA, uB, uC, uZ, ua]
                rfl
               refine pu 17 (some 61) #[T,T,T,T,T,T,T,T,T,T,T,T,T,T,T,T,T,T,F] HT_ ?_
               refine last_ (i := 18) (N := none) #[T,T,T,T,T,T,T,T,T,T,T,T,T,T,T,T,T,T,T] rfl rfl (one_of HT_.out (by kernel_rfl)) (by decide) (fun K hK => ?_)
               have hs42 : w40.cell? ⟨gb364, 3, none⟩ = some (.slice Ao38 x365003_2.length co38) := (uF BK364.out 3).trans rfl
               have hfs42 := uI BK364.out 3
               refine skip_ (w1 := ?_) (by rfl) rfl ?_ ?_
               rotate_left
               ·go_simp
                rfl
               refine hK.out _ _ ?_
               clear hK K
               refine done_ (done_of HT_.out (by kernel_rfl)) ?_
               obtain ⟨hcz43_0, hcz43_1, hcz43_2, hcz43_3, hfz43_0, hfz43_1, hfz43_2, hfz43_3⟩ := cz4 BK364
               try go_wp2_with (first | ((with_reducible refine gate_callee (f := 95) rfl ?_); refine goesL_ (some 63) rfl rfl Try.func95 (by kernel_rfl) rfl #[.agg #[.int .i64 x365000_2, .int .i64 x365001_2, .bool x365002_2, .slice Ao41 y385.length co41], .int .i64 400] rfl (by (try simp only [List.map_toArray, List.map_cons, List.map_nil]); first | done | rfl | (simp only [List.length_drop, List.length_take]; rfl)) ?_; (with_reducible refine (spec_Move.calls kj17 x365000_2 x365001_2 x365002_2 _ _ y385 400 t388 t389 t390 t391 _ ?side1 ?side2 A33.out).mono ?_); (case side1 => refine (Kd.R_reads' (e := 74) (base := w.heap.size) (ok := fun k_ => some k_ ≠ (.slice Ao38 x365003_2.length co38 : Value).ownBlock) (n := y385.length) (c := co41) ?_).2.2; exact (by (with_reducible repeat (first | apply uU | apply uS | apply uT)); exact (uX (uV (p := ⟨gb364, 3, none⟩) (uW HO387.out BK364.out (by decide)) (fun _ hk => hk.2) (.slice Ao41 y385.length co41)) (fun _ h_ => h_.1)))); (case side2 => exact (Kd.R_reads' HO387.out).2.1); rintro e w44 ⟨v392, rfl, ho0, hb⟩; refine ⟨_, rfl, ?_⟩; have HO393 := uD (Kd.R_lower (Kd.R_new' (Kd.R_new' ho0 (Kd.R_lt (by (with_reducible repeat (first | apply uU | apply uS | apply uT)); exact (uX (uV (p := ⟨gb364, 3, none⟩) (uW HO_365003.out BK364.out (by decide)) (fun _ hk => hk.2) (.slice Ao41 y385.length co41)) (fun _ h_ => h_.1))))) (Kd.R_lt (by (with_reducible repeat (first | apply uU | apply uS | apply uT)); exact (uX (uV (p := ⟨gb364, 3, none⟩) (uW HO387.out BK364.out (by decide)) (fun _ hk => hk.2) (.slice Ao41 y385.length co41)) (fun _ h_ => h_.1))))) (uN (pb HB))); replace HO_365003 := uD (Kd.R_elder' (by (with_reducible repeat (first | apply uU | apply uS | apply uT)); exact (uX (uV (p := ⟨gb364, 3, none⟩) (uW HO_365003.out BK364.out (by decide)) (fun _ hk => hk.2) (.slice Ao41 y385.length co41)) (fun _ h_ => h_.1))) (Kd.R_base ho0) hb); replace HO387 := uD (Kd.R_elder' (by (with_reducible repeat (first | apply uU | apply uS | apply uT)); exact (uX (uV (p := ⟨gb364, 3, none⟩) (uW HO387.out BK364.out (by decide)) (fun _ hk => hk.2) (.slice Ao41 y385.length co41)) (fun _ h_ => h_.1))) (Kd.R_base ho0) hb); replace BK364 := uD (blk_below (g := gb364) (o := .cells #[.int .i64 x365000_2, .int .i64 x365001_2, .bool x365002_2, .slice Ao41 y385.length co41] 63 (0, 0)) (by (with_reducible repeat first|apply uH|apply uJ|apply uG); refine uP (cs := #[.int .i64 x365000_2, .int .i64 x365001_2, .bool x365002_2, .slice Ao38 x365003_2.length co38]) ?_ 3 _ rfl; (with_reducible repeat first|apply uH|apply uJ|apply uG); exact BK364.out) hb); replace HB := uD (uO (pb HB) hb); (try clear hb); (try clear hb2); (try clear hk); (try clear hi); (try clear ho0); obtain ⟨hcz45_0, hcz45_1, hcz45_2, hcz45_3, hfz45_0, hfz45_1, hfz45_2, hfz45_3⟩ := cz4 BK364; obtain ⟨Ao46, co46, eo46⟩ := Kd.R_slice HO393.out; subst eo46))
               go_roundg kj17
               case measure => have := HK1.out; have := HK2.out; have := HJ17.out; omega
               case rel => exact ⟨(wrap64 (x6_2 + 1)), (t388), (t389), (t390), (t391), (.slice Ao46 t391.length co46), (by first | rfl | (simp; done) | (simp [*]; done)), H', ⟨by have := HK1.out; have := HK2.out; have := HJ17.out; omega⟩, ⟨by (with_reducible repeat (first | apply uU | apply uS | apply uT)); exact uX (uV (p := ⟨gb364, 3, none⟩) (uV (p := ⟨gb364, 2, none⟩) (uV (p := ⟨gb364, 1, none⟩) (uV (p := ⟨gb364, 0, none⟩) (uW HO393.out BK364.out (by decide)) (fun _ hk => hk.2) (.int .i64 t388)) (fun _ hk => hk.2) (.int .i64 t389)) (fun _ hk => hk.2) (.bool t390)) (fun _ hk => hk.2) (.slice Ao46 t391.length co46)) (fun _ hk => trivial)⟩, ⟨by (with_reducible repeat first|apply uH|apply uJ|apply uG); refine uP (cs := #[.int .i64 t388, .int .i64 t389, .bool t390, .slice Ao41 y385.length co41]) ?_ 3 _ rfl; (with_reducible repeat first|apply uH|apply uJ|apply uG); refine uP (cs := #[.int .i64 t388, .int .i64 t389, .bool x365002_2, .slice Ao41 y385.length co41]) ?_ 2 _ rfl; (with_reducible repeat first|apply uH|apply uJ|apply uG); refine uP (cs := #[.int .i64 t388, .int .i64 x365001_2, .bool x365002_2, .slice Ao41 y385.length co41]) ?_ 1 _ rfl; (with_reducible repeat first|apply uH|apply uJ|apply uG); refine uP (cs := #[.int .i64 x365000_2, .int .i64 x365001_2, .bool x365002_2, .slice Ao41 y385.length co41]) ?_ 0 _ rfl; (with_reducible repeat first|apply uH|apply uJ|apply uG); exact BK364.out⟩, ⟨pb HB⟩⟩
              ·rw [if_neg c32] at H
               exact absurd H (by simp)
             ·rw [if_neg c31] at H
              exact absurd H (by simp)
            ·rw [if_neg c30] at H
             exact absurd H (by simp)
           ·rw [if_neg c28] at H
            exact absurd H (by simp)
       ·rw [if_neg c17] at H
        have c17b0 : decide (x6_2 < (l1.length : Int)) = false := decide_eq_false c17
        clear c17
        obtain rfl := Option.some.inj H
        go_wp2
        go_ret
        exact ⟨by first | rfl | (simp [errW_none, errW_some] <;> rfl) | (simp [*, errW_none, errW_some] <;> rfl), pb HB⟩
 ·replace c4 := Bool.eq_false_iff.mpr c4
  subst c4
  have H1 : (some (-1)) = some r := by rw [if_neg (show ¬ (false = true) by decide)] at H; first | done | exact H
  clear H
  have H := H1
  clear H1
  obtain rfl := Option.some.inj H
  go_enter Try.func50, Try.ntmps50
  go_wp2_with (first | ((with_reducible refine gate_dst (N := 2) rfl ?_); refine box_event ?hg (N := 2) ?hd (cs := #[.int .i64 a0_0, .int .i64 a0_1, .bool a0_2, .slice A0_3 l0_3.length c0_3]) (t := 63) ?hr ?_; (case hd => rfl); (case hg => rfl); (case hr => first | (go_simp; done) | (go_simp; rfl)); intro gb364 hg w47 hbox hb; have BK364 := uD (hbox); have GW364 := uD ((by rw [hg]; exact (uN (pb HB)) : w.heap.size ≤ gb364)); have GE364 := uD ((by rw [hg]; exact (uN (pb HB)) : w.heap.size ≤ gb364)); replace HB := uD (uO (pb HB) hb); clear hb hbox hg; obtain ⟨hcz48_0, hcz48_1, hcz48_2, hcz48_3, hfz48_0, hfz48_1, hfz48_2, hfz48_3⟩ := cz4 BK364) | ((with_reducible refine gate_callee (f := 75) rfl ?_); refine goesL_ (some 8) rfl rfl Try.func75 (by kernel_rfl) rfl #[.agg #[.int .i64 a0_0, .int .i64 a0_1, .bool a0_2, .slice A0_3 l0_3.length c0_3]] rfl (by (try simp only [List.map_toArray, List.map_cons, List.map_nil]); first | done | rfl | (simp only [List.length_drop, List.length_take]; rfl)) ?_; (with_reducible refine (spec_BeltOk.calls k a0_0 a0_1 a0_2 _ _ l0_3 false _ ?side1 ?side2 A3.out).mono ?_); (case side1 => repeat (first | exact (Kd.C_below HR0_3.out HB.out) | (with_reducible refine Kd.C_alloc ?_ _) | (with_reducible refine Kd.C_drewN ?_ _) | (with_reducible refine Kd.C_drew ?_))); (case side2 => exact HC0_3.out); rintro e w49 ⟨rfl, hb⟩; refine ⟨_, rfl, ?_⟩; replace BK364 := uD (blk_below (pk BK364) hb); replace HB := uD (uO (pb HB) hb); (try clear hb); (try clear hb2); (try clear hk); (try clear hi)))
  go_ret
  exact ⟨by first | rfl | (simp [errW_none, errW_some] <;> rfl) | (simp [*, errW_none, errW_some] <;> rfl), pb HB⟩

/-! ### impl_isSteps: function 98 -/
def impl_isSteps.f (a0 : Int) : Option (Bool) := if a0 ≥ 0 then (some (decide (a0 ≤ 2000))) else (some false)
set_option maxHeartbeats 8000000 in
set_option maxRecDepth 100000 in
theorem impl_isSteps.calls (a0 : Int) (r : Bool) (w : World) (h : impl_isSteps.f a0 = some r) :
  Calls Try.prog 98 #[.int .i64 a0] w fun e w' => e = .returned (.bool r) ∧ Drawn0 w w' := by
 have H : (if a0 ≥ 0 then (some (decide (a0 ≤ 2000))) else (some false)) = some r := h
 clear h
 by_cases c2 : a0 ≥ 0
 ·rw [if_pos c2] at H
  have c2b0 : decide (0 ≤ a0) = true := decide_eq_true c2
  clear c2
  obtain rfl := Option.some.inj H
  go_enter Try.func98, Try.ntmps98
  go_wp2
  go_ret
  exact ⟨by first | rfl | (simp; done) | (simp [*]; done), by repeat (first | exact Drawn0.refl _ | apply Drawn0.step)⟩
 ·rw [if_neg c2] at H
  have c2b0 : decide (0 ≤ a0) = false := decide_eq_false c2
  clear c2
  obtain rfl := Option.some.inj H
  go_enter Try.func98, Try.ntmps98
  go_wp2
  go_ret
  exact ⟨by first | rfl | (simp; done) | (simp [*]; done), by repeat (first | exact Drawn0.refl _ | apply Drawn0.step)⟩

end Go.Proofs.Ytnnimbbffbfhoaa.PFnBeltRoom
