-- Written by a program of this session (wip/myprint.py: the kit's print with changes): not by print.sh itself.
import Derived.Test.YtnnimbbffbfhoaaPFnExactAssignx0
import Derived.Test.YtnnimbbffbfhoaaPFnExactAssignx8
namespace Go.Proofs.Ytnnimbbffbfhoaa.PFnExactAssign
open Go.RowKit Go.Proofs.YtnnimbbffbfhoaaW.PrintWords Go.Proofs.YtnnimbbffbfhoaaW.PrintLast Go.Proofs.YtnnimbbffbfhoaaW.PrintMore
attribute [local go_sem] max2_int min2_int max_two min_two max_three min_three max_four min_four   -- for this text's walks alone
set_option linter.unusedVariables false
set_option linter.unusedSimpArgs false

/-! ### impl_Assign: function 24 -/
mutual
def impl_Assign.l0 : Nat → List (S47) → List (S49) → List Int → List (S49) → Int → Int → Option (List Int)
 | 0, _, _, _, _, _, _ => none
 | k + 1, x0, x1, x5, x15, x16, x17 => if x17 < x16 then (if 0 ≤ x17 then (if x17 < (x15.length : Int) then (impl_Assign.l1 k x0 x1 x5 x15 x16 x17 x0 (x0.length : Int) 0 ((rd_T49 x15 x17).f0) ((rd_T49 x15 x17).f1) 0 0 0) else (none)) else (none)) else (some x5)
def impl_Assign.l1 : Nat → List (S47) → List (S49) → List Int → List (S49) → Int → Int → List (S47) → Int → Int → Int → Int → Int → Int → Int → Option (List Int)
 | 0, _, _, _, _, _, _, _, _, _, _, _, _, _, _ => none
 | k + 1, x0, x1, x5, x15, x16, x17, x22, x23, x24, x197000, x197001, x198000, x198001, x198002 => if x24 < x23 then (if 0 ≤ x24 then (if x24 < (x22.length : Int) then ((impl_fits.f x1 x197000 x197001 ((rd_T47 x22 x24).f0) ((rd_T47 x22 x24).f1) ((rd_T47 x22 x24).f2)).bind fun t203 => (if t203 = true then ((slices_Contains_int_int.f k x5 ((rd_T47 x22 x24).f0)).bind fun t204 => (impl_Assign.j2 k x0 x1 x5 x15 x16 x17 x22 x23 x24 t204 x197000 x197001 x198000 x198001 x198002 ((rd_T47 x22 x24).f0) ((rd_T47 x22 x24).f1) ((rd_T47 x22 x24).f2))) else (impl_Assign.j2 k x0 x1 x5 x15 x16 x17 x22 x23 x24 true x197000 x197001 x198000 x198001 x198002 ((rd_T47 x22 x24).f0) ((rd_T47 x22 x24).f1) ((rd_T47 x22 x24).f2)))) else (none)) else (none)) else (if x5.length < 17592186044416 then (impl_Assign.l0 k x0 x1 (x5 ++ [mx x197001 x198000]) x15 x16 (wrap64 (x17 + 1))) else (none))
def impl_Assign.j2 : Nat → List (S47) → List (S49) → List Int → List (S49) → Int → Int → List (S47) → Int → Int → Bool → Int → Int → Int → Int → Int → Int → Int → Int → Option (List Int)
 | 0, _, _, _, _, _, _, _, _, _, _, _, _, _, _, _, _, _, _ => none
 | k + 1, x0, x1, x5, x15, x16, x17, x22, x23, x24, x38, x197000, x197001, x198000, x198001, x198002, x203000, x203001, x203002 => if x38 = true then (impl_Assign.l1 k x0 x1 x5 x15 x16 x17 x22 x23 (wrap64 (x24 + 1)) x197000 x197001 x198000 x198001 x198002) else (if x198000 = 0 then (impl_Assign.l1 k x0 x1 x5 x15 x16 x17 x22 x23 (wrap64 (x24 + 1)) x197000 x197001 x203000 x203001 x203002) else (if x203002 < x198002 then (impl_Assign.l1 k x0 x1 x5 x15 x16 x17 x22 x23 (wrap64 (x24 + 1)) x197000 x197001 x203000 x203001 x203002) else (if x203002 = x198002 then (if x203000 < x198000 then (impl_Assign.l1 k x0 x1 x5 x15 x16 x17 x22 x23 (wrap64 (x24 + 1)) x197000 x197001 x203000 x203001 x203002) else (impl_Assign.l1 k x0 x1 x5 x15 x16 x17 x22 x23 (wrap64 (x24 + 1)) x197000 x197001 x198000 x198001 x198002)) else (impl_Assign.l1 k x0 x1 x5 x15 x16 x17 x22 x23 (wrap64 (x24 + 1)) x197000 x197001 x198000 x198001 x198002))))
end
def impl_Assign.f (k : Nat) (l0 : List (S47)) (l1 : List (S49)) : Option (List Int) := (impl_areSights.f k l0 l1).bind fun t194 => (if t194 = true then (impl_Assign.l0 k l0 l1 ([] : List Int) l1 (l1.length : Int) 0) else (some ([] : List Int)))
theorem impl_Assign.mono_l : ∀ k, (∀ y0 y1 y2 y3 y4 y5, LeO (impl_Assign.l0 k y0 y1 y2 y3 y4 y5) (impl_Assign.l0 (k + 1) y0 y1 y2 y3 y4 y5)) ∧ (∀ y0 y1 y2 y3 y4 y5 y6 y7 y8 y9 y10 y11 y12 y13, LeO (impl_Assign.l1 k y0 y1 y2 y3 y4 y5 y6 y7 y8 y9 y10 y11 y12 y13) (impl_Assign.l1 (k + 1) y0 y1 y2 y3 y4 y5 y6 y7 y8 y9 y10 y11 y12 y13)) ∧ (∀ y0 y1 y2 y3 y4 y5 y6 y7 y8 y9 y10 y11 y12 y13 y14 y15 y16 y17, LeO (impl_Assign.j2 k y0 y1 y2 y3 y4 y5 y6 y7 y8 y9 y10 y11 y12 y13 y14 y15 y16 y17) (impl_Assign.j2 (k + 1) y0 y1 y2 y3 y4 y5 y6 y7 y8 y9 y10 y11 y12 y13 y14 y15 y16 y17))
 | 0 => ⟨fun _ _ _ _ _ _ r h => by simp [impl_Assign.l0] at h, fun _ _ _ _ _ _ _ _ _ _ _ _ _ _ r h => by simp [impl_Assign.l1] at h, fun _ _ _ _ _ _ _ _ _ _ _ _ _ _ _ _ _ _ r h => by simp [impl_Assign.j2] at h⟩
 | k + 1 => by
  obtain ⟨ih0, ih1, ih2⟩ := impl_Assign.mono_l k
  refine ⟨?_, ?_, ?_⟩
  ·intro y0 y1 y2 y3 y4 y5
   unfold impl_Assign.l0
   repeat' first
   | (with_reducible exact ih0 _ _ _ _ _ _)
   | (with_reducible exact ih1 _ _ _ _ _ _ _ _ _ _ _ _ _ _)
   | (with_reducible exact ih2 _ _ _ _ _ _ _ _ _ _ _ _ _ _ _ _ _ _)
   | (with_reducible exact impl_areSights.mono _ _ _)
   | (with_reducible exact slices_Contains_int_int.mono _ _ _)
   | (with_reducible exact LeO.refl _)
   | (with_reducible exact LeO.none _)
   | (with_reducible refine LeO.ite ?_ ?_)
   | (with_reducible refine LeO.bind ?_ (fun _ => ?_))
   | exact ih0 _ _ _ _ _ _
   | exact ih1 _ _ _ _ _ _ _ _ _ _ _ _ _ _
   | exact ih2 _ _ _ _ _ _ _ _ _ _ _ _ _ _ _ _ _ _
   | exact impl_areSights.mono _ _ _
   | exact slices_Contains_int_int.mono _ _ _
   | exact LeO.none _
   | refine LeO.ite ?_ ?_
   | refine LeO.bind ?_ (fun _ => ?_)
  ·intro y0 y1 y2 y3 y4 y5 y6 y7 y8 y9 y10 y11 y12 y13
   unfold impl_Assign.l1
   repeat' first
   | (with_reducible exact ih0 _ _ _ _ _ _)
   | (with_reducible exact ih1 _ _ _ _ _ _ _ _ _ _ _ _ _ _)
   | (with_reducible exact ih2 _ _ _ _ _ _ _ _ _ _ _ _ _ _ _ _ _ _)
   | (with_reducible exact impl_areSights.mono _ _ _)
   | (with_reducible exact slices_Contains_int_int.mono _ _ _)
   | (with_reducible exact LeO.refl _)
   | (with_reducible exact LeO.none _)
   | (with_reducible refine LeO.ite ?_ ?_)
   | (with_reducible refine LeO.bind ?_ (fun _ => ?_))
   | exact ih0 _ _ _ _ _ _
   | exact ih1 _ _ _ _ _ _ _ _ _ _ _ _ _ _
   | exact ih2 _ _ _ _ _ _ _ _ _ _ _ _ _ _ _ _ _ _
   | exact impl_areSights.mono _ _ _
   | exact slices_Contains_int_int.mono _ _ _
   | exact LeO.none _
   | refine LeO.ite ?_ ?_
   | refine LeO.bind ?_ (fun _ => ?_)
  ·intro y0 y1 y2 y3 y4 y5 y6 y7 y8 y9 y10 y11 y12 y13 y14 y15 y16 y17
   unfold impl_Assign.j2
   repeat' first
   | (with_reducible exact ih0 _ _ _ _ _ _)
   | (with_reducible exact ih1 _ _ _ _ _ _ _ _ _ _ _ _ _ _)
   | (with_reducible exact ih2 _ _ _ _ _ _ _ _ _ _ _ _ _ _ _ _ _ _)
   | (with_reducible exact impl_areSights.mono _ _ _)
   | (with_reducible exact slices_Contains_int_int.mono _ _ _)
   | (with_reducible exact LeO.refl _)
   | (with_reducible exact LeO.none _)
   | (with_reducible refine LeO.ite ?_ ?_)
   | (with_reducible refine LeO.bind ?_ (fun _ => ?_))
   | exact ih0 _ _ _ _ _ _
   | exact ih1 _ _ _ _ _ _ _ _ _ _ _ _ _ _
   | exact ih2 _ _ _ _ _ _ _ _ _ _ _ _ _ _ _ _ _ _
   | exact impl_areSights.mono _ _ _
   | exact slices_Contains_int_int.mono _ _ _
   | exact LeO.none _
   | refine LeO.ite ?_ ?_
   | refine LeO.bind ?_ (fun _ => ?_)
theorem impl_Assign.mono : ∀ a0 a1 k, LeO (impl_Assign.f k a0 a1) (impl_Assign.f (k + 1) a0 a1) := by
 intro a0 a1 k
 obtain ⟨ih0, ih1, ih2⟩ := impl_Assign.mono_l k
 unfold impl_Assign.f
 repeat' first
   | (with_reducible exact ih0 _ _ _ _ _ _)
   | (with_reducible exact ih1 _ _ _ _ _ _ _ _ _ _ _ _ _ _)
   | (with_reducible exact ih2 _ _ _ _ _ _ _ _ _ _ _ _ _ _ _ _ _ _)
   | (with_reducible exact impl_areSights.mono _ _ _)
   | (with_reducible exact slices_Contains_int_int.mono _ _ _)
   | (with_reducible exact LeO.refl _)
   | (with_reducible exact LeO.none _)
   | (with_reducible refine LeO.ite ?_ ?_)
   | (with_reducible refine LeO.bind ?_ (fun _ => ?_))
   | exact ih0 _ _ _ _ _ _
   | exact ih1 _ _ _ _ _ _ _ _ _ _ _ _ _ _
   | exact ih2 _ _ _ _ _ _ _ _ _ _ _ _ _ _ _ _ _ _
   | exact impl_areSights.mono _ _ _
   | exact slices_Contains_int_int.mono _ _ _
   | exact LeO.none _
   | refine LeO.ite ?_ ?_
   | refine LeO.bind ?_ (fun _ => ?_)
set_option maxHeartbeats 8000000 in
set_option maxRecDepth 100000 in
theorem impl_Assign.calls (k : Nat) (A0 : Option Addr) (c0 : Nat) (l0 : List (S47)) (A1 : Option Addr) (c1 : Nat) (l1 : List (S49)) (r : List Int) (w : World) (hr0 : Kd.C k47 w A0 l0.length l0) (hc0 : l0.length ≤ c0) (hr1 : Kd.C k49 w A1 l1.length l1) (hc1 : l1.length ≤ c1) (h : impl_Assign.f k l0 l1 = some r) :
  Calls Try.prog 24 #[.slice A0 l0.length c0, .slice A1 l1.length c1] w fun e w' => ∃ v0_ : Value, e = .returned (v0_) ∧ Kd.R (Kd.int .i64) 3 w' w.heap.size (fun _ => True) v0_ r ∧ Below w.heap.size w w' := by
 have hu49 := Try.underlying49
 have hu47 := Try.underlying47
 have HR0 := Aside0.mk hr0
 have HC0 := Aside0.mk hc0
 clear hr0 hc0
 have HR1 := Aside0.mk hr1
 have HC1 := Aside0.mk hc1
 clear hr1 hc1
 have HB := Aside0.mk (Below.refl w.heap.size w)
 have H : ((impl_areSights.f k l0 l1).bind fun t194 => (if t194 = true then (impl_Assign.l0 k l0 l1 ([] : List Int) l1 (l1.length : Int) 0) else (some ([] : List Int)))) = some r := h
 clear h
 replace H := Option.bind_eq_some_iff.mp H
 obtain ⟨t194, A30, H⟩ := H
 replace H : (if t194 = true then (impl_Assign.l0 k l0 l1 ([] : List Int) l1 (l1.length : Int) 0) else (some ([] : List Int))) = some r := H
 have A3 := Aside0.mk A30
 clear A30
 by_cases c4 : t194 = true
 ·subst c4
  have H1 : (impl_Assign.l0 k l0 l1 ([] : List Int) l1 (l1.length : Int) 0) = some r := by rw [if_pos rfl] at H; first | done | exact H
  clear H
  have H := H1
  clear H1
  have H' := Aside0.mk H
  clear H
  go_enter Try.func24, Try.ntmps24
  go_wp2_with (first | ((with_reducible refine gate_callee (f := 64) rfl ?_); refine goesL_ (some 13) rfl rfl Try.func64 (by kernel_rfl) rfl #[.slice A0 l0.length c0, .slice A1 l1.length c1] rfl (by (try simp only [List.map_toArray, List.map_cons, List.map_nil]); first | done | rfl | (simp only [List.length_drop, List.length_take]; rfl)) ?_; (with_reducible refine (impl_areSights.calls k _ _ l0 _ _ l1 true _ ?side1 ?side2 ?side3 ?side4 A3.out).mono ?_); (case side1 => repeat (first | exact HR0.out | (with_reducible refine Kd.C_alloc ?_ _) | (with_reducible refine Kd.C_drewN ?_ _) | (with_reducible refine Kd.C_drew ?_))); (case side2 => exact HC0.out); (case side3 => repeat (first | exact HR1.out | (with_reducible refine Kd.C_alloc ?_ _) | (with_reducible refine Kd.C_drewN ?_ _) | (with_reducible refine Kd.C_drew ?_))); (case side4 => exact HC1.out); rintro e w5 ⟨rfl, hb⟩; refine ⟨_, rfl, ?_⟩; have n0_ := Aside0.mk (below_step (by repeat (first | (with_reducible first | exact HB.out | apply below_alloc | apply pw_below_drewN | apply below_drew1) | exact HB.out)) hb); clear HB; have HB := n0_; clear n0_; (try clear hb); (try clear hb2); (try clear hk); (try clear hi)))
  go_loopg [5, 17] k (fun kq v5 v17 w' => ∃ (x5_1 : List Int) (x17_1 : Int), v17 = .int .i64 x17_1 ∧ Aside0 (impl_Assign.l0 kq l0 l1 x5_1 l1 (l1.length : Int) x17_1 = some r) ∧ Aside0 (kq ≤ k) ∧ Aside0 (Kd.R (Kd.int .i64) 3 w' w.heap.size (fun _ => True) v5 x5_1) ∧ Aside0 (Below w.heap.size w w'))
  case atStart => exact ⟨(([] : List Int)), (0), (by first | rfl | (simp; done) | (simp [*]; done)), H', ⟨Nat.le_refl _⟩, ⟨by first | exact Kd.R_nil _ _ _ _ _ | exact Kd.N_nil _ _ _ _ _ | exact Kd.V_nil _ _ _ _ _ | exact Kd.Q_nil _ _ _ _ _ | exact Kd.S_nil _ _ _ _ _⟩, ⟨by repeat (first | (with_reducible first | exact HB.out | apply below_alloc | apply pw_below_drewN | apply below_drew1) | exact HB.out)⟩⟩
  case round =>
   clear H'
   try clear c1
   try clear c2
   try clear p2
   try clear c4
   obtain ⟨x5_1, x17_1, rfl, HA, HK1, HO_5, HB⟩ := hrel
   cases gk with
   | zero => exact absurd HA.out (by simp [impl_Assign.l0])
   | succ k1 =>
    have H := HA.out
    clear HA
    simp only [impl_Assign.l0] at H
    by_cases c6 : x17_1 < (l1.length : Int)
    ·rw [if_pos c6] at H
     have c6b0 : decide (x17_1 < (l1.length : Int)) = true := decide_eq_true c6
     clear c6
     by_cases c7 : 0 ≤ x17_1
     ·rw [if_pos c7] at H
      have c7b0 : decide (0 ≤ x17_1) = true := decide_eq_true c7
      clear c7
      by_cases c8 : x17_1 < (l1.length : Int)
      ·rw [if_pos c8] at H
       have c8b0 : decide (x17_1 < (l1.length : Int)) = true := decide_eq_true c8
       clear c8
       have H' := Aside0.mk H
       clear H
       have p195 : 0 ≤ (x17_1 : Int) := of_decide_eq_true (by first | (with_reducible assumption) | assumption)
       have q195 : x17_1 < (l1.length : Int) := of_decide_eq_true (by first | (with_reducible assumption) | assumption)
       obtain ⟨ad195, e195, hx195_0, hx195_1⟩ := at_T49 HR1.out x17_1 p195 q195
       cases e195
       replace hx195_0 := (HB.out.cell (World.block_lt_of_cell? w _ hx195_0)).trans hx195_0
       replace hx195_1 := (HB.out.cell (World.block_lt_of_cell? w _ hx195_1)).trans hx195_1
       replace p195 := eq_true p195
       replace q195 := eq_true q195
       go_wp2_with (first | ((with_reducible refine gate_dst (N := 7) rfl ?_); refine box_event ?hg (N := 7) ?hd (cs := #[.int .i64 0, .int .i64 0]) (t := 49) ?hr ?_; (case hd => rfl); (case hg => rfl); (case hr => first | (go_simp; done) | (go_simp; rfl)); intro gb196 hg w9 hbox hb; have n0_ := Aside0.mk (Kd.R_below (by (with_reducible repeat (first | apply Kd.R_alloc | apply Kd.R_drewN | apply Kd.R_drew)); exact HO_5.out) hb); have n1_ := Aside0.mk (below_step (by repeat (first | (with_reducible first | exact HB.out | apply below_alloc | apply pw_below_drewN | apply below_drew1) | exact HB.out)) hb); have n2_ := Aside0.mk (hbox); have n3_ := Aside0.mk ((by rw [hg]; exact (below_size (by repeat (first | (with_reducible first | exact HB.out | apply below_alloc | apply pw_below_drewN | apply below_drew1) | exact HB.out))) : w.heap.size ≤ gb196)); have n4_ := Aside0.mk ((by rw [hg]; exact (below_size (by repeat (first | (with_reducible first | exact HB.out | apply below_alloc | apply pw_below_drewN | apply below_drew1) | exact HB.out))) : w.heap.size ≤ gb196)); clear HO_5; clear HB; have HO_5 := n0_; have HB := n1_; have BK196 := n2_; have GW196 := n3_; have GE196 := n4_; clear n0_ n1_ n2_ n3_ n4_; clear hb hbox hg; have hcz10_0 : w9.cell? ⟨gb196, 0, none⟩ = some (.int .i64 0) := (blk_cell BK196.out 0).trans rfl; have hcz10_1 : w9.cell? ⟨gb196, 1, none⟩ = some (.int .i64 0) := (blk_cell BK196.out 1).trans rfl; have hfz10_0 := blk_frozen BK196.out 0; have hfz10_1 := blk_frozen BK196.out 1) | ((with_reducible refine gate_dst (N := 8) rfl ?_); refine box_event ?hg (N := 8) ?hd (cs := #[.int .i64 0, .int .i64 0, .int .i64 0]) (t := 47) ?hr ?_; (case hd => rfl); (case hg => rfl); (case hr => first | (go_simp; done) | (go_simp; rfl)); intro gb197 hg w11 hbox hb; have n0_ := Aside0.mk (Kd.R_below (by (with_reducible repeat (first | apply Kd.R_alloc | apply Kd.R_drewN | apply Kd.R_drew)); exact (Kd.R_mono (Kd.R_far (p := ⟨gb196, 1, none⟩) (Kd.R_far (p := ⟨gb196, 0, none⟩) (Kd.R_types HO_5.out BK196.out (by decide)) (fun _ hk => hk.2) (.int .i64 ((rd_T49 l1 x17_1).f0))) (fun _ hk => hk.2) (.int .i64 ((rd_T49 l1 x17_1).f1))) (fun _ h_ => h_.1))) hb); have n1_ := Aside0.mk (blk_below (g := gb196) (o := .cells #[.int .i64 ((rd_T49 l1 x17_1).f0), .int .i64 ((rd_T49 l1 x17_1).f1)] 49 (0, 0)) (by (with_reducible repeat (first | refine blk_drewN ?_ _ | refine blk_drew ?_ | refine blk_alloc ?_ _)); refine blk_put (cs := #[.int .i64 ((rd_T49 l1 x17_1).f0), .int .i64 0]) ?_ 1 _ rfl; (with_reducible repeat (first | refine blk_drewN ?_ _ | refine blk_drew ?_ | refine blk_alloc ?_ _)); refine blk_put (cs := #[.int .i64 0, .int .i64 0]) ?_ 0 _ rfl; (with_reducible repeat (first | refine blk_drewN ?_ _ | refine blk_drew ?_ | refine blk_alloc ?_ _)); exact BK196.out) hb); have n2_ := Aside0.mk (below_step (by repeat (first | (with_reducible first | exact HB.out | apply below_alloc | apply pw_below_drewN | apply below_drew1 | refine below_set ?_ GE196.out) | exact HB.out)) hb); have n3_ := Aside0.mk (hbox); have n4_ := Aside0.mk ((by rw [hg]; exact (below_size (by repeat (first | (with_reducible first | exact HB.out | apply below_alloc | apply pw_below_drewN | apply below_drew1 | refine below_set ?_ GE196.out) | exact HB.out))) : w.heap.size ≤ gb197)); have n5_ := Aside0.mk ((by rw [hg]; exact (below_size (by repeat (first | (with_reducible first | exact HB.out | apply below_alloc | apply pw_below_drewN | apply below_drew1 | refine below_set ?_ GE196.out) | exact HB.out))) : w.heap.size ≤ gb197)); have n6_ := Aside0.mk ((by rw [hg]; exact Nat.ne_of_lt (blk_lt (g := gb196) (o := .cells #[.int .i64 ((rd_T49 l1 x17_1).f0), .int .i64 ((rd_T49 l1 x17_1).f1)] 49 (0, 0)) (by (with_reducible repeat (first | refine blk_drewN ?_ _ | refine blk_drew ?_ | refine blk_alloc ?_ _)); refine blk_put (cs := #[.int .i64 ((rd_T49 l1 x17_1).f0), .int .i64 0]) ?_ 1 _ rfl; (with_reducible repeat (first | refine blk_drewN ?_ _ | refine blk_drew ?_ | refine blk_alloc ?_ _)); refine blk_put (cs := #[.int .i64 0, .int .i64 0]) ?_ 0 _ rfl; (with_reducible repeat (first | refine blk_drewN ?_ _ | refine blk_drew ?_ | refine blk_alloc ?_ _)); exact BK196.out)) : gb196 ≠ gb197)); have n7_ := Aside0.mk ((by rw [hg]; exact Nat.ne_of_gt (blk_lt (g := gb196) (o := .cells #[.int .i64 ((rd_T49 l1 x17_1).f0), .int .i64 ((rd_T49 l1 x17_1).f1)] 49 (0, 0)) (by (with_reducible repeat (first | refine blk_drewN ?_ _ | refine blk_drew ?_ | refine blk_alloc ?_ _)); refine blk_put (cs := #[.int .i64 ((rd_T49 l1 x17_1).f0), .int .i64 0]) ?_ 1 _ rfl; (with_reducible repeat (first | refine blk_drewN ?_ _ | refine blk_drew ?_ | refine blk_alloc ?_ _)); refine blk_put (cs := #[.int .i64 0, .int .i64 0]) ?_ 0 _ rfl; (with_reducible repeat (first | refine blk_drewN ?_ _ | refine blk_drew ?_ | refine blk_alloc ?_ _)); exact BK196.out)) : gb197 ≠ gb196)); clear HO_5; clear BK196; clear HB; have HO_5 := n0_; have BK196 := n1_; have HB := n2_; have BK197 := n3_; have GW197 := n4_; have GE197 := n5_; have NB196_197 := n6_; have NB197_196 := n7_; clear n0_ n1_ n2_ n3_ n4_ n5_ n6_ n7_; clear hb hbox hg; have hnb12 := NB197_196.out; have hnc12 := NB196_197.out; have hcz13_0 : w11.cell? ⟨gb197, 0, none⟩ = some (.int .i64 0) := (blk_cell BK197.out 0).trans rfl; have hcz13_1 : w11.cell? ⟨gb197, 1, none⟩ = some (.int .i64 0) := (blk_cell BK197.out 1).trans rfl; have hcz13_2 : w11.cell? ⟨gb197, 2, none⟩ = some (.int .i64 0) := (blk_cell BK197.out 2).trans rfl; have hfz13_0 := blk_frozen BK197.out 0; have hfz13_1 := blk_frozen BK197.out 1; have hfz13_2 := blk_frozen BK197.out 2))
       go_loopg [24] k1 (fun kq v24 w' => ∃ (x24_2 : Int) (x198000_2 : Int) (x198001_2 : Int) (x198002_2 : Int), v24 = .int .i64 x24_2 ∧ Aside0 (impl_Assign.l1 kq l0 l1 x5_1 l1 (l1.length : Int) x17_1 l0 (l0.length : Int) x24_2 ((rd_T49 l1 x17_1).f0) ((rd_T49 l1 x17_1).f1) x198000_2 x198001_2 x198002_2 = some r) ∧ Aside0 (kq ≤ k1) ∧ Aside0 (Kd.R (Kd.int .i64) 3 w' w.heap.size (fun _ => True) u5 x5_1) ∧ Aside0 (w'.heap[gb196]? = some (.cells #[.int .i64 ((rd_T49 l1 x17_1).f0), .int .i64 ((rd_T49 l1 x17_1).f1)] 49 (0, 0))) ∧ Aside0 (w'.heap[gb197]? = some (.cells #[.int .i64 x198000_2, .int .i64 x198001_2, .int .i64 x198002_2] 47 (0, 0))) ∧ Aside0 (Below w.heap.size w w'))
       case atStart => exact ⟨(0), (0), (0), (0), (by first | rfl | (simp; done) | (simp [*]; done)), H', ⟨Nat.le_refl _⟩, ⟨by (with_reducible repeat (first | apply Kd.R_alloc | apply Kd.R_drewN | apply Kd.R_drew)); exact Kd.R_mono (Kd.R_far (p := ⟨gb197, 2, none⟩) (Kd.R_far (p := ⟨gb197, 1, none⟩) (Kd.R_far (p := ⟨gb197, 0, none⟩) (Kd.R_types HO_5.out BK197.out (by decide)) (fun _ hk => hk.2) (.int .i64 0)) (fun _ hk => hk.2) (.int .i64 0)) (fun _ hk => hk.2) (.int .i64 0)) (fun _ hk => trivial)⟩, ⟨by (with_reducible repeat (first | refine blk_drewN ?_ _ | refine blk_drew ?_ | refine blk_alloc ?_ _)); refine blk_far ?_ NB196_197.out _; (with_reducible repeat (first | refine blk_drewN ?_ _ | refine blk_drew ?_ | refine blk_alloc ?_ _)); refine blk_far ?_ NB196_197.out _; (with_reducible repeat (first | refine blk_drewN ?_ _ | refine blk_drew ?_ | refine blk_alloc ?_ _)); refine blk_far ?_ NB196_197.out _; (with_reducible repeat (first | refine blk_drewN ?_ _ | refine blk_drew ?_ | refine blk_alloc ?_ _)); exact BK196.out⟩, ⟨by (with_reducible repeat (first | refine blk_drewN ?_ _ | refine blk_drew ?_ | refine blk_alloc ?_ _)); refine blk_put (cs := #[.int .i64 0, .int .i64 0, .int .i64 0]) ?_ 2 _ rfl; (with_reducible repeat (first | refine blk_drewN ?_ _ | refine blk_drew ?_ | refine blk_alloc ?_ _)); refine blk_put (cs := #[.int .i64 0, .int .i64 0, .int .i64 0]) ?_ 1 _ rfl; (with_reducible repeat (first | refine blk_drewN ?_ _ | refine blk_drew ?_ | refine blk_alloc ?_ _)); refine blk_put (cs := #[.int .i64 0, .int .i64 0, .int .i64 0]) ?_ 0 _ rfl; (with_reducible repeat (first | refine blk_drewN ?_ _ | refine blk_drew ?_ | refine blk_alloc ?_ _)); exact BK197.out⟩, ⟨by repeat (first | (with_reducible first | exact HB.out | apply below_alloc | apply pw_below_drewN | apply below_drew1 | refine below_set ?_ GE196.out | refine below_set ?_ GE197.out) | exact HB.out)⟩⟩
       case round =>
        clear H'
        try clear c1
        try clear p1
        try clear q1
        try clear hx1
        try clear c2
        try clear p2
        try clear c4
        try clear c6
        try clear c6b0
        try clear c7
        try clear c7b0
        try clear c8
        try clear c8b0
        try clear c12
        try clear hcz10_0
        try clear hcz10_1
        try clear hcz13_0
        try clear hcz13_1
        try clear hcz13_2
        try clear hfz10_0
        try clear hfz10_1
        try clear hfz13_0
        try clear hfz13_1
        try clear hfz13_2
        try clear hx195_0
        try clear hx195_1
        try clear p195
        try clear p2
        try clear q195
        obtain ⟨x24_2, x198000_2, x198001_2, x198002_2, rfl, HA, HK2, HO_5, BK196, BK197, HB⟩ := hrel
        cases gk with
        | zero => exact absurd HA.out (by simp [impl_Assign.l1])
        | succ k2 =>
         have H := HA.out
         clear HA
         simp only [impl_Assign.l1] at H
         by_cases c14 : x24_2 < (l0.length : Int)
         ·rw [if_pos c14] at H
          have c14b0 : decide (x24_2 < (l0.length : Int)) = true := decide_eq_true c14
          clear c14
          by_cases c15 : 0 ≤ x24_2
          ·rw [if_pos c15] at H
           have c15b0 : decide (0 ≤ x24_2) = true := decide_eq_true c15
           clear c15
           by_cases c16 : x24_2 < (l0.length : Int)
           ·rw [if_pos c16] at H
            have c16b0 : decide (x24_2 < (l0.length : Int)) = true := decide_eq_true c16
            clear c16
            have HC17 := Aside0.mk H
            clear H
            have p201 : 0 ≤ (x24_2 : Int) := of_decide_eq_true (by first | (with_reducible assumption) | assumption)
            have q201 : x24_2 < (l0.length : Int) := of_decide_eq_true (by first | (with_reducible assumption) | assumption)
            obtain ⟨ad201, e201, hx201_0, hx201_1, hx201_2⟩ := at_T47 HR0.out x24_2 p201 q201
            cases e201
            replace hx201_0 := (HB.out.cell (World.block_lt_of_cell? w _ hx201_0)).trans hx201_0
            replace hx201_1 := (HB.out.cell (World.block_lt_of_cell? w _ hx201_1)).trans hx201_1
            replace hx201_2 := (HB.out.cell (World.block_lt_of_cell? w _ hx201_2)).trans hx201_2
            replace p201 := eq_true p201
            replace q201 := eq_true q201
            go_upto_region 11 with (first | ((with_reducible refine gate_dst (N := 10) rfl ?_); refine box_event ?hg (N := 10) ?hd (cs := #[.int .i64 0, .int .i64 0, .int .i64 0]) (t := 47) ?hr ?_; (case hd => rfl); (case hg => rfl); (case hr => first | (go_simp; done) | (go_simp; rfl)); intro gb202 hg w18 hbox hb; have n0_ := Aside0.mk (Kd.R_below (by (with_reducible repeat (first | apply Kd.R_alloc | apply Kd.R_drewN | apply Kd.R_drew)); exact HO_5.out) hb); have n1_ := Aside0.mk (blk_below (g := gb196) (o := .cells #[.int .i64 ((rd_T49 l1 x17_1).f0), .int .i64 ((rd_T49 l1 x17_1).f1)] 49 (0, 0)) (by (with_reducible repeat (first | refine blk_drewN ?_ _ | refine blk_drew ?_ | refine blk_alloc ?_ _)); exact BK196.out) hb); have n2_ := Aside0.mk (blk_below (g := gb197) (o := .cells #[.int .i64 x198000_2, .int .i64 x198001_2, .int .i64 x198002_2] 47 (0, 0)) (by (with_reducible repeat (first | refine blk_drewN ?_ _ | refine blk_drew ?_ | refine blk_alloc ?_ _)); exact BK197.out) hb); have n3_ := Aside0.mk (below_step (by repeat (first | (with_reducible first | exact HB.out | apply below_alloc | apply pw_below_drewN | apply below_drew1 | refine below_set ?_ GE196.out | refine below_set ?_ GE197.out) | exact HB.out)) hb); have n4_ := Aside0.mk (hbox); have n5_ := Aside0.mk ((by rw [hg]; exact (below_size (by repeat (first | (with_reducible first | exact HB.out | apply below_alloc | apply pw_below_drewN | apply below_drew1 | refine below_set ?_ GE196.out | refine below_set ?_ GE197.out) | exact HB.out))) : w.heap.size ≤ gb202)); have n6_ := Aside0.mk ((by rw [hg]; exact (below_size (by repeat (first | (with_reducible first | exact HB.out | apply below_alloc | apply pw_below_drewN | apply below_drew1 | refine below_set ?_ GE196.out | refine below_set ?_ GE197.out) | exact HB.out))) : w.heap.size ≤ gb202)); have n7_ := Aside0.mk ((by rw [hg]; exact Nat.ne_of_lt (blk_lt (g := gb196) (o := .cells #[.int .i64 ((rd_T49 l1 x17_1).f0), .int .i64 ((rd_T49 l1 x17_1).f1)] 49 (0, 0)) (by (with_reducible repeat (first | refine blk_drewN ?_ _ | refine blk_drew ?_ | refine blk_alloc ?_ _)); exact BK196.out)) : gb196 ≠ gb202)); have n8_ := Aside0.mk ((by rw [hg]; exact Nat.ne_of_gt (blk_lt (g := gb196) (o := .cells #[.int .i64 ((rd_T49 l1 x17_1).f0), .int .i64 ((rd_T49 l1 x17_1).f1)] 49 (0, 0)) (by (with_reducible repeat (first | refine blk_drewN ?_ _ | refine blk_drew ?_ | refine blk_alloc ?_ _)); exact BK196.out)) : gb202 ≠ gb196)); have n9_ := Aside0.mk ((by rw [hg]; exact Nat.ne_of_lt (blk_lt (g := gb197) (o := .cells #[.int .i64 x198000_2, .int .i64 x198001_2, .int .i64 x198002_2] 47 (0, 0)) (by (with_reducible repeat (first | refine blk_drewN ?_ _ | refine blk_drew ?_ | refine blk_alloc ?_ _)); exact BK197.out)) : gb197 ≠ gb202)); have n10_ := Aside0.mk ((by rw [hg]; exact Nat.ne_of_gt (blk_lt (g := gb197) (o := .cells #[.int .i64 x198000_2, .int .i64 x198001_2, .int .i64 x198002_2] 47 (0, 0)) (by (with_reducible repeat (first | refine blk_drewN ?_ _ | refine blk_drew ?_ | refine blk_alloc ?_ _)); exact BK197.out)) : gb202 ≠ gb197)); clear HO_5; clear BK196; clear BK197; clear HB; have HO_5 := n0_; have BK196 := n1_; have BK197 := n2_; have HB := n3_; have BK202 := n4_; have GW202 := n5_; have GE202 := n6_; have NB196_202 := n7_; have NB202_196 := n8_; have NB197_202 := n9_; have NB202_197 := n10_; clear n0_ n1_ n2_ n3_ n4_ n5_ n6_ n7_ n8_ n9_ n10_; clear hb hbox hg; have hnb19 := NB202_196.out; have hnc19 := NB196_202.out; have hnb20 := NB202_197.out; have hnc20 := NB197_202.out; have hcz21_0 : w18.cell? ⟨gb202, 0, none⟩ = some (.int .i64 0) := (blk_cell BK202.out 0).trans rfl; have hcz21_1 : w18.cell? ⟨gb202, 1, none⟩ = some (.int .i64 0) := (blk_cell BK202.out 1).trans rfl; have hcz21_2 : w18.cell? ⟨gb202, 2, none⟩ = some (.int .i64 0) := (blk_cell BK202.out 2).trans rfl; have hfz21_0 := blk_frozen BK202.out 0; have hfz21_1 := blk_frozen BK202.out 1; have hfz21_2 := blk_frozen BK202.out 2))
            (try simp only [Act.put, List.setIfInBounds_toArray, List.set_cons_zero, List.set_cons_succ])
            go_cut [38] (fun v38 wc => ∃ (kq : Nat) (x38_16 : Bool), v38 = .bool x38_16 ∧ Aside0 (impl_Assign.j2 kq l0 l1 x5_1 l1 (l1.length : Int) x17_1 l0 (l0.length : Int) x24_2 x38_16 ((rd_T49 l1 x17_1).f0) ((rd_T49 l1 x17_1).f1) x198000_2 x198001_2 x198002_2 ((rd_T47 l0 x24_2).f0) ((rd_T47 l0 x24_2).f1) ((rd_T47 l0 x24_2).f2) = some r) ∧ Aside0 (kq ≤ k2) ∧ Aside0 (Kd.R (Kd.int .i64) 3 wc w.heap.size (fun _ => True) u5 x5_1) ∧ Aside0 (wc.heap[gb196]? = some (.cells #[.int .i64 ((rd_T49 l1 x17_1).f0), .int .i64 ((rd_T49 l1 x17_1).f1)] 49 (0, 0))) ∧ Aside0 (wc.heap[gb197]? = some (.cells #[.int .i64 x198000_2, .int .i64 x198001_2, .int .i64 x198002_2] 47 (0, 0))) ∧ Aside0 (wc.heap[gb202]? = some (.cells #[.int .i64 ((rd_T47 l0 x24_2).f0), .int .i64 ((rd_T47 l0 x24_2).f1), .int .i64 ((rd_T47 l0 x24_2).f2)] 47 (0, 0))) ∧ Aside0 (Below w.heap.size w wc))
            case first =>
             have H := HC17.out
             clear HC17
             replace H := Option.bind_eq_some_iff.mp H
             obtain ⟨t203, A220, H⟩ := H
             replace H : (if t203 = true then ((slices_Contains_int_int.f k2 x5_1 ((rd_T47 l0 x24_2).f0)).bind fun t204 => (impl_Assign.j2 k2 l0 l1 x5_1 l1 (l1.length : Int) x17_1 l0 (l0.length : Int) x24_2 t204 ((rd_T49 l1 x17_1).f0) ((rd_T49 l1 x17_1).f1) x198000_2 x198001_2 x198002_2 ((rd_T47 l0 x24_2).f0) ((rd_T47 l0 x24_2).f1) ((rd_T47 l0 x24_2).f2))) else (impl_Assign.j2 k2 l0 l1 x5_1 l1 (l1.length : Int) x17_1 l0 (l0.length : Int) x24_2 true ((rd_T49 l1 x17_1).f0) ((rd_T49 l1 x17_1).f1) x198000_2 x198001_2 x198002_2 ((rd_T47 l0 x24_2).f0) ((rd_T47 l0 x24_2).f1) ((rd_T47 l0 x24_2).f2))) = some r := H
             have A22 := Aside0.mk A220
             clear A220
             by_cases c23 : t203 = true
             ·subst c23
              have H1 : ((slices_Contains_int_int.f k2 x5_1 ((rd_T47 l0 x24_2).f0)).bind fun t204 => (impl_Assign.j2 k2 l0 l1 x5_1 l1 (l1.length : Int) x17_1 l0 (l0.length : Int) x24_2 t204 ((rd_T49 l1 x17_1).f0) ((rd_T49 l1 x17_1).f1) x198000_2 x198001_2 x198002_2 ((rd_T47 l0 x24_2).f0) ((rd_T47 l0 x24_2).f1) ((rd_T47 l0 x24_2).f2))) = some r := by rw [if_pos rfl] at H; first | done | exact H
              clear H
              have H := H1
              clear H1
              replace H := Option.bind_eq_some_iff.mp H
              obtain ⟨t204, A240, H⟩ := H
              replace H : (impl_Assign.j2 k2 l0 l1 x5_1 l1 (l1.length : Int) x17_1 l0 (l0.length : Int) x24_2 t204 ((rd_T49 l1 x17_1).f0) ((rd_T49 l1 x17_1).f1) x198000_2 x198001_2 x198002_2 ((rd_T47 l0 x24_2).f0) ((rd_T47 l0 x24_2).f1) ((rd_T47 l0 x24_2).f2)) = some r := H
              have A24 := Aside0.mk A240
              clear A240
              have H' := Aside0.mk H
              clear H
              have hnb25 := NB196_197.out
              have hnc25 := NB197_196.out
              have hnb26 := NB196_202.out
              have hnc26 := NB202_196.out
              have hcz27_0 : w18.cell? ⟨gb196, 0, none⟩ = some (.int .i64 ((rd_T49 l1 x17_1).f0)) := (blk_cell BK196.out 0).trans rfl
              have hcz27_1 : w18.cell? ⟨gb196, 1, none⟩ = some (.int .i64 ((rd_T49 l1 x17_1).f1)) := (blk_cell BK196.out 1).trans rfl
              have hfz27_0 := blk_frozen BK196.out 0
              have hfz27_1 := blk_frozen BK196.out 1
              have hnb28 := NB202_197.out
              have hnc28 := NB197_202.out
              have hcz29_0 : w18.cell? ⟨gb202, 0, none⟩ = some (.int .i64 0) := (blk_cell BK202.out 0).trans rfl
              have hcz29_1 : w18.cell? ⟨gb202, 1, none⟩ = some (.int .i64 0) := (blk_cell BK202.out 1).trans rfl
              have hcz29_2 : w18.cell? ⟨gb202, 2, none⟩ = some (.int .i64 0) := (blk_cell BK202.out 2).trans rfl
              have hfz29_0 := blk_frozen BK202.out 0
              have hfz29_1 := blk_frozen BK202.out 1
              have hfz29_2 := blk_frozen BK202.out 2
              go_wp2_with (first | ((with_reducible refine gate_callee (f := 65) rfl ?_); refine goesL_ (some 31) rfl rfl Try.func65 (by kernel_rfl) rfl #[.slice (some ad195) l1.length c1, .agg #[.int .i64 ((rd_T49 l1 x17_1).f0), .int .i64 ((rd_T49 l1 x17_1).f1)], .agg #[.int .i64 ((rd_T47 l0 x24_2).f0), .int .i64 ((rd_T47 l0 x24_2).f1), .int .i64 ((rd_T47 l0 x24_2).f2)]] rfl (by (try simp only [List.map_toArray, List.map_cons, List.map_nil]); first | done | rfl | (simp only [List.length_drop, List.length_take]; rfl)) ?_; (with_reducible refine (impl_fits.calls _ _ l1 ((rd_T49 l1 x17_1).f0) ((rd_T49 l1 x17_1).f1) ((rd_T47 l0 x24_2).f0) ((rd_T47 l0 x24_2).f1) ((rd_T47 l0 x24_2).f2) true _ ?side1 ?side2 A22.out).mono ?_); (case side1 => exact Kd.C_below HR1.out (by repeat (first | (with_reducible first | exact HB.out | apply below_alloc | apply pw_below_drewN | apply below_drew1 | refine below_set ?_ GE196.out | refine below_set ?_ GE197.out | refine below_set ?_ GE202.out) | exact HB.out))); (case side2 => exact HC1.out); rintro e w30 ⟨rfl, hb⟩; refine ⟨_, rfl, ?_⟩; have n0_ := Aside0.mk (Kd.R_below (by (with_reducible repeat (first | apply Kd.R_alloc | apply Kd.R_drewN | apply Kd.R_drew)); exact (Kd.R_mono (Kd.R_far (p := ⟨gb202, 2, none⟩) (Kd.R_far (p := ⟨gb202, 1, none⟩) (Kd.R_far (p := ⟨gb202, 0, none⟩) (Kd.R_types HO_5.out BK202.out (by decide)) (fun _ hk => hk.2) (.int .i64 ((rd_T47 l0 x24_2).f0))) (fun _ hk => hk.2) (.int .i64 ((rd_T47 l0 x24_2).f1))) (fun _ hk => hk.2) (.int .i64 ((rd_T47 l0 x24_2).f2))) (fun _ h_ => h_.1))) hb); have n1_ := Aside0.mk (blk_below (g := gb196) (o := .cells #[.int .i64 ((rd_T49 l1 x17_1).f0), .int .i64 ((rd_T49 l1 x17_1).f1)] 49 (0, 0)) (by (with_reducible repeat (first | refine blk_drewN ?_ _ | refine blk_drew ?_ | refine blk_alloc ?_ _)); refine blk_far ?_ NB196_202.out _; (with_reducible repeat (first | refine blk_drewN ?_ _ | refine blk_drew ?_ | refine blk_alloc ?_ _)); refine blk_far ?_ NB196_202.out _; (with_reducible repeat (first | refine blk_drewN ?_ _ | refine blk_drew ?_ | refine blk_alloc ?_ _)); refine blk_far ?_ NB196_202.out _; (with_reducible repeat (first | refine blk_drewN ?_ _ | refine blk_drew ?_ | refine blk_alloc ?_ _)); exact BK196.out) hb); have n2_ := Aside0.mk (blk_below (g := gb197) (o := .cells #[.int .i64 x198000_2, .int .i64 x198001_2, .int .i64 x198002_2] 47 (0, 0)) (by (with_reducible repeat (first | refine blk_drewN ?_ _ | refine blk_drew ?_ | refine blk_alloc ?_ _)); refine blk_far ?_ NB197_202.out _; (with_reducible repeat (first | refine blk_drewN ?_ _ | refine blk_drew ?_ | refine blk_alloc ?_ _)); refine blk_far ?_ NB197_202.out _; (with_reducible repeat (first | refine blk_drewN ?_ _ | refine blk_drew ?_ | refine blk_alloc ?_ _)); refine blk_far ?_ NB197_202.out _; (with_reducible repeat (first | refine blk_drewN ?_ _ | refine blk_drew ?_ | refine blk_alloc ?_ _)); exact BK197.out) hb); have n3_ := Aside0.mk (blk_below (g := gb202) (o := .cells #[.int .i64 ((rd_T47 l0 x24_2).f0), .int .i64 ((rd_T47 l0 x24_2).f1), .int .i64 ((rd_T47 l0 x24_2).f2)] 47 (0, 0)) (by (with_reducible repeat (first | refine blk_drewN ?_ _ | refine blk_drew ?_ | refine blk_alloc ?_ _)); refine blk_put (cs := #[.int .i64 ((rd_T47 l0 x24_2).f0), .int .i64 ((rd_T47 l0 x24_2).f1), .int .i64 0]) ?_ 2 _ rfl; (with_reducible repeat (first | refine blk_drewN ?_ _ | refine blk_drew ?_ | refine blk_alloc ?_ _)); refine blk_put (cs := #[.int .i64 ((rd_T47 l0 x24_2).f0), .int .i64 0, .int .i64 0]) ?_ 1 _ rfl; (with_reducible repeat (first | refine blk_drewN ?_ _ | refine blk_drew ?_ | refine blk_alloc ?_ _)); refine blk_put (cs := #[.int .i64 0, .int .i64 0, .int .i64 0]) ?_ 0 _ rfl; (with_reducible repeat (first | refine blk_drewN ?_ _ | refine blk_drew ?_ | refine blk_alloc ?_ _)); exact BK202.out) hb); have n4_ := Aside0.mk (below_step (by repeat (first | (with_reducible first | exact HB.out | apply below_alloc | apply pw_below_drewN | apply below_drew1 | refine below_set ?_ GE196.out | refine below_set ?_ GE197.out | refine below_set ?_ GE202.out) | exact HB.out)) hb); clear HO_5; clear BK196; clear BK197; clear BK202; clear HB; have HO_5 := n0_; have BK196 := n1_; have BK197 := n2_; have BK202 := n3_; have HB := n4_; clear n0_ n1_ n2_ n3_ n4_; (try clear hb); (try clear hb2); (try clear hk); (try clear hi); have hcz31_0 : w30.cell? ⟨gb202, 0, none⟩ = some (.int .i64 ((rd_T47 l0 x24_2).f0)) := (blk_cell BK202.out 0).trans rfl; have hcz31_1 : w30.cell? ⟨gb202, 1, none⟩ = some (.int .i64 ((rd_T47 l0 x24_2).f1)) := (blk_cell BK202.out 1).trans rfl; have hcz31_2 : w30.cell? ⟨gb202, 2, none⟩ = some (.int .i64 ((rd_T47 l0 x24_2).f2)) := (blk_cell BK202.out 2).trans rfl; have hfz31_0 := blk_frozen BK202.out 0; have hfz31_1 := blk_frozen BK202.out 1; have hfz31_2 := blk_frozen BK202.out 2; obtain ⟨Ao32, co32, eo32⟩ := Kd.R_slice HO_5.out; subst eo32) | (go_at_call 66; (with_reducible refine (slices_Contains_int_int.calls k2 _ _ x5_1 ((rd_T47 l0 x24_2).f0) t204 _ ?side1 ?side2 A24.out).mono ?_); (case side1 => repeat (first | exact (Kd.R_reads' HO_5.out).2.2 | (with_reducible refine Kd.C_alloc ?_ _) | (with_reducible refine Kd.C_drewN ?_ _) | (with_reducible refine Kd.C_drew ?_))); (case side2 => exact (Kd.R_reads' HO_5.out).2.1); rintro e w' ⟨rfl, ⟨nd, rfl⟩⟩))
              go_meet
              case rel => exact ⟨_, (t204), (by first | rfl | (simp; done) | (simp [*]; done)), H', ⟨by have := HK1.out; have := HK2.out; first | omega | exact Nat.le_refl _⟩, ⟨by (with_reducible repeat (first | apply Kd.R_alloc | apply Kd.R_drewN | apply Kd.R_drew)); exact HO_5.out⟩, ⟨by (with_reducible repeat (first | refine blk_drewN ?_ _ | refine blk_drew ?_ | refine blk_alloc ?_ _)); exact BK196.out⟩, ⟨by (with_reducible repeat (first | refine blk_drewN ?_ _ | refine blk_drew ?_ | refine blk_alloc ?_ _)); exact BK197.out⟩, ⟨by (with_reducible repeat (first | refine blk_drewN ?_ _ | refine blk_drew ?_ | refine blk_alloc ?_ _)); exact BK202.out⟩, ⟨by repeat (first | (with_reducible first | exact HB.out | apply below_alloc | apply pw_below_drewN | apply below_drew1 | refine below_set ?_ GE196.out | refine below_set ?_ GE197.out | refine below_set ?_ GE202.out) | exact HB.out)⟩⟩
             ·replace c23 := Bool.eq_false_iff.mpr c23
              subst c23
              have H1 : (impl_Assign.j2 k2 l0 l1 x5_1 l1 (l1.length : Int) x17_1 l0 (l0.length : Int) x24_2 true ((rd_T49 l1 x17_1).f0) ((rd_T49 l1 x17_1).f1) x198000_2 x198001_2 x198002_2 ((rd_T47 l0 x24_2).f0) ((rd_T47 l0 x24_2).f1) ((rd_T47 l0 x24_2).f2)) = some r := by rw [if_neg (show ¬ (false = true) by decide)] at H; first | done | exact H
              clear H
              have H := H1
              clear H1
              have H' := Aside0.mk H
              clear H
              have hnb33 := NB196_197.out
              have hnc33 := NB197_196.out
              have hnb34 := NB196_202.out
              have hnc34 := NB202_196.out
              have hcz35_0 : w18.cell? ⟨gb196, 0, none⟩ = some (.int .i64 ((rd_T49 l1 x17_1).f0)) := (blk_cell BK196.out 0).trans rfl
              have hcz35_1 : w18.cell? ⟨gb196, 1, none⟩ = some (.int .i64 ((rd_T49 l1 x17_1).f1)) := (blk_cell BK196.out 1).trans rfl
              have hfz35_0 := blk_frozen BK196.out 0
              have hfz35_1 := blk_frozen BK196.out 1
              have hnb36 := NB202_197.out
              have hnc36 := NB197_202.out
              have hcz37_0 : w18.cell? ⟨gb202, 0, none⟩ = some (.int .i64 0) := (blk_cell BK202.out 0).trans rfl
              have hcz37_1 : w18.cell? ⟨gb202, 1, none⟩ = some (.int .i64 0) := (blk_cell BK202.out 1).trans rfl
              have hcz37_2 : w18.cell? ⟨gb202, 2, none⟩ = some (.int .i64 0) := (blk_cell BK202.out 2).trans rfl
              have hfz37_0 := blk_frozen BK202.out 0
              have hfz37_1 := blk_frozen BK202.out 1
              have hfz37_2 := blk_frozen BK202.out 2
              go_wp2_with (first | ((with_reducible refine gate_callee (f := 65) rfl ?_); refine goesL_ (some 31) rfl rfl Try.func65 (by kernel_rfl) rfl #[.slice (some ad195) l1.length c1, .agg #[.int .i64 ((rd_T49 l1 x17_1).f0), .int .i64 ((rd_T49 l1 x17_1).f1)], .agg #[.int .i64 ((rd_T47 l0 x24_2).f0), .int .i64 ((rd_T47 l0 x24_2).f1), .int .i64 ((rd_T47 l0 x24_2).f2)]] rfl (by (try simp only [List.map_toArray, List.map_cons, List.map_nil]); first | done | rfl | (simp only [List.length_drop, List.length_take]; rfl)) ?_; (with_reducible refine (impl_fits.calls _ _ l1 ((rd_T49 l1 x17_1).f0) ((rd_T49 l1 x17_1).f1) ((rd_T47 l0 x24_2).f0) ((rd_T47 l0 x24_2).f1) ((rd_T47 l0 x24_2).f2) false _ ?side1 ?side2 A22.out).mono ?_); (case side1 => exact Kd.C_below HR1.out (by repeat (first | (with_reducible first | exact HB.out | apply below_alloc | apply pw_below_drewN | apply below_drew1 | refine below_set ?_ GE196.out | refine below_set ?_ GE197.out | refine below_set ?_ GE202.out) | exact HB.out))); (case side2 => exact HC1.out); rintro e w38 ⟨rfl, hb⟩; refine ⟨_, rfl, ?_⟩; have n0_ := Aside0.mk (Kd.R_below (by (with_reducible repeat (first | apply Kd.R_alloc | apply Kd.R_drewN | apply Kd.R_drew)); exact (Kd.R_mono (Kd.R_far (p := ⟨gb202, 2, none⟩) (Kd.R_far (p := ⟨gb202, 1, none⟩) (Kd.R_far (p := ⟨gb202, 0, none⟩) (Kd.R_types HO_5.out BK202.out (by decide)) (fun _ hk => hk.2) (.int .i64 ((rd_T47 l0 x24_2).f0))) (fun _ hk => hk.2) (.int .i64 ((rd_T47 l0 x24_2).f1))) (fun _ hk => hk.2) (.int .i64 ((rd_T47 l0 x24_2).f2))) (fun _ h_ => h_.1))) hb); have n1_ := Aside0.mk (blk_below (g := gb196) (o := .cells #[.int .i64 ((rd_T49 l1 x17_1).f0), .int .i64 ((rd_T49 l1 x17_1).f1)] 49 (0, 0)) (by (with_reducible repeat (first | refine blk_drewN ?_ _ | refine blk_drew ?_ | refine blk_alloc ?_ _)); refine blk_far ?_ NB196_202.out _; (with_reducible repeat (first | refine blk_drewN ?_ _ | refine blk_drew ?_ | refine blk_alloc ?_ _)); refine blk_far ?_ NB196_202.out _; (with_reducible repeat (first | refine blk_drewN ?_ _ | refine blk_drew ?_ | refine blk_alloc ?_ _)); refine blk_far ?_ NB196_202.out _; (with_reducible repeat (first | refine blk_drewN ?_ _ | refine blk_drew ?_ | refine blk_alloc ?_ _)); exact BK196.out) hb); have n2_ := Aside0.mk (blk_below (g := gb197) (o := .cells #[.int .i64 x198000_2, .int .i64 x198001_2, .int .i64 x198002_2] 47 (0, 0)) (by (with_reducible repeat (first | refine blk_drewN ?_ _ | refine blk_drew ?_ | refine blk_alloc ?_ _)); refine blk_far ?_ NB197_202.out _; (with_reducible repeat (first | refine blk_drewN ?_ _ | refine blk_drew ?_ | refine blk_alloc ?_ _)); refine blk_far ?_ NB197_202.out _; (with_reducible repeat (first | refine blk_drewN ?_ _ | refine blk_drew ?_ | refine blk_alloc ?_ _)); refine blk_far ?_ NB197_202.out _; (with_reducible repeat (first | refine blk_drewN ?_ _ | refine blk_drew ?_ | refine blk_alloc ?_ _)); exact BK197.out) hb); have n3_ := Aside0.mk (blk_below (g := gb202) (o := .cells #[.int .i64 ((rd_T47 l0 x24_2).f0), .int .i64 ((rd_T47 l0 x24_2).f1), .int .i64 ((rd_T47 l0 x24_2).f2)] 47 (0, 0)) (by (with_reducible repeat (first | refine blk_drewN ?_ _ | refine blk_drew ?_ | refine blk_alloc ?_ _)); refine blk_put (cs := #[.int .i64 ((rd_T47 l0 x24_2).f0), .int .i64 ((rd_T47 l0 x24_2).f1), .int .i64 0]) ?_ 2 _ rfl; (with_reducible repeat (first | refine blk_drewN ?_ _ | refine blk_drew ?_ | refine blk_alloc ?_ _)); refine blk_put (cs := #[.int .i64 ((rd_T47 l0 x24_2).f0), .int .i64 0, .int .i64 0]) ?_ 1 _ rfl; (with_reducible repeat (first | refine blk_drewN ?_ _ | refine blk_drew ?_ | refine blk_alloc ?_ _)); refine blk_put (cs := #[.int .i64 0, .int .i64 0, .int .i64 0]) ?_ 0 _ rfl; (with_reducible repeat (first | refine blk_drewN ?_ _ | refine blk_drew ?_ | refine blk_alloc ?_ _)); exact BK202.out) hb); have n4_ := Aside0.mk (below_step (by repeat (first | (with_reducible first | exact HB.out | apply below_alloc | apply pw_below_drewN | apply below_drew1 | refine below_set ?_ GE196.out | refine below_set ?_ GE197.out | refine below_set ?_ GE202.out) | exact HB.out)) hb); clear HO_5; clear BK196; clear BK197; clear BK202; clear HB; have HO_5 := n0_; have BK196 := n1_; have BK197 := n2_; have BK202 := n3_; have HB := n4_; clear n0_ n1_ n2_ n3_ n4_; (try clear hb); (try clear hb2); (try clear hk); (try clear hi)))
              go_meet
              case rel => exact ⟨_, (true), (by first | rfl | (simp; done) | (simp [*]; done)), H', ⟨by have := HK1.out; have := HK2.out; first | omega | exact Nat.le_refl _⟩, ⟨by (with_reducible repeat (first | apply Kd.R_alloc | apply Kd.R_drewN | apply Kd.R_drew)); exact HO_5.out⟩, ⟨by (with_reducible repeat (first | refine blk_drewN ?_ _ | refine blk_drew ?_ | refine blk_alloc ?_ _)); exact BK196.out⟩, ⟨by (with_reducible repeat (first | refine blk_drewN ?_ _ | refine blk_drew ?_ | refine blk_alloc ?_ _)); exact BK197.out⟩, ⟨by (with_reducible repeat (first | refine blk_drewN ?_ _ | refine blk_drew ?_ | refine blk_alloc ?_ _)); exact BK202.out⟩, ⟨by repeat (first | (with_reducible first | exact HB.out | apply below_alloc | apply pw_below_drewN | apply below_drew1 | refine below_set ?_ GE196.out | refine below_set ?_ GE197.out | refine below_set ?_ GE202.out) | exact HB.out)⟩⟩
            case rest =>
             clear HC17
             try clear c1
             try clear p1
             try clear q1
             try clear hx1
             try clear c2
             try clear p2
             try clear q2
             try clear hx2
             try clear c3
             try clear c4
             try clear c6
             try clear c6b0
             try clear c7
             try clear c7b0
             try clear c8
             try clear c8b0
             try clear c12
             try clear c14
             try clear c14b0
             try clear c15
             try clear c15b0
             try clear c16
             try clear c16b0
             try clear c19
             try clear p19
             try clear q19
             try clear hx19
             try clear c20
             try clear p20
             try clear q20
             try clear hx20
             try clear c23
             try clear c24
             try clear c25
             try clear c26
             try clear c28
             try clear c33
             try clear c34
             try clear c36
             try clear hcz10_0
             try clear hcz10_1
             try clear hcz13_0
             try clear hcz13_1
             try clear hcz13_2
             try clear hcz21_0
             try clear hcz21_1
             try clear hcz21_2
             try clear hcz27_0
             try clear hcz27_1
             try clear hcz29_0
             try clear hcz29_1
             try clear hcz29_2
             try clear hcz31_0
             try clear hcz31_1
             try clear hcz31_2
             try clear hcz35_0
             try clear hcz35_1
             try clear hcz37_0
             try clear hcz37_1
             try clear hcz37_2
             try clear hfz10_0
             try clear hfz10_1
             try clear hfz13_0
             try clear hfz13_1
             try clear hfz13_2
             try clear hfz21_0
             try clear hfz21_1
             try clear hfz21_2
             try clear hfz27_0
             try clear hfz27_1
             try clear hfz29_0
             try clear hfz29_1
             try clear hfz29_2
             try clear hfz31_0
             try clear hfz31_1
             try clear hfz31_2
             try clear hfz35_0
             try clear hfz35_1
             try clear hfz37_0
             try clear hfz37_1
             try clear hfz37_2
             try clear hx195_0
             try clear hx195_1
             try clear hx201_0
             try clear hx201_1
             try clear hx201_2
             try clear p1
             try clear p195
             try clear p2
             try clear p201
             try clear q1
             try clear q195
             try clear q201
             obtain ⟨kq, x38_16, rfl, HA, HJ16, HO_5, BK196, BK197, BK202, HB⟩ := hcut
             cases kq with
             | zero => exact absurd HA.out (by simp [impl_Assign.j2])
             | succ kj16 =>
              have H := HA.out
              clear HA
              simp only [impl_Assign.j2] at H
              by_cases c39 : x38_16 = true
              ·subst c39
               have H1 : (impl_Assign.l1 kj16 l0 l1 x5_1 l1 (l1.length : Int) x17_1 l0 (l0.length : Int) (wrap64 (x24_2 + 1)) ((rd_T49 l1 x17_1).f0) ((rd_T49 l1 x17_1).f1) x198000_2 x198001_2 x198002_2) = some r := by rw [if_pos rfl] at H; first | done | exact H
               clear H
               have H := H1
               clear H1
               have H' := Aside0.mk H
               clear H
               go_wp2
               go_roundg kj16
               case measure => have := HK1.out; have := HK2.out; have := HJ16.out; omega
               case rel => exact ⟨(wrap64 (x24_2 + 1)), (x198000_2), (x198001_2), (x198002_2), (by first | rfl | (simp; done) | (simp [*]; done)), H', ⟨by have := HK1.out; have := HK2.out; have := HJ16.out; omega⟩, ⟨by (with_reducible repeat (first | apply Kd.R_alloc | apply Kd.R_drewN | apply Kd.R_drew)); exact HO_5.out⟩, ⟨by (with_reducible repeat (first | refine blk_drewN ?_ _ | refine blk_drew ?_ | refine blk_alloc ?_ _)); exact BK196.out⟩, ⟨by (with_reducible repeat (first | refine blk_drewN ?_ _ | refine blk_drew ?_ | refine blk_alloc ?_ _)); exact BK197.out⟩, ⟨by repeat (first | (with_reducible first | exact HB.out | apply below_alloc | apply pw_below_drewN | apply below_drew1 | refine below_set ?_ GE196.out | refine below_set ?_ GE197.out | refine below_set ?_ GE202.out) | exact HB.out)⟩⟩
              ·replace c39 := Bool.eq_false_iff.mpr c39
               subst c39
               have H1 : (if x198000_2 = 0 then (impl_Assign.l1 kj16 l0 l1 x5_1 l1 (l1.length : Int) x17_1 l0 (l0.length : Int) (wrap64 (x24_2 + 1)) ((rd_T49 l1 x17_1).f0) ((rd_T49 l1 x17_1).f1) ((rd_T47 l0 x24_2).f0) ((rd_T47 l0 x24_2).f1) ((rd_T47 l0 x24_2).f2)) else (if ((rd_T47 l0 x24_2).f2) < x198002_2 then (impl_Assign.l1 kj16 l0 l1 x5_1 l1 (l1.length : Int) x17_1 l0 (l0.length : Int) (wrap64 (x24_2 + 1)) ((rd_T49 l1 x17_1).f0) ((rd_T49 l1 x17_1).f1) ((rd_T47 l0 x24_2).f0) ((rd_T47 l0 x24_2).f1) ((rd_T47 l0 x24_2).f2)) else (if ((rd_T47 l0 x24_2).f2) = x198002_2 then (if ((rd_T47 l0 x24_2).f0) < x198000_2 then (impl_Assign.l1 kj16 l0 l1 x5_1 l1 (l1.length : Int) x17_1 l0 (l0.length : Int) (wrap64 (x24_2 + 1)) ((rd_T49 l1 x17_1).f0) ((rd_T49 l1 x17_1).f1) ((rd_T47 l0 x24_2).f0) ((rd_T47 l0 x24_2).f1) ((rd_T47 l0 x24_2).f2)) else (impl_Assign.l1 kj16 l0 l1 x5_1 l1 (l1.length : Int) x17_1 l0 (l0.length : Int) (wrap64 (x24_2 + 1)) ((rd_T49 l1 x17_1).f0) ((rd_T49 l1 x17_1).f1) x198000_2 x198001_2 x198002_2)) else (impl_Assign.l1 kj16 l0 l1 x5_1 l1 (l1.length : Int) x17_1 l0 (l0.length : Int) (wrap64 (x24_2 + 1)) ((rd_T49 l1 x17_1).f0) ((rd_T49 l1 x17_1).f1) x198000_2 x198001_2 x198002_2)))) = some r := by rw [if_neg (show ¬ (false = true) by decide)] at H; first | done | exact H
               clear H
               have H := H1
               clear H1
               by_cases c40 : x198000_2 = 0
               ·rw [if_pos c40] at H
                have c40b0 : (x198000_2 == 0) = true := beq_iff_eq.mpr c40
                have c40b1 : (x198000_2 != 0) = false := bne_eq_false_iff_eq.mpr c40
                clear c40
                have H' := Aside0.mk H
                clear H
                have hnb41 := NB197_196.out
                have hnc41 := NB196_197.out
                have hnb42 := NB197_202.out
                have hnc42 := NB202_197.out
                have hcz43_0 : wc.cell? ⟨gb197, 0, none⟩ = some (.int .i64 x198000_2) := (blk_cell BK197.out 0).trans rfl
                have hcz43_1 : wc.cell? ⟨gb197, 1, none⟩ = some (.int .i64 x198001_2) := (blk_cell BK197.out 1).trans rfl
                have hcz43_2 : wc.cell? ⟨gb197, 2, none⟩ = some (.int .i64 x198002_2) := (blk_cell BK197.out 2).trans rfl
                have hfz43_0 := blk_frozen BK197.out 0
                have hfz43_1 := blk_frozen BK197.out 1
                have hfz43_2 := blk_frozen BK197.out 2
                have hnb44 := NB202_196.out
                have hnc44 := NB196_202.out
                have hcz45_0 : wc.cell? ⟨gb202, 0, none⟩ = some (.int .i64 ((rd_T47 l0 x24_2).f0)) := (blk_cell BK202.out 0).trans rfl
                have hcz45_1 : wc.cell? ⟨gb202, 1, none⟩ = some (.int .i64 ((rd_T47 l0 x24_2).f1)) := (blk_cell BK202.out 1).trans rfl
                have hcz45_2 : wc.cell? ⟨gb202, 2, none⟩ = some (.int .i64 ((rd_T47 l0 x24_2).f2)) := (blk_cell BK202.out 2).trans rfl
                have hfz45_0 := blk_frozen BK202.out 0
                have hfz45_1 := blk_frozen BK202.out 1
                have hfz45_2 := blk_frozen BK202.out 2
                go_wp2
                go_roundg kj16
                case measure => have := HK1.out; have := HK2.out; have := HJ16.out; omega
                case rel => exact ⟨(wrap64 (x24_2 + 1)), (((rd_T47 l0 x24_2).f0)), (((rd_T47 l0 x24_2).f1)), (((rd_T47 l0 x24_2).f2)), (by first | rfl | (simp; done) | (simp [*]; done)), H', ⟨by have := HK1.out; have := HK2.out; have := HJ16.out; omega⟩, ⟨by (with_reducible repeat (first | apply Kd.R_alloc | apply Kd.R_drewN | apply Kd.R_drew)); exact Kd.R_mono (Kd.R_far (p := ⟨gb197, 2, none⟩) (Kd.R_far (p := ⟨gb197, 1, none⟩) (Kd.R_far (p := ⟨gb197, 0, none⟩) (Kd.R_types HO_5.out BK197.out (by decide)) (fun _ hk => hk.2) (.int .i64 ((rd_T47 l0 x24_2).f0))) (fun _ hk => hk.2) (.int .i64 ((rd_T47 l0 x24_2).f1))) (fun _ hk => hk.2) (.int .i64 ((rd_T47 l0 x24_2).f2))) (fun _ hk => trivial)⟩, ⟨by (with_reducible repeat (first | refine blk_drewN ?_ _ | refine blk_drew ?_ | refine blk_alloc ?_ _)); refine blk_far ?_ NB196_197.out _; (with_reducible repeat (first | refine blk_drewN ?_ _ | refine blk_drew ?_ | refine blk_alloc ?_ _)); refine blk_far ?_ NB196_197.out _; (with_reducible repeat (first | refine blk_drewN ?_ _ | refine blk_drew ?_ | refine blk_alloc ?_ _)); refine blk_far ?_ NB196_197.out _; (with_reducible repeat (first | refine blk_drewN ?_ _ | refine blk_drew ?_ | refine blk_alloc ?_ _)); exact BK196.out⟩, ⟨by (with_reducible repeat (first | refine blk_drewN ?_ _ | refine blk_drew ?_ | refine blk_alloc ?_ _)); refine blk_put (cs := #[.int .i64 ((rd_T47 l0 x24_2).f0), .int .i64 ((rd_T47 l0 x24_2).f1), .int .i64 x198002_2]) ?_ 2 _ rfl; (with_reducible repeat (first | refine blk_drewN ?_ _ | refine blk_drew ?_ | refine blk_alloc ?_ _)); refine blk_put (cs := #[.int .i64 ((rd_T47 l0 x24_2).f0), .int .i64 x198001_2, .int .i64 x198002_2]) ?_ 1 _ rfl; (with_reducible repeat (first | refine blk_drewN ?_ _ | refine blk_drew ?_ | refine blk_alloc ?_ _)); refine blk_put (cs := #[.int .i64 x198000_2, .int .i64 x198001_2, .int .i64 x198002_2]) ?_ 0 _ rfl; (with_reducible repeat (first | refine blk_drewN ?_ _ | refine blk_drew ?_ | refine blk_alloc ?_ _)); exact BK197.out⟩, ⟨by repeat (first | (with_reducible first | exact HB.out | apply below_alloc | apply pw_below_drewN | apply below_drew1 | refine below_set ?_ GE196.out | refine below_set ?_ GE197.out | refine below_set ?_ GE202.out) | exact HB.out)⟩⟩
               ·rw [if_neg c40] at H
                have c40b0 : (x198000_2 == 0) = false := beq_eq_false_iff_ne.mpr c40
                have c40b1 : (x198000_2 != 0) = true := bne_iff_ne.mpr c40
                by_cases c46 : ((rd_T47 l0 x24_2).f2) < x198002_2
                ·rw [if_pos c46] at H
                 have c46b0 : decide (((rd_T47 l0 x24_2).f2) < x198002_2) = true := decide_eq_true c46
                 clear c46
                 have H' := Aside0.mk H
                 clear H
                 have hnb47 := NB197_196.out
                 have hnc47 := NB196_197.out
                 have hnb48 := NB197_202.out
                 have hnc48 := NB202_197.out
                 have hcz49_0 : wc.cell? ⟨gb197, 0, none⟩ = some (.int .i64 x198000_2) := (blk_cell BK197.out 0).trans rfl
                 have hcz49_1 : wc.cell? ⟨gb197, 1, none⟩ = some (.int .i64 x198001_2) := (blk_cell BK197.out 1).trans rfl
                 have hcz49_2 : wc.cell? ⟨gb197, 2, none⟩ = some (.int .i64 x198002_2) := (blk_cell BK197.out 2).trans rfl
                 have hfz49_0 := blk_frozen BK197.out 0
                 have hfz49_1 := blk_frozen BK197.out 1
                 have hfz49_2 := blk_frozen BK197.out 2
                 have hnb50 := NB202_196.out
                 have hnc50 := NB196_202.out
                 have hcz51_0 : wc.cell? ⟨gb202, 0, none⟩ = some (.int .i64 ((rd_T47 l0 x24_2).f0)) := (blk_cell BK202.out 0).trans rfl
                 have hcz51_1 : wc.cell? ⟨gb202, 1, none⟩ = some (.int .i64 ((rd_T47 l0 x24_2).f1)) := (blk_cell BK202.out 1).trans rfl
                 have hcz51_2 : wc.cell? ⟨gb202, 2, none⟩ = some (.int .i64 ((rd_T47 l0 x24_2).f2)) := (blk_cell BK202.out 2).trans rfl
                 have hfz51_0 := blk_frozen BK202.out 0
                 have hfz51_1 := blk_frozen BK202.out 1
                 have hfz51_2 := blk_frozen BK202.out 2
                 go_wp2
                 go_roundg kj16
                 case measure => have := HK1.out; have := HK2.out; have := HJ16.out; omega
                 case rel => exact ⟨(wrap64 (x24_2 + 1)), (((rd_T47 l0 x24_2).f0)), (((rd_T47 l0 x24_2).f1)), (((rd_T47 l0 x24_2).f2)), (by first | rfl | (simp; done) | (simp [*]; done)), H', ⟨by have := HK1.out; have := HK2.out; have := HJ16.out; omega⟩, ⟨by (with_reducible repeat (first | apply Kd.R_alloc | apply Kd.R_drewN | apply Kd.R_drew)); exact Kd.R_mono (Kd.R_far (p := ⟨gb197, 2, none⟩) (Kd.R_far (p := ⟨gb197, 1, none⟩) (Kd.R_far (p := ⟨gb197, 0, none⟩) (Kd.R_types HO_5.out BK197.out (by decide)) (fun _ hk => hk.2) (.int .i64 ((rd_T47 l0 x24_2).f0))) (fun _ hk => hk.2) (.int .i64 ((rd_T47 l0 x24_2).f1))) (fun _ hk => hk.2) (.int .i64 ((rd_T47 l0 x24_2).f2))) (fun _ hk => trivial)⟩, ⟨by (with_reducible repeat (first | refine blk_drewN ?_ _ | refine blk_drew ?_ | refine blk_alloc ?_ _)); refine blk_far ?_ NB196_197.out _; (with_reducible repeat (first | refine blk_drewN ?_ _ | refine blk_drew ?_ | refine blk_alloc ?_ _)); refine blk_far ?_ NB196_197.out _; (with_reducible repeat (first | refine blk_drewN ?_ _ | refine blk_drew ?_ | refine blk_alloc ?_ _)); refine blk_far ?_ NB196_197.out _; (with_reducible repeat (first | refine blk_drewN ?_ _ | refine blk_drew ?_ | refine blk_alloc ?_ _)); exact BK196.out⟩, ⟨by (with_reducible repeat (first | refine blk_drewN ?_ _ | refine blk_drew ?_ | refine blk_alloc ?_ _)); refine blk_put (cs := #[.int .i64 ((rd_T47 l0 x24_2).f0), .int .i64 ((rd_T47 l0 x24_2).f1), .int .i64 x198002_2]) ?_ 2 _ rfl; (with_reducible repeat (first | refine blk_drewN ?_ _ | refine blk_drew ?_ | refine blk_alloc ?_ _)); refine blk_put (cs := #[.int .i64 ((rd_T47 l0 x24_2).f0), .int .i64 x198001_2, .int .i64 x198002_2]) ?_ 1 _ rfl; (with_reducible repeat (first | refine blk_drewN ?_ _ | refine blk_drew ?_ | refine blk_alloc ?_ _)); refine blk_put (cs := #[.int .i64 x198000_2, .int .i64 x198001_2, .int .i64 x198002_2]) ?_ 0 _ rfl; (with_reducible repeat (first | refine blk_drewN ?_ _ | refine blk_drew ?_ | refine blk_alloc ?_ _)); exact BK197.out⟩, ⟨by repeat (first | (with_reducible first | exact HB.out | apply below_alloc | apply pw_below_drewN | apply below_drew1 | refine below_set ?_ GE196.out | refine below_set ?_ GE197.out | refine below_set ?_ GE202.out) | exact HB.out)⟩⟩
                ·rw [if_neg c46] at H
                 have c46b0 : decide (((rd_T47 l0 x24_2).f2) < x198002_2) = false := decide_eq_false c46
                 clear c46
                 by_cases c52 : ((rd_T47 l0 x24_2).f2) = x198002_2
                 ·rw [if_pos c52] at H
                  have c52b0 : (((rd_T47 l0 x24_2).f2) == x198002_2) = true := beq_iff_eq.mpr c52
                  have c52b1 : (((rd_T47 l0 x24_2).f2) != x198002_2) = false := bne_eq_false_iff_eq.mpr c52
                  clear c52
                  by_cases c53 : ((rd_T47 l0 x24_2).f0) < x198000_2
                  ·rw [if_pos c53] at H
                   have c53b0 : decide (((rd_T47 l0 x24_2).f0) < x198000_2) = true := decide_eq_true c53
                   clear c53
                   have H' := Aside0.mk H
                   clear H
                   have hnb54 := NB197_196.out
                   have hnc54 := NB196_197.out
                   have hnb55 := NB197_202.out
                   have hnc55 := NB202_197.out
                   have hcz56_0 : wc.cell? ⟨gb197, 0, none⟩ = some (.int .i64 x198000_2) := (blk_cell BK197.out 0).trans rfl
                   have hcz56_1 : wc.cell? ⟨gb197, 1, none⟩ = some (.int .i64 x198001_2) := (blk_cell BK197.out 1).trans rfl
                   have hcz56_2 : wc.cell? ⟨gb197, 2, none⟩ = some (.int .i64 x198002_2) := (blk_cell BK197.out 2).trans rfl
                   have hfz56_0 := blk_frozen BK197.out 0
                   have hfz56_1 := blk_frozen BK197.out 1
                   have hfz56_2 := blk_frozen BK197.out 2
                   have hnb57 := NB202_196.out
                   have hnc57 := NB196_202.out
                   have hcz58_0 : wc.cell? ⟨gb202, 0, none⟩ = some (.int .i64 ((rd_T47 l0 x24_2).f0)) := (blk_cell BK202.out 0).trans rfl
                   have hcz58_1 : wc.cell? ⟨gb202, 1, none⟩ = some (.int .i64 ((rd_T47 l0 x24_2).f1)) := (blk_cell BK202.out 1).trans rfl
                   have hcz58_2 : wc.cell? ⟨gb202, 2, none⟩ = some (.int .i64 ((rd_T47 l0 x24_2).f2)) := (blk_cell BK202.out 2).trans rfl
                   have hfz58_0 := blk_frozen BK202.out 0
                   have hfz58_1 := blk_frozen BK202.out 1
                   have hfz58_2 := blk_frozen BK202.out 2
                   go_wp2
                   go_roundg kj16
                   case measure => have := HK1.out; have := HK2.out; have := HJ16.out; omega
                   case rel => exact ⟨(wrap64 (x24_2 + 1)), (((rd_T47 l0 x24_2).f0)), (((rd_T47 l0 x24_2).f1)), (((rd_T47 l0 x24_2).f2)), (by first | rfl | (simp; done) | (simp [*]; done)), H', ⟨by have := HK1.out; have := HK2.out; have := HJ16.out; omega⟩, ⟨by (with_reducible repeat (first | apply Kd.R_alloc | apply Kd.R_drewN | apply Kd.R_drew)); exact Kd.R_mono (Kd.R_far (p := ⟨gb197, 2, none⟩) (Kd.R_far (p := ⟨gb197, 1, none⟩) (Kd.R_far (p := ⟨gb197, 0, none⟩) (Kd.R_types HO_5.out BK197.out (by decide)) (fun _ hk => hk.2) (.int .i64 ((rd_T47 l0 x24_2).f0))) (fun _ hk => hk.2) (.int .i64 ((rd_T47 l0 x24_2).f1))) (fun _ hk => hk.2) (.int .i64 ((rd_T47 l0 x24_2).f2))) (fun _ hk => trivial)⟩, ⟨by (with_reducible repeat (first | refine blk_drewN ?_ _ | refine blk_drew ?_ | refine blk_alloc ?_ _)); refine blk_far ?_ NB196_197.out _; (with_reducible repeat (first | refine blk_drewN ?_ _ | refine blk_drew ?_ | refine blk_alloc ?_ _)); refine blk_far ?_ NB196_197.out _; (with_reducible repeat (first | refine blk_drewN ?_ _ | refine blk_drew ?_ | refine blk_alloc ?_ _)); refine blk_far ?_ NB196_197.out _; (with_reducible repeat (first | refine blk_drewN ?_ _ | refine blk_drew ?_ | refine blk_alloc ?_ _)); exact BK196.out⟩, ⟨by (with_reducible repeat (first | refine blk_drewN ?_ _ | refine blk_drew ?_ | refine blk_alloc ?_ _)); refine blk_put (cs := #[.int .i64 ((rd_T47 l0 x24_2).f0), .int .i64 ((rd_T47 l0 x24_2).f1), .int .i64 x198002_2]) ?_ 2 _ rfl; (with_reducible repeat (first | refine blk_drewN ?_ _ | refine blk_drew ?_ | refine blk_alloc ?_ _)); refine blk_put (cs := #[.int .i64 ((rd_T47 l0 x24_2).f0), .int .i64 x198001_2, .int .i64 x198002_2]) ?_ 1 _ rfl; (with_reducible repeat (first | refine blk_drewN ?_ _ | refine blk_drew ?_ | refine blk_alloc ?_ _)); refine blk_put (cs := #[.int .i64 x198000_2, .int .i64 x198001_2, .int .i64 x198002_2]) ?_ 0 _ rfl; (with_reducible repeat (first | refine blk_drewN ?_ _ | refine blk_drew ?_ | refine blk_alloc ?_ _)); exact BK197.out⟩, ⟨by repeat (first | (with_reducible first | exact HB.out | apply below_alloc | apply pw_below_drewN | apply below_drew1 | refine below_set ?_ GE196.out | refine below_set ?_ GE197.out | refine below_set ?_ GE202.out) | exact HB.out)⟩⟩
                  ·rw [if_neg c53] at H
                   have c53b0 : decide (((rd_T47 l0 x24_2).f0) < x198000_2) = false := decide_eq_false c53
                   clear c53
                   have H' := Aside0.mk H
                   clear H
                   have hnb59 := NB197_196.out
                   have hnc59 := NB196_197.out
                   have hnb60 := NB197_202.out
                   have hnc60 := NB202_197.out
                   have hcz61_0 : wc.cell? ⟨gb197, 0, none⟩ = some (.int .i64 x198000_2) := (blk_cell BK197.out 0).trans rfl
                   have hcz61_1 : wc.cell? ⟨gb197, 1, none⟩ = some (.int .i64 x198001_2) := (blk_cell BK197.out 1).trans rfl
                   have hcz61_2 : wc.cell? ⟨gb197, 2, none⟩ = some (.int .i64 x198002_2) := (blk_cell BK197.out 2).trans rfl
                   have hfz61_0 := blk_frozen BK197.out 0
                   have hfz61_1 := blk_frozen BK197.out 1
                   have hfz61_2 := blk_frozen BK197.out 2
                   have hnb62 := NB202_196.out
                   have hnc62 := NB196_202.out
                   have hcz63_0 : wc.cell? ⟨gb202, 0, none⟩ = some (.int .i64 ((rd_T47 l0 x24_2).f0)) := (blk_cell BK202.out 0).trans rfl
                   have hcz63_1 : wc.cell? ⟨gb202, 1, none⟩ = some (.int .i64 ((rd_T47 l0 x24_2).f1)) := (blk_cell BK202.out 1).trans rfl
                   have hcz63_2 : wc.cell? ⟨gb202, 2, none⟩ = some (.int .i64 ((rd_T47 l0 x24_2).f2)) := (blk_cell BK202.out 2).trans rfl
                   have hfz63_0 := blk_frozen BK202.out 0
                   have hfz63_1 := blk_frozen BK202.out 1
                   have hfz63_2 := blk_frozen BK202.out 2
                   go_wp2
                   go_roundg kj16
                   case measure => have := HK1.out; have := HK2.out; have := HJ16.out; omega
                   case rel => exact ⟨(wrap64 (x24_2 + 1)), (x198000_2), (x198001_2), (x198002_2), (by first | rfl | (simp; done) | (simp [*]; done)), H', ⟨by have := HK1.out; have := HK2.out; have := HJ16.out; omega⟩, ⟨by (with_reducible repeat (first | apply Kd.R_alloc | apply Kd.R_drewN | apply Kd.R_drew)); exact HO_5.out⟩, ⟨by (with_reducible repeat (first | refine blk_drewN ?_ _ | refine blk_drew ?_ | refine blk_alloc ?_ _)); exact BK196.out⟩, ⟨by (with_reducible repeat (first | refine blk_drewN ?_ _ | refine blk_drew ?_ | refine blk_alloc ?_ _)); exact BK197.out⟩, ⟨by repeat (first | (with_reducible first | exact HB.out | apply below_alloc | apply pw_below_drewN | apply below_drew1 | refine below_set ?_ GE196.out | refine below_set ?_ GE197.out | refine below_set ?_ GE202.out) | exact HB.out)⟩⟩
                 ·rw [if_neg c52] at H
                  have c52b0 : (((rd_T47 l0 x24_2).f2) == x198002_2) = false := beq_eq_false_iff_ne.mpr c52
                  have c52b1 : (((rd_T47 l0 x24_2).f2) != x198002_2) = true := bne_iff_ne.mpr c52
                  have H' := Aside0.mk H
                  clear H
                  have hnb64 := NB197_196.out
                  have hnc64 := NB196_197.out
                  have hnb65 := NB197_202.out
                  have hnc65 := NB202_197.out
                  have hcz66_0 : wc.cell? ⟨gb197, 0, none⟩ = some (.int .i64 x198000_2) := (blk_cell BK197.out 0).trans rfl
                  have hcz66_1 : wc.cell? ⟨gb197, 1, none⟩ = some (.int .i64 x198001_2) := (blk_cell BK197.out 1).trans rfl
                  have hcz66_2 : wc.cell? ⟨gb197, 2, none⟩ = some (.int .i64 x198002_2) := (blk_cell BK197.out 2).trans rfl
                  have hfz66_0 := blk_frozen BK197.out 0
                  have hfz66_1 := blk_frozen BK197.out 1
                  have hfz66_2 := blk_frozen BK197.out 2
                  have hnb67 := NB202_196.out
                  have hnc67 := NB196_202.out
                  have hcz68_0 : wc.cell? ⟨gb202, 0, none⟩ = some (.int .i64 ((rd_T47 l0 x24_2).f0)) := (blk_cell BK202.out 0).trans rfl
                  have hcz68_1 : wc.cell? ⟨gb202, 1, none⟩ = some (.int .i64 ((rd_T47 l0 x24_2).f1)) := (blk_cell BK202.out 1).trans rfl
                  have hcz68_2 : wc.cell? ⟨gb202, 2, none⟩ = some (.int .i64 ((rd_T47 l0 x24_2).f2)) := (blk_cell BK202.out 2).trans rfl
                  have hfz68_0 := blk_frozen BK202.out 0
                  have hfz68_1 := blk_frozen BK202.out 1
                  have hfz68_2 := blk_frozen BK202.out 2
                  go_wp2
                  go_roundg kj16
                  case measure => have := HK1.out; have := HK2.out; have := HJ16.out; omega
                  case rel => exact ⟨(wrap64 (x24_2 + 1)), (x198000_2), (x198001_2), (x198002_2), (by first | rfl | (simp; done) | (simp [*]; done)), H', ⟨by have := HK1.out; have := HK2.out; have := HJ16.out; omega⟩, ⟨by (with_reducible repeat (first | apply Kd.R_alloc | apply Kd.R_drewN | apply Kd.R_drew)); exact HO_5.out⟩, ⟨by (with_reducible repeat (first | refine blk_drewN ?_ _ | refine blk_drew ?_ | refine blk_alloc ?_ _)); exact BK196.out⟩, ⟨by (with_reducible repeat (first | refine blk_drewN ?_ _ | refine blk_drew ?_ | refine blk_alloc ?_ _)); exact BK197.out⟩, ⟨by repeat (first | (with_reducible first | exact HB.out | apply below_alloc | apply pw_below_drewN | apply below_drew1 | refine below_set ?_ GE196.out | refine below_set ?_ GE197.out | refine below_set ?_ GE202.out) | exact HB.out)⟩⟩
           ·rw [if_neg c16] at H
            exact absurd H (by simp)
          ·rw [if_neg c15] at H
           exact absurd H (by simp)
         ·rw [if_neg c14] at H
          have c14b0 : decide (x24_2 < (l0.length : Int)) = false := decide_eq_false c14
          clear c14
          obtain ⟨ji69, hji69⟩ : ∃ j_ : Int, (mx ((rd_T49 l1 x17_1).f1) x198000_2) = j_ := ⟨_, rfl⟩
          replace H : (if x5_1.length < 17592186044416 then (impl_Assign.l0 k2 l0 l1 (x5_1 ++ [ji69]) l1 (l1.length : Int) (wrap64 (x17_1 + 1))) else (none)) = some r := by first | (rw [hji69] at H; exact H) | (simp only [hji69] at H ⊢; exact H)
          have hji69_ : (if ((rd_T49 l1 x17_1).f1) < x198000_2 then x198000_2 else ((rd_T49 l1 x17_1).f1)) = ji69 := hji69
          by_cases c70 : x5_1.length < 17592186044416
          ·rw [if_pos c70] at H
           have LMc70 := Aside0.mk c70
           clear c70
           obtain ⟨y198, hy198⟩ : ∃ y_ : List Int, y_ = (x5_1 ++ [ji69]) := ⟨_, rfl⟩
           replace H : (impl_Assign.l0 k2 l0 l1 y198 l1 (l1.length : Int) (wrap64 (x17_1 + 1))) = some r := by first | (rw [hy198]; with_reducible exact H) | (have H2_ := (Option.bind_some _ _).symm.trans H; rw [hy198]; with_reducible exact H2_) | (have H2_ := (Option.bind_some _ _).symm.trans H; with_reducible exact H2_) | with_reducible exact H | (rw [hy198]; exact H) | exact H
           have Ny198 := Aside0.mk hy198
           clear hy198
           have H' := Aside0.mk H
           clear H
           have hnb71 := NB196_197.out
           have hnc71 := NB197_196.out
           have hcz72_0 : wr.cell? ⟨gb196, 0, none⟩ = some (.int .i64 ((rd_T49 l1 x17_1).f0)) := (blk_cell BK196.out 0).trans rfl
           have hcz72_1 : wr.cell? ⟨gb196, 1, none⟩ = some (.int .i64 ((rd_T49 l1 x17_1).f1)) := (blk_cell BK196.out 1).trans rfl
           have hfz72_0 := blk_frozen BK196.out 0
           have hfz72_1 := blk_frozen BK196.out 1
           have hcz73_0 : wr.cell? ⟨gb197, 0, none⟩ = some (.int .i64 x198000_2) := (blk_cell BK197.out 0).trans rfl
           have hcz73_1 : wr.cell? ⟨gb197, 1, none⟩ = some (.int .i64 x198001_2) := (blk_cell BK197.out 1).trans rfl
           have hcz73_2 : wr.cell? ⟨gb197, 2, none⟩ = some (.int .i64 x198002_2) := (blk_cell BK197.out 2).trans rfl
           have hfz73_0 := blk_frozen BK197.out 0
           have hfz73_1 := blk_frozen BK197.out 1
           have hfz73_2 := blk_frozen BK197.out 2
           go_wp2_with (first | ((with_reducible refine gate_builtin (b := .append) (xs := #[.tmp 65, .tmp 71]) rfl ?_); at_builtin; refine Kd.R_append (Kd.int .i64) (w0 := w) w.heap.size rfl (.tmp 65) (.tmp 71) 36 3 (.int .i64 0) 8 rfl Try.underlying36 info3 rfl (by decide) (by omega) u5 x5_1 ji69 [.int .i64 ji69] (fun _ => True) (fun _ => False) rfl rfl ?aP (fun _ hk => hk.elim) ?aF ?aO ?aB ?aS ?aL ?_; (case aP => exact rfl); (case aB => exact (by repeat (first | (with_reducible first | exact HB.out | apply below_alloc | apply pw_below_drewN | apply below_drew1 | refine below_set ?_ GE196.out | refine below_set ?_ GE197.out) | exact HB.out))); (case aF => exact (fun _ _ => trivial)); (case aO => exact (by (with_reducible repeat (first | apply Kd.R_alloc | apply Kd.R_drewN | apply Kd.R_drew)); exact HO_5.out)); (case aS => exact (below_size (by repeat (first | (with_reducible first | exact HB.out | apply below_alloc | apply pw_below_drewN | apply below_drew1 | refine below_set ?_ GE196.out | refine below_set ?_ GE197.out) | exact HB.out)))); (case aL => have := LMc70.out; omega); intro v199 w74 ho hb hg hat; rw [← Ny198.out] at ho; have n0_ := Aside0.mk (blk_grown (g := gb196) (o := .cells #[.int .i64 ((rd_T49 l1 x17_1).f0), .int .i64 ((rd_T49 l1 x17_1).f1)] 49 (0, 0)) (by (with_reducible repeat (first | refine blk_drewN ?_ _ | refine blk_drew ?_ | refine blk_alloc ?_ _)); exact BK196.out) hg (Kd.R_ne HO_5.out BK196.out (by decide))); have n1_ := Aside0.mk (blk_grown (g := gb197) (o := .cells #[.int .i64 x198000_2, .int .i64 x198001_2, .int .i64 x198002_2] 47 (0, 0)) (by (with_reducible repeat (first | refine blk_drewN ?_ _ | refine blk_drew ?_ | refine blk_alloc ?_ _)); exact BK197.out) hg (Kd.R_ne HO_5.out BK197.out (by decide))); have n2_ := Aside0.mk (hb); have n3_ := Aside0.mk (ho); clear BK196; clear BK197; clear HB; clear HO_5; have BK196 := n0_; have BK197 := n1_; have HB := n2_; have HO200 := n3_; clear n0_ n1_ n2_ n3_; clear ho hb hg hat))
           go_roundg k2
           case measure => have := HK1.out; have := HK2.out; omega
           case rel => exact ⟨(y198), (wrap64 (x17_1 + 1)), (by first | rfl | (simp; done) | (simp [*]; done)), H', ⟨by have := HK1.out; have := HK2.out; omega⟩, ⟨by (with_reducible repeat (first | apply Kd.R_alloc | apply Kd.R_drewN | apply Kd.R_drew)); exact HO200.out⟩, ⟨by repeat (first | (with_reducible first | exact HB.out | apply below_alloc | apply pw_below_drewN | apply below_drew1 | refine below_set ?_ GE196.out | refine below_set ?_ GE197.out) | exact HB.out)⟩⟩
          ·rw [if_neg c70] at H
           exact absurd H (by simp)
      ·rw [if_neg c8] at H
       exact absurd H (by simp)
     ·rw [if_neg c7] at H
      exact absurd H (by simp)
    ·rw [if_neg c6] at H
     have c6b0 : decide (x17_1 < (l1.length : Int)) = false := decide_eq_false c6
     clear c6
     obtain rfl := Option.some.inj H
     go_wp2
     go_ret
     exact ⟨_, by first | rfl | (simp [errW_none, errW_some] <;> rfl) | (simp [*, errW_none, errW_some] <;> rfl), by (with_reducible repeat (first | apply Kd.R_alloc | apply Kd.R_drewN | apply Kd.R_drew)); exact HO_5.out, by repeat (first | (with_reducible first | exact HB.out | apply below_alloc | apply pw_below_drewN | apply below_drew1) | exact HB.out)⟩
 ·replace c4 := Bool.eq_false_iff.mpr c4
  subst c4
  have H1 : (some ([] : List Int)) = some r := by rw [if_neg (show ¬ (false = true) by decide)] at H; first | done | exact H
  clear H
  have H := H1
  clear H1
  obtain rfl := Option.some.inj H
  go_enter Try.func24, Try.ntmps24
  go_wp2_with (first | ((with_reducible refine gate_callee (f := 64) rfl ?_); refine goesL_ (some 13) rfl rfl Try.func64 (by kernel_rfl) rfl #[.slice A0 l0.length c0, .slice A1 l1.length c1] rfl (by (try simp only [List.map_toArray, List.map_cons, List.map_nil]); first | done | rfl | (simp only [List.length_drop, List.length_take]; rfl)) ?_; (with_reducible refine (impl_areSights.calls k _ _ l0 _ _ l1 false _ ?side1 ?side2 ?side3 ?side4 A3.out).mono ?_); (case side1 => repeat (first | exact HR0.out | (with_reducible refine Kd.C_alloc ?_ _) | (with_reducible refine Kd.C_drewN ?_ _) | (with_reducible refine Kd.C_drew ?_))); (case side2 => exact HC0.out); (case side3 => repeat (first | exact HR1.out | (with_reducible refine Kd.C_alloc ?_ _) | (with_reducible refine Kd.C_drewN ?_ _) | (with_reducible refine Kd.C_drew ?_))); (case side4 => exact HC1.out); rintro e w75 ⟨rfl, hb⟩; refine ⟨_, rfl, ?_⟩; have n0_ := Aside0.mk (below_step (by repeat (first | (with_reducible first | exact HB.out | apply below_alloc | apply pw_below_drewN | apply below_drew1) | exact HB.out)) hb); clear HB; have HB := n0_; clear n0_; (try clear hb); (try clear hb2); (try clear hk); (try clear hi)))
  go_ret
  exact ⟨_, by first | rfl | (simp [errW_none, errW_some] <;> rfl) | (simp [*, errW_none, errW_some] <;> rfl), by first | exact Kd.R_nil _ _ _ _ _ | exact Kd.N_nil _ _ _ _ _ | exact Kd.V_nil _ _ _ _ _ | exact Kd.Q_nil _ _ _ _ _ | exact Kd.S_nil _ _ _ _ _, by repeat (first | (with_reducible first | exact HB.out | apply below_alloc | apply pw_below_drewN | apply below_drew1) | exact HB.out)⟩

/-! ### laws_eqIntS: function 25 -/
def laws_eqIntS.l0 : Nat → List Int → List Int → Int → Option (Bool)
 | 0, _, _, _ => none
 | k + 1, x0, x1, x5 => if x5 < (x0.length : Int) then (if 0 ≤ x5 then (if x5 < (x1.length : Int) then (if (rd x0 x5) = (rd x1 x5) then (laws_eqIntS.l0 k x0 x1 (wrap64 (x5 + 1))) else (some false)) else (none)) else (none)) else (some true)
def laws_eqIntS.f (k : Nat) (l0 : List Int) (l1 : List Int) : Option (Bool) := if (l0.length : Int) = (l1.length : Int) then (laws_eqIntS.l0 k l0 l1 0) else (some false)
theorem laws_eqIntS.mono_l : ∀ k, (∀ y0 y1 y2, LeO (laws_eqIntS.l0 k y0 y1 y2) (laws_eqIntS.l0 (k + 1) y0 y1 y2))
 | 0 => fun _ _ _ r h => by simp [laws_eqIntS.l0] at h
 | k + 1 => by
  have ih0 := laws_eqIntS.mono_l k
  ·intro y0 y1 y2
   unfold laws_eqIntS.l0
   repeat' first
   | (with_reducible exact ih0 _ _ _)
   | (with_reducible exact LeO.refl _)
   | (with_reducible exact LeO.none _)
   | (with_reducible refine LeO.ite ?_ ?_)
   | (with_reducible refine LeO.bind ?_ (fun _ => ?_))
   | exact ih0 _ _ _
   | exact LeO.none _
   | refine LeO.ite ?_ ?_
   | refine LeO.bind ?_ (fun _ => ?_)
theorem laws_eqIntS.mono : ∀ a0 a1 k, LeO (laws_eqIntS.f k a0 a1) (laws_eqIntS.f (k + 1) a0 a1) := by
 intro a0 a1 k
 have ih0 := laws_eqIntS.mono_l k
 unfold laws_eqIntS.f
 repeat' first
   | (with_reducible exact ih0 _ _ _)
   | (with_reducible exact LeO.refl _)
   | (with_reducible exact LeO.none _)
   | (with_reducible refine LeO.ite ?_ ?_)
   | (with_reducible refine LeO.bind ?_ (fun _ => ?_))
   | exact ih0 _ _ _
   | exact LeO.none _
   | refine LeO.ite ?_ ?_
   | refine LeO.bind ?_ (fun _ => ?_)
set_option maxHeartbeats 8000000 in
set_option maxRecDepth 100000 in
theorem laws_eqIntS.calls (k : Nat) (A0 : Option Addr) (c0 : Nat) (l0 : List Int) (A1 : Option Addr) (c1 : Nat) (l1 : List Int) (r : Bool) (w : World) (hr0 : Kd.C (Kd.int .i64) w A0 l0.length l0) (hc0 : l0.length ≤ c0) (hr1 : Kd.C (Kd.int .i64) w A1 l1.length l1) (hc1 : l1.length ≤ c1) (h : laws_eqIntS.f k l0 l1 = some r) :
  Calls Try.prog 25 #[.slice A0 l0.length c0, .slice A1 l1.length c1] w fun e w' => e = .returned (.bool r) ∧ Drawn0 w w' := by
 have HR0 := Aside0.mk hr0
 have HC0 := Aside0.mk hc0
 clear hr0 hc0
 have HR1 := Aside0.mk hr1
 have HC1 := Aside0.mk hc1
 clear hr1 hc1
 have H : (if (l0.length : Int) = (l1.length : Int) then (laws_eqIntS.l0 k l0 l1 0) else (some false)) = some r := h
 clear h
 by_cases c3 : (l0.length : Int) = (l1.length : Int)
 ·rw [if_pos c3] at H
  have c3b0 : ((l0.length : Int) == (l1.length : Int)) = true := beq_iff_eq.mpr c3
  have c3b1 : ((l0.length : Int) != (l1.length : Int)) = false := bne_eq_false_iff_eq.mpr c3
  have c3b2 : (l0.length == l1.length) = true := by first | simpa using c3 | (simp at c3 ⊢; omega)
  clear c3
  have H' := Aside0.mk H
  clear H
  go_enter Try.func25, Try.ntmps25
  go_wp2
  repeat (go_quiet (fail); try go_wp2)
  go_loopg [5] k (fun kq v5 w' => ∃ (x5_1 : Int), v5 = .int .i64 x5_1 ∧ Aside0 (laws_eqIntS.l0 kq l0 l1 x5_1 = some r) ∧ Aside0 (kq ≤ k) ∧ Drawn0 w w')
  case atStart => exact ⟨(0), (by first | rfl | (simp; done) | (simp [*]; done)), H', ⟨Nat.le_refl _⟩, by repeat (first | exact Drawn0.refl _ | apply Drawn0.step)⟩
  case round =>
   clear H'
   try clear c1
   try clear c2
   try clear p2
   try clear c3
   try clear c3b0
   try clear c3b1
   try clear c3b2
   obtain ⟨x5_1, rfl, HA, HK1, ⟨m1, rfl⟩⟩ := hrel
   cases gk with
   | zero => exact absurd HA.out (by simp [laws_eqIntS.l0])
   | succ k1 =>
    have H := HA.out
    clear HA
    simp only [laws_eqIntS.l0] at H
    by_cases c4 : x5_1 < (l0.length : Int)
    ·rw [if_pos c4] at H
     have c4b0 : decide (x5_1 < (l0.length : Int)) = true := decide_eq_true c4
     clear c4
     by_cases c5 : 0 ≤ x5_1
     ·rw [if_pos c5] at H
      have c5b0 : decide (0 ≤ x5_1) = true := decide_eq_true c5
      clear c5
      by_cases c6 : x5_1 < (l1.length : Int)
      ·rw [if_pos c6] at H
       have c6b0 : decide (x5_1 < (l1.length : Int)) = true := decide_eq_true c6
       clear c6
       by_cases c7 : (rd l0 x5_1) = (rd l1 x5_1)
       ·rw [if_pos c7] at H
        have c7b0 : ((rd l0 x5_1) == (rd l1 x5_1)) = true := beq_iff_eq.mpr c7
        have c7b1 : ((rd l0 x5_1) != (rd l1 x5_1)) = false := bne_eq_false_iff_eq.mpr c7
        clear c7
        have H' := Aside0.mk H
        clear H
        have p205 : 0 ≤ (x5_1 : Int) := of_decide_eq_true (by first | (with_reducible assumption) | assumption)
        have q205 : x5_1 < (l0.length : Int) := of_decide_eq_true (by first | (with_reducible assumption) | assumption)
        obtain ⟨ad205, e205, hx205_0⟩ := Kd.at_int HR0.out x5_1 p205 q205
        cases e205
        replace p205 := eq_true p205
        replace q205 := eq_true q205
        have p206 : 0 ≤ (x5_1 : Int) := of_decide_eq_true (by first | (with_reducible assumption) | assumption)
        have q206 : x5_1 < (l1.length : Int) := of_decide_eq_true (by first | (with_reducible assumption) | assumption)
        obtain ⟨ad206, e206, hx206_0⟩ := Kd.at_int HR1.out x5_1 p206 q206
        cases e206
        replace p206 := eq_true p206
        replace q206 := eq_true q206
        go_wp2
        repeat (go_quiet (fail); try go_wp2)
        go_roundg k1
        case measure => have := HK1.out; omega
        case rel => exact ⟨(wrap64 (x5_1 + 1)), (by first | rfl | (simp; done) | (simp [*]; done)), H', ⟨by have := HK1.out; omega⟩, by repeat (first | exact Drawn0.refl _ | apply Drawn0.step)⟩
       ·rw [if_neg c7] at H
        have c7b0 : ((rd l0 x5_1) == (rd l1 x5_1)) = false := beq_eq_false_iff_ne.mpr c7
        have c7b1 : ((rd l0 x5_1) != (rd l1 x5_1)) = true := bne_iff_ne.mpr c7
        obtain rfl := Option.some.inj H
        have p205 : 0 ≤ (x5_1 : Int) := of_decide_eq_true (by first | (with_reducible assumption) | assumption)
        have q205 : x5_1 < (l0.length : Int) := of_decide_eq_true (by first | (with_reducible assumption) | assumption)
        obtain ⟨ad205, e205, hx205_0⟩ := Kd.at_int HR0.out x5_1 p205 q205
        cases e205
        replace p205 := eq_true p205
        replace q205 := eq_true q205
        have p206 : 0 ≤ (x5_1 : Int) := of_decide_eq_true (by first | (with_reducible assumption) | assumption)
        have q206 : x5_1 < (l1.length : Int) := of_decide_eq_true (by first | (with_reducible assumption) | assumption)
        obtain ⟨ad206, e206, hx206_0⟩ := Kd.at_int HR1.out x5_1 p206 q206
        cases e206
        replace p206 := eq_true p206
        replace q206 := eq_true q206
        go_wp2
        repeat (go_quiet (fail); try go_wp2)
        go_ret
        exact ⟨by first | rfl | (simp; done) | (simp [*]; done), by repeat (first | exact Drawn0.refl _ | apply Drawn0.step)⟩
      ·rw [if_neg c6] at H
       exact absurd H (by simp)
     ·rw [if_neg c5] at H
      exact absurd H (by simp)
    ·rw [if_neg c4] at H
     have c4b0 : decide (x5_1 < (l0.length : Int)) = false := decide_eq_false c4
     clear c4
     obtain rfl := Option.some.inj H
     go_wp2
     repeat (go_quiet (fail); try go_wp2)
     go_ret
     exact ⟨by first | rfl | (simp; done) | (simp [*]; done), by repeat (first | exact Drawn0.refl _ | apply Drawn0.step)⟩
 ·rw [if_neg c3] at H
  have c3b0 : ((l0.length : Int) == (l1.length : Int)) = false := beq_eq_false_iff_ne.mpr c3
  have c3b1 : ((l0.length : Int) != (l1.length : Int)) = true := bne_iff_ne.mpr c3
  have c3b2 : (l0.length == l1.length) = false := by first | simpa using c3 | (simp at c3 ⊢; omega)
  obtain rfl := Option.some.inj H
  go_enter Try.func25, Try.ntmps25
  go_wp2
  repeat (go_quiet (fail); try go_wp2)
  go_ret
  exact ⟨by first | rfl | (simp; done) | (simp [*]; done), by repeat (first | exact Drawn0.refl _ | apply Drawn0.step)⟩

end Go.Proofs.Ytnnimbbffbfhoaa.PFnExactAssign
