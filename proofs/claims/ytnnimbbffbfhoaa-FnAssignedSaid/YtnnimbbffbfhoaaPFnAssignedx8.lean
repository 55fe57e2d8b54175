-- Written by a program of this session (wip/myprint.py: the kit's print with changes): not by print.sh itself.
import Derived.Test.YtnnimbbffbfhoaaPFnAssignedx0
import Derived.Test.YtnnimbbffbfhoaaPFnAssignedx7
namespace Go.Proofs.Ytnnimbbffbfhoaa.PFnAssigned
open Go.RowKit Go.Proofs.YtnnimbbffbfhoaaW.PrintWords Go.Proofs.YtnnimbbffbfhoaaW.PrintLast Go.Proofs.YtnnimbbffbfhoaaW.PrintMore
open Go renaming Act.put → uc
open Go.Proofs.YtnnimbbffbfhoaaW.PrintWords renaming Aside0.mk → uD, blk_alloc → uG, blk_drewN → uH, blk_drew → uJ, below_size → uN, below_step → uO, blk_put → uP, Kd.R_drewN → uS, Kd.R_drew → uT, Kd.R_alloc → uU, Kd.R_far → uV, Kd.R_types → uW, Kd.R_mono → uX
open List renaming setIfInBounds_toArray → uA, set_cons_zero → uB, set_cons_succ → uC
attribute [local go_sem] max2_int min2_int max_two min_two max_three min_three max_four min_four   -- for this text's walks alone
set_option linter.unusedVariables false
set_option linter.unusedSimpArgs false

/-! ### impl_Assign: function 24 -/
mutual
def impl_Assign.l0 : Nat → List (S47) → List (S49) → List Int → List (S49) → Int → Int → Option (List Int)
 | 0, _, _, _, _, _, _ => none
 | k + 1, x0, x1, x5, x15, x16, x17 => if x17 < x16 then (if 0 ≤ x17 then (if x17 < (x15.length : Int) then (impl_Assign.l1 k x0 x1 x5 x15 x16 x17 x0 (x0.length : Int) 0 ((rd_T49 x15 x17).f0) ((rd_T49 x15 x17).f1) 0 0 0) else (none)) else (none)) else (some x5)
def impl_Assign.l1 : Nat → List (S47) → List (S49) → List Int → List (S49) → Int → Int → List (S47) → Int → Int → Int → Int → Int → Int → Int → Option (List Int)
 | 0, _, _, _, _, _, _, _, _, _, _, _, _, _, _ => none
 | k + 1, x0, x1, x5, x15, x16, x17, x22, x23, x24, x166000, x166001, x167000, x167001, x167002 => if x24 < x23 then (if 0 ≤ x24 then (if x24 < (x22.length : Int) then ((impl_fits.f x1 x166000 x166001 ((rd_T47 x22 x24).f0) ((rd_T47 x22 x24).f1) ((rd_T47 x22 x24).f2)).bind fun t172 => (if t172 = true then ((slices_Contains_int_int.f k x5 ((rd_T47 x22 x24).f0)).bind fun t173 => (impl_Assign.j2 k x0 x1 x5 x15 x16 x17 x22 x23 x24 t173 x166000 x166001 x167000 x167001 x167002 ((rd_T47 x22 x24).f0) ((rd_T47 x22 x24).f1) ((rd_T47 x22 x24).f2))) else (impl_Assign.j2 k x0 x1 x5 x15 x16 x17 x22 x23 x24 true x166000 x166001 x167000 x167001 x167002 ((rd_T47 x22 x24).f0) ((rd_T47 x22 x24).f1) ((rd_T47 x22 x24).f2)))) else (none)) else (none)) else (if x5.length < 17592186044416 then (impl_Assign.l0 k x0 x1 (x5 ++ [mx x166001 x167000]) x15 x16 (wrap64 (x17 + 1))) else (none))
def impl_Assign.j2 : Nat → List (S47) → List (S49) → List Int → List (S49) → Int → Int → List (S47) → Int → Int → Bool → Int → Int → Int → Int → Int → Int → Int → Int → Option (List Int)
 | 0, _, _, _, _, _, _, _, _, _, _, _, _, _, _, _, _, _, _ => none
 | k + 1, x0, x1, x5, x15, x16, x17, x22, x23, x24, x38, x166000, x166001, x167000, x167001, x167002, x172000, x172001, x172002 => if x38 = true then (impl_Assign.l1 k x0 x1 x5 x15 x16 x17 x22 x23 (wrap64 (x24 + 1)) x166000 x166001 x167000 x167001 x167002) else (if x167000 = 0 then (impl_Assign.l1 k x0 x1 x5 x15 x16 x17 x22 x23 (wrap64 (x24 + 1)) x166000 x166001 x172000 x172001 x172002) else (if x172002 < x167002 then (impl_Assign.l1 k x0 x1 x5 x15 x16 x17 x22 x23 (wrap64 (x24 + 1)) x166000 x166001 x172000 x172001 x172002) else (if x172002 = x167002 then (if x172000 < x167000 then (impl_Assign.l1 k x0 x1 x5 x15 x16 x17 x22 x23 (wrap64 (x24 + 1)) x166000 x166001 x172000 x172001 x172002) else (impl_Assign.l1 k x0 x1 x5 x15 x16 x17 x22 x23 (wrap64 (x24 + 1)) x166000 x166001 x167000 x167001 x167002)) else (impl_Assign.l1 k x0 x1 x5 x15 x16 x17 x22 x23 (wrap64 (x24 + 1)) x166000 x166001 x167000 x167001 x167002))))
end
def impl_Assign.f (k : Nat) (l0 : List (S47)) (l1 : List (S49)) : Option (List Int) := (impl_areSights.f k l0 l1).bind fun t163 => (if t163 = true then (impl_Assign.l0 k l0 l1 ([] : List Int) l1 (l1.length : Int) 0) else (some ([] : List Int)))
theorem impl_Assign.mono_l : ∀ k, (∀ y0 y1 y2 y3 y4 y5, LeO (impl_Assign.l0 k y0 y1 y2 y3 y4 y5) (impl_Assign.l0 (k + 1) y0 y1 y2 y3 y4 y5)) ∧ (∀ y0 y1 y2 y3 y4 y5 y6 y7 y8 y9 y10 y11 y12 y13, LeO (impl_Assign.l1 k y0 y1 y2 y3 y4 y5 y6 y7 y8 y9 y10 y11 y12 y13) (impl_Assign.l1 (k + 1) y0 y1 y2 y3 y4 y5 y6 y7 y8 y9 y10 y11 y12 y13)) ∧ (∀ y0 y1 y2 y3 y4 y5 y6 y7 y8 y9 y10 y11 y12 y13 y14 y15 y16 y17, LeO (impl_Assign.j2 k y0 y1 y2 y3 y4 y5 y6 y7 y8 y9 y10 y11 y12 y13 y14 y15 y16 y17) (impl_Assign.j2 (k + 1) y0 y1 y2 y3 y4 y5 y6 y7 y8 y9 y10 y11 y12 y13 y14 y15 y16 y17))
 | 0 => ⟨fun _ _ _ _ _ _ r h => by simp [impl_Assign.l0] at h, fun _ _ _ _ _ _ _ _ _ _ _ _ _ _ r h => by simp [impl_Assign.l1] at h, fun _ _ _ _ _ _ _ _ _ _ _ _ _ _ _ _ _ _ r h => by simp [impl_Assign.j2] at h⟩
 | k + 1 => by
  obtain ⟨ih0, ih1, ih2⟩ := impl_Assign.mono_l k
  refine ⟨?_, ?_, ?_⟩
  ·intro y0 y1 y2 y3 y4 y5
   unfold impl_Assign.l0
   repeat' first
   | (with_reducible exact ih0 _ _ _ _ _ _)
   | (with_reducible exact ih1 _ _ _ _ _ _ _ _ _ _ _ _ _ _)
   | (with_reducible exact ih2 _ _ _ _ _ _ _ _ _ _ _ _ _ _ _ _ _ _)
   | (with_reducible exact impl_areSights.mono _ _ _)
   | (with_reducible exact slices_Contains_int_int.mono _ _ _)
   | (with_reducible exact LeO.refl _)
   | (with_reducible exact LeO.none _)
   | (with_reducible refine LeO.ite ?_ ?_)
   | (with_reducible refine LeO.bind ?_ (fun _ => ?_))
   | exact ih0 _ _ _ _ _ _
   | exact ih1 _ _ _ _ _ _ _ _ _ _ _ _ _ _
   | exact ih2 _ _ _ _ _ _ _ _ _ _ _ _ _ _ _ _ _ _
   | exact impl_areSights.mono _ _ _
   | exact slices_Contains_int_int.mono _ _ _
   | exact LeO.none _
   | refine LeO.ite ?_ ?_
   | refine LeO.bind ?_ (fun _ => ?_)
  ·intro y0 y1 y2 y3 y4 y5 y6 y7 y8 y9 y10 y11 y12 y13
   unfold impl_Assign.l1
   repeat' first
   | (with_reducible exact ih0 _ _ _ _ _ _)
   | (with_reducible exact ih1 _ _ _ _ _ _ _ _ _ _ _ _ _ _)
   | (with_reducible exact ih2 _ _ _ _ _ _ _ _ _ _ _ _ _ _ _ _ _ _)
   | (with_reducible exact impl_areSights.mono _ _ _)
   | (with_reducible exact slices_Contains_int_int.mono _ _ _)
   | (with_reducible exact LeO.refl _)
   | (with_reducible exact LeO.none _)
   | (with_reducible refine LeO.ite ?_ ?_)
   | (with_reducible refine LeO.bind ?_ (fun _ => ?_))
   | exact ih0 _ _ _ _ _ _
   | exact ih1 _ _ _ _ _ _ _ _ _ _ _ _ _ _
   | exact ih2 _ _ _ _ _ _ _ _ _ _ _ _ _ _ _ _ _ _
   | exact impl_areSights.mono _ _ _
   | exact slices_Contains_int_int.mono _ _ _
   | exact LeO.none _
   | refine LeO.ite ?_ ?_
   | refine LeO.bind ?_ (fun _ => ?_)
  ·intro y0 y1 y2 y3 y4 y5 y6 y7 y8 y9 y10 y11 y12 y13 y14 y15 y16 y17
   unfold impl_Assign.j2
   repeat' first
   | (with_reducible exact ih0 _ _ _ _ _ _)
   | (with_reducible exact ih1 _ _ _ _ _ _ _ _ _ _ _ _ _ _)
   | (with_reducible exact ih2 _ _ _ _ _ _ _ _ _ _ _ _ _ _ _ _ _ _)
   | (with_reducible exact impl_areSights.mono _ _ _)
   | (with_reducible exact slices_Contains_int_int.mono _ _ _)
   | (with_reducible exact LeO.refl _)
   | (with_reducible exact LeO.none _)
   | (with_reducible refine LeO.ite ?_ ?_)
   | (with_reducible refine LeO.bind ?_ (fun _ => ?_))
   | exact ih0 _ _ _ _ _ _
   | exact ih1 _ _ _ _ _ _ _ _ _ _ _ _ _ _
   | exact ih2 _ _ _ _ _ _ _ _ _ _ _ _ _ _ _ _ _ _
   | exact impl_areSights.mono _ _ _
   | exact slices_Contains_int_int.mono _ _ _
   | exact LeO.none _
   | refine LeO.ite ?_ ?_
   | refine LeO.bind ?_ (fun _ => ?_)
theorem impl_Assign.mono : ∀ a0 a1 k, LeO (impl_Assign.f k a0 a1) (impl_Assign.f (k + 1) a0 a1) := by
 intro a0 a1 k
 obtain ⟨ih0, ih1, ih2⟩ := impl_Assign.mono_l k
 unfold impl_Assign.f
 repeat' first
   | (with_reducible exact ih0 _ _ _ _ _ _)
   | (with_reducible exact ih1 _ _ _ _ _ _ _ _ _ _ _ _ _ _)
   | (with_reducible exact ih2 _ _ _ _ _ _ _ _ _ _ _ _ _ _ _ _ _ _)
   | (with_reducible exact impl_areSights.mono _ _ _)
   | (with_reducible exact slices_Contains_int_int.mono _ _ _)
   | (with_reducible exact LeO.refl _)
   | (with_reducible exact LeO.none _)
   | (with_reducible refine LeO.ite ?_ ?_)
   | (with_reducible refine LeO.bind ?_ (fun _ => ?_))
   | exact ih0 _ _ _ _ _ _
   | exact ih1 _ _ _ _ _ _ _ _ _ _ _ _ _ _
   | exact ih2 _ _ _ _ _ _ _ _ _ _ _ _ _ _ _ _ _ _
   | exact impl_areSights.mono _ _ _
   | exact slices_Contains_int_int.mono _ _ _
   | exact LeO.none _
   | refine LeO.ite ?_ ?_
   | refine LeO.bind ?_ (fun _ => ?_)
set_option maxHeartbeats 8000000 in
set_option maxRecDepth 100000 in
theorem impl_Assign.calls (k : Nat) (A0 : Option Addr) (c0 : Nat) (l0 : List (S47)) (A1 : Option Addr) (c1 : Nat) (l1 : List (S49)) (r : List Int) (w : World) (hr0 : Kd.C k47 w A0 l0.length l0) (hc0 : l0.length ≤ c0) (hr1 : Kd.C k49 w A1 l1.length l1) (hc1 : l1.length ≤ c1) (h : impl_Assign.f k l0 l1 = some r) :
  Calls Try.prog 24 #[.slice A0 l0.length c0, .slice A1 l1.length c1] w fun e w' => ∃ v0_ : Value, e = .returned (v0_) ∧ Kd.R (Kd.int .i64) 3 w' w.heap.size (fun _ => True) v0_ r ∧ Below w.heap.size w w' := by
 have hu49 := Try.underlying49
 have hu47 := Try.underlying47
 have HR0 := uD hr0
 have HC0 := uD hc0
 clear hr0 hc0
 have HR1 := uD hr1
 have HC1 := uD hc1
 clear hr1 hc1
 have HB := uD (Below.refl w.heap.size w)
 have H : ((impl_areSights.f k l0 l1).bind fun t163 => (if t163 = true then (impl_Assign.l0 k l0 l1 ([] : List Int) l1 (l1.length : Int) 0) else (some ([] : List Int)))) = some r := h
 clear h
 replace H := Option.bind_eq_some_iff.mp H
 obtain ⟨t163, A30, H⟩ := H
 replace H : (if t163 = true then (impl_Assign.l0 k l0 l1 ([] : List Int) l1 (l1.length : Int) 0) else (some ([] : List Int))) = some r := H
 have A3 := uD A30
 clear A30
 by_cases c4 : t163 = true
 ·subst c4
  have H1 : (impl_Assign.l0 k l0 l1 ([] : List Int) l1 (l1.length : Int) 0) = some r := by rw [if_pos rfl] at H; first | done | exact H
  clear H
  have H := H1
  clear H1
  have H' := uD H
  clear H
  go_enter Try.func24, Try.ntmps24
  go_wp2_with (first | ((with_reducible refine gate_callee (f := 64) rfl ?_); refine goesL_ (some 13) rfl rfl Try.func64 (by kernel_rfl) rfl #[.slice A0 l0.length c0, .slice A1 l1.length c1] rfl (by (try simp only [List.map_toArray, List.map_cons, List.map_nil]); first | done | rfl | (simp only [List.length_drop, List.length_take]; rfl)) ?_; (with_reducible refine (impl_areSights.calls k _ _ l0 _ _ l1 true _ ?side1 ?side2 ?side3 ?side4 A3.out).mono ?_); (case side1 => repeat (first | exact HR0.out | (with_reducible refine Kd.C_alloc ?_ _) | (with_reducible refine Kd.C_drewN ?_ _) | (with_reducible refine Kd.C_drew ?_))); (case side2 => exact HC0.out); (case side3 => repeat (first | exact HR1.out | (with_reducible refine Kd.C_alloc ?_ _) | (with_reducible refine Kd.C_drewN ?_ _) | (with_reducible refine Kd.C_drew ?_))); (case side4 => exact HC1.out); rintro e w5 ⟨rfl, hb⟩; refine ⟨_, rfl, ?_⟩; replace HB := uD (uO (pb HB) hb); (try clear hb); (try clear hb2); (try clear hk); (try clear hi)))
  go_loopg [5, 17] k (fun kq v5 v17 w' => ∃ (x5_1 : List Int) (x17_1 : Int), v17 = .int .i64 x17_1 ∧ Aside0 (impl_Assign.l0 kq l0 l1 x5_1 l1 (l1.length : Int) x17_1 = some r) ∧ Aside0 (kq ≤ k) ∧ Aside0 (Kd.R (Kd.int .i64) 3 w' w.heap.size (fun _ => True) v5 x5_1) ∧ Aside0 (Below w.heap.size w w'))
  case atStart => exact ⟨(([] : List Int)), (0), (by first | rfl | (simp; done) | (simp [*]; done)), H', ⟨Nat.le_refl _⟩, ⟨by first | exact Kd.R_nil _ _ _ _ _ | exact Kd.N_nil _ _ _ _ _ | exact Kd.V_nil _ _ _ _ _ | exact Kd.Q_nil _ _ _ _ _ | exact Kd.S_nil _ _ _ _ _⟩, ⟨pb HB⟩⟩
  case round =>
   clear H'
   try clear c1
   try clear c2
   try clear p2
   try clear c4
   obtain ⟨x5_1, x17_1, rfl, HA, HK1, HO_5, HB⟩ := hrel
   cases gk with
   | zero => exact absurd HA.out (by simp [impl_Assign.l0])
   | succ k1 =>
    have H := HA.out
    clear HA
    simp only [impl_Assign.l0] at H
    by_cases c6 : x17_1 < (l1.length : Int)
    ·rw [if_pos c6] at H
     have c6b0 : decide (x17_1 < (l1.length : Int)) = true := decide_eq_true c6
     clear c6
     by_cases c7 : 0 ≤ x17_1
     ·rw [if_pos c7] at H
      have c7b0 : decide (0 ≤ x17_1) = true := decide_eq_true c7
      clear c7
      by_cases c8 : x17_1 < (l1.length : Int)
      ·rw [if_pos c8] at H
       have c8b0 : decide (x17_1 < (l1.length : Int)) = true := decide_eq_true c8
       clear c8
       (try simp [c8b0] at c6b0)
       have H' := uD H
       clear H
       have p164 : 0 ≤ (x17_1 : Int) := of_decide_eq_true (by first | (with_reducible assumption) | assumption)
       have q164 : x17_1 < (l1.length : Int) := of_decide_eq_true (by first | (with_reducible assumption) | assumption)
       obtain ⟨ad164, e164, hx164_0, hx164_1⟩ := at_T49 HR1.out x17_1 p164 q164
       cases e164
       replace hx164_0 := (HB.out.cell (World.block_lt_of_cell? w _ hx164_0)).trans hx164_0
       replace hx164_1 := (HB.out.cell (World.block_lt_of_cell? w _ hx164_1)).trans hx164_1
       replace p164 := eq_true p164
       replace q164 := eq_true q164
       go_wp2_with (first | ((with_reducible refine gate_dst (N := 7) rfl ?_); refine box_event ?hg (N := 7) ?hd (cs := #[.int .i64 0, .int .i64 0]) (t := 49) ?hr ?_; (case hd => rfl); (case hg => rfl); (case hr => first | (go_simp; done) | (go_simp; rfl)); intro gb165 hg w9 hbox hb; replace HO_5 := uD (Kd.R_below (pr HO_5) hb); have BK165 := uD (hbox); have GW165 := uD ((by rw [hg]; exact (uN (pb HB)) : w.heap.size ≤ gb165)); have GE165 := uD ((by rw [hg]; exact (uN (pb HB)) : w.heap.size ≤ gb165)); replace HB := uD (uO (pb HB) hb); clear hb hbox hg; obtain ⟨hcz10_0, hcz10_1, hfz10_0, hfz10_1⟩ := cz2 BK165) | ((with_reducible refine gate_dst (N := 8) rfl ?_); refine box_event ?hg (N := 8) ?hd (cs := #[.int .i64 0, .int .i64 0, .int .i64 0]) (t := 47) ?hr ?_; (case hd => rfl); (case hg => rfl); (case hr => first | (go_simp; done) | (go_simp; rfl)); intro gb166 hg w11 hbox hb; replace HO_5 := uD (Kd.R_below (by (with_reducible repeat (first | apply uU | apply uS | apply uT)); exact (uX (uV (p := ⟨gb165, 1, none⟩) (uV (p := ⟨gb165, 0, none⟩) (uW HO_5.out BK165.out (by decide)) (fun _ hk => hk.2) (.int .i64 ((rd_T49 l1 x17_1).f0))) (fun _ hk => hk.2) (.int .i64 ((rd_T49 l1 x17_1).f1))) (fun _ h_ => h_.1))) hb); have BK166 := uD (hbox); have GW166 := uD ((by rw [hg]; exact (uN (pb HB)) : w.heap.size ≤ gb166)); have GE166 := uD ((by rw [hg]; exact (uN (pb HB)) : w.heap.size ≤ gb166)); replace HB := uD (uO (pb HB) hb); have NB165_166 := uD ((by rw [hg]; exact Nat.ne_of_lt (blk_lt (g := gb165) (o := .cells #[.int .i64 ((rd_T49 l1 x17_1).f0), .int .i64 ((rd_T49 l1 x17_1).f1)] 49 (0, 0)) (by (with_reducible repeat first|apply uH|apply uJ|apply uG); refine uP (cs := #[.int .i64 ((rd_T49 l1 x17_1).f0), .int .i64 0]) ?_ 1 _ rfl; (with_reducible repeat first|apply uH|apply uJ|apply uG); refine uP (cs := #[.int .i64 0, .int .i64 0]) ?_ 0 _ rfl; (with_reducible repeat first|apply uH|apply uJ|apply uG); exact BK165.out)) : gb165 ≠ gb166)); have NB166_165 := uD ((by rw [hg]; exact Nat.ne_of_gt (blk_lt (g := gb165) (o := .cells #[.int .i64 ((rd_T49 l1 x17_1).f0), .int .i64 ((rd_T49 l1 x17_1).f1)] 49 (0, 0)) (by (with_reducible repeat first|apply uH|apply uJ|apply uG); refine uP (cs := #[.int .i64 ((rd_T49 l1 x17_1).f0), .int .i64 0]) ?_ 1 _ rfl; (with_reducible repeat first|apply uH|apply uJ|apply uG); refine uP (cs := #[.int .i64 0, .int .i64 0]) ?_ 0 _ rfl; (with_reducible repeat first|apply uH|apply uJ|apply uG); exact BK165.out)) : gb166 ≠ gb165)); replace BK165 := uD (blk_below (g := gb165) (o := .cells #[.int .i64 ((rd_T49 l1 x17_1).f0), .int .i64 ((rd_T49 l1 x17_1).f1)] 49 (0, 0)) (by (with_reducible repeat first|apply uH|apply uJ|apply uG); refine uP (cs := #[.int .i64 ((rd_T49 l1 x17_1).f0), .int .i64 0]) ?_ 1 _ rfl; (with_reducible repeat first|apply uH|apply uJ|apply uG); refine uP (cs := #[.int .i64 0, .int .i64 0]) ?_ 0 _ rfl; (with_reducible repeat first|apply uH|apply uJ|apply uG); exact BK165.out) hb); clear hb hbox hg; have hnb12 := NB166_165.out; have hnc12 := NB165_166.out; obtain ⟨hcz13_0, hcz13_1, hcz13_2, hfz13_0, hfz13_1, hfz13_2⟩ := cz3 BK166))
       go_loopg [24] k1 (fun kq v24 w' => ∃ (x24_2 : Int) (x167000_2 : Int) (x167001_2 : Int) (x167002_2 : Int), v24 = .int .i64 x24_2 ∧ Aside0 (impl_Assign.l1 kq l0 l1 x5_1 l1 (l1.length : Int) x17_1 l0 (l0.length : Int) x24_2 ((rd_T49 l1 x17_1).f0) ((rd_T49 l1 x17_1).f1) x167000_2 x167001_2 x167002_2 = some r) ∧ Aside0 (kq ≤ k1) ∧ Aside0 (Kd.R (Kd.int .i64) 3 w' w.heap.size (fun _ => True) u5 x5_1) ∧ Aside0 (w'.heap[gb165]? = some (.cells #[.int .i64 ((rd_T49 l1 x17_1).f0), .int .i64 ((rd_T49 l1 x17_1).f1)] 49 (0, 0))) ∧ Aside0 (w'.heap[gb166]? = some (.cells #[.int .i64 x167000_2, .int .i64 x167001_2, .int .i64 x167002_2] 47 (0, 0))) ∧ Aside0 (Below w.heap.size w w'))
       case atStart => exact ⟨(0), (0), (0), (0), (by first | rfl | (simp; done) | (simp [*]; done)), H', ⟨Nat.le_refl _⟩, ⟨by (with_reducible repeat (first | apply uU | apply uS | apply uT)); exact uX (uV (p := ⟨gb166, 2, none⟩) (uV (p := ⟨gb166, 1, none⟩) (uV (p := ⟨gb166, 0, none⟩) (uW HO_5.out BK166.out (by decide)) (fun _ hk => hk.2) (.int .i64 0)) (fun _ hk => hk.2) (.int .i64 0)) (fun _ hk => hk.2) (.int .i64 0)) (fun _ hk => trivial)⟩, ⟨by exact ps BK165⟩, ⟨by (with_reducible repeat first|apply uH|apply uJ|apply uG); refine uP (cs := #[.int .i64 0, .int .i64 0, .int .i64 0]) ?_ 2 _ rfl; (with_reducible repeat first|apply uH|apply uJ|apply uG); refine uP (cs := #[.int .i64 0, .int .i64 0, .int .i64 0]) ?_ 1 _ rfl; (with_reducible repeat first|apply uH|apply uJ|apply uG); refine uP (cs := #[.int .i64 0, .int .i64 0, .int .i64 0]) ?_ 0 _ rfl; (with_reducible repeat first|apply uH|apply uJ|apply uG); exact BK166.out⟩, ⟨pb HB⟩⟩
       case round =>
        clear H'
        try clear c1
        try clear p1
        try clear q1
        try clear hx1
        try clear c2
        try clear p2
        try clear c4
        try clear c6
        try clear c6b0
        try clear c7
        try clear c7b0
        try clear c8
        try clear c8b0
        try clear c12
        try clear hcz10_0
        try clear hcz10_1
        try clear hcz13_0
        try clear hcz13_1
        try clear hcz13_2
        try clear hfz10_0
        try clear hfz10_1
        try clear hfz13_0
        try clear hfz13_1
        try clear hfz13_2
        try clear hx164_0
        try clear hx164_1
        try clear p164
        try clear p2
        try clear q164
        obtain ⟨x24_2, x167000_2, x167001_2, x167002_2, rfl, HA, HK2, HO_5, BK165, BK166, HB⟩ := hrel
        cases gk with
        | zero => exact absurd HA.out (by simp [impl_Assign.l1])
        | succ k2 =>
         have H := HA.out
         clear HA
         simp only [impl_Assign.l1] at H
         by_cases c14 : x24_2 < (l0.length : Int)
         ·rw [if_pos c14] at H
          have c14b0 : decide (x24_2 < (l0.length : Int)) = true := decide_eq_true c14
          clear c14
          by_cases c15 : 0 ≤ x24_2
          ·rw [if_pos c15] at H
           have c15b0 : decide (0 ≤ x24_2) = true := decide_eq_true c15
           clear c15
           by_cases c16 : x24_2 < (l0.length : Int)
           ·rw [if_pos c16] at H
            have c16b0 : decide (x24_2 < (l0.length : Int)) = true := decide_eq_true c16
            clear c16
            (try simp [c16b0] at c14b0)
            have HC17 := uD H
            clear H
            have p170 : 0 ≤ (x24_2 : Int) := of_decide_eq_true (by first | (with_reducible assumption) | assumption)
            have q170 : x24_2 < (l0.length : Int) := of_decide_eq_true (by first | (with_reducible assumption) | assumption)
            obtain ⟨ad170, e170, hx170_0, hx170_1, hx170_2⟩ := at_T47 HR0.out x24_2 p170 q170
            cases e170
            replace hx170_0 := (HB.out.cell (World.block_lt_of_cell? w _ hx170_0)).trans hx170_0
            replace hx170_1 := (HB.out.cell (World.block_lt_of_cell? w _ hx170_1)).trans hx170_1
            replace hx170_2 := (HB.out.cell (World.block_lt_of_cell? w _ hx170_2)).trans hx170_2
            replace p170 := eq_true p170
            replace q170 := eq_true q170
            go_upto_region 11 with (first | ((with_reducible refine gate_dst (N := 10) rfl ?_); refine box_event ?hg (N := 10) ?hd (cs := #[.int .i64 0, .int .i64 0, .int .i64 0]) (t := 47) ?hr ?_; (case hd => rfl); (case hg => rfl); (case hr => first | (go_simp; done) | (go_simp; rfl)); intro gb171 hg w18 hbox hb; replace HO_5 := uD (Kd.R_below (pr HO_5) hb); have BK171 := uD (hbox); have GW171 := uD ((by rw [hg]; exact (uN (pb HB)) : w.heap.size ≤ gb171)); have GE171 := uD ((by rw [hg]; exact (uN (pb HB)) : w.heap.size ≤ gb171)); replace HB := uD (uO (pb HB) hb); have NB165_171 := uD ((by rw [hg]; exact Nat.ne_of_lt (blk_lt (pk BK165)) : gb165 ≠ gb171)); have NB171_165 := uD ((by rw [hg]; exact Nat.ne_of_gt (blk_lt (pk BK165)) : gb171 ≠ gb165)); replace BK165 := uD (blk_below (pk BK165) hb); have NB166_171 := uD ((by rw [hg]; exact Nat.ne_of_lt (blk_lt (pk BK166)) : gb166 ≠ gb171)); have NB171_166 := uD ((by rw [hg]; exact Nat.ne_of_gt (blk_lt (pk BK166)) : gb171 ≠ gb166)); replace BK166 := uD (blk_below (pk BK166) hb); clear hb hbox hg; have hnb19 := NB171_165.out; have hnc19 := NB165_171.out; have hnb20 := NB171_166.out; have hnc20 := NB166_171.out; obtain ⟨hcz21_0, hcz21_1, hcz21_2, hfz21_0, hfz21_1, hfz21_2⟩ := cz3 BK171))
            (try simp only [uc, uA, uB, uC])
            go_cut [38] (fun v38 wc => ∃ (kq : Nat) (x38_16 : Bool), v38 = .bool x38_16 ∧ Aside0 (impl_Assign.j2 kq l0 l1 x5_1 l1 (l1.length : Int) x17_1 l0 (l0.length : Int) x24_2 x38_16 ((rd_T49 l1 x17_1).f0) ((rd_T49 l1 x17_1).f1) x167000_2 x167001_2 x167002_2 ((rd_T47 l0 x24_2).f0) ((rd_T47 l0 x24_2).f1) ((rd_T47 l0 x24_2).f2) = some r) ∧ Aside0 (kq ≤ k2) ∧ Aside0 (Kd.R (Kd.int .i64) 3 wc w.heap.size (fun _ => True) u5 x5_1) ∧ Aside0 (wc.heap[gb165]? = some (.cells #[.int .i64 ((rd_T49 l1 x17_1).f0), .int .i64 ((rd_T49 l1 x17_1).f1)] 49 (0, 0))) ∧ Aside0 (wc.heap[gb166]? = some (.cells #[.int .i64 x167000_2, .int .i64 x167001_2, .int .i64 x167002_2] 47 (0, 0))) ∧ Aside0 (wc.heap[gb171]? = some (.cells #[.int .i64 ((rd_T47 l0 x24_2).f0), .int .i64 ((rd_T47 l0 x24_2).f1), .int .i64 ((rd_T47 l0 x24_2).f2)] 47 (0, 0))) ∧ Aside0 (Below w.heap.size w wc))
            case first =>
             have H := HC17.out
             clear HC17
             replace H := Option.bind_eq_some_iff.mp H
             obtain ⟨t172, A220, H⟩ := H
             replace H : (if t172 = true then ((slices_Contains_int_int.f k2 x5_1 ((rd_T47 l0 x24_2).f0)).bind fun t173 => (impl_Assign.j2 k2 l0 l1 x5_1 l1 (l1.length : Int) x17_1 l0 (l0.length : Int) x24_2 t173 ((rd_T49 l1 x17_1).f0) ((rd_T49 l1 x17_1).f1) x167000_2 x167001_2 x167002_2 ((rd_T47 l0 x24_2).f0) ((rd_T47 l0 x24_2).f1) ((rd_T47 l0 x24_2).f2))) else (impl_Assign.j2 k2 l0 l1 x5_1 l1 (l1.length : Int) x17_1 l0 (l0.length : Int) x24_2 true ((rd_T49 l1 x17_1).f0) ((rd_T49 l1 x17_1).f1) x167000_2 x167001_2 x167002_2 ((rd_T47 l0 x24_2).f0) ((rd_T47 l0 x24_2).f1) ((rd_T47 l0 x24_2).f2))) = some r := H
             have A22 := uD A220
             clear A220
             by_cases c23 : t172 = true
             ·subst c23
              have H1 : ((slices_Contains_int_int.f k2 x5_1 ((rd_T47 l0 x24_2).f0)).bind fun t173 => (impl_Assign.j2 k2 l0 l1 x5_1 l1 (l1.length : Int) x17_1 l0 (l0.length : Int) x24_2 t173 ((rd_T49 l1 x17_1).f0) ((rd_T49 l1 x17_1).f1) x167000_2 x167001_2 x167002_2 ((rd_T47 l0 x24_2).f0) ((rd_T47 l0 x24_2).f1) ((rd_T47 l0 x24_2).f2))) = some r := by rw [if_pos rfl] at H; first | done | exact H
              clear H
              have H := H1
              clear H1
              replace H := Option.bind_eq_some_iff.mp H
              obtain ⟨t173, A240, H⟩ := H
              replace H : (impl_Assign.j2 k2 l0 l1 x5_1 l1 (l1.length : Int) x17_1 l0 (l0.length : Int) x24_2 t173 ((rd_T49 l1 x17_1).f0) ((rd_T49 l1 x17_1).f1) x167000_2 x167001_2 x167002_2 ((rd_T47 l0 x24_2).f0) ((rd_T47 l0 x24_2).f1) ((rd_T47 l0 x24_2).f2)) = some r := H
              have A24 := uD A240
              clear A240
              have H' := uD H
              clear H
              have hnb25 := NB165_166.out
              have hnc25 := NB166_165.out
              have hnb26 := NB165_171.out
              have hnc26 := NB171_165.out
              obtain ⟨hcz27_0, hcz27_1, hfz27_0, hfz27_1⟩ := cz2 BK165
              have hnb28 := NB171_166.out
              have hnc28 := NB166_171.out
              obtain ⟨hcz29_0, hcz29_1, hcz29_2, hfz29_0, hfz29_1, hfz29_2⟩ := cz3 BK171
              go_wp2_with (first | ((with_reducible refine gate_callee (f := 65) rfl ?_); refine goesL_ (some 31) rfl rfl Try.func65 (by kernel_rfl) rfl #[.slice (some ad164) l1.length c1, .agg #[.int .i64 ((rd_T49 l1 x17_1).f0), .int .i64 ((rd_T49 l1 x17_1).f1)], .agg #[.int .i64 ((rd_T47 l0 x24_2).f0), .int .i64 ((rd_T47 l0 x24_2).f1), .int .i64 ((rd_T47 l0 x24_2).f2)]] rfl (by (try simp only [List.map_toArray, List.map_cons, List.map_nil]); first | done | rfl | (simp only [List.length_drop, List.length_take]; rfl)) ?_; (with_reducible refine (impl_fits.calls _ _ l1 ((rd_T49 l1 x17_1).f0) ((rd_T49 l1 x17_1).f1) ((rd_T47 l0 x24_2).f0) ((rd_T47 l0 x24_2).f1) ((rd_T47 l0 x24_2).f2) true _ ?side1 ?side2 A22.out).mono ?_); (case side1 => exact Kd.C_below HR1.out (pb HB)); (case side2 => exact HC1.out); rintro e w30 ⟨rfl, hb⟩; refine ⟨_, rfl, ?_⟩; replace HO_5 := uD (Kd.R_below (by (with_reducible repeat (first | apply uU | apply uS | apply uT)); exact (uX (uV (p := ⟨gb171, 2, none⟩) (uV (p := ⟨gb171, 1, none⟩) (uV (p := ⟨gb171, 0, none⟩) (uW HO_5.out BK171.out (by decide)) (fun _ hk => hk.2) (.int .i64 ((rd_T47 l0 x24_2).f0))) (fun _ hk => hk.2) (.int .i64 ((rd_T47 l0 x24_2).f1))) (fun _ hk => hk.2) (.int .i64 ((rd_T47 l0 x24_2).f2))) (fun _ h_ => h_.1))) hb); replace BK165 := uD (blk_below (g := gb165) (o := .cells #[.int .i64 ((rd_T49 l1 x17_1).f0), .int .i64 ((rd_T49 l1 x17_1).f1)] 49 (0, 0)) (by exact ps BK165) hb); replace BK166 := uD (blk_below (g := gb166) (o := .cells #[.int .i64 x167000_2, .int .i64 x167001_2, .int .i64 x167002_2] 47 (0, 0)) (by exact ps BK166) hb); replace BK171 := uD (blk_below (g := gb171) (o := .cells #[.int .i64 ((rd_T47 l0 x24_2).f0), .int .i64 ((rd_T47 l0 x24_2).f1), .int .i64 ((rd_T47 l0 x24_2).f2)] 47 (0, 0)) (by (with_reducible repeat first|apply uH|apply uJ|apply uG); refine uP (cs := #[.int .i64 ((rd_T47 l0 x24_2).f0), .int .i64 ((rd_T47 l0 x24_2).f1), .int .i64 0]) ?_ 2 _ rfl; (with_reducible repeat first|apply uH|apply uJ|apply uG); refine uP (cs := #[.int .i64 ((rd_T47 l0 x24_2).f0), .int .i64 0, .int .i64 0]) ?_ 1 _ rfl; (with_reducible repeat first|apply uH|apply uJ|apply uG); refine uP (cs := #[.int .i64 0, .int .i64 0, .int .i64 0]) ?_ 0 _ rfl; (with_reducible repeat first|apply uH|apply uJ|apply uG); exact BK171.out) hb); replace HB := uD (uO (pb HB) hb); (try clear hb); (try clear hb2); (try clear hk); (try clear hi); obtain ⟨hcz31_0, hcz31_1, hcz31_2, hfz31_0, hfz31_1, hfz31_2⟩ := cz3 BK171; obtain ⟨Ao32, co32, eo32⟩ := Kd.R_slice HO_5.out; subst eo32) | (go_at_call 66; (with_reducible refine (slices_Contains_int_int.calls k2 _ _ x5_1 ((rd_T47 l0 x24_2).f0) t173 _ ?side1 ?side2 A24.out).mono ?_); (case side1 => repeat (first | exact (Kd.R_reads' HO_5.out).2.2 | (with_reducible refine Kd.C_alloc ?_ _) | (with_reducible refine Kd.C_drewN ?_ _) | (with_reducible refine Kd.C_drew ?_))); (case side2 => exact (Kd.R_reads' HO_5.out).2.1); rintro e w' ⟨rfl, ⟨nd, rfl⟩⟩))
              go_meet
              case rel => exact ⟨_, (t173), (by first | rfl | (simp; done) | (simp [*]; done)), H', ⟨by have := HK1.out; have := HK2.out; first | omega | exact Nat.le_refl _⟩, ⟨by (with_reducible repeat (first | apply uU | apply uS | apply uT)); exact HO_5.out⟩, ⟨by (with_reducible repeat first|apply uH|apply uJ|apply uG); exact BK165.out⟩, ⟨by (with_reducible repeat first|apply uH|apply uJ|apply uG); exact BK166.out⟩, ⟨by (with_reducible repeat first|apply uH|apply uJ|apply uG); exact BK171.out⟩, ⟨pb HB⟩⟩
             ·replace c23 := Bool.eq_false_iff.mpr c23
              subst c23
              have H1 : (impl_Assign.j2 k2 l0 l1 x5_1 l1 (l1.length : Int) x17_1 l0 (l0.length : Int) x24_2 true ((rd_T49 l1 x17_1).f0) ((rd_T49 l1 x17_1).f1) x167000_2 x167001_2 x167002_2 ((rd_T47 l0 x24_2).f0) ((rd_T47 l0 x24_2).f1) ((rd_T47 l0 x24_2).f2)) = some r := by rw [if_neg (show ¬ (false = true) by decide)] at H; first | done | exact H
              clear H
              have H := H1
              clear H1
              have H' := uD H
              clear H
              have hnb33 := NB165_166.out
              have hnc33 := NB166_165.out
              have hnb34 := NB165_171.out
              have hnc34 := NB171_165.out
              obtain ⟨hcz35_0, hcz35_1, hfz35_0, hfz35_1⟩ := cz2 BK165
              have hnb36 := NB171_166.out
              have hnc36 := NB166_171.out
              obtain ⟨hcz37_0, hcz37_1, hcz37_2, hfz37_0, hfz37_1, hfz37_2⟩ := cz3 BK171
              go_wp2_with (first | ((with_reducible refine gate_callee (f := 65) rfl ?_); refine goesL_ (some 31) rfl rfl Try.func65 (by kernel_rfl) rfl #[.slice (some ad164) l1.length c1, .agg #[.int .i64 ((rd_T49 l1 x17_1).f0), .int .i64 ((rd_T49 l1 x17_1).f1)], .agg #[.int .i64 ((rd_T47 l0 x24_2).f0), .int .i64 ((rd_T47 l0 x24_2).f1), .int .i64 ((rd_T47 l0 x24_2).f2)]] rfl (by (try simp only [List.map_toArray, List.map_cons, List.map_nil]); first | done | rfl | (simp only [List.length_drop, List.length_take]; rfl)) ?_; (with_reducible refine (impl_fits.calls _ _ l1 ((rd_T49 l1 x17_1).f0) ((rd_T49 l1 x17_1).f1) ((rd_T47 l0 x24_2).f0) ((rd_T47 l0 x24_2).f1) ((rd_T47 l0 x24_2).f2) false _ ?side1 ?side2 A22.out).mono ?_); (case side1 => exact Kd.C_below HR1.out (pb HB)); (case side2 => exact HC1.out); rintro e w38 ⟨rfl, hb⟩; refine ⟨_, rfl, ?_⟩; replace HO_5 := uD (Kd.R_below (by (with_reducible repeat (first | apply uU | apply uS | apply uT)); exact (uX (uV (p := ⟨gb171, 2, none⟩) (uV (p := ⟨gb171, 1, none⟩) (uV (p := ⟨gb171, 0, none⟩) (uW HO_5.out BK171.out (by decide)) (fun _ hk => hk.2) (.int .i64 ((rd_T47 l0 x24_2).f0))) (fun _ hk => hk.2) (.int .i64 ((rd_T47 l0 x24_2).f1))) (fun _ hk => hk.2) (.int .i64 ((rd_T47 l0 x24_2).f2))) (fun _ h_ => h_.1))) hb); replace BK165 := uD (blk_below (g := gb165) (o := .cells #[.int .i64 ((rd_T49 l1 x17_1).f0), .int .i64 ((rd_T49 l1 x17_1).f1)] 49 (0, 0)) (by exact ps BK165) hb); replace BK166 := uD (blk_below (g := gb166) (o := .cells #[.int .i64 x167000_2, .int .i64 x167001_2, .int .i64 x167002_2] 47 (0, 0)) (by exact ps BK166) hb); replace BK171 := uD (blk_below (g := gb171) (o := .cells #[.int .i64 ((rd_T47 l0 x24_2).f0), .int .i64 ((rd_T47 l0 x24_2).f1), .int .i64 ((rd_T47 l0 x24_2).f2)] 47 (0, 0)) (by (with_reducible repeat first|apply uH|apply uJ|apply uG); refine uP (cs := #[.int .i64 ((rd_T47 l0 x24_2).f0), .int .i64 ((rd_T47 l0 x24_2).f1), .int .i64 0]) ?_ 2 _ rfl; (with_reducible repeat first|apply uH|apply uJ|apply uG); refine uP (cs := #[.int .i64 ((rd_T47 l0 x24_2).f0), .int .i64 0, .int .i64 0]) ?_ 1 _ rfl; (with_reducible repeat first|apply uH|apply uJ|apply uG); refine uP (cs := #[.int .i64 0, .int .i64 0, .int .i64 0]) ?_ 0 _ rfl; (with_reducible repeat first|apply uH|apply uJ|apply uG); exact BK171.out) hb); replace HB := uD (uO (pb HB) hb); (try clear hb); (try clear hb2); (try clear hk); (try clear hi)))
              go_meet
              case rel => exact ⟨_, (true), (by first | rfl | (simp; done) | (simp [*]; done)), H', ⟨by have := HK1.out; have := HK2.out; first | omega | exact Nat.le_refl _⟩, ⟨by (with_reducible repeat (first | apply uU | apply uS | apply uT)); exact HO_5.out⟩, ⟨by (with_reducible repeat first|apply uH|apply uJ|apply uG); exact BK165.out⟩, ⟨by (with_reducible repeat first|apply uH|apply uJ|apply uG); exact BK166.out⟩, ⟨by (with_reducible repeat first|apply uH|apply uJ|apply uG); exact BK171.out⟩, ⟨pb HB⟩⟩
            case rest =>
             clear HC17
             try clear c1
             try clear p1
             try clear q1
             try clear hx1
             try clear c2
             try clear p2
             try clear c3
             try clear c4
             try clear c6
             try clear c6b0
             try clear c7
             try clear c7b0
             try clear c8
             try clear c8b0
             try clear c12
             try clear c14
             try clear c14b0
             try clear c15
             try clear c15b0
             try clear c16
             try clear c16b0
             try clear p16
             try clear q16
             try clear hx16
             try clear p17
             try clear q17
             try clear hx17
             try clear c19
             try clear c20
             try clear c23
             try clear c24
             try clear c25
             try clear c26
             try clear c28
             try clear c33
             try clear c34
             try clear c36
             try clear hcz10_0
             try clear hcz10_1
             try clear hcz13_0
             try clear hcz13_1
             try clear hcz13_2
             try clear hcz21_0
             try clear hcz21_1
             try clear hcz21_2
             try clear hcz27_0
             try clear hcz27_1
             try clear hcz29_0
             try clear hcz29_1
             try clear hcz29_2
             try clear hcz31_0
             try clear hcz31_1
             try clear hcz31_2
             try clear hcz35_0
             try clear hcz35_1
             try clear hcz37_0
             try clear hcz37_1
             try clear hcz37_2
             try clear hfz10_0
             try clear hfz10_1
             try clear hfz13_0
             try clear hfz13_1
             try clear hfz13_2
             try clear hfz21_0
             try clear hfz21_1
             try clear hfz21_2
             try clear hfz27_0
             try clear hfz27_1
             try clear hfz29_0
             try clear hfz29_1
             try clear hfz29_2
             try clear hfz31_0
             try clear hfz31_1
             try clear hfz31_2
             try clear hfz35_0
             try clear hfz35_1
             try clear hfz37_0
             try clear hfz37_1
             try clear hfz37_2
             try clear hx164_0
             try clear hx164_1
             try clear hx170_0
             try clear hx170_1
             try clear hx170_2
             try clear p1
             try clear p164
             try clear p170
             try clear p2
             try clear q1
             try clear q164
             try clear q170
             obtain ⟨kq, x38_16, rfl, HA, HJ16, HO_5, BK165, BK166, BK171, HB⟩ := hcut
             cases kq with
             | zero => exact absurd HA.out (by simp [impl_Assign.j2])
             | succ kj16 =>
              have H := HA.out
              clear HA
              simp only [impl_Assign.j2] at H
              by_cases c39 : x38_16 = true
              ·subst c39
               have H1 : (impl_Assign.l1 kj16 l0 l1 x5_1 l1 (l1.length : Int) x17_1 l0 (l0.length : Int) (wrap64 (x24_2 + 1)) ((rd_T49 l1 x17_1).f0) ((rd_T49 l1 x17_1).f1) x167000_2 x167001_2 x167002_2) = some r := by rw [if_pos rfl] at H; first | done | exact H
               clear H
               have H := H1
               clear H1
               have H' := uD H
               clear H
               go_wp2
               go_roundg kj16
               case measure => have := HK1.out; have := HK2.out; have := HJ16.out; omega
               case rel => exact ⟨(wrap64 (x24_2 + 1)), (x167000_2), (x167001_2), (x167002_2), (by first | rfl | (simp; done) | (simp [*]; done)), H', ⟨by have := HK1.out; have := HK2.out; have := HJ16.out; omega⟩, ⟨by (with_reducible repeat (first | apply uU | apply uS | apply uT)); exact HO_5.out⟩, ⟨by (with_reducible repeat first|apply uH|apply uJ|apply uG); exact BK165.out⟩, ⟨by (with_reducible repeat first|apply uH|apply uJ|apply uG); exact BK166.out⟩, ⟨pb HB⟩⟩
              ·replace c39 := Bool.eq_false_iff.mpr c39
               subst c39
               have H1 : (if x167000_2 = 0 then (impl_Assign.l1 kj16 l0 l1 x5_1 l1 (l1.length : Int) x17_1 l0 (l0.length : Int) (wrap64 (x24_2 + 1)) ((rd_T49 l1 x17_1).f0) ((rd_T49 l1 x17_1).f1) ((rd_T47 l0 x24_2).f0) ((rd_T47 l0 x24_2).f1) ((rd_T47 l0 x24_2).f2)) else (if ((rd_T47 l0 x24_2).f2) < x167002_2 then (impl_Assign.l1 kj16 l0 l1 x5_1 l1 (l1.length : Int) x17_1 l0 (l0.length : Int) (wrap64 (x24_2 + 1)) ((rd_T49 l1 x17_1).f0) ((rd_T49 l1 x17_1).f1) ((rd_T47 l0 x24_2).f0) ((rd_T47 l0 x24_2).f1) ((rd_T47 l0 x24_2).f2)) else (if ((rd_T47 l0 x24_2).f2) = x167002_2 then (if ((rd_T47 l0 x24_2).f0) < x167000_2 then (impl_Assign.l1 kj16 l0 l1 x5_1 l1 (l1.length : Int) x17_1 l0 (l0.length : Int) (wrap64 (x24_2 + 1)) ((rd_T49 l1 x17_1).f0) ((rd_T49 l1 x17_1).f1) ((rd_T47 l0 x24_2).f0) ((rd_T47 l0 x24_2).f1) ((rd_T47 l0 x24_2).f2)) else (impl_Assign.l1 kj16 l0 l1 x5_1 l1 (l1.length : Int) x17_1 l0 (l0.length : Int) (wrap64 (x24_2 + 1)) ((rd_T49 l1 x17_1).f0) ((rd_T49 l1 x17_1).f1) x167000_2 x167001_2 x167002_2)) else (impl_Assign.l1 kj16 l0 l1 x5_1 l1 (l1.length : Int) x17_1 l0 (l0.length : Int) (wrap64 (x24_2 + 1)) ((rd_T49 l1 x17_1).f0) ((rd_T49 l1 x17_1).f1) x167000_2 x167001_2 x167002_2)))) = some r := by rw [if_neg (show ¬ (false = true) by decide)] at H; first | done | exact H
               clear H
               have H := H1
               clear H1
               by_cases c40 : x167000_2 = 0
               ·rw [if_pos c40] at H
                have c40b0 : (x167000_2 == 0) = true := beq_iff_eq.mpr c40
                have c40b1 : (x167000_2 != 0) = false := bne_eq_false_iff_eq.mpr c40
                clear c40
                have H' := uD H
                clear H
                have hnb41 := NB166_165.out
                have hnc41 := NB165_166.out
                have hnb42 := NB166_171.out
                have hnc42 := NB171_166.out
                obtain ⟨hcz43_0, hcz43_1, hcz43_2, hfz43_0, hfz43_1, hfz43_2⟩ := cz3 BK166
                have hnb44 := NB171_165.out
                have hnc44 := NB165_171.out
                obtain ⟨hcz45_0, hcz45_1, hcz45_2, hfz45_0, hfz45_1, hfz45_2⟩ := cz3 BK171
                go_wp2
                go_roundg kj16
                case measure => have := HK1.out; have := HK2.out; have := HJ16.out; omega
                case rel => exact ⟨(wrap64 (x24_2 + 1)), (((rd_T47 l0 x24_2).f0)), (((rd_T47 l0 x24_2).f1)), (((rd_T47 l0 x24_2).f2)), (by first | rfl | (simp; done) | (simp [*]; done)), H', ⟨by have := HK1.out; have := HK2.out; have := HJ16.out; omega⟩, ⟨by (with_reducible repeat (first | apply uU | apply uS | apply uT)); exact uX (uV (p := ⟨gb166, 2, none⟩) (uV (p := ⟨gb166, 1, none⟩) (uV (p := ⟨gb166, 0, none⟩) (uW HO_5.out BK166.out (by decide)) (fun _ hk => hk.2) (.int .i64 ((rd_T47 l0 x24_2).f0))) (fun _ hk => hk.2) (.int .i64 ((rd_T47 l0 x24_2).f1))) (fun _ hk => hk.2) (.int .i64 ((rd_T47 l0 x24_2).f2))) (fun _ hk => trivial)⟩, ⟨by exact ps BK165⟩, ⟨by (with_reducible repeat first|apply uH|apply uJ|apply uG); refine uP (cs := #[.int .i64 ((rd_T47 l0 x24_2).f0), .int .i64 ((rd_T47 l0 x24_2).f1), .int .i64 x167002_2]) ?_ 2 _ rfl; (with_reducible repeat first|apply uH|apply uJ|apply uG); refine uP (cs := #[.int .i64 ((rd_T47 l0 x24_2).f0), .int .i64 x167001_2, .int .i64 x167002_2]) ?_ 1 _ rfl; (with_reducible repeat first|apply uH|apply uJ|apply uG); refine uP (cs := #[.int .i64 x167000_2, .int .i64 x167001_2, .int .i64 x167002_2]) ?_ 0 _ rfl; (with_reducible repeat first|apply uH|apply uJ|apply uG); exact BK166.out⟩, ⟨pb HB⟩⟩
               ·rw [if_neg c40] at H
                have c40b0 : (x167000_2 == 0) = false := beq_eq_false_iff_ne.mpr c40
                have c40b1 : (x167000_2 != 0) = true := bne_iff_ne.mpr c40
                by_cases c46 : ((rd_T47 l0 x24_2).f2) < x167002_2
                ·rw [if_pos c46] at H
                 have c46b0 : decide (((rd_T47 l0 x24_2).f2) < x167002_2) = true := decide_eq_true c46
                 clear c46
                 have H' := uD H
                 clear H
                 have hnb47 := NB166_165.out
                 have hnc47 := NB165_166.out
                 have hnb48 := NB166_171.out
                 have hnc48 := NB171_166.out
                 obtain ⟨hcz49_0, hcz49_1, hcz49_2, hfz49_0, hfz49_1, hfz49_2⟩ := cz3 BK166
                 have hnb50 := NB171_165.out
                 have hnc50 := NB165_171.out
                 obtain ⟨hcz51_0, hcz51_1, hcz51_2, hfz51_0, hfz51_1, hfz51_2⟩ := cz3 BK171
                 go_wp2
                 go_roundg kj16
                 case measure => have := HK1.out; have := HK2.out; have := HJ16.out; omega
                 case rel => exact ⟨(wrap64 (x24_2 + 1)), (((rd_T47 l0 x24_2).f0)), (((rd_T47 l0 x24_2).f1)), (((rd_T47 l0 x24_2).f2)), (by first | rfl | (simp; done) | (simp [*]; done)), H', ⟨by have := HK1.out; have := HK2.out; have := HJ16.out; omega⟩, ⟨by (with_reducible repeat (first | apply uU | apply uS | apply uT)); exact uX (uV (p := ⟨gb166, 2, none⟩) (uV (p := ⟨gb166, 1, none⟩) (uV (p := ⟨gb166, 0, none⟩) (uW HO_5.out BK166.out (by decide)) (fun _ hk => hk.2) (.int .i64 ((rd_T47 l0 x24_2).f0))) (fun _ hk => hk.2) (.int .i64 ((rd_T47 l0 x24_2).f1))) (fun _ hk => hk.2) (.int .i64 ((rd_T47 l0 x24_2).f2))) (fun _ hk => trivial)⟩, ⟨by exact ps BK165⟩, ⟨by (with_reducible repeat first|apply uH|apply uJ|apply uG); refine uP (cs := #[.int .i64 ((rd_T47 l0 x24_2).f0), .int .i64 ((rd_T47 l0 x24_2).f1), .int .i64 x167002_2]) ?_ 2 _ rfl; (with_reducible repeat first|apply uH|apply uJ|apply uG); refine uP (cs := #[.int .i64 ((rd_T47 l0 x24_2).f0), .int .i64 x167001_2, .int .i64 x167002_2]) ?_ 1 _ rfl; (with_reducible repeat first|apply uH|apply uJ|apply uG); refine uP (cs := #[.int .i64 x167000_2, .int .i64 x167001_2, .int .i64 x167002_2]) ?_ 0 _ rfl; (with_reducible repeat first|apply uH|apply uJ|apply uG); exact BK166.out⟩, ⟨pb HB⟩⟩
                ·rw [if_neg c46] at H
                 have c46b0 : decide (((rd_T47 l0 x24_2).f2) < x167002_2) = false := decide_eq_false c46
                 clear c46
                 by_cases c52 : ((rd_T47 l0 x24_2).f2) = x167002_2
                 ·rw [if_pos c52] at H
                  have c52b0 : (((rd_T47 l0 x24_2).f2) == x167002_2) = true := beq_iff_eq.mpr c52
                  have c52b1 : (((rd_T47 l0 x24_2).f2) != x167002_2) = false := bne_eq_false_iff_eq.mpr c52
                  clear c52
                  by_cases c53 : ((rd_T47 l0 x24_2).f0) < x167000_2
                  ·rw [if_pos c53] at H
                   have c53b0 : decide (((rd_T47 l0 x24_2).f0) < x167000_2) = true := decide_eq_true c53
                   clear c53
                   have H' := uD H
                   clear H
                   have hnb54 := NB166_165.out
                   have hnc54 := NB165_166.out
                   have hnb55 := NB166_171.out
                   have hnc55 := NB171_166.out
                   obtain ⟨hcz56_0, hcz56_1, hcz56_2, hfz56_0, hfz56_1, hfz56_2⟩ := cz3 BK166
                   have hnb57 := NB171_165.out
                   have hnc57 := NB165_171.out
                   obtain ⟨hcz58_0, hcz58_1, hcz58_2, hfz58_0, hfz58_1, hfz58_2⟩ := cz3 BK171
                   go_wp2
                   go_roundg kj16
                   case measure => have := HK1.out; have := HK2.out; have := HJ16.out; omega
                   case rel => exact ⟨(wrap64 (x24_2 + 1)), (((rd_T47 l0 x24_2).f0)), (((rd_T47 l0 x24_2).f1)), (((rd_T47 l0 x24_2).f2)), (by first | rfl | (simp; done) | (simp [*]; done)), H', ⟨by have := HK1.out; have := HK2.out; have := HJ16.out; omega⟩, ⟨by (with_reducible repeat (first | apply uU | apply uS | apply uT)); exact uX (uV (p := ⟨gb166, 2, none⟩) (uV (p := ⟨gb166, 1, none⟩) (uV (p := ⟨gb166, 0, none⟩) (uW HO_5.out BK166.out (by decide)) (fun _ hk => hk.2) (.int .i64 ((rd_T47 l0 x24_2).f0))) (fun _ hk => hk.2) (.int .i64 ((rd_T47 l0 x24_2).f1))) (fun _ hk => hk.2) (.int .i64 ((rd_T47 l0 x24_2).f2))) (fun _ hk => trivial)⟩, ⟨by exact ps BK165⟩, ⟨by (with_reducible repeat first|apply uH|apply uJ|apply uG); refine uP (cs := #[.int .i64 ((rd_T47 l0 x24_2).f0), .int .i64 ((rd_T47 l0 x24_2).f1), .int .i64 x167002_2]) ?_ 2 _ rfl; (with_reducible repeat first|apply uH|apply uJ|apply uG); refine uP (cs := #[.int .i64 ((rd_T47 l0 x24_2).f0), .int .i64 x167001_2, .int .i64 x167002_2]) ?_ 1 _ rfl; (with_reducible repeat first|apply uH|apply uJ|apply uG); refine uP (cs := #[.int .i64 x167000_2, .int .i64 x167001_2, .int .i64 x167002_2]) ?_ 0 _ rfl; (with_reducible repeat first|apply uH|apply uJ|apply uG); exact BK166.out⟩, ⟨pb HB⟩⟩
                  ·rw [if_neg c53] at H
                   have c53b0 : decide (((rd_T47 l0 x24_2).f0) < x167000_2) = false := decide_eq_false c53
                   clear c53
                   have H' := uD H
                   clear H
                   have hnb59 := NB166_165.out
                   have hnc59 := NB165_166.out
                   have hnb60 := NB166_171.out
                   have hnc60 := NB171_166.out
                   obtain ⟨hcz61_0, hcz61_1, hcz61_2, hfz61_0, hfz61_1, hfz61_2⟩ := cz3 BK166
                   have hnb62 := NB171_165.out
                   have hnc62 := NB165_171.out
                   obtain ⟨hcz63_0, hcz63_1, hcz63_2, hfz63_0, hfz63_1, hfz63_2⟩ := cz3 BK171
                   go_wp2
                   go_roundg kj16
                   case measure => have := HK1.out; have := HK2.out; have := HJ16.out; omega
                   case rel => exact ⟨(wrap64 (x24_2 + 1)), (x167000_2), (x167001_2), (x167002_2), (by first | rfl | (simp; done) | (simp [*]; done)), H', ⟨by have := HK1.out; have := HK2.out; have := HJ16.out; omega⟩, ⟨by (with_reducible repeat (first | apply uU | apply uS | apply uT)); exact HO_5.out⟩, ⟨by (with_reducible repeat first|apply uH|apply uJ|apply uG); exact BK165.out⟩, ⟨by (with_reducible repeat first|apply uH|apply uJ|apply uG); exact BK166.out⟩, ⟨pb HB⟩⟩
                 ·rw [if_neg c52] at H
                  have c52b0 : (((rd_T47 l0 x24_2).f2) == x167002_2) = false := beq_eq_false_iff_ne.mpr c52
                  have c52b1 : (((rd_T47 l0 x24_2).f2) != x167002_2) = true := bne_iff_ne.mpr c52
                  have H' := uD H
                  clear H
                  have hnb64 := NB166_165.out
                  have hnc64 := NB165_166.out
                  have hnb65 := NB166_171.out
                  have hnc65 := NB171_166.out
                  obtain ⟨hcz66_0, hcz66_1, hcz66_2, hfz66_0, hfz66_1, hfz66_2⟩ := cz3 BK166
                  have hnb67 := NB171_165.out
                  have hnc67 := NB165_171.out
                  obtain ⟨hcz68_0, hcz68_1, hcz68_2, hfz68_0, hfz68_1, hfz68_2⟩ := cz3 BK171
                  go_wp2
                  go_roundg kj16
                  case measure => have := HK1.out; have := HK2.out; have := HJ16.out; omega
                  case rel => exact ⟨(wrap64 (x24_2 + 1)), (x167000_2), (x167001_2), (x167002_2), (by first | rfl | (simp; done) | (simp [*]; done)), H', ⟨by have := HK1.out; have := HK2.out; have := HJ16.out; omega⟩, ⟨by (with_reducible repeat (first | apply uU | apply uS | apply uT)); exact HO_5.out⟩, ⟨by (with_reducible repeat first|apply uH|apply uJ|apply uG); exact BK165.out⟩, ⟨by (with_reducible repeat first|apply uH|apply uJ|apply uG); exact BK166.out⟩, ⟨pb HB⟩⟩
           ·rw [if_neg c16] at H
            exact absurd H (by simp)
          ·rw [if_neg c15] at H
           exact absurd H (by simp)
         ·rw [if_neg c14] at H
          have c14b0 : decide (x24_2 < (l0.length : Int)) = false := decide_eq_false c14
          clear c14
          obtain ⟨ji69, hji69⟩ : ∃ j_ : Int, (mx ((rd_T49 l1 x17_1).f1) x167000_2) = j_ := ⟨_, rfl⟩
          replace H : (if x5_1.length < 17592186044416 then (impl_Assign.l0 k2 l0 l1 (x5_1 ++ [ji69]) l1 (l1.length : Int) (wrap64 (x17_1 + 1))) else (none)) = some r := by first | (rw [hji69] at H; exact H) | (simp only [hji69] at H ⊢; exact H)
          have hji69_ : (if ((rd_T49 l1 x17_1).f1) < x167000_2 then x167000_2 else ((rd_T49 l1 x17_1).f1)) = ji69 := hji69
          by_cases c70 : x5_1.length < 17592186044416
          ·rw [if_pos c70] at H
           have LMc70 := uD c70
           clear c70
           obtain ⟨y167, hy167⟩ : ∃ y_ : List Int, y_ = (x5_1 ++ [ji69]) := ⟨_, rfl⟩
           replace H : (impl_Assign.l0 k2 l0 l1 y167 l1 (l1.length : Int) (wrap64 (x17_1 + 1))) = some r := by first | (rw [hy167]; with_reducible exact H) | (have H2_ := (Option.bind_some _ _).symm.trans H; rw [hy167]; with_reducible exact H2_) | (have H2_ := (Option.bind_some _ _).symm.trans H; with_reducible exact H2_) | with_reducible exact H | (rw [hy167]; exact H) | exact H
           have Ny167 := uD hy167
           clear hy167
           have H' := uD H
           clear H
           have hnb71 := NB165_166.out
           have hnc71 := NB166_165.out
           obtain ⟨hcz72_0, hcz72_1, hfz72_0, hfz72_1⟩ := cz2 BK165
           obtain ⟨hcz73_0, hcz73_1, hcz73_2, hfz73_0, hfz73_1, hfz73_2⟩ := cz3 BK166
           go_wp2_with (first | ((with_reducible refine gate_builtin (b := .append) (xs := #[.tmp 65, .tmp 71]) rfl ?_); at_builtin; refine Kd.R_append (Kd.int .i64) (w0 := w) w.heap.size rfl (.tmp 65) (.tmp 71) 36 3 (.int .i64 0) 8 rfl Try.underlying36 info3 rfl (by decide) (by omega) u5 x5_1 ji69 [.int .i64 ji69] (fun _ => True) (fun _ => False) rfl rfl ?aP (fun _ hk => hk.elim) ?aF ?aO ?aB ?aS ?aL ?_; (case aP => exact rfl); (case aB => exact (pb HB)); (case aF => exact (fun _ _ => trivial)); (case aO => exact (pr HO_5)); (case aS => exact (uN (pb HB))); (case aL => have := LMc70.out; omega); intro v168 w74 ho hb hg hat; rw [← Ny167.out] at ho; replace BK165 := uD (blk_grown (pk BK165) hg (Kd.R_ne HO_5.out BK165.out (by decide))); replace BK166 := uD (blk_grown (pk BK166) hg (Kd.R_ne HO_5.out BK166.out (by decide))); replace HB := uD (hb); have HO169 := uD (ho); clear HO_5; clear ho hb hg hat))
           go_roundg k2
           case measure => have := HK1.out; have := HK2.out; omega
           case rel => exact ⟨(y167), (wrap64 (x17_1 + 1)), (by first | rfl | (simp; done) | (simp [*]; done)), H', ⟨by have := HK1.out; have := HK2.out; omega⟩, ⟨by (with_reducible repeat (first | apply uU | apply uS | apply uT)); exact HO169.out⟩, ⟨pb HB⟩⟩
          ·rw [if_neg c70] at H
           exact absurd H (by simp)
      ·rw [if_neg c8] at H
       exact absurd H (by simp)
     ·rw [if_neg c7] at H
      exact absurd H (by simp)
    ·rw [if_neg c6] at H
     have c6b0 : decide (x17_1 < (l1.length : Int)) = false := decide_eq_false c6
     clear c6
     obtain rfl := Option.some.inj H
     go_wp2
     go_ret
     exact ⟨_, by first | rfl | (simp [errW_none, errW_some] <;> rfl) | (simp [*, errW_none, errW_some] <;> rfl), by (with_reducible repeat (first | apply uU | apply uS | apply uT)); exact HO_5.out, pb HB⟩
 ·replace c4 := Bool.eq_false_iff.mpr c4
  subst c4
  have H1 : (some ([] : List Int)) = some r := by rw [if_neg (show ¬ (false = true) by decide)] at H; first | done | exact H
  clear H
  have H := H1
  clear H1
  obtain rfl := Option.some.inj H
  go_enter Try.func24, Try.ntmps24
  go_wp2_with (first | ((with_reducible refine gate_callee (f := 64) rfl ?_); refine goesL_ (some 13) rfl rfl Try.func64 (by kernel_rfl) rfl #[.slice A0 l0.length c0, .slice A1 l1.length c1] rfl (by (try simp only [List.map_toArray, List.map_cons, List.map_nil]); first | done | rfl | (simp only [List.length_drop, List.length_take]; rfl)) ?_; (with_reducible refine (impl_areSights.calls k _ _ l0 _ _ l1 false _ ?side1 ?side2 ?side3 ?side4 A3.out).mono ?_); (case side1 => repeat (first | exact HR0.out | (with_reducible refine Kd.C_alloc ?_ _) | (with_reducible refine Kd.C_drewN ?_ _) | (with_reducible refine Kd.C_drew ?_))); (case side2 => exact HC0.out); (case side3 => repeat (first | exact HR1.out | (with_reducible refine Kd.C_alloc ?_ _) | (with_reducible refine Kd.C_drewN ?_ _) | (with_reducible refine Kd.C_drew ?_))); (case side4 => exact HC1.out); rintro e w75 ⟨rfl, hb⟩; refine ⟨_, rfl, ?_⟩; replace HB := uD (uO (pb HB) hb); (try clear hb); (try clear hb2); (try clear hk); (try clear hi)))
  go_ret
  exact ⟨_, by first | rfl | (simp [errW_none, errW_some] <;> rfl) | (simp [*, errW_none, errW_some] <;> rfl), by first | exact Kd.R_nil _ _ _ _ _ | exact Kd.N_nil _ _ _ _ _ | exact Kd.V_nil _ _ _ _ _ | exact Kd.Q_nil _ _ _ _ _ | exact Kd.S_nil _ _ _ _ _, pb HB⟩

end Go.Proofs.Ytnnimbbffbfhoaa.PFnAssigned
