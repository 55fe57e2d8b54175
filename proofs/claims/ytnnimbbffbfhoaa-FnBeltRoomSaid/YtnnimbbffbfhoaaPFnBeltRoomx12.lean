-- Written by a program of this session (wip/myprint.py: the kit's print with changes): not by print.sh itself.
import Derived.Test.YtnnimbbffbfhoaaPFnBeltRoomx0
import Derived.Test.YtnnimbbffbfhoaaPFnBeltRoomx5
import Derived.Test.YtnnimbbffbfhoaaPFnBeltRoomx6
import Derived.Test.YtnnimbbffbfhoaaPFnBeltRoomx11
namespace Go.Proofs.Ytnnimbbffbfhoaa.PFnBeltRoom
open Go.RowKit Go.Proofs.YtnnimbbffbfhoaaW.PrintWords Go.Proofs.YtnnimbbffbfhoaaW.PrintLast Go.Proofs.YtnnimbbffbfhoaaW.PrintMore
open Go renaming Act.put → uc
open Go.Proofs.YtnnimbbffbfhoaaW.PrintWords renaming Aside0.mk → uD, pw_below_drewN → uE, blk_alloc → uG, blk_drewN → uH, blk_drew → uJ, below_drew1 → uK, below_alloc → uL, below_set → uM, below_size → uN, below_step → uO, blk_put → uP, Kd.R_drewN → uS, Kd.R_drew → uT, Kd.R_alloc → uU, Kd.R_far → uV, Kd.R_types → uW, Kd.R_mono → uX
open List renaming setIfInBounds_toArray → uA, set_cons_zero → uB, set_cons_succ → uC
attribute [local go_sem] max2_int min2_int max_two min_two max_three min_three max_four min_four   -- for this text's walks alone
set_option linter.unusedVariables false
set_option linter.unusedSimpArgs false

/-! ### impl_stepped: function 99 -/
def impl_stepped.l0 : Nat → Int → Int → Int → Int → Int → Int → Bool → List (S74) → Option (Int × (List (S74)))
 | 0, _, _, _, _, _, _, _, _ => none
 | k + 1, x3, x4, x11, x12, x395000, x395001, x395002, x395003 => if x12 < x11 then (if 0 ≤ x12 then (if x12 < (x395003.length : Int) then (if ((rd_T74 x395003 x12).f1) < x4 then ((some (x395003.set (x12 : Int).toNat (⟨(rd_T74 x395003 x12).f0, wrap64 (((rd_T74 x395003 x12).f1) + 1), (rd_T74 x395003 x12).f2⟩ : S74) : List (S74))).bind fun y398 => (impl_stepped.l0 k (wrap64 (x3 + 1)) (wrap64 ((wrap64 (((rd_T74 y398 x12).f1) - ((rd_T74 x395003 x12).f2))) - x395001)) x11 (wrap64 (x12 + 1)) x395000 x395001 x395002 y398)) else (impl_stepped.l0 k x3 (wrap64 ((wrap64 (((rd_T74 x395003 x12).f1) - ((rd_T74 x395003 x12).f2))) - x395001)) x11 (wrap64 (x12 + 1)) x395000 x395001 x395002 x395003)) else (none)) else (none)) else (some (x3, x395003))
def impl_stepped.f (k : Nat) (a0_0 : Int) (a0_1 : Int) (a0_2 : Bool) (l0_3 : List (S74)) : Option (Int × (List (S74))) := impl_stepped.l0 k 0 a0_0 (l0_3.length : Int) 0 a0_0 a0_1 a0_2 l0_3
theorem impl_stepped.mono_l : ∀ k, (∀ y0 y1 y2 y3 y4 y5 y6 y7, LeO (impl_stepped.l0 k y0 y1 y2 y3 y4 y5 y6 y7) (impl_stepped.l0 (k + 1) y0 y1 y2 y3 y4 y5 y6 y7))
 | 0 => fun _ _ _ _ _ _ _ _ r h => by simp [impl_stepped.l0] at h
 | k + 1 => by
  have ih0 := impl_stepped.mono_l k
  ·intro y0 y1 y2 y3 y4 y5 y6 y7
   unfold impl_stepped.l0
   repeat' first
   | (with_reducible exact ih0 _ _ _ _ _ _ _ _)
   | (with_reducible exact LeO.refl _)
   | (with_reducible exact LeO.none _)
   | (with_reducible refine LeO.ite ?_ ?_)
   | (with_reducible refine LeO.bind ?_ (fun _ => ?_))
   | exact ih0 _ _ _ _ _ _ _ _
   | exact LeO.none _
   | refine LeO.ite ?_ ?_
   | refine LeO.bind ?_ (fun _ => ?_)
theorem impl_stepped.mono : ∀ a0 a1 a2 a3 k, LeO (impl_stepped.f k a0 a1 a2 a3) (impl_stepped.f (k + 1) a0 a1 a2 a3) := by
 intro a0 a1 a2 a3 k
 have ih0 := impl_stepped.mono_l k
 unfold impl_stepped.f
 repeat' first
   | (with_reducible exact ih0 _ _ _ _ _ _ _ _)
   | (with_reducible exact LeO.refl _)
   | (with_reducible exact LeO.none _)
   | (with_reducible refine LeO.ite ?_ ?_)
   | (with_reducible refine LeO.bind ?_ (fun _ => ?_))
   | exact ih0 _ _ _ _ _ _ _ _
   | exact LeO.none _
   | refine LeO.ite ?_ ?_
   | refine LeO.bind ?_ (fun _ => ?_)
set_option maxHeartbeats 8000000 in
set_option maxRecDepth 100000 in
theorem impl_stepped.calls (k : Nat) (a0_0 : Int) (a0_1 : Int) (a0_2 : Bool) (P0_3_ : Nat → Prop) (u9000_ : Value) (l0_3 : List (S74)) (r1 : Int) (r2 : List (S74)) (w0 w : World) (hB : Below w0.heap.size w0 w) (ho0_3 : Kd.Q k74 74 w w0.heap.size P0_3_ u9000_ l0_3) (h : impl_stepped.f k a0_0 a0_1 a0_2 l0_3 = some (r1, r2)) :
  Calls Try.prog 99 #[.agg #[.int .i64 a0_0, .int .i64 a0_1, .bool a0_2, u9000_]] w fun e w' => e = .returned (.int .i64 r1) ∧ Kd.Q k74 74 w' w0.heap.size (fun k_ => (P0_3_ k_ ∨ w.heap.size ≤ k_)) u9000_ r2 ∧ Below w0.heap.size w0 w' ∧ Kept w w' (fun k_ => P0_3_ k_) := by
 have hu63 := Try.underlying63
 have hu74 := Try.underlying74
 have HO0_3 := uD (show Kd.Q k74 74 w w0.heap.size (fun k_ => (P0_3_ k_ ∨ w.heap.size ≤ k_)) u9000_ l0_3 from Kd.Q_mono ho0_3 (fun k_ hk => (.inl hk)))
 have HK := uD (Kept.refl w (fun k_ => P0_3_ k_))
 have HW0 := uD hB.size
 have HB := uD hB
 clear hB
 have H : (impl_stepped.l0 k 0 a0_0 (l0_3.length : Int) 0 a0_0 a0_1 a0_2 l0_3) = some (r1, r2) := h
 clear h
 have H' := uD H
 clear H
 obtain ⟨Ao2, co2, eo2, _⟩ := Kd.Q_slice HO0_3.out
 subst eo2
 go_enter Try.func99, Try.ntmps99
 go_wp2_with (first | ((with_reducible refine gate_dst (N := 1) rfl ?_); refine box_event ?hg (N := 1) ?hd (cs := #[.int .i64 a0_0, .int .i64 a0_1, .bool a0_2, .slice Ao2 l0_3.length co2]) (t := 63) ?hr ?_; (case hd => rfl); (case hg => rfl); (case hr => first | (go_simp; done) | (go_simp; rfl)); intro gb394 hg w3 hbox hb; replace HO0_3 := uD (Kd.Q_below (pq HO0_3) hb); have BK394 := uD (hbox); have GW394 := uD ((by rw [hg]; exact (by first | exact HK.out.1 | exact (show Kept w _ (fun k_ => P0_3_ k_) from by repeat (first | (with_reducible first | exact HK.out | apply Kept.alloc | apply Kept.drewN | apply Kept.drew) | exact HK.out)).1) : w.heap.size ≤ gb394)); replace HK := uD (Kept.below (S := (fun k_ => P0_3_ k_)) (by repeat (first | (with_reducible first | exact HK.out | apply Kept.alloc | apply Kept.drewN | apply Kept.drew) | exact HK.out)) hb); have GE394 := uD ((by rw [hg]; exact (uN (pb HB)) : w0.heap.size ≤ gb394)); replace HB := uD (uO (pb HB) hb); clear hb hbox hg; obtain ⟨hcz4_0, hcz4_1, hcz4_2, hcz4_3, hfz4_0, hfz4_1, hfz4_2, hfz4_3⟩ := cz4 BK394))
 repeat (go_quiet (first | ((with_reducible refine gate_dst (N := 1) rfl ?_); refine box_event ?hg (N := 1) ?hd (cs := #[.int .i64 a0_0, .int .i64 a0_1, .bool a0_2, .slice Ao2 l0_3.length co2]) (t := 63) ?hr ?_; (case hd => rfl); (case hg => rfl); (case hr => first | (go_simp; done) | (go_simp; rfl)); intro gb394 hg w3 hbox hb; replace HO0_3 := uD (Kd.Q_below (pq HO0_3) hb); have BK394 := uD (hbox); have GW394 := uD ((by rw [hg]; exact (by first | exact HK.out.1 | exact (show Kept w _ (fun k_ => P0_3_ k_) from by repeat (first | (with_reducible first | exact HK.out | apply Kept.alloc | apply Kept.drewN | apply Kept.drew) | exact HK.out)).1) : w.heap.size ≤ gb394)); replace HK := uD (Kept.below (S := (fun k_ => P0_3_ k_)) (by repeat (first | (with_reducible first | exact HK.out | apply Kept.alloc | apply Kept.drewN | apply Kept.drew) | exact HK.out)) hb); have GE394 := uD ((by rw [hg]; exact (uN (pb HB)) : w0.heap.size ≤ gb394)); replace HB := uD (uO (pb HB) hb); clear hb hbox hg; obtain ⟨hcz4_0, hcz4_1, hcz4_2, hcz4_3, hfz4_0, hfz4_1, hfz4_2, hfz4_3⟩ := cz4 BK394)); try go_wp2_with (first | ((with_reducible refine gate_dst (N := 1) rfl ?_); refine box_event ?hg (N := 1) ?hd (cs := #[.int .i64 a0_0, .int .i64 a0_1, .bool a0_2, .slice Ao2 l0_3.length co2]) (t := 63) ?hr ?_; (case hd => rfl); (case hg => rfl); (case hr => first | (go_simp; done) | (go_simp; rfl)); intro gb394 hg w3 hbox hb; replace HO0_3 := uD (Kd.Q_below (pq HO0_3) hb); have BK394 := uD (hbox); have GW394 := uD ((by rw [hg]; exact (by first | exact HK.out.1 | exact (show Kept w _ (fun k_ => P0_3_ k_) from by repeat (first | (with_reducible first | exact HK.out | apply Kept.alloc | apply Kept.drewN | apply Kept.drew) | exact HK.out)).1) : w.heap.size ≤ gb394)); replace HK := uD (Kept.below (S := (fun k_ => P0_3_ k_)) (by repeat (first | (with_reducible first | exact HK.out | apply Kept.alloc | apply Kept.drewN | apply Kept.drew) | exact HK.out)) hb); have GE394 := uD ((by rw [hg]; exact (uN (pb HB)) : w0.heap.size ≤ gb394)); replace HB := uD (uO (pb HB) hb); clear hb hbox hg; obtain ⟨hcz4_0, hcz4_1, hcz4_2, hcz4_3, hfz4_0, hfz4_1, hfz4_2, hfz4_3⟩ := cz4 BK394)))
 go_loopg [3, 4, 12] k (fun kq v3 v4 v12 w' => ∃ (x3_1 : Int) (x4_1 : Int) (x12_1 : Int) (x395003_1 : List (S74)), v3 = .int .i64 x3_1 ∧ v4 = .int .i64 x4_1 ∧ v12 = .int .i64 x12_1 ∧ Aside0 (impl_stepped.l0 kq x3_1 x4_1 (l0_3.length : Int) x12_1 a0_0 a0_1 a0_2 x395003_1 = some (r1, r2)) ∧ Aside0 (kq ≤ k) ∧ Aside0 (Kd.Q k74 74 w' w0.heap.size (fun k_ => (P0_3_ k_ ∨ w.heap.size ≤ k_)) (.slice Ao2 l0_3.length co2) x395003_1) ∧ Aside0 (w'.heap[gb394]? = some (.cells #[.int .i64 a0_0, .int .i64 a0_1, .bool a0_2, (.slice Ao2 l0_3.length co2)] 63 (0, 0))) ∧ Aside0 (Kept w w' (fun k_ => P0_3_ k_)) ∧ Aside0 (Below w0.heap.size w0 w'))
 case atStart => exact ⟨(0), (a0_0), (0), (l0_3), (by first | rfl | (simp; done) | (simp [*]; done)), (by first | rfl | (simp; done) | (simp [*]; done)), (by first | rfl | (simp; done) | (simp [*]; done)), H', ⟨Nat.le_refl _⟩, ⟨by (with_reducible repeat (first | apply Kd.Q_alloc | apply Kd.Q_drewN | apply Kd.Q_drew)); exact HO0_3.out⟩, ⟨by (with_reducible repeat first|apply uH|apply uJ|apply uG); exact BK394.out⟩, ⟨by repeat (first | (with_reducible first | exact HK.out | apply Kept.alloc | apply Kept.drewN | apply Kept.drew | refine Kept.setCell ?_ (.inr GW394.out) _) | exact HK.out)⟩, ⟨pb HB⟩⟩
 case round =>
  clear H'
  try clear p2
  try clear hcz4_0
  try clear hcz4_1
  try clear hcz4_2
  try clear hcz4_3
  try clear hfz4_0
  try clear hfz4_1
  try clear hfz4_2
  try clear hfz4_3
  obtain ⟨x3_1, x4_1, x12_1, x395003_1, rfl, rfl, rfl, HA, HK1, HO_395003, BK394, HK, HB⟩ := hrel
  have hl395003_1 := (Kd.Q_reads' HO_395003.out).1
  rw [hl395003_1] at HO_395003
  (try simp only [hl395003_1])
  (try simp only [hl395003_1] at BK394)
  cases gk with
  | zero => exact absurd HA.out (by simp [impl_stepped.l0])
  | succ k1 =>
   have H := HA.out
   clear HA
   simp only [impl_stepped.l0] at H
   by_cases c5 : x12_1 < (l0_3.length : Int)
   ·rw [if_pos c5] at H
    have c5b0 : decide (x12_1 < (l0_3.length : Int)) = true := decide_eq_true c5
    (try simp only [hl395003_1] at c5b0)
    clear c5
    by_cases c6 : 0 ≤ x12_1
    ·rw [if_pos c6] at H
     have c6b0 : decide (0 ≤ x12_1) = true := decide_eq_true c6
     clear c6
     by_cases c7 : x12_1 < (x395003_1.length : Int)
     ·rw [if_pos c7] at H
      have c7b0 : decide (x12_1 < (x395003_1.length : Int)) = true := decide_eq_true c7
      (try simp only [hl395003_1] at c7b0)
      clear c7
      by_cases c8 : ((rd_T74 x395003_1 x12_1).f1) < x4_1
      ·rw [if_pos c8] at H
       have c8b0 : decide (((rd_T74 x395003_1 x12_1).f1) < x4_1) = true := decide_eq_true c8
       clear c8
       obtain ⟨y398, hy398⟩ : ∃ y_ : List (S74), y_ = (x395003_1.set (x12_1 : Int).toNat (⟨(rd_T74 x395003_1 x12_1).f0, wrap64 (((rd_T74 x395003_1 x12_1).f1) + 1), (rd_T74 x395003_1 x12_1).f2⟩ : S74)) := ⟨_, rfl⟩
       replace H : (impl_stepped.l0 k1 (wrap64 (x3_1 + 1)) (wrap64 ((wrap64 (((rd_T74 y398 x12_1).f1) - ((rd_T74 x395003_1 x12_1).f2))) - a0_1)) (l0_3.length : Int) (wrap64 (x12_1 + 1)) a0_0 a0_1 a0_2 y398) = some (r1, r2) := by first | (rw [hy398]; with_reducible exact H) | (have H2_ := (Option.bind_some _ _).symm.trans H; rw [hy398]; with_reducible exact H2_) | (have H2_ := (Option.bind_some _ _).symm.trans H; with_reducible exact H2_) | with_reducible exact H | (rw [hy398]; exact H) | exact H
       have Ny398 := uD hy398
       clear hy398
       have H' := uD H
       clear H
       have p395 : 0 ≤ (x12_1 : Int) := of_decide_eq_true (by first | (with_reducible assumption) | assumption)
       have q395 : x12_1 < (x395003_1.length : Int) := of_decide_eq_true (by first | (with_reducible assumption) | assumption)
       obtain ⟨ad395, e395, hx395_0, hx395_1, hx395_2⟩ := at_T74 (Kd.Q_reads' HO_395003.out).2.2 x12_1 p395 q395
       cases e395
       replace p395 := eq_true p395
       replace q395 := eq_true q395
       go_wp2_with (first | ((with_reducible refine gate_dst (N := 6) rfl ?_); refine box_event ?hg (N := 6) ?hd (cs := #[.int .i64 0, .int .i64 0, .int .i64 0]) (t := 74) ?hr ?_; (case hd => rfl); (case hg => rfl); (case hr => first | (go_simp; done) | (go_simp; rfl)); intro gb396 hg w10 hbox hb; replace HO_395003 := uD (Kd.Q_below (Kd.Q_elderB (pq HO_395003) gb396 (Nat.le_of_eq hg.symm)) hb); have BK396 := uD (hbox); have GW396 := uD ((by rw [hg]; exact (by first | exact HK.out.1 | exact (show Kept w _ (fun k_ => P0_3_ k_) from by repeat (first | (with_reducible first | exact HK.out | apply Kept.alloc | apply Kept.drewN | apply Kept.drew | refine Kept.setCell ?_ (.inr GW394.out) _) | exact HK.out)).1) : w.heap.size ≤ gb396)); replace HK := uD (Kept.below (S := (fun k_ => P0_3_ k_)) (by repeat (first | (with_reducible first | exact HK.out | apply Kept.alloc | apply Kept.drewN | apply Kept.drew | refine Kept.setCell ?_ (.inr GW394.out) _) | exact HK.out)) hb); have GE396 := uD ((by rw [hg]; exact (uN (pb HB)) : w0.heap.size ≤ gb396)); replace HB := uD (uO (pb HB) hb); have NB394_396 := uD ((by rw [hg]; exact Nat.ne_of_lt (blk_lt (pk BK394)) : gb394 ≠ gb396)); have NB396_394 := uD ((by rw [hg]; exact Nat.ne_of_gt (blk_lt (pk BK394)) : gb396 ≠ gb394)); replace BK394 := uD (blk_below (pk BK394) hb); clear hb hbox hg; have hnb11 := NB396_394.out; have hnc11 := NB394_396.out; obtain ⟨hcz12_0, hcz12_1, hcz12_2, hfz12_0, hfz12_1, hfz12_2⟩ := cz3 BK396) | ((with_reducible refine gate_store (t := 74) (p := 6) rfl ?_); (try (rw [drewN_self w10]; generalize hq_ : World.drewN w10 _ = w10; have n0_ := uD (Kd.Q_at hq_ HO_395003.out); have n1_ := uD (blk_at hq_ BK394.out); have n2_ := uD (blk_at hq_ BK396.out); have n3_ := uD (kept_at hq_ HK.out); have n4_ := uD (below_at hq_ HB.out); clear hq_ HO_395003 BK394 BK396 HK HB; have HO_395003 := n0_; have BK394 := n1_; have BK396 := n2_; have HK := n3_; have HB := n4_; clear n0_ n1_ n2_ n3_ n4_)); refine store_event (t := 74) (p := 6) (v := ?vo_w13) (w1 := (((w10.setCell ⟨gb396, 0, none⟩ (.int .i64 ((rd_T74 x395003_1 x12_1).f0))).setCell ⟨gb396, 1, none⟩ (.int .i64 ((rd_T74 x395003_1 x12_1).f1))).setCell ⟨gb396, 2, none⟩ (.int .i64 ((rd_T74 x395003_1 x12_1).f2)))) ?hg ?ho ?hn ?hr ?_; (case ho => rfl); (case hg => rfl); (case hn => rfl); (case hr => first | (go_simp; done) | (go_simp; rfl)); intro w13 hw; have n0_ : Aside0 (Kd.Q k74 74 w13 w0.heap.size (fun k_ => (P0_3_ k_ ∨ w.heap.size ≤ k_) ∧ k_ ≠ gb396) (.slice (some ad395) x395003_1.length co2) x395003_1) := ⟨(by rw [hw]; exact (by (with_reducible repeat (first | apply Kd.Q_alloc | apply Kd.Q_drewN | apply Kd.Q_drew)); exact Kd.Q_mono (Kd.Q_far (p := ⟨gb396, 2, none⟩) (Kd.Q_far (p := ⟨gb396, 1, none⟩) (Kd.Q_far (p := ⟨gb396, 0, none⟩) (Kd.Q_mono HO_395003.out (fun k_ hk => (⟨hk, hk.2⟩ : _ ∧ k_ ≠ gb396))) (fun _ hk => hk.2) (.int .i64 ((rd_T74 x395003_1 x12_1).f0))) (fun _ hk => hk.2) (.int .i64 ((rd_T74 x395003_1 x12_1).f1))) (fun _ hk => hk.2) (.int .i64 ((rd_T74 x395003_1 x12_1).f2))) (fun _ hk => ⟨hk.1.1, hk.1.2⟩)))⟩; have n1_ : Aside0 (w13.heap[gb394]? = some (.cells #[.int .i64 a0_0, .int .i64 a0_1, .bool a0_2, .slice (some ad395) x395003_1.length co2] 63 (0, 0))) := ⟨(by rw [hw]; exact (by exact ps BK394))⟩; have n2_ : Aside0 (w13.heap[gb396]? = some (.cells #[.int .i64 ((rd_T74 x395003_1 x12_1).f0), .int .i64 ((rd_T74 x395003_1 x12_1).f1), .int .i64 ((rd_T74 x395003_1 x12_1).f2)] 74 (0, 0))) := ⟨(by rw [hw]; exact (by (with_reducible repeat first|apply uH|apply uJ|apply uG); refine uP (cs := #[.int .i64 ((rd_T74 x395003_1 x12_1).f0), .int .i64 ((rd_T74 x395003_1 x12_1).f1), .int .i64 0]) ?_ 2 _ rfl; (with_reducible repeat first|apply uH|apply uJ|apply uG); refine uP (cs := #[.int .i64 ((rd_T74 x395003_1 x12_1).f0), .int .i64 0, .int .i64 0]) ?_ 1 _ rfl; (with_reducible repeat first|apply uH|apply uJ|apply uG); refine uP (cs := #[.int .i64 0, .int .i64 0, .int .i64 0]) ?_ 0 _ rfl; (with_reducible repeat first|apply uH|apply uJ|apply uG); exact BK396.out))⟩; have n3_ : Aside0 (Kept w w13 (fun k_ => P0_3_ k_)) := ⟨(by rw [hw]; exact (by repeat (first | (with_reducible first | exact HK.out | apply Kept.alloc | apply Kept.drewN | apply Kept.drew | refine Kept.setCell ?_ (.inr GW394.out) _ | refine Kept.setCell ?_ (.inr GW396.out) _) | exact HK.out)))⟩; have n4_ : Aside0 (Below w0.heap.size w0 w13) := ⟨(by rw [hw]; exact (pb HB))⟩; clear hw; clear HO_395003; clear BK394; clear BK396; clear HK; clear HB; have HO_395003 := n0_; have BK394 := n1_; have BK396 := n2_; have HK := n3_; have HB := n4_; clear n0_ n1_ n2_ n3_ n4_; obtain ⟨hcz14_0, hcz14_1, hcz14_2, hfz14_0, hfz14_1, hfz14_2⟩ := cz3 BK396; obtain ⟨hcz15_0, hcz15_1, hcz15_2, hcz15_3, hfz15_0, hfz15_1, hfz15_2, hfz15_3⟩ := cz4 BK394; have p397 : 0 ≤ (x12_1 : Int) := of_decide_eq_true (by first | (with_reducible assumption) | assumption); have q397 : x12_1 < (x395003_1.length : Int) := of_decide_eq_true (by first | (with_reducible assumption) | assumption); obtain ⟨ad397, e397, hx397_0, hx397_1, hx397_2⟩ := at_T74 (Kd.Q_reads' HO_395003.out).2.2 x12_1 p397 q397; obtain rfl : ad395 = ad397 := (by injection e397); replace p397 := eq_true p397; replace q397 := eq_true q397; have p9 : 0 ≤ (x12_1 : Int) := of_decide_eq_true (by first | (with_reducible assumption) | assumption); have q9 : (x12_1 : Int) < ((x395003_1.length : Int) : Int) := of_decide_eq_true (by first | (with_reducible assumption) | assumption); obtain ⟨go9, oo9, co9, eo9, gb9, gl9, cl9, HG9⟩ := Kd.Q_form HO_395003.out (by omega); (first | cases eo9 | (injection eo9 with ea_ en_ ec_; (first | subst ea_ | (injection ea_ with ea_; subst ea_)); subst ec_; clear en_)); have GB9 := uD gb9; have GG9 := uD HG9; clear gb9 gl9 HG9; have HMgo9 := uD (show (P0_3_ go9 ∨ w.heap.size ≤ go9) from (HO_395003.out.1 _ rfl).1); (first | simp only [add_at] at hx395_0 | skip); (first | simp only [add_at] at hx395_1 | skip); (first | simp only [add_at] at hx395_2 | skip); (first | simp only [add_at] at hx397_0 | skip); (first | simp only [add_at] at hx397_1 | skip); (first | simp only [add_at] at hx397_2 | skip); obtain ⟨ce9, hcl9, hM9, hcc9, hfr9⟩ := Kd.Q_elem HO_395003.out z74 (x12_1 : Int) p9 q9; obtain rfl := k74_openM hM9; have hx9_0 : w13.cell? ⟨go9, oo9 + (x12_1 : Int).toNat * 3, none⟩ = some (.int .i64 ((rd_T74 x395003_1 x12_1).f0)) := hcc9 0 _ rfl; have hx9_1 : w13.cell? ⟨go9, oo9 + (x12_1 : Int).toNat * 3 + 1, none⟩ = some (.int .i64 ((rd_T74 x395003_1 x12_1).f1)) := hcc9 1 _ rfl; have hx9_2 : w13.cell? ⟨go9, oo9 + (x12_1 : Int).toNat * 3 + 2, none⟩ = some (.int .i64 ((rd_T74 x395003_1 x12_1).f2)) := hcc9 2 _ rfl; have hf9_0 : w13.frozen? ⟨go9, oo9 + (x12_1 : Int).toNat * 3, none⟩ = false := hfr9 0; have hf9_1 : w13.frozen? ⟨go9, oo9 + (x12_1 : Int).toNat * 3 + 1, none⟩ = false := hfr9 1; have hf9_2 : w13.frozen? ⟨go9, oo9 + (x12_1 : Int).toNat * 3 + 2, none⟩ = false := hfr9 2; clear hcl9 hcc9 hfr9 hM9; replace p9 := eq_true p9; replace q9 := eq_true q9; have HX16 := uD (show Kd.Q k74 74 w13 w0.heap.size (fun k_ => (P0_3_ k_ ∨ w.heap.size ≤ k_) ∧ k_ ≠ gb396) (.slice (some ⟨go9, oo9, none⟩) x395003_1.length co2) x395003_1 from (pq HO_395003)); obtain ⟨ce16, hcl16, hM16, hcc16, hfr16⟩ := Kd.Q_elem HX16.out z74 (x12_1 : Int) (of_decide_eq_true (by first | (with_reducible assumption) | assumption)) (by have h_ : (x12_1 : Int) < ((x395003_1.length : Int) : Int) := of_decide_eq_true (by first | (with_reducible assumption) | assumption); first | exact h_ | (have e_ := (Kd.Q_reads' HO_395003.out).1; omega) | simpa using h_); obtain rfl := k74_openM hM16; have HP16 := Kd.Q_seg HX16.out (x12_1 : Int) (of_decide_eq_true (by first | (with_reducible assumption) | assumption)) (by have h_ : (x12_1 : Int) < ((x395003_1.length : Int) : Int) := of_decide_eq_true (by first | (with_reducible assumption) | assumption); first | exact h_ | (have e_ := (Kd.Q_reads' HO_395003.out).1; omega) | simpa using h_) (seg := [.int .i64 (wrap64 (((rd_T74 x395003_1 x12_1).f1) + 1))]) (j := 1) hcl16 hcc16 (show 2 ≤ 3 from by decide) (x' := (⟨(rd_T74 x395003_1 x12_1).f0, wrap64 (((rd_T74 x395003_1 x12_1).f1) + 1), (rd_T74 x395003_1 x12_1).f2⟩ : S74)) (k74_mkM _ _ _ (⟨(rd_T74 x395003_1 x12_1).f0, wrap64 (((rd_T74 x395003_1 x12_1).f1) + 1), (rd_T74 x395003_1 x12_1).f2⟩ : S74) ) (fun _ hk => hk); have hx16_1 := hcc16 1 _ rfl; (try simp only [show (k74).sz = 3 from rfl, Nat.mul_one, Nat.add_zero] at hx16_1); have hf16_1 := hfr16 1; (try simp only [show (k74).sz = 3 from rfl, Nat.mul_one, Nat.add_zero] at hf16_1); clear hcl16 hcc16 hfr16 hM16) | ((with_reducible refine gate_store (t := 3) (p := 29) rfl ?_); (try (rw [drewN_self w13]; generalize hq_ : World.drewN w13 _ = w13; have n0_ := uD (Kd.Q_at hq_ HO_395003.out); have n1_ := uD (blk_at hq_ BK394.out); have n2_ := uD (blk_at hq_ BK396.out); have n3_ := uD (kept_at hq_ HK.out); have n4_ := uD (below_at hq_ HB.out); clear hq_ HO_395003 BK394 BK396 HK HB; have HO_395003 := n0_; have BK394 := n1_; have BK396 := n2_; have HK := n3_; have HB := n4_; clear n0_ n1_ n2_ n3_ n4_; (try (have HX16 := uD (show Kd.Q k74 74 w13 w0.heap.size (fun k_ => (P0_3_ k_ ∨ w.heap.size ≤ k_) ∧ k_ ≠ gb396) (.slice (some ⟨go9, oo9, none⟩) x395003_1.length co2) x395003_1 from (pq HO_395003)))); (try (obtain ⟨ce16, hcl16, hM16, hcc16, hfr16⟩ := Kd.Q_elem HX16.out z74 (x12_1 : Int) (of_decide_eq_true (by first | (with_reducible assumption) | assumption)) (by have h_ : (x12_1 : Int) < ((x395003_1.length : Int) : Int) := of_decide_eq_true (by first | (with_reducible assumption) | assumption); first | exact h_ | (have e_ := (Kd.Q_reads' HO_395003.out).1; omega) | simpa using h_))); (try (obtain rfl := k74_openM hM16)); (try (have HP16 := Kd.Q_seg HX16.out (x12_1 : Int) (of_decide_eq_true (by first | (with_reducible assumption) | assumption)) (by have h_ : (x12_1 : Int) < ((x395003_1.length : Int) : Int) := of_decide_eq_true (by first | (with_reducible assumption) | assumption); first | exact h_ | (have e_ := (Kd.Q_reads' HO_395003.out).1; omega) | simpa using h_) (seg := [.int .i64 (wrap64 (((rd_T74 x395003_1 x12_1).f1) + 1))]) (j := 1) hcl16 hcc16 (show 2 ≤ 3 from by decide) (x' := (⟨(rd_T74 x395003_1 x12_1).f0, wrap64 (((rd_T74 x395003_1 x12_1).f1) + 1), (rd_T74 x395003_1 x12_1).f2⟩ : S74)) (k74_mkM _ _ _ (⟨(rd_T74 x395003_1 x12_1).f0, wrap64 (((rd_T74 x395003_1 x12_1).f1) + 1), (rd_T74 x395003_1 x12_1).f2⟩ : S74) ) (fun _ hk => hk))); (try (have hx16_1 := hcc16 1 _ rfl)); (try (try simp only [show (k74).sz = 3 from rfl, Nat.mul_one, Nat.add_zero] at hx16_1)); (try (have hf16_1 := hfr16 1)); (try (try simp only [show (k74).sz = 3 from rfl, Nat.mul_one, Nat.add_zero] at hf16_1)); (try (clear hcl16 hcc16 hfr16 hM16)))); refine store_event (t := 3) (p := 29) (v := ?vo_w17) (w1 := (w13.setCell ⟨go9, oo9 + (x12_1 : Int).toNat * 3 + 1, none⟩ (.int .i64 (wrap64 (((rd_T74 x395003_1 x12_1).f1) + 1))))) ?hg ?ho ?hn ?hr ?_; (case ho => rfl); (case hg => rfl); (case hn => rfl); (case hr => first | (go_simp; done) | (go_simp; rfl)); intro w17 hw; have hg : w13.grownBy w17 (some go9) := (by rw [hw]; exact HP16.2); have hp_ : Kd.Q k74 74 w17 w0.heap.size (fun k_ => (P0_3_ k_ ∨ w.heap.size ≤ k_) ∧ k_ ≠ gb396) (.slice (some ⟨go9, oo9, none⟩) x395003_1.length co2) y398 := (by rw [hw, Ny398.out]; exact HP16.1); clear HP16; replace BK394 := uD (blk_grown (pk BK394) hg (Kd.Q_ne HO_395003.out BK394.out (by decide))); replace BK396 := uD (blk_grown (pk BK396) hg (Kd.Q_away HO_395003.out (fun _ hk => hk.2))); replace HB := uD ((by rw [hw]; exact uM (HB.out) GB9.out : Below w0.heap.size w0 w17)); replace HK := uD (Kept.of_grown (S := (fun k_ => P0_3_ k_)) hg (by repeat (first | (with_reducible first | exact HK.out | apply Kept.alloc | apply Kept.drewN | apply Kept.drew | refine Kept.setCell ?_ (.inr GW394.out) _ | refine Kept.setCell ?_ (.inr GW396.out) _) | exact HK.out)) (fun k_ e_ => (HO_395003.out.1 k_ e_).1)); replace HO_395003 := uD (hp_); clear hg hw hp_; obtain ⟨hcz18_0, hcz18_1, hcz18_2, hcz18_3, hfz18_0, hfz18_1, hfz18_2, hfz18_3⟩ := cz4 BK394; have p399 : 0 ≤ (x12_1 : Int) := of_decide_eq_true (by first | (with_reducible assumption) | assumption); have q399 : x12_1 < (y398.length : Int) := (by have h_ : (x12_1 : Int) < ((x395003_1.length : Int) : Int) := of_decide_eq_true (by first | (with_reducible assumption) | assumption); first | (have e_ := (Kd.Q_reads' HO_395003.out).1; omega) | simpa only [Ny398.out, List.length_set] using h_); have ql399 : ((x12_1 : Int) < ((x395003_1.length : Int) : Int)) = True := eq_true (of_decide_eq_true (by first | (with_reducible assumption) | assumption)); obtain ⟨ad399, e399, hx399_0, hx399_1, hx399_2⟩ := at_T74 (Kd.Q_reads' HO_395003.out).2.2 x12_1 p399 q399; obtain rfl : (⟨go9, oo9, none⟩ : Addr) = ad399 := (by injection e399); (first | simp only [add_plain] at hx399_0 | simp only [add_at] at hx399_0 | simp only [Addr.add, Nat.zero_add] at hx399_0 | skip); (first | simp only [add_plain] at hx399_1 | simp only [add_at] at hx399_1 | simp only [Addr.add, Nat.zero_add] at hx399_1 | skip); (first | simp only [add_plain] at hx399_2 | simp only [add_at] at hx399_2 | simp only [Addr.add, Nat.zero_add] at hx399_2 | skip); replace p399 := eq_true p399; replace q399 := eq_true q399; obtain ⟨hcz19_0, hcz19_1, hcz19_2, hfz19_0, hfz19_1, hfz19_2⟩ := cz3 BK396))
       repeat (go_quiet (first | ((with_reducible refine gate_dst (N := 6) rfl ?_); refine box_event ?hg (N := 6) ?hd (cs := #[.int .i64 0, .int .i64 0, .int .i64 0]) (t := 74) ?hr ?_; (case hd => rfl); (case hg => rfl); (case hr => first | (go_simp; done) | (go_simp; rfl)); intro gb396 hg w10 hbox hb; replace HO_395003 := uD (Kd.Q_below (Kd.Q_elderB (pq HO_395003) gb396 (Nat.le_of_eq hg.symm)) hb); have BK396 := uD (hbox); have GW396 := uD ((by rw [hg]; exact (by first | exact HK.out.1 | exact (show Kept w _ (fun k_ => P0_3_ k_) from by repeat (first | (with_reducible first | exact HK.out | apply Kept.alloc | apply Kept.drewN | apply Kept.drew | refine Kept.setCell ?_ (.inr GW394.out) _) | exact HK.out)).1) : w.heap.size ≤ gb396)); replace HK := uD (Kept.below (S := (fun k_ => P0_3_ k_)) (by repeat (first | (with_reducible first | exact HK.out | apply Kept.alloc | apply Kept.drewN | apply Kept.drew | refine Kept.setCell ?_ (.inr GW394.out) _) | exact HK.out)) hb); have GE396 := uD ((by rw [hg]; exact (uN (pb HB)) : w0.heap.size ≤ gb396)); replace HB := uD (uO (pb HB) hb); have NB394_396 := uD ((by rw [hg]; exact Nat.ne_of_lt (blk_lt (pk BK394)) : gb394 ≠ gb396)); have NB396_394 := uD ((by rw [hg]; exact Nat.ne_of_gt (blk_lt (pk BK394)) : gb396 ≠ gb394)); replace BK394 := uD (blk_below (pk BK394) hb); clear hb hbox hg; have hnb11 := NB396_394.out; have hnc11 := NB394_396.out; obtain ⟨hcz12_0, hcz12_1, hcz12_2, hfz12_0, hfz12_1, hfz12_2⟩ := cz3 BK396) | ((with_reducible refine gate_store (t := 74) (p := 6) rfl ?_); (try (rw [drewN_self w10]; generalize hq_ : World.drewN w10 _ = w10; have n0_ := uD (Kd.Q_at hq_ HO_395003.out); have n1_ := uD (blk_at hq_ BK394.out); have n2_ := uD (blk_at hq_ BK396.out); have n3_ := uD (kept_at hq_ HK.out); have n4_ := uD (below_at hq_ HB.out); clear hq_ HO_395003 BK394 BK396 HK HB; have HO_395003 := n0_; have BK394 := n1_; have BK396 := n2_; have HK := n3_; have HB := n4_; clear n0_ n1_ n2_ n3_ n4_)); refine store_event (t := 74) (p := 6) (v := ?vo_w13) (w1 := (((w10.setCell ⟨gb396, 0, none⟩ (.int .i64 ((rd_T74 x395003_1 x12_1).f0))).setCell ⟨gb396, 1, none⟩ (.int .i64 ((rd_T74 x395003_1 x12_1).f1))).setCell ⟨gb396, 2, none⟩ (.int .i64 ((rd_T74 x395003_1 x12_1).f2)))) ?hg ?ho ?hn ?hr ?_; (case ho => rfl); (case hg => rfl); (case hn => rfl); (case hr => first | (go_simp; done) | (go_simp; rfl)); intro w13 hw; have n0_ : Aside0 (Kd.Q k74 74 w13 w0.heap.size (fun k_ => (P0_3_ k_ ∨ w.heap.size ≤ k_) ∧ k_ ≠ gb396) (.slice (some ad395) x395003_1.length co2) x395003_1) := ⟨(by rw [hw]; exact (by (with_reducible repeat (first | apply Kd.Q_alloc | apply Kd.Q_drewN | apply Kd.Q_drew)); exact Kd.Q_mono (Kd.Q_far (p := ⟨gb396, 2, none⟩) (Kd.Q_far (p := ⟨gb396, 1, none⟩) (Kd.Q_far (p := ⟨gb396, 0, none⟩) (Kd.Q_mono HO_395003.out (fun k_ hk => (⟨hk, hk.2⟩ : _ ∧ k_ ≠ gb396))) (fun _ hk => hk.2) (.int .i64 ((rd_T74 x395003_1 x12_1).f0))) (fun _ hk => hk.2) (.int .i64 ((rd_T74 x395003_1 x12_1).f1))) (fun _ hk => hk.2) (.int .i64 ((rd_T74 x395003_1 x12_1).f2))) (fun _ hk => ⟨hk.1.1, hk.1.2⟩)))⟩; have n1_ : Aside0 (w13.heap[gb394]? = some (.cells #[.int .i64 a0_0, .int .i64 a0_1, .bool a0_2, .slice (some ad395) x395003_1.length co2] 63 (0, 0))) := ⟨(by rw [hw]; exact (by exact ps BK394))⟩; have n2_ : Aside0 (w13.heap[gb396]? = some (.cells #[.int .i64 ((rd_T74 x395003_1 x12_1).f0), .int .i64 ((rd_T74 x395003_1 x12_1).f1), .int .i64 ((rd_T74 x395003_1 x12_1).f2)] 74 (0, 0))) := ⟨(by rw [hw]; exact (by (with_reducible repeat first|apply uH|apply uJ|apply uG); refine uP (cs := #[.int .i64 ((rd_T74 x395003_1 x12_1).f0), .int .i64 ((rd_T74 x395003_1 x12_1).f1), .int .i64 0]) ?_ 2 _ rfl; (with_reducible repeat first|apply uH|apply uJ|apply uG); refine uP (cs := #[.int .i64 ((rd_T74 x395003_1 x12_1).f0), .int .i64 0, .int .i64 0]) ?_ 1 _ rfl; (with_reducible repeat first|apply uH|apply uJ|apply uG); refine uP (cs := #[.int .i64 0, .int .i64 0, .int .i64 0]) ?_ 0 _ rfl; (with_reducible repeat first|apply uH|apply uJ|apply uG); exact BK396.out))⟩; have n3_ : Aside0 (Kept w w13 (fun k_ => P0_3_ k_)) := ⟨(by rw [hw]; exact (by repeat (first | (with_reducible first | exact HK.out | apply Kept.alloc | apply Kept.drewN | apply Kept.drew | refine Kept.setCell ?_ (.inr GW394.out) _ | refine Kept.setCell ?_ (.inr GW396.out) _) | exact HK.out)))⟩; have n4_ : Aside0 (Below w0.heap.size w0 w13) := ⟨(by rw [hw]; exact (pb HB))⟩; clear hw; clear HO_395003; clear BK394; clear BK396; clear HK; clear HB; have HO_395003 := n0_; have BK394 := n1_; have BK396 := n2_; have HK := n3_; have HB := n4_; clear n0_ n1_ n2_ n3_ n4_; obtain ⟨hcz14_0, hcz14_1, hcz14_2, hfz14_0, hfz14_1, hfz14_2⟩ := cz3 BK396; obtain ⟨hcz15_0, hcz15_1, hcz15_2, hcz15_3, hfz15_0, hfz15_1, hfz15_2, hfz15_3⟩ := cz4 BK394; have p397 : 0 ≤ (x12_1 : Int) := of_decide_eq_true (by first | (with_reducible assumption) | assumption); have q397 : x12_1 < (x395003_1.length : Int) := of_decide_eq_true (by first | (with_reducible assumption) | assumption); obtain ⟨ad397, e397, hx397_0, hx397_1, hx397_2⟩ := at_T74 (Kd.Q_reads' HO_395003.out).2.2 x12_1 p397 q397; obtain rfl : ad395 = ad397 := (by injection e397); replace p397 := eq_true p397; replace q397 := eq_true q397; have p9 : 0 ≤ (x12_1 : Int) := of_decide_eq_true (by first | (with_reducible assumption) | assumption); have q9 : (x12_1 : Int) < ((x395003_1.length : Int) : Int) := of_decide_eq_true (by first | (with_reducible assumption) | assumption); obtain ⟨go9, oo9, co9, eo9, gb9, gl9, cl9, HG9⟩ := Kd.Q_form HO_395003.out (by omega); (first | cases eo9 | (injection eo9 with ea_ en_ ec_; (first | subst ea_ | (injection ea_ with ea_; subst ea_)); subst ec_; clear en_)); have GB9 := uD gb9; have GG9 := uD HG9; clear gb9 gl9 HG9; have HMgo9 := uD (show (P0_3_ go9 ∨ w.heap.size ≤ go9) from (HO_395003.out.1 _ rfl).1); (first | simp only [add_at] at hx395_0 | skip); (first | simp only [add_at] at hx395_1 | skip); (first | simp only [add_at] at hx395_2 | skip); (first | simp only [add_at] at hx397_0 | skip); (first | simp only [add_at] at hx397_1 | skip); (first | simp only [add_at] at hx397_2 | skip); obtain ⟨ce9, hcl9, hM9, hcc9, hfr9⟩ := Kd.Q_elem HO_395003.out z74 (x12_1 : Int) p9 q9; obtain rfl := k74_openM hM9; have hx9_0 : w13.cell? ⟨go9, oo9 + (x12_1 : Int).toNat * 3, none⟩ = some (.int .i64 ((rd_T74 x395003_1 x12_1).f0)) := hcc9 0 _ rfl; have hx9_1 : w13.cell? ⟨go9, oo9 + (x12_1 : Int).toNat * 3 + 1, none⟩ = some (.int .i64 ((rd_T74 x395003_1 x12_1).f1)) := hcc9 1 _ rfl; have hx9_2 : w13.cell? ⟨go9, oo9 + (x12_1 : Int).toNat * 3 + 2, none⟩ = some (.int .i64 ((rd_T74 x395003_1 x12_1).f2)) := hcc9 2 _ rfl; have hf9_0 : w13.frozen? ⟨go9, oo9 + (x12_1 : Int).toNat * 3, none⟩ = false := hfr9 0; have hf9_1 : w13.frozen? ⟨go9, oo9 + (x12_1 : Int).toNat * 3 + 1, none⟩ = false := hfr9 1; have hf9_2 : w13.frozen? ⟨go9, oo9 + (x12_1 : Int).toNat * 3 + 2, none⟩ = false := hfr9 2; clear hcl9 hcc9 hfr9 hM9; replace p9 := eq_true p9; replace q9 := eq_true q9; have HX16 := uD (show Kd.Q k74 74 w13 w0.heap.size (fun k_ => (P0_3_ k_ ∨ w.heap.size ≤ k_) ∧ k_ ≠ gb396) (.slice (some ⟨go9, oo9, none⟩) x395003_1.length co2) x395003_1 from (pq HO_395003)); obtain ⟨ce16, hcl16, hM16, hcc16, hfr16⟩ := Kd.Q_elem HX16.out z74 (x12_1 : Int) (of_decide_eq_true (by first | (with_reducible assumption) | assumption)) (by have h_ : (x12_1 : Int) < ((x395003_1.length : Int) : Int) := of_decide_eq_true (by first | (with_reducible assumption) | assumption); first | exact h_ | (have e_ := (Kd.Q_reads' HO_395003.out).1; omega) | simpa using h_); obtain rfl := k74_openM hM16; have HP16 := Kd.Q_seg HX16.out (x12_1 : Int) (of_decide_eq_true (by first | (with_reducible assumption) | assumption)) (by have h_ : (x12_1 : Int) < ((x395003_1.length : Int) : Int) := of_decide_eq_true (by first | (with_reducible assumption) | assumption); first | exact h_ | (have e_ := (Kd.Q_reads' HO_395003.out).1; omega) | simpa using h_) (seg := [.int .i64 (wrap64 (((rd_T74 x395003_1 x12_1).f1) + 1))]) (j := 1) hcl16 hcc16 (show 2 ≤ 3 from by decide) (x' := (⟨(rd_T74 x395003_1 x12_1).f0, wrap64 (((rd_T74 x395003_1 x12_1).f1) + 1), (rd_T74 x395003_1 x12_1).f2⟩ : S74)) (k74_mkM _ _ _ (⟨(rd_T74 x395003_1 x12_1).f0, wrap64 (((rd_T74 x395003_1 x12_1).f1) + 1), (rd_T74 x395003_1 x12_1).f2⟩ : S74) ) (fun _ hk => hk); have hx16_1 := hcc16 1 _ rfl; (try simp only [show (k74).sz = 3 from rfl, Nat.mul_one, Nat.add_zero] at hx16_1); have hf16_1 := hfr16 1; (try simp only [show (k74).sz = 3 from rfl, Nat.mul_one, Nat.add_zero] at hf16_1); clear hcl16 hcc16 hfr16 hM16) | ((with_reducible refine gate_store (t := 3) (p := 29) rfl ?_); (try (rw [drewN_self w13]; generalize hq_ : World.drewN w13 _ = w13; have n0_ := uD (Kd.Q_at hq_ HO_395003.out); have n1_ := uD (blk_at hq_ BK394.out); have n2_ := uD (blk_at hq_ BK396.out); have n3_ := uD (kept_at hq_ HK.out); have n4_ := uD (below_at hq_ HB.out); clear hq_ HO_395003 BK394 BK396 HK HB; have HO_395003 := n0_; have BK394 := n1_; have BK396 := n2_; have HK := n3_; have HB := n4_; clear n0_ n1_ n2_ n3_ n4_; (try (have HX16 := uD (show Kd.Q k74 74 w13 w0.heap.size (fun k_ => (P0_3_ k_ ∨ w.heap.size ≤ k_) ∧ k_ ≠ gb396) (.slice (some ⟨go9, oo9, none⟩) x395003_1.length co2) x395003_1 from (pq HO_395003)))); (try (obtain ⟨ce16, hcl16, hM16, hcc16, hfr16⟩ := Kd.Q_elem HX16.out z74 (x12_1 : Int) (of_decide_eq_true (by first | (with_reducible assumption) | assumption)) (by have h_ : (x12_1 : Int) < ((x395003_1.length : Int) : Int) := of_decide_eq_true (by first | (with_reducible assumption) | assumption); first | exact h_ | (have e_ := (Kd.Q_reads' HO_395003.out).1; omega) | simpa using h_))); (try (obtain rfl := k74_openM hM16)); (try (have HP16 := Kd.Q_seg HX16.out (x12_1 : Int) (of_decide_eq_true (by first | (with_reducible assumption) | assumption)) (by have h_ : (x12_1 : Int) < ((x395003_1.length : Int) : Int) := of_decide_eq_true (by first | (with_reducible assumption) | assumption); first | exact h_ | (have e_ := (Kd.Q_reads' HO_395003.out).1; omega) | simpa using h_) (seg := [.int .i64 (wrap64 (((rd_T74 x395003_1 x12_1).f1) + 1))]) (j := 1) hcl16 hcc16 (show 2 ≤ 3 from by decide) (x' := (⟨(rd_T74 x395003_1 x12_1).f0, wrap64 (((rd_T74 x395003_1 x12_1).f1) + 1), (rd_T74 x395003_1 x12_1).f2⟩ : S74)) (k74_mkM _ _ _ (⟨(rd_T74 x395003_1 x12_1).f0, wrap64 (((rd_T74 x395003_1 x12_1).f1) + 1), (rd_T74 x395003_1 x12_1).f2⟩ : S74) ) (fun _ hk => hk))); (try (have hx16_1 := hcc16 1 _ rfl)); (try (try simp only [show (k74).sz = 3 from rfl, Nat.mul_one, Nat.add_zero] at hx16_1)); (try (have hf16_1 := hfr16 1)); (try (try simp only [show (k74).sz = 3 from rfl, Nat.mul_one, Nat.add_zero] at hf16_1)); (try (clear hcl16 hcc16 hfr16 hM16)))); refine store_event (t := 3) (p := 29) (v := ?vo_w17) (w1 := (w13.setCell ⟨go9, oo9 + (x12_1 : Int).toNat * 3 + 1, none⟩ (.int .i64 (wrap64 (((rd_T74 x395003_1 x12_1).f1) + 1))))) ?hg ?ho ?hn ?hr ?_; (case ho => rfl); (case hg => rfl); (case hn => rfl); (case hr => first | (go_simp; done) | (go_simp; rfl)); intro w17 hw; have hg : w13.grownBy w17 (some go9) := (by rw [hw]; exact HP16.2); have hp_ : Kd.Q k74 74 w17 w0.heap.size (fun k_ => (P0_3_ k_ ∨ w.heap.size ≤ k_) ∧ k_ ≠ gb396) (.slice (some ⟨go9, oo9, none⟩) x395003_1.length co2) y398 := (by rw [hw, Ny398.out]; exact HP16.1); clear HP16; replace BK394 := uD (blk_grown (pk BK394) hg (Kd.Q_ne HO_395003.out BK394.out (by decide))); replace BK396 := uD (blk_grown (pk BK396) hg (Kd.Q_away HO_395003.out (fun _ hk => hk.2))); replace HB := uD ((by rw [hw]; exact uM (HB.out) GB9.out : Below w0.heap.size w0 w17)); replace HK := uD (Kept.of_grown (S := (fun k_ => P0_3_ k_)) hg (by repeat (first | (with_reducible first | exact HK.out | apply Kept.alloc | apply Kept.drewN | apply Kept.drew | refine Kept.setCell ?_ (.inr GW394.out) _ | refine Kept.setCell ?_ (.inr GW396.out) _) | exact HK.out)) (fun k_ e_ => (HO_395003.out.1 k_ e_).1)); replace HO_395003 := uD (hp_); clear hg hw hp_; obtain ⟨hcz18_0, hcz18_1, hcz18_2, hcz18_3, hfz18_0, hfz18_1, hfz18_2, hfz18_3⟩ := cz4 BK394; have p399 : 0 ≤ (x12_1 : Int) := of_decide_eq_true (by first | (with_reducible assumption) | assumption); have q399 : x12_1 < (y398.length : Int) := (by have h_ : (x12_1 : Int) < ((x395003_1.length : Int) : Int) := of_decide_eq_true (by first | (with_reducible assumption) | assumption); first | (have e_ := (Kd.Q_reads' HO_395003.out).1; omega) | simpa only [Ny398.out, List.length_set] using h_); have ql399 : ((x12_1 : Int) < ((x395003_1.length : Int) : Int)) = True := eq_true (of_decide_eq_true (by first | (with_reducible assumption) | assumption)); obtain ⟨ad399, e399, hx399_0, hx399_1, hx399_2⟩ := at_T74 (Kd.Q_reads' HO_395003.out).2.2 x12_1 p399 q399; obtain rfl : (⟨go9, oo9, none⟩ : Addr) = ad399 := (by injection e399); (first | simp only [add_plain] at hx399_0 | simp only [add_at] at hx399_0 | simp only [Addr.add, Nat.zero_add] at hx399_0 | skip); (first | simp only [add_plain] at hx399_1 | simp only [add_at] at hx399_1 | simp only [Addr.add, Nat.zero_add] at hx399_1 | skip); (first | simp only [add_plain] at hx399_2 | simp only [add_at] at hx399_2 | simp only [Addr.add, Nat.zero_add] at hx399_2 | skip); replace p399 := eq_true p399; replace q399 := eq_true q399; obtain ⟨hcz19_0, hcz19_1, hcz19_2, hfz19_0, hfz19_1, hfz19_2⟩ := cz3 BK396)); try go_wp2_with (first | ((with_reducible refine gate_dst (N := 6) rfl ?_); refine box_event ?hg (N := 6) ?hd (cs := #[.int .i64 0, .int .i64 0, .int .i64 0]) (t := 74) ?hr ?_; (case hd => rfl); (case hg => rfl); (case hr => first | (go_simp; done) | (go_simp; rfl)); intro gb396 hg w10 hbox hb; replace HO_395003 := uD (Kd.Q_below (Kd.Q_elderB (pq HO_395003) gb396 (Nat.le_of_eq hg.symm)) hb); have BK396 := uD (hbox); have GW396 := uD ((by rw [hg]; exact (by first | exact HK.out.1 | exact (show Kept w _ (fun k_ => P0_3_ k_) from by repeat (first | (with_reducible first | exact HK.out | apply Kept.alloc | apply Kept.drewN | apply Kept.drew | refine Kept.setCell ?_ (.inr GW394.out) _) | exact HK.out)).1) : w.heap.size ≤ gb396)); replace HK := uD (Kept.below (S := (fun k_ => P0_3_ k_)) (by repeat (first | (with_reducible first | exact HK.out | apply Kept.alloc | apply Kept.drewN | apply Kept.drew | refine Kept.setCell ?_ (.inr GW394.out) _) | exact HK.out)) hb); have GE396 := uD ((by rw [hg]; exact (uN (pb HB)) : w0.heap.size ≤ gb396)); replace HB := uD (uO (pb HB) hb); have NB394_396 := uD ((by rw [hg]; exact Nat.ne_of_lt (blk_lt (pk BK394)) : gb394 ≠ gb396)); have NB396_394 := uD ((by rw [hg]; exact Nat.ne_of_gt (blk_lt (pk BK394)) : gb396 ≠ gb394)); replace BK394 := uD (blk_below (pk BK394) hb); clear hb hbox hg; have hnb11 := NB396_394.out; have hnc11 := NB394_396.out; obtain ⟨hcz12_0, hcz12_1, hcz12_2, hfz12_0, hfz12_1, hfz12_2⟩ := cz3 BK396) | ((with_reducible refine gate_store (t := 74) (p := 6) rfl ?_); (try (rw [drewN_self w10]; generalize hq_ : World.drewN w10 _ = w10; have n0_ := uD (Kd.Q_at hq_ HO_395003.out); have n1_ := uD (blk_at hq_ BK394.out); have n2_ := uD (blk_at hq_ BK396.out); have n3_ := uD (kept_at hq_ HK.out); have n4_ := uD (below_at hq_ HB.out); clear hq_ HO_395003 BK394 BK396 HK HB; have HO_395003 := n0_; have BK394 := n1_; have BK396 := n2_; have HK := n3_; have HB := n4_; clear n0_ n1_ n2_ n3_ n4_)); refine store_event (t := 74) (p := 6) (v := ?vo_w13) (w1 := (((w10.setCell ⟨gb396, 0, none⟩ (.int .i64 ((rd_T74 x395003_1 x12_1).f0))).setCell ⟨gb396, 1, none⟩ (.int .i64 ((rd_T74 x395003_1 x12_1).f1))).setCell ⟨gb396, 2, none⟩ (.int .i64 ((rd_T74 x395003_1 x12_1).f2)))) ?hg ?ho ?hn ?hr ?_; (case ho => rfl); (case hg => rfl); (case hn => rfl); (case hr => first | (go_simp; done) | (go_simp; rfl)); intro w13 hw; have n0_ : Aside0 (Kd.Q k74 74 w13 w0.heap.size (fun k_ => (P0_3_ k_ ∨ w.heap.size ≤ k_) ∧ k_ ≠ gb396) (.slice (some ad395) x395003_1.length co2) x395003_1) := ⟨(by rw [hw]; exact (by (with_reducible repeat (first | apply Kd.Q_alloc | apply Kd.Q_drewN | apply Kd.Q_drew)); exact Kd.Q_mono (Kd.Q_far (p := ⟨gb396, 2, none⟩) (Kd.Q_far (p := ⟨gb396, 1, none⟩) (Kd.Q_far (p := ⟨gb396, 0, none⟩) (Kd.Q_mono HO_395003.out (fun k_ hk => (⟨hk, hk.2⟩ : _ ∧ k_ ≠ gb396))) (fun _ hk => hk.2) (.int .i64 ((rd_T74 x395003_1 x12_1).f0))) (fun _ hk => hk.2) (.int .i64 ((rd_T74 x395003_1 x12_1).f1))) (fun _ hk => hk.2) (.int .i64 ((rd_T74 x395003_1 x12_1).f2))) (fun _ hk => ⟨hk.1.1, hk.1.2⟩)))⟩; have n1_ : Aside0 (w13.heap[gb394]? = some (.cells #[.int .i64 a0_0, .int .i64 a0_1, .bool a0_2, .slice (some ad395) x395003_1.length co2] 63 (0, 0))) := ⟨(by rw [hw]; exact (by exact ps BK394))⟩; have n2_ : Aside0 (w13.heap[gb396]? = some (.cells #[.int .i64 ((rd_T74 x395003_1 x12_1).f0), .int .i64 ((rd_T74 x395003_1 x12_1).f1), .int .i64 ((rd_T74 x395003_1 x12_1).f2)] 74 (0, 0))) := ⟨(by rw [hw]; exact (by (with_reducible repeat first|apply uH|apply uJ|apply uG); refine uP (cs := #[.int .i64 ((rd_T74 x395003_1 x12_1).f0), .int .i64 ((rd_T74 x395003_1 x12_1).f1), .int .i64 0]) ?_ 2 _ rfl; (with_reducible repeat first|apply uH|apply uJ|apply uG); refine uP (cs := #[.int .i64 ((rd_T74 x395003_1 x12_1).f0), .int .i64 0, .int .i64 0]) ?_ 1 _ rfl; (with_reducible repeat first|apply uH|apply uJ|apply uG); refine uP (cs := #[.int .i64 0, .int .i64 0, .int .i64 0]) ?_ 0 _ rfl; (with_reducible repeat first|apply uH|apply uJ|apply uG); exact BK396.out))⟩; have n3_ : Aside0 (Kept w w13 (fun k_ => P0_3_ k_)) := ⟨(by rw [hw]; exact (by repeat (first | (with_reducible first | exact HK.out | apply Kept.alloc | apply Kept.drewN | apply Kept.drew | refine Kept.setCell ?_ (.inr GW394.out) _ | refine Kept.setCell ?_ (.inr GW396.out) _) | exact HK.out)))⟩; have n4_ : Aside0 (Below w0.heap.size w0 w13) := ⟨(by rw [hw]; exact (pb HB))⟩; clear hw; clear HO_395003; clear BK394; clear BK396; clear HK; clear HB; have HO_395003 := n0_; have BK394 := n1_; have BK396 := n2_; have HK := n3_; have HB := n4_; clear n0_ n1_ n2_ n3_ n4_; obtain ⟨hcz14_0, hcz14_1, hcz14_2, hfz14_0, hfz14_1, hfz14_2⟩ := cz3 BK396; obtain ⟨hcz15_0, hcz15_1, hcz15_2, hcz15_3, hfz15_0, hfz15_1, hfz15_2, hfz15_3⟩ := cz4 BK394; have p397 : 0 ≤ (x12_1 : Int) := of_decide_eq_true (by first | (with_reducible assumption) | assumption); have q397 : x12_1 < (x395003_1.length : Int) := of_decide_eq_true (by first | (with_reducible assumption) | assumption); obtain ⟨ad397, e397, hx397_0, hx397_1, hx397_2⟩ := at_T74 (Kd.Q_reads' HO_395003.out).2.2 x12_1 p397 q397; obtain rfl : ad395 = ad397 := (by injection e397); replace p397 := eq_true p397; replace q397 := eq_true q397; have p9 : 0 ≤ (x12_1 : Int) := of_decide_eq_true (by first | (with_reducible assumption) | assumption); have q9 : (x12_1 : Int) < ((x395003_1.length : Int) : Int) := of_decide_eq_true (by first | (with_reducible assumption) | assumption); obtain ⟨go9, oo9, co9, eo9, gb9, gl9, cl9, HG9⟩ := Kd.Q_form HO_395003.out (by omega); (first | cases eo9 | (injection eo9 with ea_ en_ ec_; (first | subst ea_ | (injection ea_ with ea_; subst ea_)); subst ec_; clear en_)); have GB9 := uD gb9; have GG9 := uD HG9; clear gb9 gl9 HG9; have HMgo9 := uD (show (P0_3_ go9 ∨ w.heap.size ≤ go9) from (HO_395003.out.1 _ rfl).1); (first | simp only [add_at] at hx395_0 | skip); (first | simp only [add_at] at hx395_1 | skip); (first | simp only [add_at] at hx395_2 | skip); (first | simp only [add_at] at hx397_0 | skip); (first | simp only [add_at] at hx397_1 | skip); (first | simp only [add_at] at hx397_2 | skip); obtain ⟨ce9, hcl9, hM9, hcc9, hfr9⟩ := Kd.Q_elem HO_395003.out z74 (x12_1 : Int) p9 q9; obtain rfl := k74_openM hM9; have hx9_0 : w13.cell? ⟨go9, oo9 + (x12_1 : Int).toNat * 3, none⟩ = some (.int .i64 ((rd_T74 x395003_1 x12_1).f0)) := hcc9 0 _ rfl; have hx9_1 : w13.cell? ⟨go9, oo9 + (x12_1 : Int).toNat * 3 + 1, none⟩ = some (.int .i64 ((rd_T74 x395003_1 x12_1).f1)) := hcc9 1 _ rfl; have hx9_2 : w13.cell? ⟨go9, oo9 + (x12_1 : Int).toNat * 3 + 2, none⟩ = some (.int .i64 ((rd_T74 x395003_1 x12_1).f2)) := hcc9 2 _ rfl; have hf9_0 : w13.frozen? ⟨go9, oo9 + (x12_1 : Int).toNat * 3, none⟩ = false := hfr9 0; have hf9_1 : w13.frozen? ⟨go9, oo9 + (x12_1 : Int).toNat * 3 + 1, none⟩ = false := hfr9 1; have hf9_2 : w13.frozen? ⟨go9, oo9 + (x12_1 : Int).toNat * 3 + 2, none⟩ = false := hfr9 2; clear hcl9 hcc9 hfr9 hM9; replace p9 := eq_true p9; replace q9 := eq_true q9; have HX16 := uD (show Kd.Q k74 74 w13 w0.heap.size (fun k_ => (P0_3_ k_ ∨ w.heap.size ≤ k_) ∧ k_ ≠ gb396) (.slice (some ⟨go9, oo9, none⟩) x395003_1.length co2) x395003_1 from (pq HO_395003)); obtain ⟨ce16, hcl16, hM16, hcc16, hfr16⟩ := Kd.Q_elem HX16.out z74 (x12_1 : Int) (of_decide_eq_true (by first | (with_reducible assumption) | assumption)) (by have h_ : (x12_1 : Int) < ((x395003_1.length : Int) : Int) := of_decide_eq_true (by first | (with_reducible assumption) | assumption); first | exact h_ | (have e_ := (Kd.Q_reads' HO_395003.out).1; omega) | simpa using h_); obtain rfl := k74_openM hM16; have HP16 := Kd.Q_seg HX16.out (x12_1 : Int) (of_decide_eq_true (by first | (with_reducible assumption) | assumption)) (by have h_ : (x12_1 : Int) < ((x395003_1.length : Int) : Int) := of_decide_eq_true (by first | (with_reducible assumption) | assumption); first | exact h_ | (have e_ := (Kd.Q_reads' HO_395003.out).1; omega) | simpa using h_) (seg := [.int .i64 (wrap64 (((rd_T74 x395003_1 x12_1).f1) + 1))]) (j := 1) hcl16 hcc16 (show 2 ≤ 3 from by decide) (x' := (⟨(rd_T74 x395003_1 x12_1).f0, wrap64 (((rd_T74 x395003_1 x12_1).f1) + 1), (rd_T74 x395003_1 x12_1).f2⟩ : S74)) (k74_mkM _ _ _ (⟨(rd_T74 x395003_1 x12_1).f0, wrap64 (((rd_T74 x395003_1 x12_1).f1) + 1), (rd_T74 x395003_1 x12_1).f2⟩ : S74) ) (fun _ hk => hk); have hx16_1 := hcc16 1 _ rfl; (try simp only [show (k74).sz = 3 from rfl, Nat.mul_one, Nat.add_zero] at hx16_1); have hf16_1 := hfr16 1; (try simp only [show (k74).sz = 3 from rfl, Nat.mul_one, Nat.add_zero] at hf16_1); clear hcl16 hcc16 hfr16 hM16) | ((with_reducible refine gate_store (t := 3) (p := 29) rfl ?_); (try (rw [drewN_self w13]; generalize hq_ : World.drewN w13 _ = w13; have n0_ := uD (Kd.Q_at hq_ HO_395003.out); have n1_ := uD (blk_at hq_ BK394.out); have n2_ := uD (blk_at hq_ BK396.out); have n3_ := uD (kept_at hq_ HK.out); have n4_ := uD (below_at hq_ HB.out); clear hq_ HO_395003 BK394 BK396 HK HB; have HO_395003 := n0_; have BK394 := n1_; have BK396 := n2_; have HK := n3_; have HB := n4_; clear n0_ n1_ n2_ n3_ n4_; (try (have HX16 := uD (show Kd.Q k74 74 w13 w0.heap.size (fun k_ => (P0_3_ k_ ∨ w.heap.size ≤ k_) ∧ k_ ≠ gb396) (.slice (some ⟨go9, oo9, none⟩) x395003_1.length co2) x395003_1 from (pq HO_395003)))); (try (obtain ⟨ce16, hcl16, hM16, hcc16, hfr16⟩ := Kd.Q_elem HX16.out z74 (x12_1 : Int) (of_decide_eq_true (by first | (with_reducible assumption) | assumption)) (by have h_ : (x12_1 : Int) < ((x395003_1.length : Int) : Int) := of_decide_eq_true (by first | (with_reducible assumption) | assumption); first | exact h_ | (have e_ := (Kd.Q_reads' HO_395003.out).1; omega) | simpa using h_))); (try (obtain rfl := k74_openM hM16)); (try (have HP16 := Kd.Q_seg HX16.out (x12_1 : Int) (of_decide_eq_true (by first | (with_reducible assumption) | assumption)) (by have h_ : (x12_1 : Int) < ((x395003_1.length : Int) : Int) := of_decide_eq_true (by first | (with_reducible assumption) | assumption); first | exact h_ | (have e_ := (Kd.Q_reads' HO_395003.out).1; omega) | simpa using h_) (seg := [.int .i64 (wrap64 (((rd_T74 x395003_1 x12_1).f1) + 1))]) (j := 1) hcl16 hcc16 (show 2 ≤ 3 from by decide) (x' := (⟨(rd_T74 x395003_1 x12_1).f0, wrap64 (((rd_T74 x395003_1 x12_1).f1) + 1), (rd_T74 x395003_1 x12_1).f2⟩ : S74)) (k74_mkM _ _ _ (⟨(rd_T74 x395003_1 x12_1).f0, wrap64 (((rd_T74 x395003_1 x12_1).f1) + 1), (rd_T74 x395003_1 x12_1).f2⟩ : S74) ) (fun _ hk => hk))); (try (have hx16_1 := hcc16 1 _ rfl)); (try (try simp only [show (k74).sz = 3 from rfl, Nat.mul_one, Nat.add_zero] at hx16_1)); (try (have hf16_1 := hfr16 1)); (try (try simp only [show (k74).sz = 3 from rfl, Nat.mul_one, Nat.add_zero] at hf16_1)); (try (clear hcl16 hcc16 hfr16 hM16)))); refine store_event (t := 3) (p := 29) (v := ?vo_w17) (w1 := (w13.setCell ⟨go9, oo9 + (x12_1 : Int).toNat * 3 + 1, none⟩ (.int .i64 (wrap64 (((rd_T74 x395003_1 x12_1).f1) + 1))))) ?hg ?ho ?hn ?hr ?_; (case ho => rfl); (case hg => rfl); (case hn => rfl); (case hr => first | (go_simp; done) | (go_simp; rfl)); intro w17 hw; have hg : w13.grownBy w17 (some go9) := (by rw [hw]; exact HP16.2); have hp_ : Kd.Q k74 74 w17 w0.heap.size (fun k_ => (P0_3_ k_ ∨ w.heap.size ≤ k_) ∧ k_ ≠ gb396) (.slice (some ⟨go9, oo9, none⟩) x395003_1.length co2) y398 := (by rw [hw, Ny398.out]; exact HP16.1); clear HP16; replace BK394 := uD (blk_grown (pk BK394) hg (Kd.Q_ne HO_395003.out BK394.out (by decide))); replace BK396 := uD (blk_grown (pk BK396) hg (Kd.Q_away HO_395003.out (fun _ hk => hk.2))); replace HB := uD ((by rw [hw]; exact uM (HB.out) GB9.out : Below w0.heap.size w0 w17)); replace HK := uD (Kept.of_grown (S := (fun k_ => P0_3_ k_)) hg (by repeat (first | (with_reducible first | exact HK.out | apply Kept.alloc | apply Kept.drewN | apply Kept.drew | refine Kept.setCell ?_ (.inr GW394.out) _ | refine Kept.setCell ?_ (.inr GW396.out) _) | exact HK.out)) (fun k_ e_ => (HO_395003.out.1 k_ e_).1)); replace HO_395003 := uD (hp_); clear hg hw hp_; obtain ⟨hcz18_0, hcz18_1, hcz18_2, hcz18_3, hfz18_0, hfz18_1, hfz18_2, hfz18_3⟩ := cz4 BK394; have p399 : 0 ≤ (x12_1 : Int) := of_decide_eq_true (by first | (with_reducible assumption) | assumption); have q399 : x12_1 < (y398.length : Int) := (by have h_ : (x12_1 : Int) < ((x395003_1.length : Int) : Int) := of_decide_eq_true (by first | (with_reducible assumption) | assumption); first | (have e_ := (Kd.Q_reads' HO_395003.out).1; omega) | simpa only [Ny398.out, List.length_set] using h_); have ql399 : ((x12_1 : Int) < ((x395003_1.length : Int) : Int)) = True := eq_true (of_decide_eq_true (by first | (with_reducible assumption) | assumption)); obtain ⟨ad399, e399, hx399_0, hx399_1, hx399_2⟩ := at_T74 (Kd.Q_reads' HO_395003.out).2.2 x12_1 p399 q399; obtain rfl : (⟨go9, oo9, none⟩ : Addr) = ad399 := (by injection e399); (first | simp only [add_plain] at hx399_0 | simp only [add_at] at hx399_0 | simp only [Addr.add, Nat.zero_add] at hx399_0 | skip); (first | simp only [add_plain] at hx399_1 | simp only [add_at] at hx399_1 | simp only [Addr.add, Nat.zero_add] at hx399_1 | skip); (first | simp only [add_plain] at hx399_2 | simp only [add_at] at hx399_2 | simp only [Addr.add, Nat.zero_add] at hx399_2 | skip); replace p399 := eq_true p399; replace q399 := eq_true q399; obtain ⟨hcz19_0, hcz19_1, hcz19_2, hfz19_0, hfz19_1, hfz19_2⟩ := cz3 BK396)))
       (try simp only [← hl395003_1])
       go_roundg k1
       case measure => have := HK1.out; omega
       case rel => exact ⟨(wrap64 (x3_1 + 1)), (wrap64 ((wrap64 (((rd_T74 y398 x12_1).f1) - ((rd_T74 x395003_1 x12_1).f2))) - a0_1)), (wrap64 (x12_1 + 1)), (y398), (by first | rfl | (simp; done) | (simp [*]; done)), (by first | rfl | (simp; done) | (simp [*]; done)), (by first | rfl | (simp; done) | (simp [*]; done)), H', ⟨by have := HK1.out; omega⟩, ⟨by (try simp only [hl395003_1]); (with_reducible repeat (first | apply Kd.Q_alloc | apply Kd.Q_drewN | apply Kd.Q_drew)); exact Kd.Q_mono HO_395003.out (fun _ hk => hk.1)⟩, ⟨by (try simp only [hl395003_1]); (with_reducible repeat first|apply uH|apply uJ|apply uG); exact BK394.out⟩, ⟨by repeat (first | (with_reducible first | exact HK.out | apply Kept.alloc | apply Kept.drewN | apply Kept.drew | refine Kept.setCell ?_ (.inr GW394.out) _ | refine Kept.setCell ?_ (.inr GW396.out) _) | exact HK.out)⟩, ⟨pb HB⟩⟩
      ·rw [if_neg c8] at H
       have c8b0 : decide (((rd_T74 x395003_1 x12_1).f1) < x4_1) = false := decide_eq_false c8
       clear c8
       have H' := uD H
       clear H
       have p395 : 0 ≤ (x12_1 : Int) := of_decide_eq_true (by first | (with_reducible assumption) | assumption)
       have q395 : x12_1 < (x395003_1.length : Int) := of_decide_eq_true (by first | (with_reducible assumption) | assumption)
       obtain ⟨ad395, e395, hx395_0, hx395_1, hx395_2⟩ := at_T74 (Kd.Q_reads' HO_395003.out).2.2 x12_1 p395 q395
       cases e395
       replace p395 := eq_true p395
       replace q395 := eq_true q395
       go_wp2_with (first | ((with_reducible refine gate_dst (N := 6) rfl ?_); refine box_event ?hg (N := 6) ?hd (cs := #[.int .i64 0, .int .i64 0, .int .i64 0]) (t := 74) ?hr ?_; (case hd => rfl); (case hg => rfl); (case hr => first | (go_simp; done) | (go_simp; rfl)); intro gb396 hg w20 hbox hb; replace HO_395003 := uD (Kd.Q_below (Kd.Q_elderB (pq HO_395003) gb396 (Nat.le_of_eq hg.symm)) hb); have BK396 := uD (hbox); have GW396 := uD ((by rw [hg]; exact (by first | exact HK.out.1 | exact (show Kept w _ (fun k_ => P0_3_ k_) from by repeat (first | (with_reducible first | exact HK.out | apply Kept.alloc | apply Kept.drewN | apply Kept.drew | refine Kept.setCell ?_ (.inr GW394.out) _) | exact HK.out)).1) : w.heap.size ≤ gb396)); replace HK := uD (Kept.below (S := (fun k_ => P0_3_ k_)) (by repeat (first | (with_reducible first | exact HK.out | apply Kept.alloc | apply Kept.drewN | apply Kept.drew | refine Kept.setCell ?_ (.inr GW394.out) _) | exact HK.out)) hb); have GE396 := uD ((by rw [hg]; exact (uN (pb HB)) : w0.heap.size ≤ gb396)); replace HB := uD (uO (pb HB) hb); have NB394_396 := uD ((by rw [hg]; exact Nat.ne_of_lt (blk_lt (pk BK394)) : gb394 ≠ gb396)); have NB396_394 := uD ((by rw [hg]; exact Nat.ne_of_gt (blk_lt (pk BK394)) : gb396 ≠ gb394)); replace BK394 := uD (blk_below (pk BK394) hb); clear hb hbox hg; have hnb21 := NB396_394.out; have hnc21 := NB394_396.out; obtain ⟨hcz22_0, hcz22_1, hcz22_2, hfz22_0, hfz22_1, hfz22_2⟩ := cz3 BK396; obtain ⟨hcz23_0, hcz23_1, hcz23_2, hcz23_3, hfz23_0, hfz23_1, hfz23_2, hfz23_3⟩ := cz4 BK394; have p400 : 0 ≤ (x12_1 : Int) := of_decide_eq_true (by first | (with_reducible assumption) | assumption); have q400 : x12_1 < (x395003_1.length : Int) := of_decide_eq_true (by first | (with_reducible assumption) | assumption); obtain ⟨ad400, e400, hx400_0, hx400_1, hx400_2⟩ := at_T74 (Kd.Q_reads' HO_395003.out).2.2 x12_1 p400 q400; obtain rfl : ad395 = ad400 := (by injection e400); have hn400_0 : ad395.block ≠ gb396 := Kd.own_blk (Kd.Q_away HO_395003.out (fun _ hk => hk.2)); have hn400_1 : ad395.block ≠ gb396 := Kd.own_blk (Kd.Q_away HO_395003.out (fun _ hk => hk.2)); have hn400_2 : ad395.block ≠ gb396 := Kd.own_blk (Kd.Q_away HO_395003.out (fun _ hk => hk.2)); replace hx400_0 := (cell_far (p := ⟨gb396, 0, none⟩) (by first | (rw [add_block]; exact hn400_0) | (show (Addr.add _ _).block ≠ _; rw [add_block]; exact hn400_0) | exact hn400_0) (.int .i64 ((rd_T74 x395003_1 x12_1).f0))).trans hx400_0; replace hx400_1 := (cell_far (p := ⟨gb396, 0, none⟩) (by first | (rw [add_block]; exact hn400_0) | (show (Addr.add _ _).block ≠ _; rw [add_block]; exact hn400_0) | exact hn400_0) (.int .i64 ((rd_T74 x395003_1 x12_1).f0))).trans hx400_1; replace hx400_2 := (cell_far (p := ⟨gb396, 0, none⟩) (by first | (rw [add_block]; exact hn400_0) | (show (Addr.add _ _).block ≠ _; rw [add_block]; exact hn400_0) | exact hn400_0) (.int .i64 ((rd_T74 x395003_1 x12_1).f0))).trans hx400_2; replace hx400_0 := (cell_far (p := ⟨gb396, 1, none⟩) (by first | (rw [add_block]; exact hn400_1) | (show (Addr.add _ _).block ≠ _; rw [add_block]; exact hn400_1) | exact hn400_1) (.int .i64 ((rd_T74 x395003_1 x12_1).f1))).trans hx400_0; replace hx400_1 := (cell_far (p := ⟨gb396, 1, none⟩) (by first | (rw [add_block]; exact hn400_1) | (show (Addr.add _ _).block ≠ _; rw [add_block]; exact hn400_1) | exact hn400_1) (.int .i64 ((rd_T74 x395003_1 x12_1).f1))).trans hx400_1; replace hx400_2 := (cell_far (p := ⟨gb396, 1, none⟩) (by first | (rw [add_block]; exact hn400_1) | (show (Addr.add _ _).block ≠ _; rw [add_block]; exact hn400_1) | exact hn400_1) (.int .i64 ((rd_T74 x395003_1 x12_1).f1))).trans hx400_2; replace hx400_0 := (cell_far (p := ⟨gb396, 2, none⟩) (by first | (rw [add_block]; exact hn400_2) | (show (Addr.add _ _).block ≠ _; rw [add_block]; exact hn400_2) | exact hn400_2) (.int .i64 ((rd_T74 x395003_1 x12_1).f2))).trans hx400_0; replace hx400_1 := (cell_far (p := ⟨gb396, 2, none⟩) (by first | (rw [add_block]; exact hn400_2) | (show (Addr.add _ _).block ≠ _; rw [add_block]; exact hn400_2) | exact hn400_2) (.int .i64 ((rd_T74 x395003_1 x12_1).f2))).trans hx400_1; replace hx400_2 := (cell_far (p := ⟨gb396, 2, none⟩) (by first | (rw [add_block]; exact hn400_2) | (show (Addr.add _ _).block ≠ _; rw [add_block]; exact hn400_2) | exact hn400_2) (.int .i64 ((rd_T74 x395003_1 x12_1).f2))).trans hx400_2; (try have hy400_0 := fun (n_ : Nat) => (show (((((w20.drewN n_).setCell ⟨gb396, 0, none⟩ (.int .i64 ((rd_T74 x395003_1 x12_1).f0))).setCell ⟨gb396, 1, none⟩ (.int .i64 ((rd_T74 x395003_1 x12_1).f1))).setCell ⟨gb396, 2, none⟩ (.int .i64 ((rd_T74 x395003_1 x12_1).f2)))).cell? _ = some _ from hx400_0)); (try have hy400_1 := fun (n_ : Nat) => (show (((((w20.drewN n_).setCell ⟨gb396, 0, none⟩ (.int .i64 ((rd_T74 x395003_1 x12_1).f0))).setCell ⟨gb396, 1, none⟩ (.int .i64 ((rd_T74 x395003_1 x12_1).f1))).setCell ⟨gb396, 2, none⟩ (.int .i64 ((rd_T74 x395003_1 x12_1).f2)))).cell? _ = some _ from hx400_1)); (try have hy400_2 := fun (n_ : Nat) => (show (((((w20.drewN n_).setCell ⟨gb396, 0, none⟩ (.int .i64 ((rd_T74 x395003_1 x12_1).f0))).setCell ⟨gb396, 1, none⟩ (.int .i64 ((rd_T74 x395003_1 x12_1).f1))).setCell ⟨gb396, 2, none⟩ (.int .i64 ((rd_T74 x395003_1 x12_1).f2)))).cell? _ = some _ from hx400_2)); clear hn400_0; clear hn400_1; clear hn400_2; replace p400 := eq_true p400; replace q400 := eq_true q400))
       repeat (go_quiet (first | ((with_reducible refine gate_dst (N := 6) rfl ?_); refine box_event ?hg (N := 6) ?hd (cs := #[.int .i64 0, .int .i64 0, .int .i64 0]) (t := 74) ?hr ?_; (case hd => rfl); (case hg => rfl); (case hr => first | (go_simp; done) | (go_simp; rfl)); intro gb396 hg w20 hbox hb; replace HO_395003 := uD (Kd.Q_below (Kd.Q_elderB (pq HO_395003) gb396 (Nat.le_of_eq hg.symm)) hb); have BK396 := uD (hbox); have GW396 := uD ((by rw [hg]; exact (by first | exact HK.out.1 | exact (show Kept w _ (fun k_ => P0_3_ k_) from by repeat (first | (with_reducible first | exact HK.out | apply Kept.alloc | apply Kept.drewN | apply Kept.drew | refine Kept.setCell ?_ (.inr GW394.out) _) | exact HK.out)).1) : w.heap.size ≤ gb396)); replace HK := uD (Kept.below (S := (fun k_ => P0_3_ k_)) (by repeat (first | (with_reducible first | exact HK.out | apply Kept.alloc | apply Kept.drewN | apply Kept.drew | refine Kept.setCell ?_ (.inr GW394.out) _) | exact HK.out)) hb); have GE396 := uD ((by rw [hg]; exact (uN (pb HB)) : w0.heap.size ≤ gb396)); replace HB := uD (uO (pb HB) hb); have NB394_396 := uD ((by rw [hg]; exact Nat.ne_of_lt (blk_lt (pk BK394)) : gb394 ≠ gb396)); have NB396_394 := uD ((by rw [hg]; exact Nat.ne_of_gt (blk_lt (pk BK394)) : gb396 ≠ gb394)); replace BK394 := uD (blk_below (pk BK394) hb); clear hb hbox hg; have hnb21 := NB396_394.out; have hnc21 := NB394_396.out; obtain ⟨hcz22_0, hcz22_1, hcz22_2, hfz22_0, hfz22_1, hfz22_2⟩ := cz3 BK396; obtain ⟨hcz23_0, hcz23_1, hcz23_2, hcz23_3, hfz23_0, hfz23_1, hfz23_2, hfz23_3⟩ := cz4 BK394; have p400 : 0 ≤ (x12_1 : Int) := of_decide_eq_true (by first | (with_reducible assumption) | assumption); have q400 : x12_1 < (x395003_1.length : Int) := of_decide_eq_true (by first | (with_reducible assumption) | assumption); obtain ⟨ad400, e400, hx400_0, hx400_1, hx400_2⟩ := at_T74 (Kd.Q_reads' HO_395003.out).2.2 x12_1 p400 q400; obtain rfl : ad395 = ad400 := (by injection e400); have hn400_0 : ad395.block ≠ gb396 := Kd.own_blk (Kd.Q_away HO_395003.out (fun _ hk => hk.2)); have hn400_1 : ad395.block ≠ gb396 := Kd.own_blk (Kd.Q_away HO_395003.out (fun _ hk => hk.2)); have hn400_2 : ad395.block ≠ gb396 := Kd.own_blk (Kd.Q_away HO_395003.out (fun _ hk => hk.2)); replace hx400_0 := (cell_far (p := ⟨gb396, 0, none⟩) (by first | (rw [add_block]; exact hn400_0) | (show (Addr.add _ _).block ≠ _; rw [add_block]; exact hn400_0) | exact hn400_0) (.int .i64 ((rd_T74 x395003_1 x12_1).f0))).trans hx400_0; replace hx400_1 := (cell_far (p := ⟨gb396, 0, none⟩) (by first | (rw [add_block]; exact hn400_0) | (show (Addr.add _ _).block ≠ _; rw [add_block]; exact hn400_0) | exact hn400_0) (.int .i64 ((rd_T74 x395003_1 x12_1).f0))).trans hx400_1; replace hx400_2 := (cell_far (p := ⟨gb396, 0, none⟩) (by first | (rw [add_block]; exact hn400_0) | (show (Addr.add _ _).block ≠ _; rw [add_block]; exact hn400_0) | exact hn400_0) (.int .i64 ((rd_T74 x395003_1 x12_1).f0))).trans hx400_2; replace hx400_0 := (cell_far (p := ⟨gb396, 1, none⟩) (by first | (rw [add_block]; exact hn400_1) | (show (Addr.add _ _).block ≠ _; rw [add_block]; exact hn400_1) | exact hn400_1) (.int .i64 ((rd_T74 x395003_1 x12_1).f1))).trans hx400_0; replace hx400_1 := (cell_far (p := ⟨gb396, 1, none⟩) (by first | (rw [add_block]; exact hn400_1) | (show (Addr.add _ _).block ≠ _; rw [add_block]; exact hn400_1) | exact hn400_1) (.int .i64 ((rd_T74 x395003_1 x12_1).f1))).trans hx400_1; replace hx400_2 := (cell_far (p := ⟨gb396, 1, none⟩) (by first | (rw [add_block]; exact hn400_1) | (show (Addr.add _ _).block ≠ _; rw [add_block]; exact hn400_1) | exact hn400_1) (.int .i64 ((rd_T74 x395003_1 x12_1).f1))).trans hx400_2; replace hx400_0 := (cell_far (p := ⟨gb396, 2, none⟩) (by first | (rw [add_block]; exact hn400_2) | (show (Addr.add _ _).block ≠ _; rw [add_block]; exact hn400_2) | exact hn400_2) (.int .i64 ((rd_T74 x395003_1 x12_1).f2))).trans hx400_0; replace hx400_1 := (cell_far (p := ⟨gb396, 2, none⟩) (by first | (rw [add_block]; exact hn400_2) | (show (Addr.add _ _).block ≠ _; rw [add_block]; exact hn400_2) | exact hn400_2) (.int .i64 ((rd_T74 x395003_1 x12_1).f2))).trans hx400_1; replace hx400_2 := (cell_far (p := ⟨gb396, 2, none⟩) (by first | (rw [add_block]; exact hn400_2) | (show (Addr.add _ _).block ≠ _; rw [add_block]; exact hn400_2) | exact hn400_2) (.int .i64 ((rd_T74 x395003_1 x12_1).f2))).trans hx400_2; (try have hy400_0 := fun (n_ : Nat) => (show (((((w20.drewN n_).setCell ⟨gb396, 0, none⟩ (.int .i64 ((rd_T74 x395003_1 x12_1).f0))).setCell ⟨gb396, 1, none⟩ (.int .i64 ((rd_T74 x395003_1 x12_1).f1))).setCell ⟨gb396, 2, none⟩ (.int .i64 ((rd_T74 x395003_1 x12_1).f2)))).cell? _ = some _ from hx400_0)); (try have hy400_1 := fun (n_ : Nat) => (show (((((w20.drewN n_).setCell ⟨gb396, 0, none⟩ (.int .i64 ((rd_T74 x395003_1 x12_1).f0))).setCell ⟨gb396, 1, none⟩ (.int .i64 ((rd_T74 x395003_1 x12_1).f1))).setCell ⟨gb396, 2, none⟩ (.int .i64 ((rd_T74 x395003_1 x12_1).f2)))).cell? _ = some _ from hx400_1)); (try have hy400_2 := fun (n_ : Nat) => (show (((((w20.drewN n_).setCell ⟨gb396, 0, none⟩ (.int .i64 ((rd_T74 x395003_1 x12_1).f0))).setCell ⟨gb396, 1, none⟩ (.int .i64 ((rd_T74 x395003_1 x12_1).f1))).setCell ⟨gb396, 2, none⟩ (.int .i64 ((rd_T74 x395003_1 x12_1).f2)))).cell? _ = some _ from hx400_2)); clear hn400_0; clear hn400_1; clear hn400_2; replace p400 := eq_true p400; replace q400 := eq_true q400)); try go_wp2_with (first | ((with_reducible refine gate_dst (N := 6) rfl ?_); refine box_event ?hg (N := 6) ?hd (cs := #[.int .i64 0, .int .i64 0, .int .i64 0]) (t := 74) ?hr ?_; (case hd => rfl); (case hg => rfl); (case hr => first | (go_simp; done) | (go_simp; rfl)); intro gb396 hg w20 hbox hb; replace HO_395003 := uD (Kd.Q_below (Kd.Q_elderB (pq HO_395003) gb396 (Nat.le_of_eq hg.symm)) hb); have BK396 := uD (hbox); have GW396 := uD ((by rw [hg]; exact (by first | exact HK.out.1 | exact (show Kept w _ (fun k_ => P0_3_ k_) from by repeat (first | (with_reducible first | exact HK.out | apply Kept.alloc | apply Kept.drewN | apply Kept.drew | refine Kept.setCell ?_ (.inr GW394.out) _) | exact HK.out)).1) : w.heap.size ≤ gb396)); replace HK := uD (Kept.below (S := (fun k_ => P0_3_ k_)) (by repeat (first | (with_reducible first | exact HK.out | apply Kept.alloc | apply Kept.drewN | apply Kept.drew | refine Kept.setCell ?_ (.inr GW394.out) _) | exact HK.out)) hb); have GE396 := uD ((by rw [hg]; exact (uN (pb HB)) : w0.heap.size ≤ gb396)); replace HB := uD (uO (pb HB) hb); have NB394_396 := uD ((by rw [hg]; exact Nat.ne_of_lt (blk_lt (pk BK394)) : gb394 ≠ gb396)); have NB396_394 := uD ((by rw [hg]; exact Nat.ne_of_gt (blk_lt (pk BK394)) : gb396 ≠ gb394)); replace BK394 := uD (blk_below (pk BK394) hb); clear hb hbox hg; have hnb21 := NB396_394.out; have hnc21 := NB394_396.out; obtain ⟨hcz22_0, hcz22_1, hcz22_2, hfz22_0, hfz22_1, hfz22_2⟩ := cz3 BK396; obtain ⟨hcz23_0, hcz23_1, hcz23_2, hcz23_3, hfz23_0, hfz23_1, hfz23_2, hfz23_3⟩ := cz4 BK394; have p400 : 0 ≤ (x12_1 : Int) := of_decide_eq_true (by first | (with_reducible assumption) | assumption); have q400 : x12_1 < (x395003_1.length : Int) := of_decide_eq_true (by first | (with_reducible assumption) | assumption); obtain ⟨ad400, e400, hx400_0, hx400_1, hx400_2⟩ := at_T74 (Kd.Q_reads' HO_395003.out).2.2 x12_1 p400 q400; obtain rfl : ad395 = ad400 := (by injection e400); have hn400_0 : ad395.block ≠ gb396 := Kd.own_blk (Kd.Q_away HO_395003.out (fun _ hk => hk.2)); have hn400_1 : ad395.block ≠ gb396 := Kd.own_blk (Kd.Q_away HO_395003.out (fun _ hk => hk.2)); have hn400_2 : ad395.block ≠ gb396 := Kd.own_blk (Kd.Q_away HO_395003.out (fun _ hk => hk.2)); replace hx400_0 := (cell_far (p := ⟨gb396, 0, none⟩) (by first | (rw [add_block]; exact hn400_0) | (show (Addr.add _ _).block ≠ _; rw [add_block]; exact hn400_0) | exact hn400_0) (.int .i64 ((rd_T74 x395003_1 x12_1).f0))).trans hx400_0; replace hx400_1 := (cell_far (p := ⟨gb396, 0, none⟩) (by first | (rw [add_block]; exact hn400_0) | (show (Addr.add _ _).block ≠ _; rw [add_block]; exact hn400_0) | exact hn400_0) (.int .i64 ((rd_T74 x395003_1 x12_1).f0))).trans hx400_1; replace hx400_2 := (cell_far (p := ⟨gb396, 0, none⟩) (by first | (rw [add_block]; exact hn400_0) | (show (Addr.add _ _).block ≠ _; rw [add_block]; exact hn400_0) | exact hn400_0) (.int .i64 ((rd_T74 x395003_1 x12_1).f0))).trans hx400_2; replace hx400_0 := (cell_far (p := ⟨gb396, 1, none⟩) (by first | (rw [add_block]; exact hn400_1) | (show (Addr.add _ _).block ≠ _; rw [add_block]; exact hn400_1) | exact hn400_1) (.int .i64 ((rd_T74 x395003_1 x12_1).f1))).trans hx400_0; replace hx400_1 := (cell_far (p := ⟨gb396, 1, none⟩) (by first | (rw [add_block]; exact hn400_1) | (show (Addr.add _ _).block ≠ _; rw [add_block]; exact hn400_1) | exact hn400_1) (.int .i64 ((rd_T74 x395003_1 x12_1).f1))).trans hx400_1; replace hx400_2 := (cell_far (p := ⟨gb396, 1, none⟩) (by first | (rw [add_block]; exact hn400_1) | (show (Addr.add _ _).block ≠ _; rw [add_block]; exact hn400_1) | exact hn400_1) (.int .i64 ((rd_T74 x395003_1 x12_1).f1))).trans hx400_2; replace hx400_0 := (cell_far (p := ⟨gb396, 2, none⟩) (by first | (rw [add_block]; exact hn400_2) | (show (Addr.add _ _).block ≠ _; rw [add_block]; exact hn400_2) | exact hn400_2) (.int .i64 ((rd_T74 x395003_1 x12_1).f2))).trans hx400_0; replace hx400_1 := (cell_far (p := ⟨gb396, 2, none⟩) (by first | (rw [add_block]; exact hn400_2) | (show (Addr.add _ _).block ≠ _; rw [add_block]; exact hn400_2) | exact hn400_2) (.int .i64 ((rd_T74 x395003_1 x12_1).f2))).trans hx400_1; replace hx400_2 := (cell_far (p := ⟨gb396, 2, none⟩) (by first | (rw [add_block]; exact hn400_2) | (show (Addr.add _ _).block ≠ _; rw [add_block]; exact hn400_2) | exact hn400_2) (.int .i64 ((rd_T74 x395003_1 x12_1).f2))).trans hx400_2; (try have hy400_0 := fun (n_ : Nat) => (show (((((w20.drewN n_).setCell ⟨gb396, 0, none⟩ (.int .i64 ((rd_T74 x395003_1 x12_1).f0))).setCell ⟨gb396, 1, none⟩ (.int .i64 ((rd_T74 x395003_1 x12_1).f1))).setCell ⟨gb396, 2, none⟩ (.int .i64 ((rd_T74 x395003_1 x12_1).f2)))).cell? _ = some _ from hx400_0)); (try have hy400_1 := fun (n_ : Nat) => (show (((((w20.drewN n_).setCell ⟨gb396, 0, none⟩ (.int .i64 ((rd_T74 x395003_1 x12_1).f0))).setCell ⟨gb396, 1, none⟩ (.int .i64 ((rd_T74 x395003_1 x12_1).f1))).setCell ⟨gb396, 2, none⟩ (.int .i64 ((rd_T74 x395003_1 x12_1).f2)))).cell? _ = some _ from hx400_1)); (try have hy400_2 := fun (n_ : Nat) => (show (((((w20.drewN n_).setCell ⟨gb396, 0, none⟩ (.int .i64 ((rd_T74 x395003_1 x12_1).f0))).setCell ⟨gb396, 1, none⟩ (.int .i64 ((rd_T74 x395003_1 x12_1).f1))).setCell ⟨gb396, 2, none⟩ (.int .i64 ((rd_T74 x395003_1 x12_1).f2)))).cell? _ = some _ from hx400_2)); clear hn400_0; clear hn400_1; clear hn400_2; replace p400 := eq_true p400; replace q400 := eq_true q400)))
       (try simp only [← hl395003_1])
       go_roundg k1
       case measure => have := HK1.out; omega
       case rel => exact ⟨(x3_1), (wrap64 ((wrap64 (((rd_T74 x395003_1 x12_1).f1) - ((rd_T74 x395003_1 x12_1).f2))) - a0_1)), (wrap64 (x12_1 + 1)), (x395003_1), (by first | rfl | (simp; done) | (simp [*]; done)), (by first | rfl | (simp; done) | (simp [*]; done)), (by first | rfl | (simp; done) | (simp [*]; done)), H', ⟨by have := HK1.out; omega⟩, ⟨by (try simp only [hl395003_1]); (with_reducible repeat (first | apply Kd.Q_alloc | apply Kd.Q_drewN | apply Kd.Q_drew)); exact Kd.Q_mono (Kd.Q_far (p := ⟨gb396, 2, none⟩) (Kd.Q_far (p := ⟨gb396, 1, none⟩) (Kd.Q_far (p := ⟨gb396, 0, none⟩) (Kd.Q_mono HO_395003.out (fun k_ hk => (⟨hk, hk.2⟩ : _ ∧ k_ ≠ gb396))) (fun _ hk => hk.2) (.int .i64 ((rd_T74 x395003_1 x12_1).f0))) (fun _ hk => hk.2) (.int .i64 ((rd_T74 x395003_1 x12_1).f1))) (fun _ hk => hk.2) (.int .i64 ((rd_T74 x395003_1 x12_1).f2))) (fun _ hk => hk.1.1)⟩, ⟨by (try simp only [hl395003_1]); exact ps BK394⟩, ⟨by repeat (first | (with_reducible first | exact HK.out | apply Kept.alloc | apply Kept.drewN | apply Kept.drew | refine Kept.setCell ?_ (.inr GW394.out) _ | refine Kept.setCell ?_ (.inr GW396.out) _) | exact HK.out)⟩, ⟨pb HB⟩⟩
     ·rw [if_neg c7] at H
      exact absurd H (by simp)
    ·rw [if_neg c6] at H
     exact absurd H (by simp)
   ·rw [if_neg c5] at H
    have c5b0 : decide (x12_1 < (l0_3.length : Int)) = false := decide_eq_false c5
    (try simp only [hl395003_1] at c5b0)
    clear c5
    simp only [Option.some.injEq, Prod.mk.injEq] at H
    obtain ⟨rfl, rfl⟩ := H
    go_wp2
    repeat (go_quiet (fail); try go_wp2)
    go_ret
    exact ⟨by first | rfl | (simp [errW_none, errW_some] <;> rfl) | (simp [*, errW_none, errW_some] <;> rfl), (by first | exact (pq HO_395003) | (simp only [hl395003_1]; exact (pq HO_395003))), pb HB, by repeat (first | (with_reducible first | exact HK.out | apply Kept.alloc | apply Kept.drewN | apply Kept.drew | refine Kept.setCell ?_ (.inr GW394.out) _) | exact HK.out)⟩

/-! ### impl_Move: function 51 -/
mutual
def impl_Move.j0 : Nat → Int → Bool → Int → Int → Bool → List (S74) → Option (Int × Int × Bool × (List (S74)))
 | 0, _, _, _, _, _, _ => none
 | k + 1, x1, x15, x410000, x410001, x410002, x410003 => if x15 = true then (some (x410000, x410001, x410002, x410003)) else (impl_Move.l0 k x1 x410000 x410001 x410002 x410003)
def impl_Move.l0 : Nat → Int → Int → Int → Bool → List (S74) → Option (Int × Int × Bool × (List (S74)))
 | 0, _, _, _, _, _ => none
 | k + 1, x1, x410000, x410001, x410002, x410003 => if x1 > 0 then ((impl_stepped.f k x410000 x410001 x410002 x410003).bind fun bt412 => (impl_Move.l0 k (wrap64 (x1 - 1)) x410000 x410001 x410002 bt412.2)) else (some (x410000, x410001, x410002, x410003))
end
def impl_Move.f (k : Nat) (a0_0 : Int) (a0_1 : Int) (a0_2 : Bool) (l0_3 : List (S74)) (a1 : Int) : Option (Int × Int × Bool × (List (S74))) := (impl_copyBelt.f a0_0 a0_1 a0_2 l0_3).bind fun bt403 => ((impl_BeltOk.f k a0_0 a0_1 a0_2 l0_3).bind fun t410 => (if t410 = true then ((impl_isSteps.f a1).bind fun t411 => (impl_Move.j0 k a1 (!t411) bt403.1 bt403.2.1 bt403.2.2.1 bt403.2.2.2)) else (impl_Move.j0 k a1 true bt403.1 bt403.2.1 bt403.2.2.1 bt403.2.2.2)))
theorem impl_Move.mono_l : ∀ k, (∀ y0 y1 y2 y3 y4 y5, LeO (impl_Move.j0 k y0 y1 y2 y3 y4 y5) (impl_Move.j0 (k + 1) y0 y1 y2 y3 y4 y5)) ∧ (∀ y0 y1 y2 y3 y4, LeO (impl_Move.l0 k y0 y1 y2 y3 y4) (impl_Move.l0 (k + 1) y0 y1 y2 y3 y4))
 | 0 => ⟨fun _ _ _ _ _ _ r h => by simp [impl_Move.j0] at h, fun _ _ _ _ _ r h => by simp [impl_Move.l0] at h⟩
 | k + 1 => by
  obtain ⟨ih0, ih1⟩ := impl_Move.mono_l k
  refine ⟨?_, ?_⟩
  ·intro y0 y1 y2 y3 y4 y5
   unfold impl_Move.j0
   repeat' first
   | (with_reducible exact ih0 _ _ _ _ _ _)
   | (with_reducible exact ih1 _ _ _ _ _)
   | (with_reducible exact impl_BeltOk.mono _ _ _ _ _)
   | (with_reducible exact impl_stepped.mono _ _ _ _ _)
   | (with_reducible exact LeO.refl _)
   | (with_reducible exact LeO.none _)
   | (with_reducible refine LeO.ite ?_ ?_)
   | (with_reducible refine LeO.bind ?_ (fun _ => ?_))
   | exact ih0 _ _ _ _ _ _
   | exact ih1 _ _ _ _ _
   | exact impl_BeltOk.mono _ _ _ _ _
   | exact impl_stepped.mono _ _ _ _ _
   | exact LeO.none _
   | refine LeO.ite ?_ ?_
   | refine LeO.bind ?_ (fun _ => ?_)
  ·intro y0 y1 y2 y3 y4
   unfold impl_Move.l0
   repeat' first
   | (with_reducible exact ih0 _ _ _ _ _ _)
   | (with_reducible exact ih1 _ _ _ _ _)
   | (with_reducible exact impl_BeltOk.mono _ _ _ _ _)
   | (with_reducible exact impl_stepped.mono _ _ _ _ _)
   | (with_reducible exact LeO.refl _)
   | (with_reducible exact LeO.none _)
   | (with_reducible refine LeO.ite ?_ ?_)
   | (with_reducible refine LeO.bind ?_ (fun _ => ?_))
   | exact ih0 _ _ _ _ _ _
   | exact ih1 _ _ _ _ _
   | exact impl_BeltOk.mono _ _ _ _ _
   | exact impl_stepped.mono _ _ _ _ _
   | exact LeO.none _
   | refine LeO.ite ?_ ?_
   | refine LeO.bind ?_ (fun _ => ?_)
theorem impl_Move.mono : ∀ a0 a1 a2 a3 a4 k, LeO (impl_Move.f k a0 a1 a2 a3 a4) (impl_Move.f (k + 1) a0 a1 a2 a3 a4) := by
 intro a0 a1 a2 a3 a4 k
 obtain ⟨ih0, ih1⟩ := impl_Move.mono_l k
 unfold impl_Move.f
 repeat' first
   | (with_reducible exact ih0 _ _ _ _ _ _)
   | (with_reducible exact ih1 _ _ _ _ _)
   | (with_reducible exact impl_BeltOk.mono _ _ _ _ _)
   | (with_reducible exact impl_stepped.mono _ _ _ _ _)
   | (with_reducible exact LeO.refl _)
   | (with_reducible exact LeO.none _)
   | (with_reducible refine LeO.ite ?_ ?_)
   | (with_reducible refine LeO.bind ?_ (fun _ => ?_))
   | exact ih0 _ _ _ _ _ _
   | exact ih1 _ _ _ _ _
   | exact impl_BeltOk.mono _ _ _ _ _
   | exact impl_stepped.mono _ _ _ _ _
   | exact LeO.none _
   | refine LeO.ite ?_ ?_
   | refine LeO.bind ?_ (fun _ => ?_)
set_option maxHeartbeats 8000000 in
set_option maxRecDepth 100000 in
theorem impl_Move.calls (k : Nat) (a0_0 : Int) (a0_1 : Int) (a0_2 : Bool) (A0_3 : Option Addr) (c0_3 : Nat) (l0_3 : List (S74)) (a1 : Int) (r1 : Int) (r2 : Int) (r3 : Bool) (r4 : List (S74)) (w : World) (hr0_3 : Kd.C k74 w A0_3 l0_3.length l0_3) (hc0_3 : l0_3.length ≤ c0_3) (h : impl_Move.f k a0_0 a0_1 a0_2 l0_3 a1 = some (r1, r2, r3, r4)) :
  Calls Try.prog 51 #[.agg #[.int .i64 a0_0, .int .i64 a0_1, .bool a0_2, .slice A0_3 l0_3.length c0_3], .int .i64 a1] w fun e w' => ∃ v3_ : Value, e = .returned (.agg #[.int .i64 r1, .int .i64 r2, .bool r3, v3_]) ∧ Kd.Q k74 74 w' w.heap.size (fun _ => True) v3_ r4 ∧ Below w.heap.size w w' := by
 have hu63 := Try.underlying63
 have HR0_3 := uD hr0_3
 have HC0_3 := uD hc0_3
 clear hr0_3 hc0_3
 have HB := uD (Below.refl w.heap.size w)
 have H : ((impl_copyBelt.f a0_0 a0_1 a0_2 l0_3).bind fun bt403 => ((impl_BeltOk.f k a0_0 a0_1 a0_2 l0_3).bind fun t410 => (if t410 = true then ((impl_isSteps.f a1).bind fun t411 => (impl_Move.j0 k a1 (!t411) bt403.1 bt403.2.1 bt403.2.2.1 bt403.2.2.2)) else (impl_Move.j0 k a1 true bt403.1 bt403.2.1 bt403.2.2.1 bt403.2.2.2)))) = some (r1, r2, r3, r4) := h
 clear h
 replace H := Option.bind_eq_some_iff.mp H
 obtain ⟨⟨t403, t404, t405, t406⟩, A30, H⟩ := H
 replace H : ((impl_BeltOk.f k a0_0 a0_1 a0_2 l0_3).bind fun t410 => (if t410 = true then ((impl_isSteps.f a1).bind fun t411 => (impl_Move.j0 k a1 (!t411) t403 t404 t405 t406)) else (impl_Move.j0 k a1 true t403 t404 t405 t406))) = some (r1, r2, r3, r4) := H
 have A3 := uD A30
 clear A30
 have HC4 := uD H
 clear H
 go_enter Try.func51, Try.ntmps51
 go_upto_region 2 with (first | ((with_reducible refine gate_dst (N := 2) rfl ?_); refine box_event ?hg (N := 2) ?hd (cs := #[.int .i64 a0_0, .int .i64 a0_1, .bool a0_2, .slice A0_3 l0_3.length c0_3]) (t := 63) ?hr ?_; (case hd => rfl); (case hg => rfl); (case hr => first | (go_simp; done) | (go_simp; rfl)); intro gb401 hg w5 hbox hb; have BK401 := uD (hbox); have GW401 := uD ((by rw [hg]; exact (uN (pb HB)) : w.heap.size ≤ gb401)); have GE401 := uD ((by rw [hg]; exact (uN (pb HB)) : w.heap.size ≤ gb401)); replace HB := uD (uO (pb HB) hb); clear hb hbox hg) | ((with_reducible refine gate_dst (N := 4) rfl ?_); refine box_event ?hg (N := 4) ?hd (cs := #[.int .i64 0, .int .i64 0, .bool false, .slice none 0 0]) (t := 63) ?hr ?_; (case hd => rfl); (case hg => rfl); (case hr => first | (go_simp; done) | (go_simp; rfl)); intro gb402 hg w6 hbox hb; have BK402 := uD (hbox); have GW402 := uD ((by rw [hg]; exact (uN (pb HB)) : w.heap.size ≤ gb402)); have GE402 := uD ((by rw [hg]; exact (uN (pb HB)) : w.heap.size ≤ gb402)); replace HB := uD (uO (pb HB) hb); have NB401_402 := uD ((by rw [hg]; exact Nat.ne_of_lt (blk_lt (pk BK401)) : gb401 ≠ gb402)); have NB402_401 := uD ((by rw [hg]; exact Nat.ne_of_gt (blk_lt (pk BK401)) : gb402 ≠ gb401)); replace BK401 := uD (blk_below (pk BK401) hb); clear hb hbox hg; have hnb7 := NB401_402.out; have hnc7 := NB402_401.out; obtain ⟨hcz8_0, hcz8_1, hcz8_2, hcz8_3, hfz8_0, hfz8_1, hfz8_2, hfz8_3⟩ := cz4 BK401) | ((with_reducible refine gate_callee (f := 92) rfl ?_); refine goesL_ (some 7) rfl rfl Try.func92 (by kernel_rfl) rfl #[.agg #[.int .i64 a0_0, .int .i64 a0_1, .bool a0_2, .slice A0_3 l0_3.length c0_3]] rfl (by (try simp only [List.map_toArray, List.map_cons, List.map_nil]); first | done | rfl | (simp only [List.length_drop, List.length_take]; rfl)) ?_; (with_reducible refine (impl_copyBelt.calls a0_0 a0_1 a0_2 _ _ l0_3 t403 t404 t405 t406 _ ?side1 ?side2 A3.out).mono ?_); (case side1 => repeat (first | exact (Kd.C_below HR0_3.out HB.out) | (with_reducible refine Kd.C_alloc ?_ _) | (with_reducible refine Kd.C_drewN ?_ _) | (with_reducible refine Kd.C_drew ?_))); (case side2 => exact HC0_3.out); rintro e w9 ⟨v407, rfl, ho0, hb⟩; refine ⟨_, rfl, ?_⟩; have HO408 := uD (Kd.R_lower ho0 (uN (pb HB))); replace BK401 := uD (blk_below (pk BK401) hb); replace BK402 := uD (blk_below (pk BK402) hb); replace HB := uD (uO (pb HB) hb); (try clear hb); (try clear hb2); (try clear hk); (try clear hi); (try clear ho0)) | ((with_reducible refine gate_dst (N := 5) rfl ?_); refine box_event ?hg (N := 5) ?hd (cs := #[.int .i64 0, .int .i64 0, .bool false, .slice none 0 0]) (t := 63) ?hr ?_; (case hd => rfl); (case hg => rfl); (case hr => first | (go_simp; done) | (go_simp; rfl)); intro gb409 hg w10 hbox hb; replace HO408 := uD (Kd.R_below (pr HO408) hb); have BK409 := uD (hbox); have GW409 := uD ((by rw [hg]; exact (uN (pb HB)) : w.heap.size ≤ gb409)); have GE409 := uD ((by rw [hg]; exact (uN (pb HB)) : w.heap.size ≤ gb409)); replace HB := uD (uO (pb HB) hb); have NB401_409 := uD ((by rw [hg]; exact Nat.ne_of_lt (blk_lt (pk BK401)) : gb401 ≠ gb409)); have NB409_401 := uD ((by rw [hg]; exact Nat.ne_of_gt (blk_lt (pk BK401)) : gb409 ≠ gb401)); replace BK401 := uD (blk_below (pk BK401) hb); have NB402_409 := uD ((by rw [hg]; exact Nat.ne_of_lt (blk_lt (pk BK402)) : gb402 ≠ gb409)); have NB409_402 := uD ((by rw [hg]; exact Nat.ne_of_gt (blk_lt (pk BK402)) : gb409 ≠ gb402)); replace BK402 := uD (blk_below (pk BK402) hb); clear hb hbox hg; have hnb11 := NB409_401.out; have hnc11 := NB401_409.out; have hnb12 := NB409_402.out; have hnc12 := NB402_409.out; obtain ⟨hcz13_0, hcz13_1, hcz13_2, hcz13_3, hfz13_0, hfz13_1, hfz13_2, hfz13_3⟩ := cz4 BK409; obtain ⟨Ao14, co14, eo14⟩ := Kd.R_slice HO408.out; subst eo14))
 (try simp only [uc, uA, uB, uC])
 go_cut [15] (fun v15 wc => ∃ (kq : Nat) (x15_3 : Bool), v15 = .bool x15_3 ∧ Aside0 (impl_Move.j0 kq a1 x15_3 t403 t404 t405 t406 = some (r1, r2, r3, r4)) ∧ Aside0 (kq ≤ k) ∧ Aside0 (Kd.Q k74 74 wc w.heap.size (fun _ => True) (.slice Ao14 t406.length co14) t406) ∧ Aside0 (wc.heap[gb401]? = some (.cells #[.int .i64 a0_0, .int .i64 a0_1, .bool a0_2, (.slice A0_3 l0_3.length c0_3)] 63 (0, 0))) ∧ Aside0 (wc.heap[gb402]? = some (.cells #[.int .i64 0, .int .i64 0, .bool false, (.slice none 0 0)] 63 (0, 0))) ∧ Aside0 (wc.heap[gb409]? = some (.cells #[.int .i64 t403, .int .i64 t404, .bool t405, (.slice Ao14 t406.length co14)] 63 (0, 0))) ∧ Aside0 (Below w.heap.size w wc))
 case first =>
  have H := HC4.out
  clear HC4
  replace H := Option.bind_eq_some_iff.mp H
  obtain ⟨t410, A150, H⟩ := H
  replace H : (if t410 = true then ((impl_isSteps.f a1).bind fun t411 => (impl_Move.j0 k a1 (!t411) t403 t404 t405 t406)) else (impl_Move.j0 k a1 true t403 t404 t405 t406)) = some (r1, r2, r3, r4) := H
  have A15 := uD A150
  clear A150
  by_cases c16 : t410 = true
  ·subst c16
   have H1 : ((impl_isSteps.f a1).bind fun t411 => (impl_Move.j0 k a1 (!t411) t403 t404 t405 t406)) = some (r1, r2, r3, r4) := by rw [if_pos rfl] at H; first | done | exact H
   clear H
   have H := H1
   clear H1
   replace H := Option.bind_eq_some_iff.mp H
   obtain ⟨t411, A170, H⟩ := H
   replace H : (impl_Move.j0 k a1 (!t411) t403 t404 t405 t406) = some (r1, r2, r3, r4) := H
   have A17 := uD A170
   clear A170
   have H' := uD H
   clear H
   have hnb18 := NB401_402.out
   have hnc18 := NB402_401.out
   have hnb19 := NB401_409.out
   have hnc19 := NB409_401.out
   obtain ⟨hcz20_0, hcz20_1, hcz20_2, hcz20_3, hfz20_0, hfz20_1, hfz20_2, hfz20_3⟩ := cz4 BK401
   go_wp2_with (first | ((with_reducible refine gate_callee (f := 78) rfl ?_); refine goesL_ (some 9) rfl rfl Try.func78 (by kernel_rfl) rfl #[.agg #[.int .i64 a0_0, .int .i64 a0_1, .bool a0_2, .slice A0_3 l0_3.length c0_3]] rfl (by (try simp only [List.map_toArray, List.map_cons, List.map_nil]); first | done | rfl | (simp only [List.length_drop, List.length_take]; rfl)) ?_; (with_reducible refine (impl_BeltOk.calls k a0_0 a0_1 a0_2 _ _ l0_3 true _ ?side1 ?side2 A15.out).mono ?_); (case side1 => exact Kd.C_below HR0_3.out (pb HB)); (case side2 => exact HC0_3.out); rintro e w21 ⟨rfl, hb⟩; refine ⟨_, rfl, ?_⟩; replace HO408 := uD (Kd.R_below (by (with_reducible repeat (first | apply uU | apply uS | apply uT)); exact (uX (uV (p := ⟨gb409, 3, none⟩) (uV (p := ⟨gb409, 2, none⟩) (uV (p := ⟨gb409, 1, none⟩) (uV (p := ⟨gb409, 0, none⟩) (uW HO408.out BK409.out (by decide)) (fun _ hk => hk.2) (.int .i64 t403)) (fun _ hk => hk.2) (.int .i64 t404)) (fun _ hk => hk.2) (.bool t405)) (fun _ hk => hk.2) (.slice Ao14 t406.length co14)) (fun _ h_ => h_.1))) hb); replace BK401 := uD (blk_below (g := gb401) (o := .cells #[.int .i64 a0_0, .int .i64 a0_1, .bool a0_2, .slice A0_3 l0_3.length c0_3] 63 (0, 0)) (by exact ps BK401) hb); replace BK402 := uD (blk_below (g := gb402) (o := .cells #[.int .i64 0, .int .i64 0, .bool false, .slice none 0 0] 63 (0, 0)) (by exact ps BK402) hb); replace BK409 := uD (blk_below (g := gb409) (o := .cells #[.int .i64 t403, .int .i64 t404, .bool t405, .slice Ao14 t406.length co14] 63 (0, 0)) (by (with_reducible repeat first|apply uH|apply uJ|apply uG); refine uP (cs := #[.int .i64 t403, .int .i64 t404, .bool t405, .slice none 0 0]) ?_ 3 _ rfl; (with_reducible repeat first|apply uH|apply uJ|apply uG); refine uP (cs := #[.int .i64 t403, .int .i64 t404, .bool false, .slice none 0 0]) ?_ 2 _ rfl; (with_reducible repeat first|apply uH|apply uJ|apply uG); refine uP (cs := #[.int .i64 t403, .int .i64 0, .bool false, .slice none 0 0]) ?_ 1 _ rfl; (with_reducible repeat first|apply uH|apply uJ|apply uG); refine uP (cs := #[.int .i64 0, .int .i64 0, .bool false, .slice none 0 0]) ?_ 0 _ rfl; (with_reducible repeat first|apply uH|apply uJ|apply uG); exact BK409.out) hb); replace HB := uD (uO (pb HB) hb); (try clear hb); (try clear hb2); (try clear hk); (try clear hi)) | (go_at_call 98; (with_reducible refine (impl_isSteps.calls a1 t411 _ A17.out).mono ?_); rintro e w' ⟨rfl, ⟨nd, rfl⟩⟩))
   go_meet
   case rel => exact ⟨_, (!t411), (by first | rfl | (simp; done) | (simp [*]; done)), H', ⟨by first | omega | exact Nat.le_refl _⟩, ⟨Kd.Q_of_R (pr HO408)⟩, ⟨by (with_reducible repeat first|apply uH|apply uJ|apply uG); exact BK401.out⟩, ⟨by (with_reducible repeat first|apply uH|apply uJ|apply uG); exact BK402.out⟩, ⟨by (with_reducible repeat first|apply uH|apply uJ|apply uG); exact BK409.out⟩, ⟨pb HB⟩⟩
  ·replace c16 := Bool.eq_false_iff.mpr c16
   subst c16
   have H1 : (impl_Move.j0 k a1 true t403 t404 t405 t406) = some (r1, r2, r3, r4) := by rw [if_neg (show ¬ (false = true) by decide)] at H; first | done | exact H
   clear H
   have H := H1
   clear H1
   have H' := uD H
   clear H
   have hnb22 := NB401_402.out
   have hnc22 := NB402_401.out
   have hnb23 := NB401_409.out
   have hnc23 := NB409_401.out
   obtain ⟨hcz24_0, hcz24_1, hcz24_2, hcz24_3, hfz24_0, hfz24_1, hfz24_2, hfz24_3⟩ := cz4 BK401
   go_wp2_with (first | ((with_reducible refine gate_callee (f := 78) rfl ?_); refine goesL_ (some 9) rfl rfl Try.func78 (by kernel_rfl) rfl #[.agg #[.int .i64 a0_0, .int .i64 a0_1, .bool a0_2, .slice A0_3 l0_3.length c0_3]] rfl (by (try simp only [List.map_toArray, List.map_cons, List.map_nil]); first | done | rfl | (simp only [List.length_drop, List.length_take]; rfl)) ?_; (with_reducible refine (impl_BeltOk.calls k a0_0 a0_1 a0_2 _ _ l0_3 false _ ?side1 ?side2 A15.out).mono ?_); (case side1 => exact Kd.C_below HR0_3.out (pb HB)); (case side2 => exact HC0_3.out); rintro e w25 ⟨rfl, hb⟩; refine ⟨_, rfl, ?_⟩; replace HO408 := uD (Kd.R_below (by (with_reducible repeat (first | apply uU | apply uS | apply uT)); exact (uX (uV (p := ⟨gb409, 3, none⟩) (uV (p := ⟨gb409, 2, none⟩) (uV (p := ⟨gb409, 1, none⟩) (uV (p := ⟨gb409, 0, none⟩) (uW HO408.out BK409.out (by decide)) (fun _ hk => hk.2) (.int .i64 t403)) (fun _ hk => hk.2) (.int .i64 t404)) (fun _ hk => hk.2) (.bool t405)) (fun _ hk => hk.2) (.slice Ao14 t406.length co14)) (fun _ h_ => h_.1))) hb); replace BK401 := uD (blk_below (g := gb401) (o := .cells #[.int .i64 a0_0, .int .i64 a0_1, .bool a0_2, .slice A0_3 l0_3.length c0_3] 63 (0, 0)) (by exact ps BK401) hb); replace BK402 := uD (blk_below (g := gb402) (o := .cells #[.int .i64 0, .int .i64 0, .bool false, .slice none 0 0] 63 (0, 0)) (by exact ps BK402) hb); replace BK409 := uD (blk_below (g := gb409) (o := .cells #[.int .i64 t403, .int .i64 t404, .bool t405, .slice Ao14 t406.length co14] 63 (0, 0)) (by (with_reducible repeat first|apply uH|apply uJ|apply uG); refine uP (cs := #[.int .i64 t403, .int .i64 t404, .bool t405, .slice none 0 0]) ?_ 3 _ rfl; (with_reducible repeat first|apply uH|apply uJ|apply uG); refine uP (cs := #[.int .i64 t403, .int .i64 t404, .bool false, .slice none 0 0]) ?_ 2 _ rfl; (with_reducible repeat first|apply uH|apply uJ|apply uG); refine uP (cs := #[.int .i64 t403, .int .i64 0, .bool false, .slice none 0 0]) ?_ 1 _ rfl; (with_reducible repeat first|apply uH|apply uJ|apply uG); refine uP (cs := #[.int .i64 0, .int .i64 0, .bool false, .slice none 0 0]) ?_ 0 _ rfl; (with_reducible repeat first|apply uH|apply uJ|apply uG); exact BK409.out) hb); replace HB := uD (uO (pb HB) hb); (try clear hb); (try clear hb2); (try clear hk); (try clear hi)))
   go_meet
   case rel => exact ⟨_, (true), (by first | rfl | (simp; done) | (simp [*]; done)), H', ⟨by first | omega | exact Nat.le_refl _⟩, ⟨Kd.Q_of_R (pr HO408)⟩, ⟨by (with_reducible repeat first|apply uH|apply uJ|apply uG); exact BK401.out⟩, ⟨by (with_reducible repeat first|apply uH|apply uJ|apply uG); exact BK402.out⟩, ⟨by (with_reducible repeat first|apply uH|apply uJ|apply uG); exact BK409.out⟩, ⟨pb HB⟩⟩
 case rest =>
  clear HC4
  try clear c1
  try clear c2
  try clear p2
  try clear c5
  try clear c7
  try clear c9
  try clear c11
  try clear c12
  try clear c16
  try clear c18
  try clear c19
  try clear c22
  try clear c23
  try clear hcz13_0
  try clear hcz13_1
  try clear hcz13_2
  try clear hcz13_3
  try clear hcz20_0
  try clear hcz20_1
  try clear hcz20_2
  try clear hcz20_3
  try clear hcz24_0
  try clear hcz24_1
  try clear hcz24_2
  try clear hcz24_3
  try clear hcz8_0
  try clear hcz8_1
  try clear hcz8_2
  try clear hcz8_3
  try clear hfz13_0
  try clear hfz13_1
  try clear hfz13_2
  try clear hfz13_3
  try clear hfz20_0
  try clear hfz20_1
  try clear hfz20_2
  try clear hfz20_3
  try clear hfz24_0
  try clear hfz24_1
  try clear hfz24_2
  try clear hfz24_3
  try clear hfz8_0
  try clear hfz8_1
  try clear hfz8_2
  try clear hfz8_3
  obtain ⟨kq, x15_3, rfl, HA, HJ3, HO_410003, BK401, BK402, BK409, HB⟩ := hcut
  cases kq with
  | zero => exact absurd HA.out (by simp [impl_Move.j0])
  | succ kj3 =>
   have H := HA.out
   clear HA
   simp only [impl_Move.j0] at H
   by_cases c26 : x15_3 = true
   ·subst c26
    have H1 : (some (t403, t404, t405, t406)) = some (r1, r2, r3, r4) := by rw [if_pos rfl] at H; first | done | exact H
    clear H
    have H := H1
    clear H1
    simp only [Option.some.injEq, Prod.mk.injEq] at H
    obtain ⟨rfl, rfl, rfl, rfl⟩ := H
    have hnb27 := NB409_401.out
    have hnc27 := NB401_409.out
    have hnb28 := NB409_402.out
    have hnc28 := NB402_409.out
    obtain ⟨hcz29_0, hcz29_1, hcz29_2, hcz29_3, hfz29_0, hfz29_1, hfz29_2, hfz29_3⟩ := cz4 BK409
    have hnb30 := NB402_401.out
    have hnc30 := NB401_402.out
    obtain ⟨hcz31_0, hcz31_1, hcz31_2, hcz31_3, hfz31_0, hfz31_1, hfz31_2, hfz31_3⟩ := cz4 BK402
    go_wp2
    refine bodyPost_ret (results_cell_row rfl _ _ gb402 63 #[.int .i64 t403, .int .i64 t404, .bool t405, .slice Ao14 t406.length co14] (0, 0) _ rfl (by (with_reducible repeat first|apply uH|apply uJ|apply uG); refine uP (cs := #[.int .i64 t403, .int .i64 t404, .bool t405, .slice none 0 0]) ?_ 3 _ rfl; (with_reducible repeat first|apply uH|apply uJ|apply uG); refine uP (cs := #[.int .i64 t403, .int .i64 t404, .bool false, .slice none 0 0]) ?_ 2 _ rfl; (with_reducible repeat first|apply uH|apply uJ|apply uG); refine uP (cs := #[.int .i64 t403, .int .i64 0, .bool false, .slice none 0 0]) ?_ 1 _ rfl; (with_reducible repeat first|apply uH|apply uJ|apply uG); refine uP (cs := #[.int .i64 0, .int .i64 0, .bool false, .slice none 0 0]) ?_ 0 _ rfl; (with_reducible repeat first|apply uH|apply uJ|apply uG); exact BK402.out) Try.underlying63 rfl (by kernel_rfl)) rfl ?_
    exact ⟨_, by first | rfl | (simp [errW_none, errW_some] <;> rfl) | (simp [*, errW_none, errW_some] <;> rfl), by (with_reducible repeat (first | apply Kd.Q_alloc | apply Kd.Q_drewN | apply Kd.Q_drew)); exact Kd.Q_mono (Kd.Q_far (p := ⟨gb402, 3, none⟩) (Kd.Q_far (p := ⟨gb402, 2, none⟩) (Kd.Q_far (p := ⟨gb402, 1, none⟩) (Kd.Q_far (p := ⟨gb402, 0, none⟩) (Kd.Q_types HO_410003.out BK402.out (by decide)) (fun _ hk => hk.2) (.int .i64 t403)) (fun _ hk => hk.2) (.int .i64 t404)) (fun _ hk => hk.2) (.bool t405)) (fun _ hk => hk.2) (.slice Ao14 t406.length co14)) (fun _ hk => trivial), pb HB⟩
   ·replace c26 := Bool.eq_false_iff.mpr c26
    subst c26
    have H1 : (impl_Move.l0 kj3 a1 t403 t404 t405 t406) = some (r1, r2, r3, r4) := by rw [if_neg (show ¬ (false = true) by decide)] at H; first | done | exact H
    clear H
    have H := H1
    clear H1
    have H' := uD H
    clear H
    go_wp2
    go_loopg [1] kj3 (fun kq v1 w' => ∃ (x1_2 : Int) (x410003_2 : List (S74)) (u410003 : Value), v1 = .int .i64 x1_2 ∧ Aside0 (impl_Move.l0 kq x1_2 t403 t404 t405 x410003_2 = some (r1, r2, r3, r4)) ∧ Aside0 (kq ≤ kj3) ∧ Aside0 (Kd.Q k74 74 w' w.heap.size (fun _ => True) u410003 x410003_2) ∧ Aside0 (w'.heap[gb401]? = some (.cells #[.int .i64 a0_0, .int .i64 a0_1, .bool a0_2, (.slice A0_3 l0_3.length c0_3)] 63 (0, 0))) ∧ Aside0 (w'.heap[gb402]? = some (.cells #[.int .i64 0, .int .i64 0, .bool false, (.slice none 0 0)] 63 (0, 0))) ∧ Aside0 (w'.heap[gb409]? = some (.cells #[.int .i64 t403, .int .i64 t404, .bool t405, u410003] 63 (0, 0))) ∧ Aside0 (Below w.heap.size w w'))
    case atStart => exact ⟨(a1), (t406), (.slice Ao14 t406.length co14), (by first | rfl | (simp; done) | (simp [*]; done)), H', ⟨Nat.le_refl _⟩, ⟨by (with_reducible repeat (first | apply Kd.Q_alloc | apply Kd.Q_drewN | apply Kd.Q_drew)); exact HO_410003.out⟩, ⟨by (with_reducible repeat first|apply uH|apply uJ|apply uG); exact BK401.out⟩, ⟨by (with_reducible repeat first|apply uH|apply uJ|apply uG); exact BK402.out⟩, ⟨by (with_reducible repeat first|apply uH|apply uJ|apply uG); exact BK409.out⟩, ⟨pb HB⟩⟩
    case round =>
     clear H'
     try clear c1
     try clear c2
     try clear p2
     try clear c3
     try clear c5
     try clear c7
     try clear c9
     try clear c11
     try clear c12
     try clear c16
     try clear c18
     try clear c19
     try clear c22
     try clear c23
     try clear c26
     try clear c27
     try clear c28
     try clear c30
     try clear hcz13_0
     try clear hcz13_1
     try clear hcz13_2
     try clear hcz13_3
     try clear hcz20_0
     try clear hcz20_1
     try clear hcz20_2
     try clear hcz20_3
     try clear hcz24_0
     try clear hcz24_1
     try clear hcz24_2
     try clear hcz24_3
     try clear hcz29_0
     try clear hcz29_1
     try clear hcz29_2
     try clear hcz29_3
     try clear hcz31_0
     try clear hcz31_1
     try clear hcz31_2
     try clear hcz31_3
     try clear hcz8_0
     try clear hcz8_1
     try clear hcz8_2
     try clear hcz8_3
     try clear hfz13_0
     try clear hfz13_1
     try clear hfz13_2
     try clear hfz13_3
     try clear hfz20_0
     try clear hfz20_1
     try clear hfz20_2
     try clear hfz20_3
     try clear hfz24_0
     try clear hfz24_1
     try clear hfz24_2
     try clear hfz24_3
     try clear hfz29_0
     try clear hfz29_1
     try clear hfz29_2
     try clear hfz29_3
     try clear hfz31_0
     try clear hfz31_1
     try clear hfz31_2
     try clear hfz31_3
     try clear hfz8_0
     try clear hfz8_1
     try clear hfz8_2
     try clear hfz8_3
     try clear p2
     obtain ⟨x1_2, x410003_2, u410003, rfl, HA, HK2, HO_410003, BK401, BK402, BK409, HB⟩ := hrel
     cases gk with
     | zero => exact absurd HA.out (by simp [impl_Move.l0])
     | succ k2 =>
      have H := HA.out
      clear HA
      simp only [impl_Move.l0] at H
      by_cases c32 : x1_2 > 0
      ·rw [if_pos c32] at H
       have c32b0 : decide (0 < x1_2) = true := decide_eq_true c32
       clear c32
       replace H := Option.bind_eq_some_iff.mp H
       obtain ⟨⟨t412, t413⟩, A330, H⟩ := H
       replace H : (impl_Move.l0 k2 (wrap64 (x1_2 - 1)) t403 t404 t405 t413) = some (r1, r2, r3, r4) := H
       have A33 := uD A330
       clear A330
       have H' := uD H
       clear H
       have hnb34 := NB409_401.out
       have hnc34 := NB401_409.out
       have hnb35 := NB409_402.out
       have hnc35 := NB402_409.out
       obtain ⟨hcz36_0, hcz36_1, hcz36_2, hcz36_3, hfz36_0, hfz36_1, hfz36_2, hfz36_3⟩ := cz4 BK409
       obtain ⟨Ao37, co37, eo37, _⟩ := Kd.Q_slice HO_410003.out
       subst eo37
       go_wp2_with (first | ((with_reducible refine gate_callee (f := 99) rfl ?_); refine goesL_ (some 22) rfl rfl Try.func99 (by kernel_rfl) rfl #[.agg #[.int .i64 t403, .int .i64 t404, .bool t405, .slice Ao37 x410003_2.length co37]] rfl (by (try simp only [List.map_toArray, List.map_cons, List.map_nil]); first | done | rfl | (simp only [List.length_drop, List.length_take]; rfl)) ?_; (with_reducible refine (impl_stepped.calls k2 t403 t404 t405 (fun k_ => some k_ = (.slice Ao37 x410003_2.length co37 : Value).ownBlock) (.slice Ao37 x410003_2.length co37) x410003_2 t412 t413 w _ ?side1 ?side2 A33.out).mono ?_); (case side1 => repeat (first | (with_reducible first | exact HB.out | apply uL | apply uE | apply uK | refine uM ?_ GE401.out | refine uM ?_ GE402.out | refine uM ?_ GE409.out) | exact HB.out)); (case side2 => exact (Kd.Q_tight rfl HO_410003.out)); rintro e w38 ⟨rfl, hy0, hb, hkp⟩; refine ⟨_, rfl, ?_⟩; replace BK401 := uD (blk_kept (pk BK401) hkp (fun hs_ => (fun e_ => (Kd.Q_ne HO_410003.out BK401.out (by decide)) e_) hs_)); replace BK402 := uD (blk_kept (pk BK402) hkp (fun hs_ => (fun e_ => (Kd.Q_ne HO_410003.out BK402.out (by decide)) e_) hs_)); replace BK409 := uD (blk_kept (pk BK409) hkp (fun hs_ => (fun e_ => (Kd.Q_ne HO_410003.out BK409.out (by decide)) e_) hs_)); replace HO_410003 := uD (Kd.Q_mono (Kd.Q_tight rfl hy0) (fun k_ e_ => HO_410003.out.1 k_ e_.symm)); replace HB := uD (hb); (try clear hb); (try clear hkp); (try clear hy0)))
       go_roundg k2
       case measure => have := HJ3.out; have := HK2.out; omega
       case rel => exact ⟨(wrap64 (x1_2 - 1)), (t413), (.slice Ao37 x410003_2.length co37), (by first | rfl | (simp; done) | (simp [*]; done)), H', ⟨by have := HJ3.out; have := HK2.out; omega⟩, ⟨by (with_reducible repeat (first | apply Kd.Q_alloc | apply Kd.Q_drewN | apply Kd.Q_drew)); exact HO_410003.out⟩, ⟨by (with_reducible repeat first|apply uH|apply uJ|apply uG); exact BK401.out⟩, ⟨by (with_reducible repeat first|apply uH|apply uJ|apply uG); exact BK402.out⟩, ⟨by (with_reducible repeat first|apply uH|apply uJ|apply uG); exact BK409.out⟩, ⟨pb HB⟩⟩
      ·rw [if_neg c32] at H
       have c32b0 : decide (0 < x1_2) = false := decide_eq_false c32
       clear c32
       simp only [Option.some.injEq, Prod.mk.injEq] at H
       obtain ⟨rfl, rfl, rfl, rfl⟩ := H
       have hnb39 := NB409_401.out
       have hnc39 := NB401_409.out
       have hnb40 := NB409_402.out
       have hnc40 := NB402_409.out
       obtain ⟨hcz41_0, hcz41_1, hcz41_2, hcz41_3, hfz41_0, hfz41_1, hfz41_2, hfz41_3⟩ := cz4 BK409
       have hnb42 := NB402_401.out
       have hnc42 := NB401_402.out
       obtain ⟨hcz43_0, hcz43_1, hcz43_2, hcz43_3, hfz43_0, hfz43_1, hfz43_2, hfz43_3⟩ := cz4 BK402
       obtain ⟨Ao44, co44, eo44, _⟩ := Kd.Q_slice HO_410003.out
       subst eo44
       go_wp2
       refine bodyPost_ret (results_cell_row rfl _ _ gb402 63 #[.int .i64 t403, .int .i64 t404, .bool t405, .slice Ao44 x410003_2.length co44] (0, 0) _ rfl (by (with_reducible repeat first|apply uH|apply uJ|apply uG); refine uP (cs := #[.int .i64 t403, .int .i64 t404, .bool t405, .slice none 0 0]) ?_ 3 _ rfl; (with_reducible repeat first|apply uH|apply uJ|apply uG); refine uP (cs := #[.int .i64 t403, .int .i64 t404, .bool false, .slice none 0 0]) ?_ 2 _ rfl; (with_reducible repeat first|apply uH|apply uJ|apply uG); refine uP (cs := #[.int .i64 t403, .int .i64 0, .bool false, .slice none 0 0]) ?_ 1 _ rfl; (with_reducible repeat first|apply uH|apply uJ|apply uG); refine uP (cs := #[.int .i64 0, .int .i64 0, .bool false, .slice none 0 0]) ?_ 0 _ rfl; (with_reducible repeat first|apply uH|apply uJ|apply uG); exact BK402.out) Try.underlying63 rfl (by kernel_rfl)) rfl ?_
       exact ⟨_, by first | rfl | (simp [errW_none, errW_some] <;> rfl) | (simp [*, errW_none, errW_some] <;> rfl), by (with_reducible repeat (first | apply Kd.Q_alloc | apply Kd.Q_drewN | apply Kd.Q_drew)); exact Kd.Q_mono (Kd.Q_far (p := ⟨gb402, 3, none⟩) (Kd.Q_far (p := ⟨gb402, 2, none⟩) (Kd.Q_far (p := ⟨gb402, 1, none⟩) (Kd.Q_far (p := ⟨gb402, 0, none⟩) (Kd.Q_types HO_410003.out BK402.out (by decide)) (fun _ hk => hk.2) (.int .i64 t403)) (fun _ hk => hk.2) (.int .i64 t404)) (fun _ hk => hk.2) (.bool t405)) (fun _ hk => hk.2) (.slice Ao44 x410003_2.length co44)) (fun _ hk => trivial), pb HB⟩

end Go.Proofs.Ytnnimbbffbfhoaa.PFnBeltRoom
