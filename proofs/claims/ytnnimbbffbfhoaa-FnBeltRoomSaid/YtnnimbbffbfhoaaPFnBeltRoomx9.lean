-- Written by a program of this session (wip/myprint.py: the kit's print with changes): not by print.sh itself.
import Derived.Test.YtnnimbbffbfhoaaPFnBeltRoomx0
import Derived.Test.YtnnimbbffbfhoaaPFnBeltRoomx7
import Derived.Test.YtnnimbbffbfhoaaPFnBeltRoomx8
namespace Go.Proofs.Ytnnimbbffbfhoaa.PFnBeltRoom
open Go.RowKit Go.Proofs.YtnnimbbffbfhoaaW.PrintWords Go.Proofs.YtnnimbbffbfhoaaW.PrintLast Go.Proofs.YtnnimbbffbfhoaaW.PrintMore
open Go renaming Act.put → uc
open Go.Proofs.YtnnimbbffbfhoaaW.PrintLast renaming i64_w → uZ
open Go.Proofs.YtnnimbbffbfhoaaW.PrintWords renaming Aside0.mk → uD, blk_alloc → uG, blk_drewN → uH, blk_drew → uJ, below_set → uM, below_size → uN, below_step → uO, blk_put → uP, Kd.R_drewN → uS, Kd.R_drew → uT, Kd.R_alloc → uU, Kd.R_far → uV, Kd.R_types → uW, Kd.R_mono → uX
open List renaming setIfInBounds_toArray → uA, set_cons_zero → uB, set_cons_succ → uC
attribute [local go_sem] max2_int min2_int max_two min_two max_three min_three max_four min_four   -- for this text's walks alone
set_option linter.unusedVariables false
set_option linter.unusedSimpArgs false

/-! ### spec_l02Step: function 86 -/
def spec_l02Step.l0 : Nat → List (S74) → Int → Int → Int → Bool → List (S74) → Option (Int × Int × Bool × (List (S74)))
 | 0, _, _, _, _, _, _ => none
 | k + 1, x3, x4, x327000, x327001, x327002, x327003 => if x4 < (x3.length : Int) then (if x4 > 0 then (if 0 ≤ (wrap64 (x4 - 1)) then (if (wrap64 (x4 - 1)) < (x3.length : Int) then (if 0 ≤ x4 then (if ((rd_T74 x3 x4).f1) < (wrap64 ((wrap64 (((rd_T74 x3 (wrap64 (x4 - 1))).f1) - ((rd_T74 x3 (wrap64 (x4 - 1))).f2))) - x327001)) then (spec_l02Step.l0 k (x3.set (x4 : Int).toNat (⟨(rd_T74 x3 x4).f0, wrap64 (((rd_T74 x3 x4).f1) + 1), (rd_T74 x3 x4).f2⟩ : S74)) (wrap64 (x4 + 1)) x327000 x327001 x327002 x327003) else (spec_l02Step.l0 k x3 (wrap64 (x4 + 1)) x327000 x327001 x327002 x327003)) else (none)) else (none)) else (none)) else (if 0 ≤ x4 then (if ((rd_T74 x3 x4).f1) < x327000 then (spec_l02Step.l0 k (x3.set (x4 : Int).toNat (⟨(rd_T74 x3 x4).f0, wrap64 (((rd_T74 x3 x4).f1) + 1), (rd_T74 x3 x4).f2⟩ : S74)) (wrap64 (x4 + 1)) x327000 x327001 x327002 x327003) else (spec_l02Step.l0 k x3 (wrap64 (x4 + 1)) x327000 x327001 x327002 x327003)) else (none))) else (some (x327000, x327001, x327002, x3))
def spec_l02Step.f (k : Nat) (a0_0 : Int) (a0_1 : Int) (a0_2 : Bool) (l0_3 : List (S74)) : Option (Int × Int × Bool × (List (S74))) := (some (([] : List (S74)) : List (S74))).bind fun y328 => (if y328.length + l0_3.length < 5864062014805 then (spec_l02Step.l0 k (y328 ++ l0_3) 0 a0_0 a0_1 a0_2 l0_3) else (none))
theorem spec_l02Step.mono_l : ∀ k, (∀ y0 y1 y2 y3 y4 y5, LeO (spec_l02Step.l0 k y0 y1 y2 y3 y4 y5) (spec_l02Step.l0 (k + 1) y0 y1 y2 y3 y4 y5))
 | 0 => fun _ _ _ _ _ _ r h => by simp [spec_l02Step.l0] at h
 | k + 1 => by
  have ih0 := spec_l02Step.mono_l k
  ·intro y0 y1 y2 y3 y4 y5
   unfold spec_l02Step.l0
   repeat' first
   | (with_reducible exact ih0 _ _ _ _ _ _)
   | (with_reducible exact LeO.refl _)
   | (with_reducible exact LeO.none _)
   | (with_reducible refine LeO.ite ?_ ?_)
   | (with_reducible refine LeO.bind ?_ (fun _ => ?_))
   | exact ih0 _ _ _ _ _ _
   | exact LeO.none _
   | refine LeO.ite ?_ ?_
   | refine LeO.bind ?_ (fun _ => ?_)
theorem spec_l02Step.mono : ∀ a0 a1 a2 a3 k, LeO (spec_l02Step.f k a0 a1 a2 a3) (spec_l02Step.f (k + 1) a0 a1 a2 a3) := by
 intro a0 a1 a2 a3 k
 have ih0 := spec_l02Step.mono_l k
 unfold spec_l02Step.f
 repeat' first
   | (with_reducible exact ih0 _ _ _ _ _ _)
   | (with_reducible exact LeO.refl _)
   | (with_reducible exact LeO.none _)
   | (with_reducible refine LeO.ite ?_ ?_)
   | (with_reducible refine LeO.bind ?_ (fun _ => ?_))
   | exact ih0 _ _ _ _ _ _
   | exact LeO.none _
   | refine LeO.ite ?_ ?_
   | refine LeO.bind ?_ (fun _ => ?_)
set_option maxHeartbeats 8000000 in
set_option maxRecDepth 100000 in
theorem spec_l02Step.calls (k : Nat) (a0_0 : Int) (a0_1 : Int) (a0_2 : Bool) (A0_3 : Option Addr) (c0_3 : Nat) (l0_3 : List (S74)) (r1 : Int) (r2 : Int) (r3 : Bool) (r4 : List (S74)) (w : World) (hr0_3 : Kd.C k74 w A0_3 l0_3.length l0_3) (hc0_3 : l0_3.length ≤ c0_3) (h : spec_l02Step.f k a0_0 a0_1 a0_2 l0_3 = some (r1, r2, r3, r4)) :
  Calls Try.prog 86 #[.agg #[.int .i64 a0_0, .int .i64 a0_1, .bool a0_2, .slice A0_3 l0_3.length c0_3]] w fun e w' => ∃ v3_ : Value, e = .returned (.agg #[.int .i64 r1, .int .i64 r2, .bool r3, v3_]) ∧ Kd.R k74 74 w' w.heap.size (fun _ => True) v3_ r4 ∧ Below w.heap.size w w' := by
 have hu63 := Try.underlying63
 have HR0_3 := uD hr0_3
 have HC0_3 := uD hc0_3
 clear hr0_3 hc0_3
 have HB := uD (Below.refl w.heap.size w)
 have H : ((some (([] : List (S74)) : List (S74))).bind fun y328 => (if y328.length + l0_3.length < 5864062014805 then (spec_l02Step.l0 k (y328 ++ l0_3) 0 a0_0 a0_1 a0_2 l0_3) else (none))) = some (r1, r2, r3, r4) := h
 clear h
 obtain ⟨y328, hy328⟩ : ∃ y_ : List (S74), y_ = (([] : List (S74))) := ⟨_, rfl⟩
 replace H : (if y328.length + l0_3.length < 5864062014805 then (spec_l02Step.l0 k (y328 ++ l0_3) 0 a0_0 a0_1 a0_2 l0_3) else (none)) = some (r1, r2, r3, r4) := by first | (rw [hy328]; with_reducible exact H) | (have H2_ := (Option.bind_some _ _).symm.trans H; rw [hy328]; with_reducible exact H2_) | (have H2_ := (Option.bind_some _ _).symm.trans H; with_reducible exact H2_) | with_reducible exact H | (rw [hy328]; exact H) | exact H
 have Ny328 := uD hy328
 clear hy328
 by_cases c2 : y328.length + l0_3.length < 5864062014805
 ·rw [if_pos c2] at H
  have LMc2 := uD c2
  clear c2
  obtain ⟨y331, hy331⟩ : ∃ y_ : List (S74), y_ = (y328 ++ l0_3) := ⟨_, rfl⟩
  replace H : (spec_l02Step.l0 k y331 0 a0_0 a0_1 a0_2 l0_3) = some (r1, r2, r3, r4) := by first | (rw [hy331]; with_reducible exact H) | (have H2_ := (Option.bind_some _ _).symm.trans H; rw [hy331]; with_reducible exact H2_) | (have H2_ := (Option.bind_some _ _).symm.trans H; with_reducible exact H2_) | with_reducible exact H | (rw [hy331]; exact H) | exact H
  have Ny331 := uD hy331
  clear hy331
  have H' := uD H
  clear H
  go_enter Try.func86, Try.ntmps86
  go_wp2_with (first | ((with_reducible refine gate_dst (N := 1) rfl ?_); refine box_event ?hg (N := 1) ?hd (cs := #[.int .i64 a0_0, .int .i64 a0_1, .bool a0_2, .slice A0_3 l0_3.length c0_3]) (t := 63) ?hr ?_; (case hd => rfl); (case hg => rfl); (case hr => first | (go_simp; done) | (go_simp; rfl)); intro gb326 hg w3 hbox hb; have BK326 := uD (hbox); have GW326 := uD ((by rw [hg]; exact (uN (pb HB)) : w.heap.size ≤ gb326)); have GE326 := uD ((by rw [hg]; exact (uN (pb HB)) : w.heap.size ≤ gb326)); replace HB := uD (uO (pb HB) hb); clear hb hbox hg) | ((with_reducible refine gate_dst (N := 2) rfl ?_); refine box_event ?hg (N := 2) ?hd (cs := #[.int .i64 0, .int .i64 0, .bool false, .slice none 0 0]) (t := 63) ?hr ?_; (case hd => rfl); (case hg => rfl); (case hr => first | (go_simp; done) | (go_simp; rfl)); intro gb327 hg w4 hbox hb; have BK327 := uD (hbox); have GW327 := uD ((by rw [hg]; exact (uN (pb HB)) : w.heap.size ≤ gb327)); have GE327 := uD ((by rw [hg]; exact (uN (pb HB)) : w.heap.size ≤ gb327)); replace HB := uD (uO (pb HB) hb); have NB326_327 := uD ((by rw [hg]; exact Nat.ne_of_lt (blk_lt (pk BK326)) : gb326 ≠ gb327)); have NB327_326 := uD ((by rw [hg]; exact Nat.ne_of_gt (blk_lt (pk BK326)) : gb327 ≠ gb326)); replace BK326 := uD (blk_below (pk BK326) hb); clear hb hbox hg) | ((with_reducible refine gate_dst (N := 6) rfl ?_); refine Kd.R_lit k74 _ 74 ?hg (N := 6) ?hd (xs := ([] : List (S74))) (inner := []) (ok := fun _ => True) (okp := fun _ => True) ?hr ?hp (fun _ hk => hk) trivial (Below.refl _ _) (Nat.le_refl _) (by simp) ?_; (case hd => rfl); (case hg => rfl); (case hr => first | (go_simp; done) | (go_simp; rfl)); (case hp => exact (Reps.none _ _)); intro v329 w5 ho6 hb hg_ hnew_; clear hg_ hnew_; (first | rw [← Ny328.out] at ho6 | (simp only [Int.reduceToNat] at ho6; rw [← Ny328.out] at ho6)); have HO330 := uD (Kd.R_lower ho6 (uN (pb HB))); replace BK326 := uD (blk_below (pk BK326) hb); replace BK327 := uD (blk_below (pk BK327) hb); replace HB := uD (uO (pb HB) hb); clear hb ho6; have hnb7 := NB326_327.out; have hnc7 := NB327_326.out; obtain ⟨hcz8_0, hcz8_1, hcz8_2, hcz8_3, hfz8_0, hfz8_1, hfz8_2, hfz8_3⟩ := cz4 BK326) | ((with_reducible refine gate_builtin (b := .append) (xs := #[.tmp 6, .tmp 8]) rfl ?_); at_builtin; refine Kd.R_append_rows k74 (w0 := w) w.heap.size rfl (.tmp 6) (.tmp 8) 61 74 (.agg #[(.int .i64 0), (.int .i64 0), (.int .i64 0)]) 24 rfl Try.underlying61 info74 rfl (by decide) (by omega) v329 y328 l0_3 _ _ _ (fun _ => True) (fun _ => False) rfl rfl ?aO ?aR (fun _ _ h => h) (fun _ h => h.elim) ?aF ?aB ?aS ?aL ?_; (case aR => repeat (first | exact (Kd.C_below HR0_3.out HB.out) | (with_reducible refine Kd.C_alloc ?_ _) | (with_reducible refine Kd.C_drewN ?_ _) | (with_reducible refine Kd.C_drew ?_))); (case aB => exact (pb HB)); (case aF => exact (fun _ _ => trivial)); (case aO => exact (pr HO330)); (case aS => exact (uN (pb HB))); (case aL => have := LMc2.out; omega); intro v332 w9 ho hb hg hat; rw [← Ny331.out] at ho; replace BK326 := uD (blk_grown (pk BK326) hg (Kd.R_ne HO330.out BK326.out (by decide))); replace BK327 := uD (blk_grown (pk BK327) hg (Kd.R_ne HO330.out BK327.out (by decide))); replace HB := uD (hb); have HO333 := uD (ho); clear HO330; clear ho hb hg hat))
  repeat (go_quiet (first | ((with_reducible refine gate_dst (N := 1) rfl ?_); refine box_event ?hg (N := 1) ?hd (cs := #[.int .i64 a0_0, .int .i64 a0_1, .bool a0_2, .slice A0_3 l0_3.length c0_3]) (t := 63) ?hr ?_; (case hd => rfl); (case hg => rfl); (case hr => first | (go_simp; done) | (go_simp; rfl)); intro gb326 hg w3 hbox hb; have BK326 := uD (hbox); have GW326 := uD ((by rw [hg]; exact (uN (pb HB)) : w.heap.size ≤ gb326)); have GE326 := uD ((by rw [hg]; exact (uN (pb HB)) : w.heap.size ≤ gb326)); replace HB := uD (uO (pb HB) hb); clear hb hbox hg) | ((with_reducible refine gate_dst (N := 2) rfl ?_); refine box_event ?hg (N := 2) ?hd (cs := #[.int .i64 0, .int .i64 0, .bool false, .slice none 0 0]) (t := 63) ?hr ?_; (case hd => rfl); (case hg => rfl); (case hr => first | (go_simp; done) | (go_simp; rfl)); intro gb327 hg w4 hbox hb; have BK327 := uD (hbox); have GW327 := uD ((by rw [hg]; exact (uN (pb HB)) : w.heap.size ≤ gb327)); have GE327 := uD ((by rw [hg]; exact (uN (pb HB)) : w.heap.size ≤ gb327)); replace HB := uD (uO (pb HB) hb); have NB326_327 := uD ((by rw [hg]; exact Nat.ne_of_lt (blk_lt (pk BK326)) : gb326 ≠ gb327)); have NB327_326 := uD ((by rw [hg]; exact Nat.ne_of_gt (blk_lt (pk BK326)) : gb327 ≠ gb326)); replace BK326 := uD (blk_below (pk BK326) hb); clear hb hbox hg) | ((with_reducible refine gate_dst (N := 6) rfl ?_); refine Kd.R_lit k74 _ 74 ?hg (N := 6) ?hd (xs := ([] : List (S74))) (inner := []) (ok := fun _ => True) (okp := fun _ => True) ?hr ?hp (fun _ hk => hk) trivial (Below.refl _ _) (Nat.le_refl _) (by simp) ?_; (case hd => rfl); (case hg => rfl); (case hr => first | (go_simp; done) | (go_simp; rfl)); (case hp => exact (Reps.none _ _)); intro v329 w5 ho6 hb hg_ hnew_; clear hg_ hnew_; (first | rw [← Ny328.out] at ho6 | (simp only [Int.reduceToNat] at ho6; rw [← Ny328.out] at ho6)); have HO330 := uD (Kd.R_lower ho6 (uN (pb HB))); replace BK326 := uD (blk_below (pk BK326) hb); replace BK327 := uD (blk_below (pk BK327) hb); replace HB := uD (uO (pb HB) hb); clear hb ho6; have hnb7 := NB326_327.out; have hnc7 := NB327_326.out; obtain ⟨hcz8_0, hcz8_1, hcz8_2, hcz8_3, hfz8_0, hfz8_1, hfz8_2, hfz8_3⟩ := cz4 BK326) | ((with_reducible refine gate_builtin (b := .append) (xs := #[.tmp 6, .tmp 8]) rfl ?_); at_builtin; refine Kd.R_append_rows k74 (w0 := w) w.heap.size rfl (.tmp 6) (.tmp 8) 61 74 (.agg #[(.int .i64 0), (.int .i64 0), (.int .i64 0)]) 24 rfl Try.underlying61 info74 rfl (by decide) (by omega) v329 y328 l0_3 _ _ _ (fun _ => True) (fun _ => False) rfl rfl ?aO ?aR (fun _ _ h => h) (fun _ h => h.elim) ?aF ?aB ?aS ?aL ?_; (case aR => repeat (first | exact (Kd.C_below HR0_3.out HB.out) | (with_reducible refine Kd.C_alloc ?_ _) | (with_reducible refine Kd.C_drewN ?_ _) | (with_reducible refine Kd.C_drew ?_))); (case aB => exact (pb HB)); (case aF => exact (fun _ _ => trivial)); (case aO => exact (pr HO330)); (case aS => exact (uN (pb HB))); (case aL => have := LMc2.out; omega); intro v332 w9 ho hb hg hat; rw [← Ny331.out] at ho; replace BK326 := uD (blk_grown (pk BK326) hg (Kd.R_ne HO330.out BK326.out (by decide))); replace BK327 := uD (blk_grown (pk BK327) hg (Kd.R_ne HO330.out BK327.out (by decide))); replace HB := uD (hb); have HO333 := uD (ho); clear HO330; clear ho hb hg hat)); try go_wp2_with (first | ((with_reducible refine gate_dst (N := 1) rfl ?_); refine box_event ?hg (N := 1) ?hd (cs := #[.int .i64 a0_0, .int .i64 a0_1, .bool a0_2, .slice A0_3 l0_3.length c0_3]) (t := 63) ?hr ?_; (case hd => rfl); (case hg => rfl); (case hr => first | (go_simp; done) | (go_simp; rfl)); intro gb326 hg w3 hbox hb; have BK326 := uD (hbox); have GW326 := uD ((by rw [hg]; exact (uN (pb HB)) : w.heap.size ≤ gb326)); have GE326 := uD ((by rw [hg]; exact (uN (pb HB)) : w.heap.size ≤ gb326)); replace HB := uD (uO (pb HB) hb); clear hb hbox hg) | ((with_reducible refine gate_dst (N := 2) rfl ?_); refine box_event ?hg (N := 2) ?hd (cs := #[.int .i64 0, .int .i64 0, .bool false, .slice none 0 0]) (t := 63) ?hr ?_; (case hd => rfl); (case hg => rfl); (case hr => first | (go_simp; done) | (go_simp; rfl)); intro gb327 hg w4 hbox hb; have BK327 := uD (hbox); have GW327 := uD ((by rw [hg]; exact (uN (pb HB)) : w.heap.size ≤ gb327)); have GE327 := uD ((by rw [hg]; exact (uN (pb HB)) : w.heap.size ≤ gb327)); replace HB := uD (uO (pb HB) hb); have NB326_327 := uD ((by rw [hg]; exact Nat.ne_of_lt (blk_lt (pk BK326)) : gb326 ≠ gb327)); have NB327_326 := uD ((by rw [hg]; exact Nat.ne_of_gt (blk_lt (pk BK326)) : gb327 ≠ gb326)); replace BK326 := uD (blk_below (pk BK326) hb); clear hb hbox hg) | ((with_reducible refine gate_dst (N := 6) rfl ?_); refine Kd.R_lit k74 _ 74 ?hg (N := 6) ?hd (xs := ([] : List (S74))) (inner := []) (ok := fun _ => True) (okp := fun _ => True) ?hr ?hp (fun _ hk => hk) trivial (Below.refl _ _) (Nat.le_refl _) (by simp) ?_; (case hd => rfl); (case hg => rfl); (case hr => first | (go_simp; done) | (go_simp; rfl)); (case hp => exact (Reps.none _ _)); intro v329 w5 ho6 hb hg_ hnew_; clear hg_ hnew_; (first | rw [← Ny328.out] at ho6 | (simp only [Int.reduceToNat] at ho6; rw [← Ny328.out] at ho6)); have HO330 := uD (Kd.R_lower ho6 (uN (pb HB))); replace BK326 := uD (blk_below (pk BK326) hb); replace BK327 := uD (blk_below (pk BK327) hb); replace HB := uD (uO (pb HB) hb); clear hb ho6; have hnb7 := NB326_327.out; have hnc7 := NB327_326.out; obtain ⟨hcz8_0, hcz8_1, hcz8_2, hcz8_3, hfz8_0, hfz8_1, hfz8_2, hfz8_3⟩ := cz4 BK326) | ((with_reducible refine gate_builtin (b := .append) (xs := #[.tmp 6, .tmp 8]) rfl ?_); at_builtin; refine Kd.R_append_rows k74 (w0 := w) w.heap.size rfl (.tmp 6) (.tmp 8) 61 74 (.agg #[(.int .i64 0), (.int .i64 0), (.int .i64 0)]) 24 rfl Try.underlying61 info74 rfl (by decide) (by omega) v329 y328 l0_3 _ _ _ (fun _ => True) (fun _ => False) rfl rfl ?aO ?aR (fun _ _ h => h) (fun _ h => h.elim) ?aF ?aB ?aS ?aL ?_; (case aR => repeat (first | exact (Kd.C_below HR0_3.out HB.out) | (with_reducible refine Kd.C_alloc ?_ _) | (with_reducible refine Kd.C_drewN ?_ _) | (with_reducible refine Kd.C_drew ?_))); (case aB => exact (pb HB)); (case aF => exact (fun _ _ => trivial)); (case aO => exact (pr HO330)); (case aS => exact (uN (pb HB))); (case aL => have := LMc2.out; omega); intro v332 w9 ho hb hg hat; rw [← Ny331.out] at ho; replace BK326 := uD (blk_grown (pk BK326) hg (Kd.R_ne HO330.out BK326.out (by decide))); replace BK327 := uD (blk_grown (pk BK327) hg (Kd.R_ne HO330.out BK327.out (by decide))); replace HB := uD (hb); have HO333 := uD (ho); clear HO330; clear ho hb hg hat)))
  go_loopg [4] k (fun kq v4 w' => ∃ (x3_1 : List (S74)) (x4_1 : Int), v4 = .int .i64 x4_1 ∧ Aside0 (spec_l02Step.l0 kq x3_1 x4_1 a0_0 a0_1 a0_2 l0_3 = some (r1, r2, r3, r4)) ∧ Aside0 (kq ≤ k) ∧ Aside0 (Kd.R k74 74 w' w.heap.size (fun _ => True) v332 x3_1) ∧ Aside0 (w'.heap[gb326]? = some (.cells #[.int .i64 a0_0, .int .i64 a0_1, .bool a0_2, (.slice A0_3 l0_3.length c0_3)] 63 (0, 0))) ∧ Aside0 (w'.heap[gb327]? = some (.cells #[.int .i64 0, .int .i64 0, .bool false, (.slice none 0 0)] 63 (0, 0))) ∧ Aside0 (Below w.heap.size w w'))
  case atStart => exact ⟨(y331), (0), (by first | rfl | (simp; done) | (simp [*]; done)), H', ⟨Nat.le_refl _⟩, ⟨by (with_reducible repeat (first | apply uU | apply uS | apply uT)); exact HO333.out⟩, ⟨by (with_reducible repeat first|apply uH|apply uJ|apply uG); exact BK326.out⟩, ⟨by (with_reducible repeat first|apply uH|apply uJ|apply uG); exact BK327.out⟩, ⟨pb HB⟩⟩
  case round =>
   clear H'
   try clear c2
   try clear p2
   try clear c7
   try clear c8
   try clear hcz8_0
   try clear hcz8_1
   try clear hcz8_2
   try clear hcz8_3
   try clear hfz8_0
   try clear hfz8_1
   try clear hfz8_2
   try clear hfz8_3
   obtain ⟨x3_1, x4_1, rfl, HA, HK1, HO_3, BK326, BK327, HB⟩ := hrel
   cases gk with
   | zero => exact absurd HA.out (by simp [spec_l02Step.l0])
   | succ k1 =>
    have H := HA.out
    clear HA
    simp only [spec_l02Step.l0] at H
    by_cases c10 : x4_1 < (x3_1.length : Int)
    ·rw [if_pos c10] at H
     have c10b0 : decide (x4_1 < (x3_1.length : Int)) = true := decide_eq_true c10
     clear c10
     by_cases c11 : x4_1 > 0
     ·rw [if_pos c11] at H
      have c11b0 : decide (0 < x4_1) = true := decide_eq_true c11
      clear c11
      obtain ⟨ji12, hji12⟩ : ∃ j_ : Int, (wrap64 (x4_1 - 1)) = j_ := ⟨_, rfl⟩
      replace H : (if 0 ≤ (ji12) then (if (ji12) < (x3_1.length : Int) then (if 0 ≤ x4_1 then (if ((rd_T74 x3_1 x4_1).f1) < (wrap64 ((wrap64 (((rd_T74 x3_1 (ji12)).f1) - ((rd_T74 x3_1 (ji12)).f2))) - a0_1)) then (spec_l02Step.l0 k1 (x3_1.set (x4_1 : Int).toNat (⟨(rd_T74 x3_1 x4_1).f0, wrap64 (((rd_T74 x3_1 x4_1).f1) + 1), (rd_T74 x3_1 x4_1).f2⟩ : S74)) (wrap64 (x4_1 + 1)) a0_0 a0_1 a0_2 l0_3) else (spec_l02Step.l0 k1 x3_1 (wrap64 (x4_1 + 1)) a0_0 a0_1 a0_2 l0_3)) else (none)) else (none)) else (none)) = some (r1, r2, r3, r4) := by first | (rw [hji12] at H; exact H) | (simp only [hji12] at H ⊢; exact H)
      have hji12w : (IntKind.i64.wrap (x4_1 - 1)) = ji12 := (uZ _).trans hji12
      by_cases c13 : 0 ≤ (ji12)
      ·rw [if_pos c13] at H
       have c13b0 : decide (0 ≤ (ji12)) = true := decide_eq_true c13
       clear c13
       by_cases c14 : (ji12) < (x3_1.length : Int)
       ·rw [if_pos c14] at H
        have c14b0 : decide ((ji12) < (x3_1.length : Int)) = true := decide_eq_true c14
        clear c14
        by_cases c15 : 0 ≤ x4_1
        ·rw [if_pos c15] at H
         have c15b0 : decide (0 ≤ x4_1) = true := decide_eq_true c15
         clear c15
         by_cases c16 : ((rd_T74 x3_1 x4_1).f1) < (wrap64 ((wrap64 (((rd_T74 x3_1 (ji12)).f1) - ((rd_T74 x3_1 (ji12)).f2))) - a0_1))
         ·rw [if_pos c16] at H
          have c16b0 : decide (((rd_T74 x3_1 x4_1).f1) < (wrap64 ((wrap64 (((rd_T74 x3_1 (ji12)).f1) - ((rd_T74 x3_1 (ji12)).f2))) - a0_1))) = true := decide_eq_true c16
          clear c16
          obtain ⟨y338, hy338⟩ : ∃ y_ : List (S74), y_ = (x3_1.set (x4_1 : Int).toNat (⟨(rd_T74 x3_1 x4_1).f0, wrap64 (((rd_T74 x3_1 x4_1).f1) + 1), (rd_T74 x3_1 x4_1).f2⟩ : S74)) := ⟨_, rfl⟩
          replace H : (spec_l02Step.l0 k1 y338 (wrap64 (x4_1 + 1)) a0_0 a0_1 a0_2 l0_3) = some (r1, r2, r3, r4) := by first | (rw [hy338]; with_reducible exact H) | (have H2_ := (Option.bind_some _ _).symm.trans H; rw [hy338]; with_reducible exact H2_) | (have H2_ := (Option.bind_some _ _).symm.trans H; with_reducible exact H2_) | with_reducible exact H | (rw [hy338]; exact H) | exact H
          have Ny338 := uD hy338
          clear hy338
          have H' := uD H
          clear H
          obtain ⟨Ao18, co18, eo18⟩ := Kd.R_slice HO_3.out
          subst eo18
          have hnb19 := NB326_327.out
          have hnc19 := NB327_326.out
          obtain ⟨hcz20_0, hcz20_1, hcz20_2, hcz20_3, hfz20_0, hfz20_1, hfz20_2, hfz20_3⟩ := cz4 BK326
          have p334 : 0 ≤ ((ji12) : Int) := of_decide_eq_true (by first | (with_reducible assumption) | assumption)
          have q334 : (ji12) < (x3_1.length : Int) := of_decide_eq_true (by first | (with_reducible assumption) | assumption)
          obtain ⟨ad334, e334, hx334_0, hx334_1, hx334_2⟩ := at_T74 (Kd.R_reads' HO_3.out).2.2 (ji12) p334 q334
          cases e334
          replace p334 := eq_true p334
          replace q334 := eq_true q334
          have p335 : 0 ≤ ((ji12) : Int) := of_decide_eq_true (by first | (with_reducible assumption) | assumption)
          have q335 : (ji12) < (x3_1.length : Int) := of_decide_eq_true (by first | (with_reducible assumption) | assumption)
          obtain ⟨ad335, e335, hx335_0, hx335_1, hx335_2⟩ := at_T74 (Kd.R_reads' HO_3.out).2.2 (ji12) p335 q335
          obtain rfl : ad334 = ad335 := (by injection e335)
          replace p335 := eq_true p335
          replace q335 := eq_true q335
          have p336 : 0 ≤ (x4_1 : Int) := of_decide_eq_true (by first | (with_reducible assumption) | assumption)
          have q336 : x4_1 < (x3_1.length : Int) := of_decide_eq_true (by first | (with_reducible assumption) | assumption)
          obtain ⟨ad336, e336, hx336_0, hx336_1, hx336_2⟩ := at_T74 (Kd.R_reads' HO_3.out).2.2 x4_1 p336 q336
          obtain rfl : ad334 = ad336 := (by injection e336)
          replace p336 := eq_true p336
          replace q336 := eq_true q336
          have p337 : 0 ≤ (x4_1 : Int) := of_decide_eq_true (by first | (with_reducible assumption) | assumption)
          have q337 : x4_1 < (x3_1.length : Int) := of_decide_eq_true (by first | (with_reducible assumption) | assumption)
          obtain ⟨ad337, e337, hx337_0, hx337_1, hx337_2⟩ := at_T74 (Kd.R_reads' HO_3.out).2.2 x4_1 p337 q337
          obtain rfl : ad334 = ad337 := (by injection e337)
          replace p337 := eq_true p337
          replace q337 := eq_true q337
          have p17 : 0 ≤ (x4_1 : Int) := of_decide_eq_true (by first | (with_reducible assumption) | assumption)
          have q17 : (x4_1 : Int) < ((x3_1.length : Int) : Int) := of_decide_eq_true (by first | (with_reducible assumption) | assumption)
          obtain ⟨go17, co17, eo17, gb17, gl17, cl17, HG17⟩ := Kd.R_form HO_3.out (by omega)
          (first | cases eo17 | (injection eo17 with ea_ en_ ec_; (first | subst ea_ | (injection ea_ with ea_; subst ea_)); subst ec_; clear en_))
          have GB17 := uD gb17
          have GG17 := uD HG17
          clear gb17 gl17 HG17
          (first | simp only [add_plain] at hx334_0 | skip)
          (first | simp only [add_plain] at hx334_1 | skip)
          (first | simp only [add_plain] at hx334_2 | skip)
          (first | simp only [add_plain] at hx335_0 | skip)
          (first | simp only [add_plain] at hx335_1 | skip)
          (first | simp only [add_plain] at hx335_2 | skip)
          (first | simp only [add_plain] at hx336_0 | skip)
          (first | simp only [add_plain] at hx336_1 | skip)
          (first | simp only [add_plain] at hx336_2 | skip)
          (first | simp only [add_plain] at hx337_0 | skip)
          (first | simp only [add_plain] at hx337_1 | skip)
          (first | simp only [add_plain] at hx337_2 | skip)
          obtain ⟨ce17, hcl17, hM17, hcc17, hfr17⟩ := Kd.R_elem HO_3.out z74 (x4_1 : Int) p17 q17
          obtain rfl := k74_openM hM17
          have hx17_0 : wr.cell? ⟨go17, (x4_1 : Int).toNat * 3, none⟩ = some (.int .i64 ((rd_T74 x3_1 x4_1).f0)) := hcc17 0 _ rfl
          have hx17_1 : wr.cell? ⟨go17, (x4_1 : Int).toNat * 3 + 1, none⟩ = some (.int .i64 ((rd_T74 x3_1 x4_1).f1)) := hcc17 1 _ rfl
          have hx17_2 : wr.cell? ⟨go17, (x4_1 : Int).toNat * 3 + 2, none⟩ = some (.int .i64 ((rd_T74 x3_1 x4_1).f2)) := hcc17 2 _ rfl
          have hf17_0 : wr.frozen? ⟨go17, (x4_1 : Int).toNat * 3, none⟩ = false := hfr17 0
          have hf17_1 : wr.frozen? ⟨go17, (x4_1 : Int).toNat * 3 + 1, none⟩ = false := hfr17 1
          have hf17_2 : wr.frozen? ⟨go17, (x4_1 : Int).toNat * 3 + 2, none⟩ = false := hfr17 2
          clear hcl17 hcc17 hfr17 hM17
          replace p17 := eq_true p17
          replace q17 := eq_true q17
          have HX21 := uD (show Kd.R k74 74 wr w.heap.size (fun _ => True) (.slice (some ⟨go17, 0, none⟩) x3_1.length co18) x3_1 from (pr HO_3))
          obtain ⟨ce21, hcl21, hM21, hcc21, hfr21⟩ := Kd.R_elem HX21.out z74 (x4_1 : Int) (of_decide_eq_true (by first | (with_reducible assumption) | assumption)) (by have h_ : (x4_1 : Int) < ((x3_1.length : Int) : Int) := of_decide_eq_true (by first | (with_reducible assumption) | assumption); first | exact h_ | (have e_ := (Kd.R_reads' HO_3.out).1; omega) | simpa using h_)
          obtain rfl := k74_openM hM21
          have HP21 := Kd.R_seg HX21.out (x4_1 : Int) (of_decide_eq_true (by first | (with_reducible assumption) | assumption)) (by have h_ : (x4_1 : Int) < ((x3_1.length : Int) : Int) := of_decide_eq_true (by first | (with_reducible assumption) | assumption); first | exact h_ | (have e_ := (Kd.R_reads' HO_3.out).1; omega) | simpa using h_) (seg := [.int .i64 (wrap64 (((rd_T74 x3_1 x4_1).f1) + 1))]) (j := 1) hcl21 hcc21 (show 2 ≤ 3 from by decide) (x' := (⟨(rd_T74 x3_1 x4_1).f0, wrap64 (((rd_T74 x3_1 x4_1).f1) + 1), (rd_T74 x3_1 x4_1).f2⟩ : S74)) (k74_mkM _ _ _ (⟨(rd_T74 x3_1 x4_1).f0, wrap64 (((rd_T74 x3_1 x4_1).f1) + 1), (rd_T74 x3_1 x4_1).f2⟩ : S74) ) (fun _ hk => hk)
          have hx21_1 := hcc21 1 _ rfl
          (try simp only [show (k74).sz = 3 from rfl, Nat.mul_one, Nat.add_zero] at hx21_1)
          have hf21_1 := hfr21 1
          (try simp only [show (k74).sz = 3 from rfl, Nat.mul_one, Nat.add_zero] at hf21_1)
          clear hcl21 hcc21 hfr21 hM21
          go_wp2_with (first | ((with_reducible refine gate_store (t := 3) (p := 52) rfl ?_); (try (rw [drewN_self wr]; generalize hq_ : World.drewN wr _ = wr; have n0_ := uD (Kd.R_at hq_ HO_3.out); have n1_ := uD (blk_at hq_ BK326.out); have n2_ := uD (blk_at hq_ BK327.out); have n3_ := uD (below_at hq_ HB.out); clear hq_ HO_3 BK326 BK327 HB; have HO_3 := n0_; have BK326 := n1_; have BK327 := n2_; have HB := n3_; clear n0_ n1_ n2_ n3_; (try (have HX21 := uD (show Kd.R k74 74 wr w.heap.size (fun _ => True) (.slice (some ⟨go17, 0, none⟩) x3_1.length co18) x3_1 from (pr HO_3)))); (try (obtain ⟨ce21, hcl21, hM21, hcc21, hfr21⟩ := Kd.R_elem HX21.out z74 (x4_1 : Int) (of_decide_eq_true (by first | (with_reducible assumption) | assumption)) (by have h_ : (x4_1 : Int) < ((x3_1.length : Int) : Int) := of_decide_eq_true (by first | (with_reducible assumption) | assumption); first | exact h_ | (have e_ := (Kd.R_reads' HO_3.out).1; omega) | simpa using h_))); (try (obtain rfl := k74_openM hM21)); (try (have HP21 := Kd.R_seg HX21.out (x4_1 : Int) (of_decide_eq_true (by first | (with_reducible assumption) | assumption)) (by have h_ : (x4_1 : Int) < ((x3_1.length : Int) : Int) := of_decide_eq_true (by first | (with_reducible assumption) | assumption); first | exact h_ | (have e_ := (Kd.R_reads' HO_3.out).1; omega) | simpa using h_) (seg := [.int .i64 (wrap64 (((rd_T74 x3_1 x4_1).f1) + 1))]) (j := 1) hcl21 hcc21 (show 2 ≤ 3 from by decide) (x' := (⟨(rd_T74 x3_1 x4_1).f0, wrap64 (((rd_T74 x3_1 x4_1).f1) + 1), (rd_T74 x3_1 x4_1).f2⟩ : S74)) (k74_mkM _ _ _ (⟨(rd_T74 x3_1 x4_1).f0, wrap64 (((rd_T74 x3_1 x4_1).f1) + 1), (rd_T74 x3_1 x4_1).f2⟩ : S74) ) (fun _ hk => hk))); (try (have hx21_1 := hcc21 1 _ rfl)); (try (try simp only [show (k74).sz = 3 from rfl, Nat.mul_one, Nat.add_zero] at hx21_1)); (try (have hf21_1 := hfr21 1)); (try (try simp only [show (k74).sz = 3 from rfl, Nat.mul_one, Nat.add_zero] at hf21_1)); (try (clear hcl21 hcc21 hfr21 hM21)))); refine store_event (t := 3) (p := 52) (v := ?vo_w22) (w1 := (wr.setCell ⟨go17, (x4_1 : Int).toNat * 3 + 1, none⟩ (.int .i64 (wrap64 (((rd_T74 x3_1 x4_1).f1) + 1))))) ?hg ?ho ?hn ?hr ?_; (case ho => rfl); (case hg => rfl); (case hn => rfl); (case hr => first | (go_simp; done) | (go_simp; rfl)); intro w22 hw; have hg : wr.grownBy w22 (some go17) := (by rw [hw]; exact HP21.2); have hp_ : Kd.R k74 74 w22 w.heap.size (fun _ => True) (.slice (some ⟨go17, 0, none⟩) x3_1.length co18) y338 := (by rw [hw, Ny338.out]; exact HP21.1); clear HP21; replace BK326 := uD (blk_grown (pk BK326) hg (Kd.R_ne HO_3.out BK326.out (by decide))); replace BK327 := uD (blk_grown (pk BK327) hg (Kd.R_ne HO_3.out BK327.out (by decide))); replace HO_3 := uD (hp_); replace HB := uD ((by rw [hw]; exact uM (HB.out) GB17.out : Below w.heap.size w w22)); clear hg hw hp_))
          repeat (go_quiet (first | ((with_reducible refine gate_store (t := 3) (p := 52) rfl ?_); (try (rw [drewN_self wr]; generalize hq_ : World.drewN wr _ = wr; have n0_ := uD (Kd.R_at hq_ HO_3.out); have n1_ := uD (blk_at hq_ BK326.out); have n2_ := uD (blk_at hq_ BK327.out); have n3_ := uD (below_at hq_ HB.out); clear hq_ HO_3 BK326 BK327 HB; have HO_3 := n0_; have BK326 := n1_; have BK327 := n2_; have HB := n3_; clear n0_ n1_ n2_ n3_; (try (have HX21 := uD (show Kd.R k74 74 wr w.heap.size (fun _ => True) (.slice (some ⟨go17, 0, none⟩) x3_1.length co18) x3_1 from (pr HO_3)))); (try (obtain ⟨ce21, hcl21, hM21, hcc21, hfr21⟩ := Kd.R_elem HX21.out z74 (x4_1 : Int) (of_decide_eq_true (by first | (with_reducible assumption) | assumption)) (by have h_ : (x4_1 : Int) < ((x3_1.length : Int) : Int) := of_decide_eq_true (by first | (with_reducible assumption) | assumption); first | exact h_ | (have e_ := (Kd.R_reads' HO_3.out).1; omega) | simpa using h_))); (try (obtain rfl := k74_openM hM21)); (try (have HP21 := Kd.R_seg HX21.out (x4_1 : Int) (of_decide_eq_true (by first | (with_reducible assumption) | assumption)) (by have h_ : (x4_1 : Int) < ((x3_1.length : Int) : Int) := of_decide_eq_true (by first | (with_reducible assumption) | assumption); first | exact h_ | (have e_ := (Kd.R_reads' HO_3.out).1; omega) | simpa using h_) (seg := [.int .i64 (wrap64 (((rd_T74 x3_1 x4_1).f1) + 1))]) (j := 1) hcl21 hcc21 (show 2 ≤ 3 from by decide) (x' := (⟨(rd_T74 x3_1 x4_1).f0, wrap64 (((rd_T74 x3_1 x4_1).f1) + 1), (rd_T74 x3_1 x4_1).f2⟩ : S74)) (k74_mkM _ _ _ (⟨(rd_T74 x3_1 x4_1).f0, wrap64 (((rd_T74 x3_1 x4_1).f1) + 1), (rd_T74 x3_1 x4_1).f2⟩ : S74) ) (fun _ hk => hk))); (try (have hx21_1 := hcc21 1 _ rfl)); (try (try simp only [show (k74).sz = 3 from rfl, Nat.mul_one, Nat.add_zero] at hx21_1)); (try (have hf21_1 := hfr21 1)); (try (try simp only [show (k74).sz = 3 from rfl, Nat.mul_one, Nat.add_zero] at hf21_1)); (try (clear hcl21 hcc21 hfr21 hM21)))); refine store_event (t := 3) (p := 52) (v := ?vo_w22) (w1 := (wr.setCell ⟨go17, (x4_1 : Int).toNat * 3 + 1, none⟩ (.int .i64 (wrap64 (((rd_T74 x3_1 x4_1).f1) + 1))))) ?hg ?ho ?hn ?hr ?_; (case ho => rfl); (case hg => rfl); (case hn => rfl); (case hr => first | (go_simp; done) | (go_simp; rfl)); intro w22 hw; have hg : wr.grownBy w22 (some go17) := (by rw [hw]; exact HP21.2); have hp_ : Kd.R k74 74 w22 w.heap.size (fun _ => True) (.slice (some ⟨go17, 0, none⟩) x3_1.length co18) y338 := (by rw [hw, Ny338.out]; exact HP21.1); clear HP21; replace BK326 := uD (blk_grown (pk BK326) hg (Kd.R_ne HO_3.out BK326.out (by decide))); replace BK327 := uD (blk_grown (pk BK327) hg (Kd.R_ne HO_3.out BK327.out (by decide))); replace HO_3 := uD (hp_); replace HB := uD ((by rw [hw]; exact uM (HB.out) GB17.out : Below w.heap.size w w22)); clear hg hw hp_)); try go_wp2_with (first | ((with_reducible refine gate_store (t := 3) (p := 52) rfl ?_); (try (rw [drewN_self wr]; generalize hq_ : World.drewN wr _ = wr; have n0_ := uD (Kd.R_at hq_ HO_3.out); have n1_ := uD (blk_at hq_ BK326.out); have n2_ := uD (blk_at hq_ BK327.out); have n3_ := uD (below_at hq_ HB.out); clear hq_ HO_3 BK326 BK327 HB; have HO_3 := n0_; have BK326 := n1_; have BK327 := n2_; have HB := n3_; clear n0_ n1_ n2_ n3_; (try (have HX21 := uD (show Kd.R k74 74 wr w.heap.size (fun _ => True) (.slice (some ⟨go17, 0, none⟩) x3_1.length co18) x3_1 from (pr HO_3)))); (try (obtain ⟨ce21, hcl21, hM21, hcc21, hfr21⟩ := Kd.R_elem HX21.out z74 (x4_1 : Int) (of_decide_eq_true (by first | (with_reducible assumption) | assumption)) (by have h_ : (x4_1 : Int) < ((x3_1.length : Int) : Int) := of_decide_eq_true (by first | (with_reducible assumption) | assumption); first | exact h_ | (have e_ := (Kd.R_reads' HO_3.out).1; omega) | simpa using h_))); (try (obtain rfl := k74_openM hM21)); (try (have HP21 := Kd.R_seg HX21.out (x4_1 : Int) (of_decide_eq_true (by first | (with_reducible assumption) | assumption)) (by have h_ : (x4_1 : Int) < ((x3_1.length : Int) : Int) := of_decide_eq_true (by first | (with_reducible assumption) | assumption); first | exact h_ | (have e_ := (Kd.R_reads' HO_3.out).1; omega) | simpa using h_) (seg := [.int .i64 (wrap64 (((rd_T74 x3_1 x4_1).f1) + 1))]) (j := 1) hcl21 hcc21 (show 2 ≤ 3 from by decide) (x' := (⟨(rd_T74 x3_1 x4_1).f0, wrap64 (((rd_T74 x3_1 x4_1).f1) + 1), (rd_T74 x3_1 x4_1).f2⟩ : S74)) (k74_mkM _ _ _ (⟨(rd_T74 x3_1 x4_1).f0, wrap64 (((rd_T74 x3_1 x4_1).f1) + 1), (rd_T74 x3_1 x4_1).f2⟩ : S74) ) (fun _ hk => hk))); (try (have hx21_1 := hcc21 1 _ rfl)); (try (try simp only [show (k74).sz = 3 from rfl, Nat.mul_one, Nat.add_zero] at hx21_1)); (try (have hf21_1 := hfr21 1)); (try (try simp only [show (k74).sz = 3 from rfl, Nat.mul_one, Nat.add_zero] at hf21_1)); (try (clear hcl21 hcc21 hfr21 hM21)))); refine store_event (t := 3) (p := 52) (v := ?vo_w22) (w1 := (wr.setCell ⟨go17, (x4_1 : Int).toNat * 3 + 1, none⟩ (.int .i64 (wrap64 (((rd_T74 x3_1 x4_1).f1) + 1))))) ?hg ?ho ?hn ?hr ?_; (case ho => rfl); (case hg => rfl); (case hn => rfl); (case hr => first | (go_simp; done) | (go_simp; rfl)); intro w22 hw; have hg : wr.grownBy w22 (some go17) := (by rw [hw]; exact HP21.2); have hp_ : Kd.R k74 74 w22 w.heap.size (fun _ => True) (.slice (some ⟨go17, 0, none⟩) x3_1.length co18) y338 := (by rw [hw, Ny338.out]; exact HP21.1); clear HP21; replace BK326 := uD (blk_grown (pk BK326) hg (Kd.R_ne HO_3.out BK326.out (by decide))); replace BK327 := uD (blk_grown (pk BK327) hg (Kd.R_ne HO_3.out BK327.out (by decide))); replace HO_3 := uD (hp_); replace HB := uD ((by rw [hw]; exact uM (HB.out) GB17.out : Below w.heap.size w w22)); clear hg hw hp_)))
          go_roundg k1
          case measure => have := HK1.out; omega
          case rel => exact ⟨(y338), (wrap64 (x4_1 + 1)), (by first | rfl | (simp; done) | (simp [*]; done)), H', ⟨by have := HK1.out; omega⟩, ⟨by (with_reducible repeat (first | apply uU | apply uS | apply uT)); exact HO_3.out⟩, ⟨by (with_reducible repeat first|apply uH|apply uJ|apply uG); exact BK326.out⟩, ⟨by (with_reducible repeat first|apply uH|apply uJ|apply uG); exact BK327.out⟩, ⟨pb HB⟩⟩
         ·rw [if_neg c16] at H
          have c16b0 : decide (((rd_T74 x3_1 x4_1).f1) < (wrap64 ((wrap64 (((rd_T74 x3_1 (ji12)).f1) - ((rd_T74 x3_1 (ji12)).f2))) - a0_1))) = false := decide_eq_false c16
          clear c16
          have H' := uD H
          clear H
          obtain ⟨Ao23, co23, eo23⟩ := Kd.R_slice HO_3.out
          subst eo23
          have hnb24 := NB326_327.out
          have hnc24 := NB327_326.out
          obtain ⟨hcz25_0, hcz25_1, hcz25_2, hcz25_3, hfz25_0, hfz25_1, hfz25_2, hfz25_3⟩ := cz4 BK326
          have p334 : 0 ≤ ((ji12) : Int) := of_decide_eq_true (by first | (with_reducible assumption) | assumption)
          have q334 : (ji12) < (x3_1.length : Int) := of_decide_eq_true (by first | (with_reducible assumption) | assumption)
          obtain ⟨ad334, e334, hx334_0, hx334_1, hx334_2⟩ := at_T74 (Kd.R_reads' HO_3.out).2.2 (ji12) p334 q334
          cases e334
          replace p334 := eq_true p334
          replace q334 := eq_true q334
          have p335 : 0 ≤ ((ji12) : Int) := of_decide_eq_true (by first | (with_reducible assumption) | assumption)
          have q335 : (ji12) < (x3_1.length : Int) := of_decide_eq_true (by first | (with_reducible assumption) | assumption)
          obtain ⟨ad335, e335, hx335_0, hx335_1, hx335_2⟩ := at_T74 (Kd.R_reads' HO_3.out).2.2 (ji12) p335 q335
          obtain rfl : ad334 = ad335 := (by injection e335)
          replace p335 := eq_true p335
          replace q335 := eq_true q335
          have p336 : 0 ≤ (x4_1 : Int) := of_decide_eq_true (by first | (with_reducible assumption) | assumption)
          have q336 : x4_1 < (x3_1.length : Int) := of_decide_eq_true (by first | (with_reducible assumption) | assumption)
          obtain ⟨ad336, e336, hx336_0, hx336_1, hx336_2⟩ := at_T74 (Kd.R_reads' HO_3.out).2.2 x4_1 p336 q336
          obtain rfl : ad334 = ad336 := (by injection e336)
          replace p336 := eq_true p336
          replace q336 := eq_true q336
          go_wp2
          repeat (go_quiet (fail); try go_wp2)
          go_roundg k1
          case measure => have := HK1.out; omega
          case rel => exact ⟨(x3_1), (wrap64 (x4_1 + 1)), (by first | rfl | (simp; done) | (simp [*]; done)), H', ⟨by have := HK1.out; omega⟩, ⟨by (with_reducible repeat (first | apply uU | apply uS | apply uT)); exact HO_3.out⟩, ⟨by (with_reducible repeat first|apply uH|apply uJ|apply uG); exact BK326.out⟩, ⟨by (with_reducible repeat first|apply uH|apply uJ|apply uG); exact BK327.out⟩, ⟨pb HB⟩⟩
        ·rw [if_neg c15] at H
         exact absurd H (by simp)
       ·rw [if_neg c14] at H
        exact absurd H (by simp)
      ·rw [if_neg c13] at H
       exact absurd H (by simp)
     ·rw [if_neg c11] at H
      have c11b0 : decide (0 < x4_1) = false := decide_eq_false c11
      clear c11
      by_cases c26 : 0 ≤ x4_1
      ·rw [if_pos c26] at H
       have c26b0 : decide (0 ≤ x4_1) = true := decide_eq_true c26
       clear c26
       by_cases c27 : ((rd_T74 x3_1 x4_1).f1) < a0_0
       ·rw [if_pos c27] at H
        have c27b0 : decide (((rd_T74 x3_1 x4_1).f1) < a0_0) = true := decide_eq_true c27
        clear c27
        obtain ⟨y341, hy341⟩ : ∃ y_ : List (S74), y_ = (x3_1.set (x4_1 : Int).toNat (⟨(rd_T74 x3_1 x4_1).f0, wrap64 (((rd_T74 x3_1 x4_1).f1) + 1), (rd_T74 x3_1 x4_1).f2⟩ : S74)) := ⟨_, rfl⟩
        replace H : (spec_l02Step.l0 k1 y341 (wrap64 (x4_1 + 1)) a0_0 a0_1 a0_2 l0_3) = some (r1, r2, r3, r4) := by first | (rw [hy341]; with_reducible exact H) | (have H2_ := (Option.bind_some _ _).symm.trans H; rw [hy341]; with_reducible exact H2_) | (have H2_ := (Option.bind_some _ _).symm.trans H; with_reducible exact H2_) | with_reducible exact H | (rw [hy341]; exact H) | exact H
        have Ny341 := uD hy341
        clear hy341
        have H' := uD H
        clear H
        obtain ⟨Ao29, co29, eo29⟩ := Kd.R_slice HO_3.out
        subst eo29
        have hnb30 := NB326_327.out
        have hnc30 := NB327_326.out
        obtain ⟨hcz31_0, hcz31_1, hcz31_2, hcz31_3, hfz31_0, hfz31_1, hfz31_2, hfz31_3⟩ := cz4 BK326
        have p339 : 0 ≤ (x4_1 : Int) := of_decide_eq_true (by first | (with_reducible assumption) | assumption)
        have q339 : x4_1 < (x3_1.length : Int) := of_decide_eq_true (by first | (with_reducible assumption) | assumption)
        obtain ⟨ad339, e339, hx339_0, hx339_1, hx339_2⟩ := at_T74 (Kd.R_reads' HO_3.out).2.2 x4_1 p339 q339
        cases e339
        replace p339 := eq_true p339
        replace q339 := eq_true q339
        have p340 : 0 ≤ (x4_1 : Int) := of_decide_eq_true (by first | (with_reducible assumption) | assumption)
        have q340 : x4_1 < (x3_1.length : Int) := of_decide_eq_true (by first | (with_reducible assumption) | assumption)
        obtain ⟨ad340, e340, hx340_0, hx340_1, hx340_2⟩ := at_T74 (Kd.R_reads' HO_3.out).2.2 x4_1 p340 q340
        obtain rfl : ad339 = ad340 := (by injection e340)
        replace p340 := eq_true p340
        replace q340 := eq_true q340
        have p28 : 0 ≤ (x4_1 : Int) := of_decide_eq_true (by first | (with_reducible assumption) | assumption)
        have q28 : (x4_1 : Int) < ((x3_1.length : Int) : Int) := of_decide_eq_true (by first | (with_reducible assumption) | assumption)
        obtain ⟨go28, co28, eo28, gb28, gl28, cl28, HG28⟩ := Kd.R_form HO_3.out (by omega)
        (first | cases eo28 | (injection eo28 with ea_ en_ ec_; (first | subst ea_ | (injection ea_ with ea_; subst ea_)); subst ec_; clear en_))
        have GB28 := uD gb28
        have GG28 := uD HG28
        clear gb28 gl28 HG28
        (first | simp only [add_plain] at hx339_0 | skip)
        (first | simp only [add_plain] at hx339_1 | skip)
        (first | simp only [add_plain] at hx339_2 | skip)
        (first | simp only [add_plain] at hx340_0 | skip)
        (first | simp only [add_plain] at hx340_1 | skip)
        (first | simp only [add_plain] at hx340_2 | skip)
        obtain ⟨ce28, hcl28, hM28, hcc28, hfr28⟩ := Kd.R_elem HO_3.out z74 (x4_1 : Int) p28 q28
        obtain rfl := k74_openM hM28
        have hx28_0 : wr.cell? ⟨go28, (x4_1 : Int).toNat * 3, none⟩ = some (.int .i64 ((rd_T74 x3_1 x4_1).f0)) := hcc28 0 _ rfl
        have hx28_1 : wr.cell? ⟨go28, (x4_1 : Int).toNat * 3 + 1, none⟩ = some (.int .i64 ((rd_T74 x3_1 x4_1).f1)) := hcc28 1 _ rfl
        have hx28_2 : wr.cell? ⟨go28, (x4_1 : Int).toNat * 3 + 2, none⟩ = some (.int .i64 ((rd_T74 x3_1 x4_1).f2)) := hcc28 2 _ rfl
        have hf28_0 : wr.frozen? ⟨go28, (x4_1 : Int).toNat * 3, none⟩ = false := hfr28 0
        have hf28_1 : wr.frozen? ⟨go28, (x4_1 : Int).toNat * 3 + 1, none⟩ = false := hfr28 1
        have hf28_2 : wr.frozen? ⟨go28, (x4_1 : Int).toNat * 3 + 2, none⟩ = false := hfr28 2
        clear hcl28 hcc28 hfr28 hM28
        replace p28 := eq_true p28
        replace q28 := eq_true q28
        have HX32 := uD (show Kd.R k74 74 wr w.heap.size (fun _ => True) (.slice (some ⟨go28, 0, none⟩) x3_1.length co29) x3_1 from (pr HO_3))
        obtain ⟨ce32, hcl32, hM32, hcc32, hfr32⟩ := Kd.R_elem HX32.out z74 (x4_1 : Int) (of_decide_eq_true (by first | (with_reducible assumption) | assumption)) (by have h_ : (x4_1 : Int) < ((x3_1.length : Int) : Int) := of_decide_eq_true (by first | (with_reducible assumption) | assumption); first | exact h_ | (have e_ := (Kd.R_reads' HO_3.out).1; omega) | simpa using h_)
        obtain rfl := k74_openM hM32
        have HP32 := Kd.R_seg HX32.out (x4_1 : Int) (of_decide_eq_true (by first | (with_reducible assumption) | assumption)) (by have h_ : (x4_1 : Int) < ((x3_1.length : Int) : Int) := of_decide_eq_true (by first | (with_reducible assumption) | assumption); first | exact h_ | (have e_ := (Kd.R_reads' HO_3.out).1; omega) | simpa using h_) (seg := [.int .i64 (wrap64 (((rd_T74 x3_1 x4_1).f1) + 1))]) (j := 1) hcl32 hcc32 (show 2 ≤ 3 from by decide) (x' := (⟨(rd_T74 x3_1 x4_1).f0, wrap64 (((rd_T74 x3_1 x4_1).f1) + 1), (rd_T74 x3_1 x4_1).f2⟩ : S74)) (k74_mkM _ _ _ (⟨(rd_T74 x3_1 x4_1).f0, wrap64 (((rd_T74 x3_1 x4_1).f1) + 1), (rd_T74 x3_1 x4_1).f2⟩ : S74) ) (fun _ hk => hk)
        have hx32_1 := hcc32 1 _ rfl
        (try simp only [show (k74).sz = 3 from rfl, Nat.mul_one, Nat.add_zero] at hx32_1)
        have hf32_1 := hfr32 1
        (try simp only [show (k74).sz = 3 from rfl, Nat.mul_one, Nat.add_zero] at hf32_1)
        clear hcl32 hcc32 hfr32 hM32
        go_wp2_with (first | ((with_reducible refine gate_store (t := 3) (p := 52) rfl ?_); (try (rw [drewN_self wr]; generalize hq_ : World.drewN wr _ = wr; have n0_ := uD (Kd.R_at hq_ HO_3.out); have n1_ := uD (blk_at hq_ BK326.out); have n2_ := uD (blk_at hq_ BK327.out); have n3_ := uD (below_at hq_ HB.out); clear hq_ HO_3 BK326 BK327 HB; have HO_3 := n0_; have BK326 := n1_; have BK327 := n2_; have HB := n3_; clear n0_ n1_ n2_ n3_; (try (have HX32 := uD (show Kd.R k74 74 wr w.heap.size (fun _ => True) (.slice (some ⟨go28, 0, none⟩) x3_1.length co29) x3_1 from (pr HO_3)))); (try (obtain ⟨ce32, hcl32, hM32, hcc32, hfr32⟩ := Kd.R_elem HX32.out z74 (x4_1 : Int) (of_decide_eq_true (by first | (with_reducible assumption) | assumption)) (by have h_ : (x4_1 : Int) < ((x3_1.length : Int) : Int) := of_decide_eq_true (by first | (with_reducible assumption) | assumption); first | exact h_ | (have e_ := (Kd.R_reads' HO_3.out).1; omega) | simpa using h_))); (try (obtain rfl := k74_openM hM32)); (try (have HP32 := Kd.R_seg HX32.out (x4_1 : Int) (of_decide_eq_true (by first | (with_reducible assumption) | assumption)) (by have h_ : (x4_1 : Int) < ((x3_1.length : Int) : Int) := of_decide_eq_true (by first | (with_reducible assumption) | assumption); first | exact h_ | (have e_ := (Kd.R_reads' HO_3.out).1; omega) | simpa using h_) (seg := [.int .i64 (wrap64 (((rd_T74 x3_1 x4_1).f1) + 1))]) (j := 1) hcl32 hcc32 (show 2 ≤ 3 from by decide) (x' := (⟨(rd_T74 x3_1 x4_1).f0, wrap64 (((rd_T74 x3_1 x4_1).f1) + 1), (rd_T74 x3_1 x4_1).f2⟩ : S74)) (k74_mkM _ _ _ (⟨(rd_T74 x3_1 x4_1).f0, wrap64 (((rd_T74 x3_1 x4_1).f1) + 1), (rd_T74 x3_1 x4_1).f2⟩ : S74) ) (fun _ hk => hk))); (try (have hx32_1 := hcc32 1 _ rfl)); (try (try simp only [show (k74).sz = 3 from rfl, Nat.mul_one, Nat.add_zero] at hx32_1)); (try (have hf32_1 := hfr32 1)); (try (try simp only [show (k74).sz = 3 from rfl, Nat.mul_one, Nat.add_zero] at hf32_1)); (try (clear hcl32 hcc32 hfr32 hM32)))); refine store_event (t := 3) (p := 52) (v := ?vo_w33) (w1 := (wr.setCell ⟨go28, (x4_1 : Int).toNat * 3 + 1, none⟩ (.int .i64 (wrap64 (((rd_T74 x3_1 x4_1).f1) + 1))))) ?hg ?ho ?hn ?hr ?_; (case ho => rfl); (case hg => rfl); (case hn => rfl); (case hr => first | (go_simp; done) | (go_simp; rfl)); intro w33 hw; have hg : wr.grownBy w33 (some go28) := (by rw [hw]; exact HP32.2); have hp_ : Kd.R k74 74 w33 w.heap.size (fun _ => True) (.slice (some ⟨go28, 0, none⟩) x3_1.length co29) y341 := (by rw [hw, Ny341.out]; exact HP32.1); clear HP32; replace BK326 := uD (blk_grown (pk BK326) hg (Kd.R_ne HO_3.out BK326.out (by decide))); replace BK327 := uD (blk_grown (pk BK327) hg (Kd.R_ne HO_3.out BK327.out (by decide))); replace HO_3 := uD (hp_); replace HB := uD ((by rw [hw]; exact uM (HB.out) GB28.out : Below w.heap.size w w33)); clear hg hw hp_))
        repeat (go_quiet (first | ((with_reducible refine gate_store (t := 3) (p := 52) rfl ?_); (try (rw [drewN_self wr]; generalize hq_ : World.drewN wr _ = wr; have n0_ := uD (Kd.R_at hq_ HO_3.out); have n1_ := uD (blk_at hq_ BK326.out); have n2_ := uD (blk_at hq_ BK327.out); have n3_ := uD (below_at hq_ HB.out); clear hq_ HO_3 BK326 BK327 HB; have HO_3 := n0_; have BK326 := n1_; have BK327 := n2_; have HB := n3_; clear n0_ n1_ n2_ n3_; (try (have HX32 := uD (show Kd.R k74 74 wr w.heap.size (fun _ => True) (.slice (some ⟨go28, 0, none⟩) x3_1.length co29) x3_1 from (pr HO_3)))); (try (obtain ⟨ce32, hcl32, hM32, hcc32, hfr32⟩ := Kd.R_elem HX32.out z74 (x4_1 : Int) (of_decide_eq_true (by first | (with_reducible assumption) | assumption)) (by have h_ : (x4_1 : Int) < ((x3_1.length : Int) : Int) := of_decide_eq_true (by first | (with_reducible assumption) | assumption); first | exact h_ | (have e_ := (Kd.R_reads' HO_3.out).1; omega) | simpa using h_))); (try (obtain rfl := k74_openM hM32)); (try (have HP32 := Kd.R_seg HX32.out (x4_1 : Int) (of_decide_eq_true (by first | (with_reducible assumption) | assumption)) (by have h_ : (x4_1 : Int) < ((x3_1.length : Int) : Int) := of_decide_eq_true (by first | (with_reducible assumption) | assumption); first | exact h_ | (have e_ := (Kd.R_reads' HO_3.out).1; omega) | simpa using h_) (seg := [.int .i64 (wrap64 (((rd_T74 x3_1 x4_1).f1) + 1))]) (j := 1) hcl32 hcc32 (show 2 ≤ 3 from by decide) (x' := (⟨(rd_T74 x3_1 x4_1).f0, wrap64 (((rd_T74 x3_1 x4_1).f1) + 1), (rd_T74 x3_1 x4_1).f2⟩ : S74)) (k74_mkM _ _ _ (⟨(rd_T74 x3_1 x4_1).f0, wrap64 (((rd_T74 x3_1 x4_1).f1) + 1), (rd_T74 x3_1 x4_1).f2⟩ : S74) ) (fun _ hk => hk))); (try (have hx32_1 := hcc32 1 _ rfl)); (try (try simp only [show (k74).sz = 3 from rfl, Nat.mul_one, Nat.add_zero] at hx32_1)); (try (have hf32_1 := hfr32 1)); (try (try simp only [show (k74).sz = 3 from rfl, Nat.mul_one, Nat.add_zero] at hf32_1)); (try (clear hcl32 hcc32 hfr32 hM32)))); refine store_event (t := 3) (p := 52) (v := ?vo_w33) (w1 := (wr.setCell ⟨go28, (x4_1 : Int).toNat * 3 + 1, none⟩ (.int .i64 (wrap64 (((rd_T74 x3_1 x4_1).f1) + 1))))) ?hg ?ho ?hn ?hr ?_; (case ho => rfl); (case hg => rfl); (case hn => rfl); (case hr => first | (go_simp; done) | (go_simp; rfl)); intro w33 hw; have hg : wr.grownBy w33 (some go28) := (by rw [hw]; exact HP32.2); have hp_ : Kd.R k74 74 w33 w.heap.size (fun _ => True) (.slice (some ⟨go28, 0, none⟩) x3_1.length co29) y341 := (by rw [hw, Ny341.out]; exact HP32.1); clear HP32; replace BK326 := uD (blk_grown (pk BK326) hg (Kd.R_ne HO_3.out BK326.out (by decide))); replace BK327 := uD (blk_grown (pk BK327) hg (Kd.R_ne HO_3.out BK327.out (by decide))); replace HO_3 := uD (hp_); replace HB := uD ((by rw [hw]; exact uM (HB.out) GB28.out : Below w.heap.size w w33)); clear hg hw hp_)); try go_wp2_with (first | ((with_reducible refine gate_store (t := 3) (p := 52) rfl ?_); (try (rw [drewN_self wr]; generalize hq_ : World.drewN wr _ = wr; have n0_ := uD (Kd.R_at hq_ HO_3.out); have n1_ := uD (blk_at hq_ BK326.out); have n2_ := uD (blk_at hq_ BK327.out); have n3_ := uD (below_at hq_ HB.out); clear hq_ HO_3 BK326 BK327 HB; have HO_3 := n0_; have BK326 := n1_; have BK327 := n2_; have HB := n3_; clear n0_ n1_ n2_ n3_; (try (have HX32 := uD (show Kd.R k74 74 wr w.heap.size (fun _ => True) (.slice (some ⟨go28, 0, none⟩) x3_1.length co29) x3_1 from (pr HO_3)))); (try (obtain ⟨ce32, hcl32, hM32, hcc32, hfr32⟩ := Kd.R_elem HX32.out z74 (x4_1 : Int) (of_decide_eq_true (by first | (with_reducible assumption) | assumption)) (by have h_ : (x4_1 : Int) < ((x3_1.length : Int) : Int) := of_decide_eq_true (by first | (with_reducible assumption) | assumption); first | exact h_ | (have e_ := (Kd.R_reads' HO_3.out).1; omega) | simpa using h_))); (try (obtain rfl := k74_openM hM32)); (try (have HP32 := Kd.R_seg HX32.out (x4_1 : Int) (of_decide_eq_true (by first | (with_reducible assumption) | assumption)) (by have h_ : (x4_1 : Int) < ((x3_1.length : Int) : Int) := of_decide_eq_true (by first | (with_reducible assumption) | assumption); first | exact h_ | (have e_ := (Kd.R_reads' HO_3.out).1; omega) | simpa using h_) (seg := [.int .i64 (wrap64 (((rd_T74 x3_1 x4_1).f1) + 1))]) (j := 1) hcl32 hcc32 (show 2 ≤ 3 from by decide) (x' := (⟨(rd_T74 x3_1 x4_1).f0, wrap64 (((rd_T74 x3_1 x4_1).f1) + 1), (rd_T74 x3_1 x4_1).f2⟩ : S74)) (k74_mkM _ _ _ (⟨(rd_T74 x3_1 x4_1).f0, wrap64 (((rd_T74 x3_1 x4_1).f1) + 1), (rd_T74 x3_1 x4_1).f2⟩ : S74) ) (fun _ hk => hk))); (try (have hx32_1 := hcc32 1 _ rfl)); (try (try simp only [show (k74).sz = 3 from rfl, Nat.mul_one, Nat.add_zero] at hx32_1)); (try (have hf32_1 := hfr32 1)); (try (try simp only [show (k74).sz = 3 from rfl, Nat.mul_one, Nat.add_zero] at hf32_1)); (try (clear hcl32 hcc32 hfr32 hM32)))); refine store_event (t := 3) (p := 52) (v := ?vo_w33) (w1 := (wr.setCell ⟨go28, (x4_1 : Int).toNat * 3 + 1, none⟩ (.int .i64 (wrap64 (((rd_T74 x3_1 x4_1).f1) + 1))))) ?hg ?ho ?hn ?hr ?_; (case ho => rfl); (case hg => rfl); (case hn => rfl); (case hr => first | (go_simp; done) | (go_simp; rfl)); intro w33 hw; have hg : wr.grownBy w33 (some go28) := (by rw [hw]; exact HP32.2); have hp_ : Kd.R k74 74 w33 w.heap.size (fun _ => True) (.slice (some ⟨go28, 0, none⟩) x3_1.length co29) y341 := (by rw [hw, Ny341.out]; exact HP32.1); clear HP32; replace BK326 := uD (blk_grown (pk BK326) hg (Kd.R_ne HO_3.out BK326.out (by decide))); replace BK327 := uD (blk_grown (pk BK327) hg (Kd.R_ne HO_3.out BK327.out (by decide))); replace HO_3 := uD (hp_); replace HB := uD ((by rw [hw]; exact uM (HB.out) GB28.out : Below w.heap.size w w33)); clear hg hw hp_)))
        go_roundg k1
        case measure => have := HK1.out; omega
        case rel => exact ⟨(y341), (wrap64 (x4_1 + 1)), (by first | rfl | (simp; done) | (simp [*]; done)), H', ⟨by have := HK1.out; omega⟩, ⟨by (with_reducible repeat (first | apply uU | apply uS | apply uT)); exact HO_3.out⟩, ⟨by (with_reducible repeat first|apply uH|apply uJ|apply uG); exact BK326.out⟩, ⟨by (with_reducible repeat first|apply uH|apply uJ|apply uG); exact BK327.out⟩, ⟨pb HB⟩⟩
       ·rw [if_neg c27] at H
        have c27b0 : decide (((rd_T74 x3_1 x4_1).f1) < a0_0) = false := decide_eq_false c27
        clear c27
        have H' := uD H
        clear H
        obtain ⟨Ao34, co34, eo34⟩ := Kd.R_slice HO_3.out
        subst eo34
        have hnb35 := NB326_327.out
        have hnc35 := NB327_326.out
        obtain ⟨hcz36_0, hcz36_1, hcz36_2, hcz36_3, hfz36_0, hfz36_1, hfz36_2, hfz36_3⟩ := cz4 BK326
        have p339 : 0 ≤ (x4_1 : Int) := of_decide_eq_true (by first | (with_reducible assumption) | assumption)
        have q339 : x4_1 < (x3_1.length : Int) := of_decide_eq_true (by first | (with_reducible assumption) | assumption)
        obtain ⟨ad339, e339, hx339_0, hx339_1, hx339_2⟩ := at_T74 (Kd.R_reads' HO_3.out).2.2 x4_1 p339 q339
        cases e339
        replace p339 := eq_true p339
        replace q339 := eq_true q339
        go_wp2
        repeat (go_quiet (fail); try go_wp2)
        go_roundg k1
        case measure => have := HK1.out; omega
        case rel => exact ⟨(x3_1), (wrap64 (x4_1 + 1)), (by first | rfl | (simp; done) | (simp [*]; done)), H', ⟨by have := HK1.out; omega⟩, ⟨by (with_reducible repeat (first | apply uU | apply uS | apply uT)); exact HO_3.out⟩, ⟨by (with_reducible repeat first|apply uH|apply uJ|apply uG); exact BK326.out⟩, ⟨by (with_reducible repeat first|apply uH|apply uJ|apply uG); exact BK327.out⟩, ⟨pb HB⟩⟩
      ·rw [if_neg c26] at H
       exact absurd H (by simp)
    ·rw [if_neg c10] at H
     have c10b0 : decide (x4_1 < (x3_1.length : Int)) = false := decide_eq_false c10
     clear c10
     simp only [Option.some.injEq, Prod.mk.injEq] at H
     obtain ⟨rfl, rfl, rfl, rfl⟩ := H
     obtain ⟨Ao37, co37, eo37⟩ := Kd.R_slice HO_3.out
     subst eo37
     have hnb38 := NB326_327.out
     have hnc38 := NB327_326.out
     obtain ⟨hcz39_0, hcz39_1, hcz39_2, hcz39_3, hfz39_0, hfz39_1, hfz39_2, hfz39_3⟩ := cz4 BK326
     obtain ⟨hcz40_0, hcz40_1, hcz40_2, hcz40_3, hfz40_0, hfz40_1, hfz40_2, hfz40_3⟩ := cz4 BK327
     go_wp2
     repeat (go_quiet (fail); try go_wp2)
     refine bodyPost_ret (results_cell_row rfl _ _ gb327 63 #[.int .i64 a0_0, .int .i64 a0_1, .bool a0_2, .slice Ao37 x3_1.length co37] (0, 0) _ rfl (by (with_reducible repeat first|apply uH|apply uJ|apply uG); refine uP (cs := #[.int .i64 a0_0, .int .i64 a0_1, .bool a0_2, .slice none 0 0]) ?_ 3 _ rfl; (with_reducible repeat first|apply uH|apply uJ|apply uG); refine uP (cs := #[.int .i64 a0_0, .int .i64 a0_1, .bool false, .slice none 0 0]) ?_ 2 _ rfl; (with_reducible repeat first|apply uH|apply uJ|apply uG); refine uP (cs := #[.int .i64 a0_0, .int .i64 0, .bool false, .slice none 0 0]) ?_ 1 _ rfl; (with_reducible repeat first|apply uH|apply uJ|apply uG); refine uP (cs := #[.int .i64 0, .int .i64 0, .bool false, .slice none 0 0]) ?_ 0 _ rfl; exact ps BK327) Try.underlying63 rfl (by kernel_rfl)) rfl ?_
     exact ⟨_, by first | rfl | (simp [errW_none, errW_some] <;> rfl) | (simp [*, errW_none, errW_some] <;> rfl), by (with_reducible repeat (first | apply uU | apply uS | apply uT)); exact uX (uV (p := ⟨gb327, 3, none⟩) (uV (p := ⟨gb327, 2, none⟩) (uV (p := ⟨gb327, 1, none⟩) (uV (p := ⟨gb327, 0, none⟩) (uV (p := ⟨gb326, 3, none⟩) (uW (uW HO_3.out BK326.out (by decide)) BK327.out (by decide)) (fun _ hk => hk.1.2) (.slice Ao37 x3_1.length co37)) (fun _ hk => hk.2) (.int .i64 a0_0)) (fun _ hk => hk.2) (.int .i64 a0_1)) (fun _ hk => hk.2) (.bool a0_2)) (fun _ hk => hk.2) (.slice Ao37 x3_1.length co37)) (fun _ hk => trivial), pb HB⟩
 ·rw [if_neg c2] at H
  exact absurd H (by simp)

/-! ### spec_Move: function 95 -/
mutual
def spec_Move.j0 : Nat → Int → Bool → Int → Int → Bool → List (S74) → Option (Int × Int × Bool × (List (S74)))
 | 0, _, _, _, _, _, _ => none
 | k + 1, x1, x15, x343000, x343001, x343002, x343003 => if x15 = true then (some (x343000, x343001, x343002, x343003)) else (spec_Move.l0 k x1 0 x343000 x343001 x343002 x343003)
def spec_Move.l0 : Nat → Int → Int → Int → Int → Bool → List (S74) → Option (Int × Int × Bool × (List (S74)))
 | 0, _, _, _, _, _, _ => none
 | k + 1, x1, x5, x343000, x343001, x343002, x343003 => if x5 < x1 then ((spec_l02Step.f k x343000 x343001 x343002 x343003).bind fun bt352 => (spec_Move.l0 k x1 (wrap64 (x5 + 1)) bt352.1 bt352.2.1 bt352.2.2.1 bt352.2.2.2)) else (some (x343000, x343001, x343002, x343003))
end
def spec_Move.f (k : Nat) (a0_0 : Int) (a0_1 : Int) (a0_2 : Bool) (l0_3 : List (S74)) (a1 : Int) : Option (Int × Int × Bool × (List (S74))) := (spec_l02Fresh.f a0_0 a0_1 a0_2 l0_3).bind fun bt344 => ((spec_BeltOk.f k bt344.1 bt344.2.1 bt344.2.2.1 bt344.2.2.2).bind fun t350 => (if t350 = true then ((spec_l01In.f a1 0 2000).bind fun t351 => (spec_Move.j0 k a1 (!t351) bt344.1 bt344.2.1 bt344.2.2.1 bt344.2.2.2)) else (spec_Move.j0 k a1 true bt344.1 bt344.2.1 bt344.2.2.1 bt344.2.2.2)))
theorem spec_Move.mono_l : ∀ k, (∀ y0 y1 y2 y3 y4 y5, LeO (spec_Move.j0 k y0 y1 y2 y3 y4 y5) (spec_Move.j0 (k + 1) y0 y1 y2 y3 y4 y5)) ∧ (∀ y0 y1 y2 y3 y4 y5, LeO (spec_Move.l0 k y0 y1 y2 y3 y4 y5) (spec_Move.l0 (k + 1) y0 y1 y2 y3 y4 y5))
 | 0 => ⟨fun _ _ _ _ _ _ r h => by simp [spec_Move.j0] at h, fun _ _ _ _ _ _ r h => by simp [spec_Move.l0] at h⟩
 | k + 1 => by
  obtain ⟨ih0, ih1⟩ := spec_Move.mono_l k
  refine ⟨?_, ?_⟩
  ·intro y0 y1 y2 y3 y4 y5
   unfold spec_Move.j0
   repeat' first
   | (with_reducible exact ih0 _ _ _ _ _ _)
   | (with_reducible exact ih1 _ _ _ _ _ _)
   | (with_reducible exact spec_BeltOk.mono _ _ _ _ _)
   | (with_reducible exact spec_l02Step.mono _ _ _ _ _)
   | (with_reducible exact LeO.refl _)
   | (with_reducible exact LeO.none _)
   | (with_reducible refine LeO.ite ?_ ?_)
   | (with_reducible refine LeO.bind ?_ (fun _ => ?_))
   | exact ih0 _ _ _ _ _ _
   | exact ih1 _ _ _ _ _ _
   | exact spec_BeltOk.mono _ _ _ _ _
   | exact spec_l02Step.mono _ _ _ _ _
   | exact LeO.none _
   | refine LeO.ite ?_ ?_
   | refine LeO.bind ?_ (fun _ => ?_)
  ·intro y0 y1 y2 y3 y4 y5
   unfold spec_Move.l0
   repeat' first
   | (with_reducible exact ih0 _ _ _ _ _ _)
   | (with_reducible exact ih1 _ _ _ _ _ _)
   | (with_reducible exact spec_BeltOk.mono _ _ _ _ _)
   | (with_reducible exact spec_l02Step.mono _ _ _ _ _)
   | (with_reducible exact LeO.refl _)
   | (with_reducible exact LeO.none _)
   | (with_reducible refine LeO.ite ?_ ?_)
   | (with_reducible refine LeO.bind ?_ (fun _ => ?_))
   | exact ih0 _ _ _ _ _ _
   | exact ih1 _ _ _ _ _ _
   | exact spec_BeltOk.mono _ _ _ _ _
   | exact spec_l02Step.mono _ _ _ _ _
   | exact LeO.none _
   | refine LeO.ite ?_ ?_
   | refine LeO.bind ?_ (fun _ => ?_)
theorem spec_Move.mono : ∀ a0 a1 a2 a3 a4 k, LeO (spec_Move.f k a0 a1 a2 a3 a4) (spec_Move.f (k + 1) a0 a1 a2 a3 a4) := by
 intro a0 a1 a2 a3 a4 k
 obtain ⟨ih0, ih1⟩ := spec_Move.mono_l k
 unfold spec_Move.f
 repeat' first
   | (with_reducible exact ih0 _ _ _ _ _ _)
   | (with_reducible exact ih1 _ _ _ _ _ _)
   | (with_reducible exact spec_BeltOk.mono _ _ _ _ _)
   | (with_reducible exact spec_l02Step.mono _ _ _ _ _)
   | (with_reducible exact LeO.refl _)
   | (with_reducible exact LeO.none _)
   | (with_reducible refine LeO.ite ?_ ?_)
   | (with_reducible refine LeO.bind ?_ (fun _ => ?_))
   | exact ih0 _ _ _ _ _ _
   | exact ih1 _ _ _ _ _ _
   | exact spec_BeltOk.mono _ _ _ _ _
   | exact spec_l02Step.mono _ _ _ _ _
   | exact LeO.none _
   | refine LeO.ite ?_ ?_
   | refine LeO.bind ?_ (fun _ => ?_)
set_option maxHeartbeats 8000000 in
set_option maxRecDepth 100000 in
theorem spec_Move.calls (k : Nat) (a0_0 : Int) (a0_1 : Int) (a0_2 : Bool) (A0_3 : Option Addr) (c0_3 : Nat) (l0_3 : List (S74)) (a1 : Int) (r1 : Int) (r2 : Int) (r3 : Bool) (r4 : List (S74)) (w : World) (hr0_3 : Kd.C k74 w A0_3 l0_3.length l0_3) (hc0_3 : l0_3.length ≤ c0_3) (h : spec_Move.f k a0_0 a0_1 a0_2 l0_3 a1 = some (r1, r2, r3, r4)) :
  Calls Try.prog 95 #[.agg #[.int .i64 a0_0, .int .i64 a0_1, .bool a0_2, .slice A0_3 l0_3.length c0_3], .int .i64 a1] w fun e w' => ∃ v3_ : Value, e = .returned (.agg #[.int .i64 r1, .int .i64 r2, .bool r3, v3_]) ∧ Kd.R k74 74 w' w.heap.size (fun _ => True) v3_ r4 ∧ Below w.heap.size w w' := by
 have hu63 := Try.underlying63
 have HR0_3 := uD hr0_3
 have HC0_3 := uD hc0_3
 clear hr0_3 hc0_3
 have HB := uD (Below.refl w.heap.size w)
 have H : ((spec_l02Fresh.f a0_0 a0_1 a0_2 l0_3).bind fun bt344 => ((spec_BeltOk.f k bt344.1 bt344.2.1 bt344.2.2.1 bt344.2.2.2).bind fun t350 => (if t350 = true then ((spec_l01In.f a1 0 2000).bind fun t351 => (spec_Move.j0 k a1 (!t351) bt344.1 bt344.2.1 bt344.2.2.1 bt344.2.2.2)) else (spec_Move.j0 k a1 true bt344.1 bt344.2.1 bt344.2.2.1 bt344.2.2.2)))) = some (r1, r2, r3, r4) := h
 clear h
 replace H := Option.bind_eq_some_iff.mp H
 obtain ⟨⟨t344, t345, t346, t347⟩, A30, H⟩ := H
 replace H : ((spec_BeltOk.f k t344 t345 t346 t347).bind fun t350 => (if t350 = true then ((spec_l01In.f a1 0 2000).bind fun t351 => (spec_Move.j0 k a1 (!t351) t344 t345 t346 t347)) else (spec_Move.j0 k a1 true t344 t345 t346 t347))) = some (r1, r2, r3, r4) := H
 have A3 := uD A30
 clear A30
 have HC4 := uD H
 clear H
 go_enter Try.func95, Try.ntmps95
 go_upto_region 2 with (first | ((with_reducible refine gate_dst (N := 2) rfl ?_); refine box_event ?hg (N := 2) ?hd (cs := #[.int .i64 a0_0, .int .i64 a0_1, .bool a0_2, .slice A0_3 l0_3.length c0_3]) (t := 63) ?hr ?_; (case hd => rfl); (case hg => rfl); (case hr => first | (go_simp; done) | (go_simp; rfl)); intro gb342 hg w5 hbox hb; have BK342 := uD (hbox); have GW342 := uD ((by rw [hg]; exact (uN (pb HB)) : w.heap.size ≤ gb342)); have GE342 := uD ((by rw [hg]; exact (uN (pb HB)) : w.heap.size ≤ gb342)); replace HB := uD (uO (pb HB) hb); clear hb hbox hg) | ((with_reducible refine gate_dst (N := 4) rfl ?_); refine box_event ?hg (N := 4) ?hd (cs := #[.int .i64 0, .int .i64 0, .bool false, .slice none 0 0]) (t := 63) ?hr ?_; (case hd => rfl); (case hg => rfl); (case hr => first | (go_simp; done) | (go_simp; rfl)); intro gb343 hg w6 hbox hb; have BK343 := uD (hbox); have GW343 := uD ((by rw [hg]; exact (uN (pb HB)) : w.heap.size ≤ gb343)); have GE343 := uD ((by rw [hg]; exact (uN (pb HB)) : w.heap.size ≤ gb343)); replace HB := uD (uO (pb HB) hb); have NB342_343 := uD ((by rw [hg]; exact Nat.ne_of_lt (blk_lt (pk BK342)) : gb342 ≠ gb343)); have NB343_342 := uD ((by rw [hg]; exact Nat.ne_of_gt (blk_lt (pk BK342)) : gb343 ≠ gb342)); replace BK342 := uD (blk_below (pk BK342) hb); clear hb hbox hg; have hnb7 := NB342_343.out; have hnc7 := NB343_342.out; obtain ⟨hcz8_0, hcz8_1, hcz8_2, hcz8_3, hfz8_0, hfz8_1, hfz8_2, hfz8_3⟩ := cz4 BK342) | ((with_reducible refine gate_callee (f := 84) rfl ?_); refine goesL_ (some 7) rfl rfl Try.func84 (by kernel_rfl) rfl #[.agg #[.int .i64 a0_0, .int .i64 a0_1, .bool a0_2, .slice A0_3 l0_3.length c0_3]] rfl (by (try simp only [List.map_toArray, List.map_cons, List.map_nil]); first | done | rfl | (simp only [List.length_drop, List.length_take]; rfl)) ?_; (with_reducible refine (spec_l02Fresh.calls a0_0 a0_1 a0_2 _ _ l0_3 t344 t345 t346 t347 _ ?side1 ?side2 A3.out).mono ?_); (case side1 => repeat (first | exact (Kd.C_below HR0_3.out HB.out) | (with_reducible refine Kd.C_alloc ?_ _) | (with_reducible refine Kd.C_drewN ?_ _) | (with_reducible refine Kd.C_drew ?_))); (case side2 => exact HC0_3.out); rintro e w9 ⟨v348, rfl, ho0, hb⟩; refine ⟨_, rfl, ?_⟩; have HO349 := uD (Kd.R_lower ho0 (uN (pb HB))); replace BK342 := uD (blk_below (pk BK342) hb); replace BK343 := uD (blk_below (pk BK343) hb); replace HB := uD (uO (pb HB) hb); (try clear hb); (try clear hb2); (try clear hk); (try clear hi); (try clear ho0); obtain ⟨hcz10_0, hcz10_1, hcz10_2, hcz10_3, hfz10_0, hfz10_1, hfz10_2, hfz10_3⟩ := cz4 BK342; obtain ⟨Ao11, co11, eo11⟩ := Kd.R_slice HO349.out; subst eo11))
 (try simp only [uc, uA, uB, uC])
 go_cut [15] (fun v15 wc => ∃ (kq : Nat) (x15_3 : Bool), v15 = .bool x15_3 ∧ Aside0 (spec_Move.j0 kq a1 x15_3 t344 t345 t346 t347 = some (r1, r2, r3, r4)) ∧ Aside0 (kq ≤ k) ∧ Aside0 (Kd.R k74 74 wc w.heap.size (fun _ => True) (.slice Ao11 t347.length co11) t347) ∧ Aside0 (wc.heap[gb342]? = some (.cells #[.int .i64 t344, .int .i64 t345, .bool t346, (.slice Ao11 t347.length co11)] 63 (0, 0))) ∧ Aside0 (wc.heap[gb343]? = some (.cells #[.int .i64 0, .int .i64 0, .bool false, (.slice none 0 0)] 63 (0, 0))) ∧ Aside0 (Below w.heap.size w wc))
 case first =>
  have H := HC4.out
  clear HC4
  replace H := Option.bind_eq_some_iff.mp H
  obtain ⟨t350, A120, H⟩ := H
  replace H : (if t350 = true then ((spec_l01In.f a1 0 2000).bind fun t351 => (spec_Move.j0 k a1 (!t351) t344 t345 t346 t347)) else (spec_Move.j0 k a1 true t344 t345 t346 t347)) = some (r1, r2, r3, r4) := H
  have A12 := uD A120
  clear A120
  by_cases c13 : t350 = true
  ·subst c13
   have H1 : ((spec_l01In.f a1 0 2000).bind fun t351 => (spec_Move.j0 k a1 (!t351) t344 t345 t346 t347)) = some (r1, r2, r3, r4) := by rw [if_pos rfl] at H; first | done | exact H
   clear H
   have H := H1
   clear H1
   replace H := Option.bind_eq_some_iff.mp H
   obtain ⟨t351, A140, H⟩ := H
   replace H : (spec_Move.j0 k a1 (!t351) t344 t345 t346 t347) = some (r1, r2, r3, r4) := H
   have A14 := uD A140
   clear A140
   have H' := uD H
   clear H
   have hnb15 := NB342_343.out
   have hnc15 := NB343_342.out
   obtain ⟨hcz16_0, hcz16_1, hcz16_2, hcz16_3, hfz16_0, hfz16_1, hfz16_2, hfz16_3⟩ := cz4 BK342
   go_wp2_with (first | ((with_reducible refine gate_callee (f := 75) rfl ?_); refine goesL_ (some 9) rfl rfl Try.func75 (by kernel_rfl) rfl #[.agg #[.int .i64 t344, .int .i64 t345, .bool t346, .slice Ao11 t347.length co11]] rfl (by (try simp only [List.map_toArray, List.map_cons, List.map_nil]); first | done | rfl | (simp only [List.length_drop, List.length_take]; rfl)) ?_; (with_reducible refine (spec_BeltOk.calls k t344 t345 t346 _ _ t347 true _ ?side1 ?side2 A12.out).mono ?_); (case side1 => refine (Kd.R_reads' (e := 74) (base := w.heap.size) (ok := fun k_ => True) (n := t347.length) (c := co11) ?_).2.2; exact (by (with_reducible repeat (first | apply uU | apply uS | apply uT)); exact (uX (uV (p := ⟨gb342, 3, none⟩) (uV (p := ⟨gb342, 2, none⟩) (uV (p := ⟨gb342, 1, none⟩) (uV (p := ⟨gb342, 0, none⟩) (uW HO349.out BK342.out (by decide)) (fun _ hk => hk.2) (.int .i64 t344)) (fun _ hk => hk.2) (.int .i64 t345)) (fun _ hk => hk.2) (.bool t346)) (fun _ hk => hk.2) (.slice Ao11 t347.length co11)) (fun _ h_ => h_.1)))); (case side2 => exact (Kd.R_reads' HO349.out).2.1); rintro e w17 ⟨rfl, hb⟩; refine ⟨_, rfl, ?_⟩; replace HO349 := uD (Kd.R_below (by (with_reducible repeat (first | apply uU | apply uS | apply uT)); exact (uX (uV (p := ⟨gb342, 3, none⟩) (uV (p := ⟨gb342, 2, none⟩) (uV (p := ⟨gb342, 1, none⟩) (uV (p := ⟨gb342, 0, none⟩) (uW HO349.out BK342.out (by decide)) (fun _ hk => hk.2) (.int .i64 t344)) (fun _ hk => hk.2) (.int .i64 t345)) (fun _ hk => hk.2) (.bool t346)) (fun _ hk => hk.2) (.slice Ao11 t347.length co11)) (fun _ h_ => h_.1))) hb); replace BK342 := uD (blk_below (g := gb342) (o := .cells #[.int .i64 t344, .int .i64 t345, .bool t346, .slice Ao11 t347.length co11] 63 (0, 0)) (by (with_reducible repeat first|apply uH|apply uJ|apply uG); refine uP (cs := #[.int .i64 t344, .int .i64 t345, .bool t346, .slice A0_3 l0_3.length c0_3]) ?_ 3 _ rfl; (with_reducible repeat first|apply uH|apply uJ|apply uG); refine uP (cs := #[.int .i64 t344, .int .i64 t345, .bool a0_2, .slice A0_3 l0_3.length c0_3]) ?_ 2 _ rfl; (with_reducible repeat first|apply uH|apply uJ|apply uG); refine uP (cs := #[.int .i64 t344, .int .i64 a0_1, .bool a0_2, .slice A0_3 l0_3.length c0_3]) ?_ 1 _ rfl; (with_reducible repeat first|apply uH|apply uJ|apply uG); refine uP (cs := #[.int .i64 a0_0, .int .i64 a0_1, .bool a0_2, .slice A0_3 l0_3.length c0_3]) ?_ 0 _ rfl; (with_reducible repeat first|apply uH|apply uJ|apply uG); exact BK342.out) hb); replace BK343 := uD (blk_below (g := gb343) (o := .cells #[.int .i64 0, .int .i64 0, .bool false, .slice none 0 0] 63 (0, 0)) (by exact ps BK343) hb); replace HB := uD (uO (pb HB) hb); (try clear hb); (try clear hb2); (try clear hk); (try clear hi)) | (go_at_call 57; (with_reducible refine (spec_l01In.calls a1 0 2000 t351 _ A14.out).mono ?_); rintro e w' ⟨rfl, ⟨nd, rfl⟩⟩))
   go_meet
   case rel => exact ⟨_, (!t351), (by first | rfl | (simp; done) | (simp [*]; done)), H', ⟨by first | omega | exact Nat.le_refl _⟩, ⟨by (with_reducible repeat (first | apply uU | apply uS | apply uT)); exact HO349.out⟩, ⟨by (with_reducible repeat first|apply uH|apply uJ|apply uG); exact BK342.out⟩, ⟨by (with_reducible repeat first|apply uH|apply uJ|apply uG); exact BK343.out⟩, ⟨pb HB⟩⟩
  ·replace c13 := Bool.eq_false_iff.mpr c13
   subst c13
   have H1 : (spec_Move.j0 k a1 true t344 t345 t346 t347) = some (r1, r2, r3, r4) := by rw [if_neg (show ¬ (false = true) by decide)] at H; first | done | exact H
   clear H
   have H := H1
   clear H1
   have H' := uD H
   clear H
   have hnb18 := NB342_343.out
   have hnc18 := NB343_342.out
   obtain ⟨hcz19_0, hcz19_1, hcz19_2, hcz19_3, hfz19_0, hfz19_1, hfz19_2, hfz19_3⟩ := cz4 BK342
   go_wp2_with (first | ((with_reducible refine gate_callee (f := 75) rfl ?_); refine goesL_ (some 9) rfl rfl Try.func75 (by kernel_rfl) rfl #[.agg #[.int .i64 t344, .int .i64 t345, .bool t346, .slice Ao11 t347.length co11]] rfl (by (try simp only [List.map_toArray, List.map_cons, List.map_nil]); first | done | rfl | (simp only [List.length_drop, List.length_take]; rfl)) ?_; (with_reducible refine (spec_BeltOk.calls k t344 t345 t346 _ _ t347 false _ ?side1 ?side2 A12.out).mono ?_); (case side1 => refine (Kd.R_reads' (e := 74) (base := w.heap.size) (ok := fun k_ => True) (n := t347.length) (c := co11) ?_).2.2; exact (by (with_reducible repeat (first | apply uU | apply uS | apply uT)); exact (uX (uV (p := ⟨gb342, 3, none⟩) (uV (p := ⟨gb342, 2, none⟩) (uV (p := ⟨gb342, 1, none⟩) (uV (p := ⟨gb342, 0, none⟩) (uW HO349.out BK342.out (by decide)) (fun _ hk => hk.2) (.int .i64 t344)) (fun _ hk => hk.2) (.int .i64 t345)) (fun _ hk => hk.2) (.bool t346)) (fun _ hk => hk.2) (.slice Ao11 t347.length co11)) (fun _ h_ => h_.1)))); (case side2 => exact (Kd.R_reads' HO349.out).2.1); rintro e w20 ⟨rfl, hb⟩; refine ⟨_, rfl, ?_⟩; replace HO349 := uD (Kd.R_below (by (with_reducible repeat (first | apply uU | apply uS | apply uT)); exact (uX (uV (p := ⟨gb342, 3, none⟩) (uV (p := ⟨gb342, 2, none⟩) (uV (p := ⟨gb342, 1, none⟩) (uV (p := ⟨gb342, 0, none⟩) (uW HO349.out BK342.out (by decide)) (fun _ hk => hk.2) (.int .i64 t344)) (fun _ hk => hk.2) (.int .i64 t345)) (fun _ hk => hk.2) (.bool t346)) (fun _ hk => hk.2) (.slice Ao11 t347.length co11)) (fun _ h_ => h_.1))) hb); replace BK342 := uD (blk_below (g := gb342) (o := .cells #[.int .i64 t344, .int .i64 t345, .bool t346, .slice Ao11 t347.length co11] 63 (0, 0)) (by (with_reducible repeat first|apply uH|apply uJ|apply uG); refine uP (cs := #[.int .i64 t344, .int .i64 t345, .bool t346, .slice A0_3 l0_3.length c0_3]) ?_ 3 _ rfl; (with_reducible repeat first|apply uH|apply uJ|apply uG); refine uP (cs := #[.int .i64 t344, .int .i64 t345, .bool a0_2, .slice A0_3 l0_3.length c0_3]) ?_ 2 _ rfl; (with_reducible repeat first|apply uH|apply uJ|apply uG); refine uP (cs := #[.int .i64 t344, .int .i64 a0_1, .bool a0_2, .slice A0_3 l0_3.length c0_3]) ?_ 1 _ rfl; (with_reducible repeat first|apply uH|apply uJ|apply uG); refine uP (cs := #[.int .i64 a0_0, .int .i64 a0_1, .bool a0_2, .slice A0_3 l0_3.length c0_3]) ?_ 0 _ rfl; (with_reducible repeat first|apply uH|apply uJ|apply uG); exact BK342.out) hb); replace BK343 := uD (blk_below (g := gb343) (o := .cells #[.int .i64 0, .int .i64 0, .bool false, .slice none 0 0] 63 (0, 0)) (by exact ps BK343) hb); replace HB := uD (uO (pb HB) hb); (try clear hb); (try clear hb2); (try clear hk); (try clear hi)))
   go_meet
   case rel => exact ⟨_, (true), (by first | rfl | (simp; done) | (simp [*]; done)), H', ⟨by first | omega | exact Nat.le_refl _⟩, ⟨by (with_reducible repeat (first | apply uU | apply uS | apply uT)); exact HO349.out⟩, ⟨by (with_reducible repeat first|apply uH|apply uJ|apply uG); exact BK342.out⟩, ⟨by (with_reducible repeat first|apply uH|apply uJ|apply uG); exact BK343.out⟩, ⟨pb HB⟩⟩
 case rest =>
  clear HC4
  try clear c1
  try clear p2
  try clear c7
  try clear c8
  try clear c9
  try clear c13
  try clear c15
  try clear c18
  try clear hcz10_0
  try clear hcz10_1
  try clear hcz10_2
  try clear hcz10_3
  try clear hcz16_0
  try clear hcz16_1
  try clear hcz16_2
  try clear hcz16_3
  try clear hcz19_0
  try clear hcz19_1
  try clear hcz19_2
  try clear hcz19_3
  try clear hcz8_0
  try clear hcz8_1
  try clear hcz8_2
  try clear hcz8_3
  try clear hfz10_0
  try clear hfz10_1
  try clear hfz10_2
  try clear hfz10_3
  try clear hfz16_0
  try clear hfz16_1
  try clear hfz16_2
  try clear hfz16_3
  try clear hfz19_0
  try clear hfz19_1
  try clear hfz19_2
  try clear hfz19_3
  try clear hfz8_0
  try clear hfz8_1
  try clear hfz8_2
  try clear hfz8_3
  obtain ⟨kq, x15_3, rfl, HA, HJ3, HO_343003, BK342, BK343, HB⟩ := hcut
  cases kq with
  | zero => exact absurd HA.out (by simp [spec_Move.j0])
  | succ kj3 =>
   have H := HA.out
   clear HA
   simp only [spec_Move.j0] at H
   by_cases c21 : x15_3 = true
   ·subst c21
    have H1 : (some (t344, t345, t346, t347)) = some (r1, r2, r3, r4) := by rw [if_pos rfl] at H; first | done | exact H
    clear H
    have H := H1
    clear H1
    simp only [Option.some.injEq, Prod.mk.injEq] at H
    obtain ⟨rfl, rfl, rfl, rfl⟩ := H
    have hnb22 := NB342_343.out
    have hnc22 := NB343_342.out
    obtain ⟨hcz23_0, hcz23_1, hcz23_2, hcz23_3, hfz23_0, hfz23_1, hfz23_2, hfz23_3⟩ := cz4 BK342
    obtain ⟨hcz24_0, hcz24_1, hcz24_2, hcz24_3, hfz24_0, hfz24_1, hfz24_2, hfz24_3⟩ := cz4 BK343
    go_wp2
    refine bodyPost_ret (results_cell_row rfl _ _ gb343 63 #[.int .i64 t344, .int .i64 t345, .bool t346, .slice Ao11 t347.length co11] (0, 0) _ rfl (by (with_reducible repeat first|apply uH|apply uJ|apply uG); refine uP (cs := #[.int .i64 t344, .int .i64 t345, .bool t346, .slice none 0 0]) ?_ 3 _ rfl; (with_reducible repeat first|apply uH|apply uJ|apply uG); refine uP (cs := #[.int .i64 t344, .int .i64 t345, .bool false, .slice none 0 0]) ?_ 2 _ rfl; (with_reducible repeat first|apply uH|apply uJ|apply uG); refine uP (cs := #[.int .i64 t344, .int .i64 0, .bool false, .slice none 0 0]) ?_ 1 _ rfl; (with_reducible repeat first|apply uH|apply uJ|apply uG); refine uP (cs := #[.int .i64 0, .int .i64 0, .bool false, .slice none 0 0]) ?_ 0 _ rfl; (with_reducible repeat first|apply uH|apply uJ|apply uG); exact BK343.out) Try.underlying63 rfl (by kernel_rfl)) rfl ?_
    exact ⟨_, by first | rfl | (simp [errW_none, errW_some] <;> rfl) | (simp [*, errW_none, errW_some] <;> rfl), by (with_reducible repeat (first | apply uU | apply uS | apply uT)); exact uX (uV (p := ⟨gb343, 3, none⟩) (uV (p := ⟨gb343, 2, none⟩) (uV (p := ⟨gb343, 1, none⟩) (uV (p := ⟨gb343, 0, none⟩) (uW HO_343003.out BK343.out (by decide)) (fun _ hk => hk.2) (.int .i64 t344)) (fun _ hk => hk.2) (.int .i64 t345)) (fun _ hk => hk.2) (.bool t346)) (fun _ hk => hk.2) (.slice Ao11 t347.length co11)) (fun _ hk => trivial), pb HB⟩
   ·replace c21 := Bool.eq_false_iff.mpr c21
    subst c21
    have H1 : (spec_Move.l0 kj3 a1 0 t344 t345 t346 t347) = some (r1, r2, r3, r4) := by rw [if_neg (show ¬ (false = true) by decide)] at H; first | done | exact H
    clear H
    have H := H1
    clear H1
    have H' := uD H
    clear H
    go_wp2
    go_loopg [5] kj3 (fun kq v5 w' => ∃ (x5_2 : Int) (x343000_2 : Int) (x343001_2 : Int) (x343002_2 : Bool) (x343003_2 : List (S74)) (u343003 : Value), v5 = .int .i64 x5_2 ∧ Aside0 (spec_Move.l0 kq a1 x5_2 x343000_2 x343001_2 x343002_2 x343003_2 = some (r1, r2, r3, r4)) ∧ Aside0 (kq ≤ kj3) ∧ Aside0 (Kd.R k74 74 w' w.heap.size (fun _ => True) u343003 x343003_2) ∧ Aside0 (w'.heap[gb342]? = some (.cells #[.int .i64 x343000_2, .int .i64 x343001_2, .bool x343002_2, u343003] 63 (0, 0))) ∧ Aside0 (w'.heap[gb343]? = some (.cells #[.int .i64 0, .int .i64 0, .bool false, (.slice none 0 0)] 63 (0, 0))) ∧ Aside0 (Below w.heap.size w w'))
    case atStart => exact ⟨(0), (t344), (t345), (t346), (t347), (.slice Ao11 t347.length co11), (by first | rfl | (simp; done) | (simp [*]; done)), H', ⟨Nat.le_refl _⟩, ⟨by (with_reducible repeat (first | apply uU | apply uS | apply uT)); exact HO_343003.out⟩, ⟨by (with_reducible repeat first|apply uH|apply uJ|apply uG); exact BK342.out⟩, ⟨by (with_reducible repeat first|apply uH|apply uJ|apply uG); exact BK343.out⟩, ⟨pb HB⟩⟩
    case round =>
     clear H'
     try clear c1
     try clear c2
     try clear p2
     try clear c7
     try clear c8
     try clear c9
     try clear c13
     try clear c15
     try clear c18
     try clear c21
     try clear c22
     try clear hcz10_0
     try clear hcz10_1
     try clear hcz10_2
     try clear hcz10_3
     try clear hcz16_0
     try clear hcz16_1
     try clear hcz16_2
     try clear hcz16_3
     try clear hcz19_0
     try clear hcz19_1
     try clear hcz19_2
     try clear hcz19_3
     try clear hcz23_0
     try clear hcz23_1
     try clear hcz23_2
     try clear hcz23_3
     try clear hcz24_0
     try clear hcz24_1
     try clear hcz24_2
     try clear hcz24_3
     try clear hcz8_0
     try clear hcz8_1
     try clear hcz8_2
     try clear hcz8_3
     try clear hfz10_0
     try clear hfz10_1
     try clear hfz10_2
     try clear hfz10_3
     try clear hfz16_0
     try clear hfz16_1
     try clear hfz16_2
     try clear hfz16_3
     try clear hfz19_0
     try clear hfz19_1
     try clear hfz19_2
     try clear hfz19_3
     try clear hfz23_0
     try clear hfz23_1
     try clear hfz23_2
     try clear hfz23_3
     try clear hfz24_0
     try clear hfz24_1
     try clear hfz24_2
     try clear hfz24_3
     try clear hfz8_0
     try clear hfz8_1
     try clear hfz8_2
     try clear hfz8_3
     try clear p2
     obtain ⟨x5_2, x343000_2, x343001_2, x343002_2, x343003_2, u343003, rfl, HA, HK2, HO_343003, BK342, BK343, HB⟩ := hrel
     cases gk with
     | zero => exact absurd HA.out (by simp [spec_Move.l0])
     | succ k2 =>
      have H := HA.out
      clear HA
      simp only [spec_Move.l0] at H
      by_cases c25 : x5_2 < a1
      ·rw [if_pos c25] at H
       have c25b0 : decide (x5_2 < a1) = true := decide_eq_true c25
       clear c25
       replace H := Option.bind_eq_some_iff.mp H
       obtain ⟨⟨t352, t353, t354, t355⟩, A260, H⟩ := H
       replace H : (spec_Move.l0 k2 a1 (wrap64 (x5_2 + 1)) t352 t353 t354 t355) = some (r1, r2, r3, r4) := H
       have A26 := uD A260
       clear A260
       have H' := uD H
       clear H
       have hnb27 := NB342_343.out
       have hnc27 := NB343_342.out
       obtain ⟨hcz28_0, hcz28_1, hcz28_2, hcz28_3, hfz28_0, hfz28_1, hfz28_2, hfz28_3⟩ := cz4 BK342
       obtain ⟨Ao29, co29, eo29⟩ := Kd.R_slice HO_343003.out
       subst eo29
       go_wp2_with (first | ((with_reducible refine gate_callee (f := 86) rfl ?_); refine goesL_ (some 23) rfl rfl Try.func86 (by kernel_rfl) rfl #[.agg #[.int .i64 x343000_2, .int .i64 x343001_2, .bool x343002_2, .slice Ao29 x343003_2.length co29]] rfl (by (try simp only [List.map_toArray, List.map_cons, List.map_nil]); first | done | rfl | (simp only [List.length_drop, List.length_take]; rfl)) ?_; (with_reducible refine (spec_l02Step.calls k2 x343000_2 x343001_2 x343002_2 _ _ x343003_2 t352 t353 t354 t355 _ ?side1 ?side2 A26.out).mono ?_); (case side1 => repeat (first | exact (Kd.R_reads' HO_343003.out).2.2 | (with_reducible refine Kd.C_alloc ?_ _) | (with_reducible refine Kd.C_drewN ?_ _) | (with_reducible refine Kd.C_drew ?_))); (case side2 => exact (Kd.R_reads' HO_343003.out).2.1); rintro e w30 ⟨v356, rfl, ho0, hb⟩; refine ⟨_, rfl, ?_⟩; have HO357 := uD (Kd.R_lower (Kd.R_new' ho0 (Kd.R_lt (pr HO_343003))) (uN (pb HB))); replace HO_343003 := uD (Kd.R_elder' (pr HO_343003) (Kd.R_base ho0) hb); replace BK342 := uD (blk_below (pk BK342) hb); replace BK343 := uD (blk_below (pk BK343) hb); replace HB := uD (uO (pb HB) hb); (try clear hb); (try clear hb2); (try clear hk); (try clear hi); (try clear ho0); obtain ⟨hcz31_0, hcz31_1, hcz31_2, hcz31_3, hfz31_0, hfz31_1, hfz31_2, hfz31_3⟩ := cz4 BK342; obtain ⟨Ao32, co32, eo32⟩ := Kd.R_slice HO357.out; subst eo32))
       go_roundg k2
       case measure => have := HJ3.out; have := HK2.out; omega
       case rel => exact ⟨(wrap64 (x5_2 + 1)), (t352), (t353), (t354), (t355), (.slice Ao32 t355.length co32), (by first | rfl | (simp; done) | (simp [*]; done)), H', ⟨by have := HJ3.out; have := HK2.out; omega⟩, ⟨by (with_reducible repeat (first | apply uU | apply uS | apply uT)); exact uX (uV (p := ⟨gb342, 3, none⟩) (uV (p := ⟨gb342, 2, none⟩) (uV (p := ⟨gb342, 1, none⟩) (uV (p := ⟨gb342, 0, none⟩) (uW HO357.out BK342.out (by decide)) (fun _ hk => hk.2) (.int .i64 t352)) (fun _ hk => hk.2) (.int .i64 t353)) (fun _ hk => hk.2) (.bool t354)) (fun _ hk => hk.2) (.slice Ao32 t355.length co32)) (fun _ hk => trivial)⟩, ⟨by (with_reducible repeat first|apply uH|apply uJ|apply uG); refine uP (cs := #[.int .i64 t352, .int .i64 t353, .bool t354, .slice Ao29 x343003_2.length co29]) ?_ 3 _ rfl; (with_reducible repeat first|apply uH|apply uJ|apply uG); refine uP (cs := #[.int .i64 t352, .int .i64 t353, .bool x343002_2, .slice Ao29 x343003_2.length co29]) ?_ 2 _ rfl; (with_reducible repeat first|apply uH|apply uJ|apply uG); refine uP (cs := #[.int .i64 t352, .int .i64 x343001_2, .bool x343002_2, .slice Ao29 x343003_2.length co29]) ?_ 1 _ rfl; (with_reducible repeat first|apply uH|apply uJ|apply uG); refine uP (cs := #[.int .i64 x343000_2, .int .i64 x343001_2, .bool x343002_2, .slice Ao29 x343003_2.length co29]) ?_ 0 _ rfl; (with_reducible repeat first|apply uH|apply uJ|apply uG); exact BK342.out⟩, ⟨by exact ps BK343⟩, ⟨pb HB⟩⟩
      ·rw [if_neg c25] at H
       have c25b0 : decide (x5_2 < a1) = false := decide_eq_false c25
       clear c25
       simp only [Option.some.injEq, Prod.mk.injEq] at H
       obtain ⟨rfl, rfl, rfl, rfl⟩ := H
       have hnb33 := NB342_343.out
       have hnc33 := NB343_342.out
       obtain ⟨hcz34_0, hcz34_1, hcz34_2, hcz34_3, hfz34_0, hfz34_1, hfz34_2, hfz34_3⟩ := cz4 BK342
       obtain ⟨hcz35_0, hcz35_1, hcz35_2, hcz35_3, hfz35_0, hfz35_1, hfz35_2, hfz35_3⟩ := cz4 BK343
       obtain ⟨Ao36, co36, eo36⟩ := Kd.R_slice HO_343003.out
       subst eo36
       go_wp2
       refine bodyPost_ret (results_cell_row rfl _ _ gb343 63 #[.int .i64 x343000_2, .int .i64 x343001_2, .bool x343002_2, .slice Ao36 x343003_2.length co36] (0, 0) _ rfl (by (with_reducible repeat first|apply uH|apply uJ|apply uG); refine uP (cs := #[.int .i64 x343000_2, .int .i64 x343001_2, .bool x343002_2, .slice none 0 0]) ?_ 3 _ rfl; (with_reducible repeat first|apply uH|apply uJ|apply uG); refine uP (cs := #[.int .i64 x343000_2, .int .i64 x343001_2, .bool false, .slice none 0 0]) ?_ 2 _ rfl; (with_reducible repeat first|apply uH|apply uJ|apply uG); refine uP (cs := #[.int .i64 x343000_2, .int .i64 0, .bool false, .slice none 0 0]) ?_ 1 _ rfl; (with_reducible repeat first|apply uH|apply uJ|apply uG); refine uP (cs := #[.int .i64 0, .int .i64 0, .bool false, .slice none 0 0]) ?_ 0 _ rfl; (with_reducible repeat first|apply uH|apply uJ|apply uG); exact BK343.out) Try.underlying63 rfl (by kernel_rfl)) rfl ?_
       exact ⟨_, by first | rfl | (simp [errW_none, errW_some] <;> rfl) | (simp [*, errW_none, errW_some] <;> rfl), by (with_reducible repeat (first | apply uU | apply uS | apply uT)); exact uX (uV (p := ⟨gb343, 3, none⟩) (uV (p := ⟨gb343, 2, none⟩) (uV (p := ⟨gb343, 1, none⟩) (uV (p := ⟨gb343, 0, none⟩) (uW HO_343003.out BK343.out (by decide)) (fun _ hk => hk.2) (.int .i64 x343000_2)) (fun _ hk => hk.2) (.int .i64 x343001_2)) (fun _ hk => hk.2) (.bool x343002_2)) (fun _ hk => hk.2) (.slice Ao36 x343003_2.length co36)) (fun _ hk => trivial), pb HB⟩

/-! ### spec_FreeBehind: function 96 -/
def spec_FreeBehind.f (k : Nat) (a0_0 : Int) (a0_1 : Int) (a0_2 : Bool) (l0_3 : List (S74)) : Option (Int) := (spec_BeltOk.f k a0_0 a0_1 a0_2 l0_3).bind fun t359 => (if t359 = true then (if (l0_3.length : Int) = 0 then (some a0_0) else (if 0 ≤ (wrap64 ((l0_3.length : Int) - 1)) then (if (wrap64 ((l0_3.length : Int) - 1)) < (l0_3.length : Int) then (some (mx 0 (wrap64 ((wrap64 (((rd_T74 l0_3 (wrap64 ((l0_3.length : Int) - 1))).f1) - ((rd_T74 l0_3 (wrap64 ((l0_3.length : Int) - 1))).f2))) - a0_1)))) else (none)) else (none))) else (some (-1)))
theorem spec_FreeBehind.mono : ∀ a0 a1 a2 a3 k, LeO (spec_FreeBehind.f k a0 a1 a2 a3) (spec_FreeBehind.f (k + 1) a0 a1 a2 a3) := by
 intro a0 a1 a2 a3 k
 unfold spec_FreeBehind.f
 repeat' first
   | (with_reducible exact spec_BeltOk.mono _ _ _ _ _)
   | (with_reducible exact LeO.refl _)
   | (with_reducible exact LeO.none _)
   | (with_reducible refine LeO.ite ?_ ?_)
   | (with_reducible refine LeO.bind ?_ (fun _ => ?_))
   | exact spec_BeltOk.mono _ _ _ _ _
   | exact LeO.none _
   | refine LeO.ite ?_ ?_
   | refine LeO.bind ?_ (fun _ => ?_)
set_option maxHeartbeats 8000000 in
set_option maxRecDepth 100000 in
theorem spec_FreeBehind.calls (k : Nat) (a0_0 : Int) (a0_1 : Int) (a0_2 : Bool) (A0_3 : Option Addr) (c0_3 : Nat) (l0_3 : List (S74)) (r : Int) (w : World) (hr0_3 : Kd.C k74 w A0_3 l0_3.length l0_3) (hc0_3 : l0_3.length ≤ c0_3) (h : spec_FreeBehind.f k a0_0 a0_1 a0_2 l0_3 = some r) :
  Calls Try.prog 96 #[.agg #[.int .i64 a0_0, .int .i64 a0_1, .bool a0_2, .slice A0_3 l0_3.length c0_3]] w fun e w' => e = .returned (.int .i64 r) ∧ Below w.heap.size w w' := by
 have hu63 := Try.underlying63
 have hu74 := Try.underlying74
 have HR0_3 := uD hr0_3
 have HC0_3 := uD hc0_3
 clear hr0_3 hc0_3
 have HB := uD (Below.refl w.heap.size w)
 have H : ((spec_BeltOk.f k a0_0 a0_1 a0_2 l0_3).bind fun t359 => (if t359 = true then (if (l0_3.length : Int) = 0 then (some a0_0) else (if 0 ≤ (wrap64 ((l0_3.length : Int) - 1)) then (if (wrap64 ((l0_3.length : Int) - 1)) < (l0_3.length : Int) then (some (mx 0 (wrap64 ((wrap64 (((rd_T74 l0_3 (wrap64 ((l0_3.length : Int) - 1))).f1) - ((rd_T74 l0_3 (wrap64 ((l0_3.length : Int) - 1))).f2))) - a0_1)))) else (none)) else (none))) else (some (-1)))) = some r := h
 clear h
 replace H := Option.bind_eq_some_iff.mp H
 obtain ⟨t359, A20, H⟩ := H
 replace H : (if t359 = true then (if (l0_3.length : Int) = 0 then (some a0_0) else (if 0 ≤ (wrap64 ((l0_3.length : Int) - 1)) then (if (wrap64 ((l0_3.length : Int) - 1)) < (l0_3.length : Int) then (some (mx 0 (wrap64 ((wrap64 (((rd_T74 l0_3 (wrap64 ((l0_3.length : Int) - 1))).f1) - ((rd_T74 l0_3 (wrap64 ((l0_3.length : Int) - 1))).f2))) - a0_1)))) else (none)) else (none))) else (some (-1))) = some r := H
 have A2 := uD A20
 clear A20
 by_cases c3 : t359 = true
 ·subst c3
  have H1 : (if (l0_3.length : Int) = 0 then (some a0_0) else (if 0 ≤ (wrap64 ((l0_3.length : Int) - 1)) then (if (wrap64 ((l0_3.length : Int) - 1)) < (l0_3.length : Int) then (some (mx 0 (wrap64 ((wrap64 (((rd_T74 l0_3 (wrap64 ((l0_3.length : Int) - 1))).f1) - ((rd_T74 l0_3 (wrap64 ((l0_3.length : Int) - 1))).f2))) - a0_1)))) else (none)) else (none))) = some r := by rw [if_pos rfl] at H; first | done | exact H
  clear H
  have H := H1
  clear H1
  by_cases c4 : (l0_3.length : Int) = 0
  ·rw [if_pos c4] at H
   have c4b0 : ((l0_3.length : Int) == 0) = true := beq_iff_eq.mpr c4
   have c4b1 : ((l0_3.length : Int) != 0) = false := bne_eq_false_iff_eq.mpr c4
   clear c4
   obtain rfl := Option.some.inj H
   go_enter Try.func96, Try.ntmps96
   go_wp2_with (first | ((with_reducible refine gate_dst (N := 1) rfl ?_); refine box_event ?hg (N := 1) ?hd (cs := #[.int .i64 a0_0, .int .i64 a0_1, .bool a0_2, .slice A0_3 l0_3.length c0_3]) (t := 63) ?hr ?_; (case hd => rfl); (case hg => rfl); (case hr => first | (go_simp; done) | (go_simp; rfl)); intro gb358 hg w5 hbox hb; have BK358 := uD (hbox); have GW358 := uD ((by rw [hg]; exact (uN (pb HB)) : w.heap.size ≤ gb358)); have GE358 := uD ((by rw [hg]; exact (uN (pb HB)) : w.heap.size ≤ gb358)); replace HB := uD (uO (pb HB) hb); clear hb hbox hg; obtain ⟨hcz6_0, hcz6_1, hcz6_2, hcz6_3, hfz6_0, hfz6_1, hfz6_2, hfz6_3⟩ := cz4 BK358) | ((with_reducible refine gate_callee (f := 75) rfl ?_); refine goesL_ (some 5) rfl rfl Try.func75 (by kernel_rfl) rfl #[.agg #[.int .i64 a0_0, .int .i64 a0_1, .bool a0_2, .slice A0_3 l0_3.length c0_3]] rfl (by (try simp only [List.map_toArray, List.map_cons, List.map_nil]); first | done | rfl | (simp only [List.length_drop, List.length_take]; rfl)) ?_; (with_reducible refine (spec_BeltOk.calls k a0_0 a0_1 a0_2 _ _ l0_3 true _ ?side1 ?side2 A2.out).mono ?_); (case side1 => repeat (first | exact (Kd.C_below HR0_3.out HB.out) | (with_reducible refine Kd.C_alloc ?_ _) | (with_reducible refine Kd.C_drewN ?_ _) | (with_reducible refine Kd.C_drew ?_))); (case side2 => exact HC0_3.out); rintro e w7 ⟨rfl, hb⟩; refine ⟨_, rfl, ?_⟩; replace BK358 := uD (blk_below (pk BK358) hb); replace HB := uD (uO (pb HB) hb); (try clear hb); (try clear hb2); (try clear hk); (try clear hi); obtain ⟨hcz8_0, hcz8_1, hcz8_2, hcz8_3, hfz8_0, hfz8_1, hfz8_2, hfz8_3⟩ := cz4 BK358))
   go_ret
   exact ⟨by first | rfl | (simp [errW_none, errW_some] <;> rfl) | (simp [*, errW_none, errW_some] <;> rfl), pb HB⟩
  ·rw [if_neg c4] at H
   have c4b0 : ((l0_3.length : Int) == 0) = false := beq_eq_false_iff_ne.mpr c4
   have c4b1 : ((l0_3.length : Int) != 0) = true := bne_iff_ne.mpr c4
   have c4b2 : ¬ (l0_3 = []) := fun h_ => c4 (by rw [h_]; rfl)
   obtain ⟨ji9, hji9⟩ : ∃ j_ : Int, (wrap64 ((l0_3.length : Int) - 1)) = j_ := ⟨_, rfl⟩
   replace H : (if 0 ≤ (ji9) then (if (ji9) < (l0_3.length : Int) then (some (mx 0 (wrap64 ((wrap64 (((rd_T74 l0_3 (ji9)).f1) - ((rd_T74 l0_3 (ji9)).f2))) - a0_1)))) else (none)) else (none)) = some r := by first | (rw [hji9] at H; exact H) | (simp only [hji9] at H ⊢; exact H)
   (try rw [hji9] at A2)
   have hji9w : (IntKind.i64.wrap ((l0_3.length : Int) - 1)) = ji9 := (uZ _).trans hji9
   by_cases c10 : 0 ≤ (ji9)
   ·rw [if_pos c10] at H
    have c10b0 : decide (0 ≤ (ji9)) = true := decide_eq_true c10
    clear c10
    by_cases c11 : (ji9) < (l0_3.length : Int)
    ·rw [if_pos c11] at H
     have c11b0 : decide ((ji9) < (l0_3.length : Int)) = true := decide_eq_true c11
     clear c11
     obtain ⟨ji12, hji12⟩ : ∃ j_ : Int, (mx 0 (wrap64 ((wrap64 (((rd_T74 l0_3 (ji9)).f1) - ((rd_T74 l0_3 (ji9)).f2))) - a0_1))) = j_ := ⟨_, rfl⟩
     replace H : (some ji12) = some r := by first | (rw [hji12] at H; exact H) | (simp only [hji12] at H ⊢; exact H)
     (try rw [hji12] at A2)
     have hji12_ : (if 0 < (wrap64 ((wrap64 (((rd_T74 l0_3 (ji9)).f1) - ((rd_T74 l0_3 (ji9)).f2))) - a0_1)) then (wrap64 ((wrap64 (((rd_T74 l0_3 (ji9)).f1) - ((rd_T74 l0_3 (ji9)).f2))) - a0_1)) else 0) = ji12 := hji12
     obtain rfl := Option.some.inj H
     go_enter Try.func96, Try.ntmps96
     go_wp2_with (first | ((with_reducible refine gate_dst (N := 1) rfl ?_); refine box_event ?hg (N := 1) ?hd (cs := #[.int .i64 a0_0, .int .i64 a0_1, .bool a0_2, .slice A0_3 l0_3.length c0_3]) (t := 63) ?hr ?_; (case hd => rfl); (case hg => rfl); (case hr => first | (go_simp; done) | (go_simp; rfl)); intro gb358 hg w13 hbox hb; have BK358 := uD (hbox); have GW358 := uD ((by rw [hg]; exact (uN (pb HB)) : w.heap.size ≤ gb358)); have GE358 := uD ((by rw [hg]; exact (uN (pb HB)) : w.heap.size ≤ gb358)); replace HB := uD (uO (pb HB) hb); clear hb hbox hg; obtain ⟨hcz14_0, hcz14_1, hcz14_2, hcz14_3, hfz14_0, hfz14_1, hfz14_2, hfz14_3⟩ := cz4 BK358) | ((with_reducible refine gate_callee (f := 75) rfl ?_); refine goesL_ (some 5) rfl rfl Try.func75 (by kernel_rfl) rfl #[.agg #[.int .i64 a0_0, .int .i64 a0_1, .bool a0_2, .slice A0_3 l0_3.length c0_3]] rfl (by (try simp only [List.map_toArray, List.map_cons, List.map_nil]); first | done | rfl | (simp only [List.length_drop, List.length_take]; rfl)) ?_; (with_reducible refine (spec_BeltOk.calls k a0_0 a0_1 a0_2 _ _ l0_3 true _ ?side1 ?side2 A2.out).mono ?_); (case side1 => repeat (first | exact (Kd.C_below HR0_3.out HB.out) | (with_reducible refine Kd.C_alloc ?_ _) | (with_reducible refine Kd.C_drewN ?_ _) | (with_reducible refine Kd.C_drew ?_))); (case side2 => exact HC0_3.out); rintro e w15 ⟨rfl, hb⟩; refine ⟨_, rfl, ?_⟩; replace BK358 := uD (blk_below (pk BK358) hb); replace HB := uD (uO (pb HB) hb); (try clear hb); (try clear hb2); (try clear hk); (try clear hi); obtain ⟨hcz16_0, hcz16_1, hcz16_2, hcz16_3, hfz16_0, hfz16_1, hfz16_2, hfz16_3⟩ := cz4 BK358; have p360 : 0 ≤ ((ji9) : Int) := of_decide_eq_true (by first | (with_reducible assumption) | assumption); have q360 : (ji9) < (l0_3.length : Int) := of_decide_eq_true (by first | (with_reducible assumption) | assumption); obtain ⟨ad360, e360, hx360_0, hx360_1, hx360_2⟩ := at_T74 HR0_3.out (ji9) p360 q360; cases e360; replace hx360_0 := (HB.out.cell (World.block_lt_of_cell? w _ hx360_0)).trans hx360_0; replace hx360_1 := (HB.out.cell (World.block_lt_of_cell? w _ hx360_1)).trans hx360_1; replace hx360_2 := (HB.out.cell (World.block_lt_of_cell? w _ hx360_2)).trans hx360_2; replace p360 := eq_true p360; replace q360 := eq_true q360) | ((with_reducible refine gate_dst (N := 3) rfl ?_); refine box_event ?hg (N := 3) ?hd (cs := #[.int .i64 0, .int .i64 0, .int .i64 0]) (t := 74) ?hr ?_; (case hd => rfl); (case hg => rfl); (case hr => first | (go_simp; done) | (go_simp; rfl)); intro gb361 hg w17 hbox hb; have BK361 := uD (hbox); have GW361 := uD ((by rw [hg]; exact (uN (pb HB)) : w.heap.size ≤ gb361)); have GE361 := uD ((by rw [hg]; exact (uN (pb HB)) : w.heap.size ≤ gb361)); replace HB := uD (uO (pb HB) hb); have NB358_361 := uD ((by rw [hg]; exact Nat.ne_of_lt (blk_lt (pk BK358)) : gb358 ≠ gb361)); have NB361_358 := uD ((by rw [hg]; exact Nat.ne_of_gt (blk_lt (pk BK358)) : gb361 ≠ gb358)); replace BK358 := uD (blk_below (pk BK358) hb); clear hb hbox hg; have hnb18 := NB361_358.out; have hnc18 := NB358_361.out; obtain ⟨hcz19_0, hcz19_1, hcz19_2, hfz19_0, hfz19_1, hfz19_2⟩ := cz3 BK361; obtain ⟨hcz20_0, hcz20_1, hcz20_2, hcz20_3, hfz20_0, hfz20_1, hfz20_2, hfz20_3⟩ := cz4 BK358))
     go_ret
     exact ⟨by first | rfl | (simp [errW_none, errW_some] <;> rfl) | (simp only [← hji9, ← hji12]; first | rfl | (simp [errW_none, errW_some] <;> rfl)) | (simp [*, errW_none, errW_some] <;> rfl), pb HB⟩
    ·rw [if_neg c11] at H
     exact absurd H (by simp)
   ·rw [if_neg c10] at H
    exact absurd H (by simp)
 ·replace c3 := Bool.eq_false_iff.mpr c3
  subst c3
  have H1 : (some (-1)) = some r := by rw [if_neg (show ¬ (false = true) by decide)] at H; first | done | exact H
  clear H
  have H := H1
  clear H1
  obtain rfl := Option.some.inj H
  go_enter Try.func96, Try.ntmps96
  go_wp2_with (first | ((with_reducible refine gate_dst (N := 1) rfl ?_); refine box_event ?hg (N := 1) ?hd (cs := #[.int .i64 a0_0, .int .i64 a0_1, .bool a0_2, .slice A0_3 l0_3.length c0_3]) (t := 63) ?hr ?_; (case hd => rfl); (case hg => rfl); (case hr => first | (go_simp; done) | (go_simp; rfl)); intro gb358 hg w21 hbox hb; have BK358 := uD (hbox); have GW358 := uD ((by rw [hg]; exact (uN (pb HB)) : w.heap.size ≤ gb358)); have GE358 := uD ((by rw [hg]; exact (uN (pb HB)) : w.heap.size ≤ gb358)); replace HB := uD (uO (pb HB) hb); clear hb hbox hg; obtain ⟨hcz22_0, hcz22_1, hcz22_2, hcz22_3, hfz22_0, hfz22_1, hfz22_2, hfz22_3⟩ := cz4 BK358) | ((with_reducible refine gate_callee (f := 75) rfl ?_); refine goesL_ (some 5) rfl rfl Try.func75 (by kernel_rfl) rfl #[.agg #[.int .i64 a0_0, .int .i64 a0_1, .bool a0_2, .slice A0_3 l0_3.length c0_3]] rfl (by (try simp only [List.map_toArray, List.map_cons, List.map_nil]); first | done | rfl | (simp only [List.length_drop, List.length_take]; rfl)) ?_; (with_reducible refine (spec_BeltOk.calls k a0_0 a0_1 a0_2 _ _ l0_3 false _ ?side1 ?side2 A2.out).mono ?_); (case side1 => repeat (first | exact (Kd.C_below HR0_3.out HB.out) | (with_reducible refine Kd.C_alloc ?_ _) | (with_reducible refine Kd.C_drewN ?_ _) | (with_reducible refine Kd.C_drew ?_))); (case side2 => exact HC0_3.out); rintro e w23 ⟨rfl, hb⟩; refine ⟨_, rfl, ?_⟩; replace BK358 := uD (blk_below (pk BK358) hb); replace HB := uD (uO (pb HB) hb); (try clear hb); (try clear hb2); (try clear hk); (try clear hi)))
  go_ret
  exact ⟨by first | rfl | (simp [errW_none, errW_some] <;> rfl) | (simp [*, errW_none, errW_some] <;> rfl), pb HB⟩

end Go.Proofs.Ytnnimbbffbfhoaa.PFnBeltRoom
