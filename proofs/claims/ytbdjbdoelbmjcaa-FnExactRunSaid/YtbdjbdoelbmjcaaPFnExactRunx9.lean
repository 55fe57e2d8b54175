-- Written by a program of this session (wip/myprint.py: the kit's print with changes): not by print.sh itself.
import Derived.Test.YtbdjbdoelbmjcaaPFnExactRunx0
import Derived.Test.YtbdjbdoelbmjcaaPFnExactRunx7
import Derived.Test.YtbdjbdoelbmjcaaPFnExactRunx8
namespace Go.Proofs.Ytbdjbdoelbmjcaa.PFnExactRun
open Go.RowKit Go.Proofs.YtbdjbdoelbmjcaaW.PrintWords Go.Proofs.YtbdjbdoelbmjcaaW.PrintLast Go.Proofs.YtbdjbdoelbmjcaaW.PrintMore
open Go renaming Act.put → uc
open Go.Proofs.YtbdjbdoelbmjcaaW.PrintLast renaming any_of → uY, i64_w → uZ, i32_w → ua, pure_ → ub
open Go.Proofs.YtbdjbdoelbmjcaaW.PrintWords renaming Aside0.mk → uD, blk_cell → uF, blk_alloc → uG, blk_drewN → uH, blk_frozen → uI, blk_drew → uJ, below_drew1 → uK, below_size → uN, below_step → uO, blk_put → uP, blk_far → uQ, Kd.R_drewN → uS, Kd.R_drew → uT, Kd.R_alloc → uU, Kd.R_far → uV, Kd.R_types → uW, Kd.R_mono → uX
open List renaming setIfInBounds_toArray → uA, set_cons_zero → uB, set_cons_succ → uC
open Bool renaming true → T, false → F
attribute [local go_sem] max2_int min2_int max_two min_two max_three min_three max_four min_four   -- for this text's walks alone
set_option linter.unusedVariables false
set_option linter.unusedSimpArgs false

/-! ### impl_Leave: function 27 -/
def impl_Leave.f (k : Nat) (a0_0 : Int) (a0_1 : Int) (a0_2 : Bool) (l0_3 : List (S53)) : Option (Int × Int × Bool × (List (S53)) × Int × Bool) := (impl_copyBelt.f a0_0 a0_1 a0_2 l0_3).bind fun bt246 => ((impl_BeltOk.f k a0_0 a0_1 a0_2 l0_3).bind fun t253 => (if t253 = true then (if a0_2 = true then (some (bt246.1, bt246.2.1, bt246.2.2.1, bt246.2.2.2, 0, false)) else (if (l0_3.length : Int) = 0 then (some (bt246.1, bt246.2.1, bt246.2.2.1, bt246.2.2.2, 0, false)) else (if 0 < (l0_3.length : Int) then (if ((rd_T53 l0_3 0).f1) < a0_0 then (some (bt246.1, bt246.2.1, bt246.2.2.1, bt246.2.2.2, 0, false)) else (if 1 ≤ (bt246.2.2.2.length : Int) then (some (bt246.1, bt246.2.1, bt246.2.2.1, (bt246.2.2.2.drop (1 : Int).toNat), (rd_T53 l0_3 0).f0, true)) else (none))) else (none)))) else (some (bt246.1, bt246.2.1, bt246.2.2.1, bt246.2.2.2, 0, false))))
theorem impl_Leave.mono : ∀ a0 a1 a2 a3 k, LeO (impl_Leave.f k a0 a1 a2 a3) (impl_Leave.f (k + 1) a0 a1 a2 a3) := by
 intro a0 a1 a2 a3 k
 unfold impl_Leave.f
 repeat' first
   | (with_reducible exact impl_BeltOk.mono _ _ _ _ _)
   | (with_reducible exact LeO.refl _)
   | (with_reducible exact LeO.none _)
   | (with_reducible refine LeO.ite ?_ ?_)
   | (with_reducible refine LeO.bind ?_ (fun _ => ?_))
   | exact impl_BeltOk.mono _ _ _ _ _
   | exact LeO.none _
   | refine LeO.ite ?_ ?_
   | refine LeO.bind ?_ (fun _ => ?_)
def impl_Leave.T2 : Bool × List (List Nat × List Nat) := (true, [([], []), ([0], [0]), ([1], [1]), ([2, 1], [2]), ([3], [3]), ([4, 3], [3, 4]), ([3, 5], [3, 5]), ([6, 3], [6]), ([7], [7]), ([8, 7], [7, 8]), ([9, 7], [7, 9]), ([10, 7], [7, 10]), ([7, 11], [7, 11]), ([12, 7], [12]), ([13], [13]), ([14, 13], [13, 14]), ([15, 13], [13, 15]), ([16, 13], [13, 16]), ([17, 13], [13, 17]), ([13], [13]), ([19, 13], [13, 19]), ([18, 20, 13], [13, 18, 20]), ([13, 21], [13, 21])])
def impl_Leave.B2 : List Nat := [0, 1, 3, 7, 15, 31, 63, 127, 255, 511, 1023, 2047, 4095, 8191, 16383, 32767, 65535, 131071, 262143, 16383, 540671, 2097151, 4194303]
theorem impl_Leave.tab2 : rtab .any (opsOf Try.f27 2) = impl_Leave.T2 := by kernel_rfl
theorem impl_Leave.bits2 : waitsOk impl_Leave.T2.2 impl_Leave.B2 = true := by kernel_rfl
def impl_Leave.T5 : Bool × List (List Nat × List Nat) := (true, [([], []), ([], []), ([1], [1]), ([2], [2]), ([3], [3]), ([4], [4]), ([0, 0], [0]), ([5, 6, 0, 1, 2, 3, 4, 5, 6], [5]), ([7, 0, 1, 2, 3, 4, 5, 6, 7], [])])
def impl_Leave.B5 : List Nat := [0, 0, 2, 6, 14, 30, 1, 127, 255]
theorem impl_Leave.tab5 : rtab .any (opsOf Try.f27 5) = impl_Leave.T5 := by kernel_rfl
theorem impl_Leave.bits5 : waitsOk impl_Leave.T5.2 impl_Leave.B5 = true := by kernel_rfl
set_option maxHeartbeats 8000000 in
set_option maxRecDepth 100000 in
theorem impl_Leave.calls (k : Nat) (a0_0 : Int) (a0_1 : Int) (a0_2 : Bool) (A0_3 : Option Addr) (c0_3 : Nat) (l0_3 : List (S53)) (r1 : Int) (r2 : Int) (r3 : Bool) (r4 : List (S53)) (r5 : Int) (r6 : Bool) (w : World) (hr0_3 : Kd.C k53 w A0_3 l0_3.length l0_3) (hc0_3 : l0_3.length ≤ c0_3) (h : impl_Leave.f k a0_0 a0_1 a0_2 l0_3 = some (r1, r2, r3, r4, r5, r6)) :
  Calls Try.prog 27 #[.agg #[.int .i64 a0_0, .int .i64 a0_1, .bool a0_2, .slice A0_3 l0_3.length c0_3]] w fun e w' => ∃ v3_ : Value, e = .returned (.tuple #[.agg #[.int .i64 r1, .int .i64 r2, .bool r3, v3_], .int .i64 r5, .bool r6]) ∧ Kd.Q k53 53 w' w.heap.size (fun _ => True) v3_ r4 ∧ Below w.heap.size w w' := by
 have hu29 := Try.underlying29
 have HR0_3 := uD hr0_3
 have HC0_3 := uD hc0_3
 clear hr0_3 hc0_3
 have HB := uD (Below.refl w.heap.size w)
 have H : ((impl_copyBelt.f a0_0 a0_1 a0_2 l0_3).bind fun bt246 => ((impl_BeltOk.f k a0_0 a0_1 a0_2 l0_3).bind fun t253 => (if t253 = true then (if a0_2 = true then (some (bt246.1, bt246.2.1, bt246.2.2.1, bt246.2.2.2, 0, false)) else (if (l0_3.length : Int) = 0 then (some (bt246.1, bt246.2.1, bt246.2.2.1, bt246.2.2.2, 0, false)) else (if 0 < (l0_3.length : Int) then (if ((rd_T53 l0_3 0).f1) < a0_0 then (some (bt246.1, bt246.2.1, bt246.2.2.1, bt246.2.2.2, 0, false)) else (if 1 ≤ (bt246.2.2.2.length : Int) then (some (bt246.1, bt246.2.1, bt246.2.2.1, (bt246.2.2.2.drop (1 : Int).toNat), (rd_T53 l0_3 0).f0, true)) else (none))) else (none)))) else (some (bt246.1, bt246.2.1, bt246.2.2.1, bt246.2.2.2, 0, false))))) = some (r1, r2, r3, r4, r5, r6) := h
 clear h
 replace H := Option.bind_eq_some_iff.mp H
 obtain ⟨⟨t246, t247, t248, t249⟩, A20, H⟩ := H
 replace H : ((impl_BeltOk.f k a0_0 a0_1 a0_2 l0_3).bind fun t253 => (if t253 = true then (if a0_2 = true then (some (t246, t247, t248, t249, 0, false)) else (if (l0_3.length : Int) = 0 then (some (t246, t247, t248, t249, 0, false)) else (if 0 < (l0_3.length : Int) then (if ((rd_T53 l0_3 0).f1) < a0_0 then (some (t246, t247, t248, t249, 0, false)) else (if 1 ≤ (t249.length : Int) then (some (t246, t247, t248, (t249.drop (1 : Int).toNat), (rd_T53 l0_3 0).f0, true)) else (none))) else (none)))) else (some (t246, t247, t248, t249, 0, false)))) = some (r1, r2, r3, r4, r5, r6) := H
 have A2 := uD A20
 clear A20
 replace H := Option.bind_eq_some_iff.mp H
 obtain ⟨t253, A30, H⟩ := H
 replace H : (if t253 = true then (if a0_2 = true then (some (t246, t247, t248, t249, 0, false)) else (if (l0_3.length : Int) = 0 then (some (t246, t247, t248, t249, 0, false)) else (if 0 < (l0_3.length : Int) then (if ((rd_T53 l0_3 0).f1) < a0_0 then (some (t246, t247, t248, t249, 0, false)) else (if 1 ≤ (t249.length : Int) then (some (t246, t247, t248, (t249.drop (1 : Int).toNat), (rd_T53 l0_3 0).f0, true)) else (none))) else (none)))) else (some (t246, t247, t248, t249, 0, false))) = some (r1, r2, r3, r4, r5, r6) := H
 have A3 := uD A30
 clear A30
 by_cases c4 : t253 = true
 ·subst c4
  have H1 : (if a0_2 = true then (some (t246, t247, t248, t249, 0, false)) else (if (l0_3.length : Int) = 0 then (some (t246, t247, t248, t249, 0, false)) else (if 0 < (l0_3.length : Int) then (if ((rd_T53 l0_3 0).f1) < a0_0 then (some (t246, t247, t248, t249, 0, false)) else (if 1 ≤ (t249.length : Int) then (some (t246, t247, t248, (t249.drop (1 : Int).toNat), (rd_T53 l0_3 0).f0, true)) else (none))) else (none)))) = some (r1, r2, r3, r4, r5, r6) := by rw [if_pos rfl] at H; first | done | exact H
  clear H
  have H := H1
  clear H1
  by_cases c5 : a0_2 = true
  ·subst c5
   have H1 : (some (t246, t247, t248, t249, 0, false)) = some (r1, r2, r3, r4, r5, r6) := by rw [if_pos rfl] at H; first | done | exact H
   clear H
   have H := H1
   clear H1
   simp only [Option.some.injEq, Prod.mk.injEq] at H
   obtain ⟨rfl, rfl, rfl, rfl, rfl, rfl⟩ := H
   go_enter Try.func27, Try.ntmps27
   try go_wp2_with (first | ((with_reducible refine gate_dst (N := 1) rfl ?_); (try (refine gate_guard (by rfl) ?_; dsimp only)); refine box_event ?hg (N := 1) ?hd (cs := #[.int .i64 a0_0, .int .i64 a0_1, .bool true, .slice A0_3 l0_3.length c0_3]) (t := 29) ?hr ?_; (case hd => rfl); (case hg => rfl); (case hr => first | (go_simp; done) | (go_simp; rfl)); intro gb244 hg w6 hbox hb; have BK244 := uD (hbox); have GW244 := uD ((by rw [hg]; exact (uN (pb HB)) : w.heap.size ≤ gb244)); have GE244 := uD ((by rw [hg]; exact (uN (pb HB)) : w.heap.size ≤ gb244)); replace HB := uD (uO (pb HB) hb); clear hb hbox hg) | ((with_reducible refine gate_dst (N := 2) rfl ?_); (try (refine gate_guard (by rfl) ?_; dsimp only)); refine box_event ?hg (N := 2) ?hd (cs := #[.int .i64 0, .int .i64 0, .bool false, .slice none 0 0]) (t := 29) ?hr ?_; (case hd => rfl); (case hg => rfl); (case hr => first | (go_simp; done) | (go_simp; rfl)); intro gb245 hg w7 hbox hb; have BK245 := uD (hbox); have GW245 := uD ((by rw [hg]; exact (uN (pb HB)) : w.heap.size ≤ gb245)); have GE245 := uD ((by rw [hg]; exact (uN (pb HB)) : w.heap.size ≤ gb245)); replace HB := uD (uO (pb HB) hb); have NB244_245 := uD ((by rw [hg]; exact Nat.ne_of_lt (blk_lt (g := gb244) (o := .cells #[.int .i64 a0_0, .int .i64 a0_1, .bool true, .slice A0_3 l0_3.length c0_3] 29 (0, 0)) (pk BK244)) : gb244 ≠ gb245)); have NB245_244 := uD ((by rw [hg]; exact Nat.ne_of_gt (blk_lt (g := gb244) (o := .cells #[.int .i64 a0_0, .int .i64 a0_1, .bool true, .slice A0_3 l0_3.length c0_3] 29 (0, 0)) (pk BK244)) : gb245 ≠ gb244)); replace BK244 := uD (blk_below (pk BK244) hb); clear hb hbox hg; have hnb8 := NB244_245.out; have hnc8 := NB245_244.out; obtain ⟨hcz9_0, hcz9_1, hcz9_2, hcz9_3, hfz9_0, hfz9_1, hfz9_2, hfz9_3⟩ := cz4 BK244) | ((with_reducible refine gate_callee (f := 54) rfl ?_); refine goesL_ (some 7) rfl rfl Try.func54 (by kernel_rfl) rfl #[.agg #[.int .i64 a0_0, .int .i64 a0_1, .bool true, .slice A0_3 l0_3.length c0_3]] rfl (by (try simp only [List.map_toArray, List.map_cons, List.map_nil]); first | done | rfl | (simp only [List.length_drop, List.length_take]; rfl)) ?_; (with_reducible refine (impl_copyBelt.calls a0_0 a0_1 true _ _ l0_3 t246 t247 t248 t249 _ ?side1 ?side2 A2.out).mono ?_); (case side1 => repeat (first | exact (Kd.C_below HR0_3.out HB.out) | (with_reducible refine Kd.C_alloc ?_ _) | (with_reducible refine Kd.C_drewN ?_ _) | (with_reducible refine Kd.C_drew ?_))); (case side2 => exact HC0_3.out); rintro e w10 ⟨v250, rfl, ho0, hb⟩; refine ⟨_, rfl, ?_⟩; have HO251 := uD (Kd.R_lower ho0 (uN (pb HB))); replace BK244 := uD (blk_below (pk BK244) hb); replace BK245 := uD (blk_below (pk BK245) hb); replace HB := uD (uO (pb HB) hb); (try clear hb); (try clear hb2); (try clear hk); (try clear hi); (try clear ho0)) | ((with_reducible refine gate_dst (N := 5) rfl ?_); (try (refine gate_guard (by rfl) ?_; dsimp only)); refine box_event ?hg (N := 5) ?hd (cs := #[.int .i64 0, .int .i64 0, .bool false, .slice none 0 0]) (t := 29) ?hr ?_; (case hd => rfl); (case hg => rfl); (case hr => first | (go_simp; done) | (go_simp; rfl)); intro gb252 hg w11 hbox hb; replace HO251 := uD (Kd.R_below (pr HO251) hb); have BK252 := uD (hbox); have GW252 := uD ((by rw [hg]; exact (uN (pb HB)) : w.heap.size ≤ gb252)); have GE252 := uD ((by rw [hg]; exact (uN (pb HB)) : w.heap.size ≤ gb252)); replace HB := uD (uO (pb HB) hb); have NB244_252 := uD ((by rw [hg]; exact Nat.ne_of_lt (blk_lt (g := gb244) (o := .cells #[.int .i64 a0_0, .int .i64 a0_1, .bool true, .slice A0_3 l0_3.length c0_3] 29 (0, 0)) (pk BK244)) : gb244 ≠ gb252)); have NB252_244 := uD ((by rw [hg]; exact Nat.ne_of_gt (blk_lt (g := gb244) (o := .cells #[.int .i64 a0_0, .int .i64 a0_1, .bool true, .slice A0_3 l0_3.length c0_3] 29 (0, 0)) (pk BK244)) : gb252 ≠ gb244)); replace BK244 := uD (blk_below (pk BK244) hb); have NB245_252 := uD ((by rw [hg]; exact Nat.ne_of_lt (blk_lt (g := gb245) (o := .cells #[.int .i64 0, .int .i64 0, .bool false, .slice none 0 0] 29 (0, 0)) (pk BK245)) : gb245 ≠ gb252)); have NB252_245 := uD ((by rw [hg]; exact Nat.ne_of_gt (blk_lt (g := gb245) (o := .cells #[.int .i64 0, .int .i64 0, .bool false, .slice none 0 0] 29 (0, 0)) (pk BK245)) : gb252 ≠ gb245)); replace BK245 := uD (blk_below (pk BK245) hb); clear hb hbox hg; have hnb12 := NB252_244.out; have hnc12 := NB244_252.out; have hnb13 := NB252_245.out; have hnc13 := NB245_252.out; obtain ⟨hcz14_0, hcz14_1, hcz14_2, hcz14_3, hfz14_0, hfz14_1, hfz14_2, hfz14_3⟩ := cz4 BK252; obtain ⟨Ao15, co15, eo15⟩ := Kd.R_slice HO251.out; subst eo15))
   have n0_ : Aside0 (Kd.R k53 53 ((((w11.setCell ⟨gb252, 0, none⟩ (.int .i64 t246)).setCell ⟨gb252, 1, none⟩ (.int .i64 t247)).setCell ⟨gb252, 2, none⟩ (.bool t248)).setCell ⟨gb252, 3, none⟩ (.slice Ao15 t249.length co15)) w.heap.size (fun _ => True) (.slice Ao15 t249.length co15) t249) := ⟨by (with_reducible repeat (first | apply uU | apply uS | apply uT)); exact uX (uV (p := ⟨gb252, 3, none⟩) (uV (p := ⟨gb252, 2, none⟩) (uV (p := ⟨gb252, 1, none⟩) (uV (p := ⟨gb252, 0, none⟩) (uW HO251.out BK252.out (by decide)) (fun _ hk => hk.2) (.int .i64 t246)) (fun _ hk => hk.2) (.int .i64 t247)) (fun _ hk => hk.2) (.bool t248)) (fun _ hk => hk.2) (.slice Ao15 t249.length co15)) (fun _ hk => trivial)⟩
   have n1_ : Aside0 (((((w11.setCell ⟨gb252, 0, none⟩ (.int .i64 t246)).setCell ⟨gb252, 1, none⟩ (.int .i64 t247)).setCell ⟨gb252, 2, none⟩ (.bool t248)).setCell ⟨gb252, 3, none⟩ (.slice Ao15 t249.length co15)).heap[gb244]? = some (.cells #[.int .i64 a0_0, .int .i64 a0_1, .bool true, .slice A0_3 l0_3.length c0_3] 29 (0, 0))) := ⟨by (with_reducible repeat (first | refine uH ?_ _ | refine uJ ?_ | refine uG ?_ _)); refine uQ ?_ NB244_252.out _; (with_reducible repeat (first | refine uH ?_ _ | refine uJ ?_ | refine uG ?_ _)); refine uQ ?_ NB244_252.out _; (with_reducible repeat (first | refine uH ?_ _ | refine uJ ?_ | refine uG ?_ _)); refine uQ ?_ NB244_252.out _; (with_reducible repeat (first | refine uH ?_ _ | refine uJ ?_ | refine uG ?_ _)); refine uQ ?_ NB244_252.out _; (with_reducible repeat (first | refine uH ?_ _ | refine uJ ?_ | refine uG ?_ _)); exact BK244.out⟩
   have n2_ : Aside0 (((((w11.setCell ⟨gb252, 0, none⟩ (.int .i64 t246)).setCell ⟨gb252, 1, none⟩ (.int .i64 t247)).setCell ⟨gb252, 2, none⟩ (.bool t248)).setCell ⟨gb252, 3, none⟩ (.slice Ao15 t249.length co15)).heap[gb245]? = some (.cells #[.int .i64 0, .int .i64 0, .bool false, .slice none 0 0] 29 (0, 0))) := ⟨by (with_reducible repeat (first | refine uH ?_ _ | refine uJ ?_ | refine uG ?_ _)); refine uQ ?_ NB245_252.out _; (with_reducible repeat (first | refine uH ?_ _ | refine uJ ?_ | refine uG ?_ _)); refine uQ ?_ NB245_252.out _; (with_reducible repeat (first | refine uH ?_ _ | refine uJ ?_ | refine uG ?_ _)); refine uQ ?_ NB245_252.out _; (with_reducible repeat (first | refine uH ?_ _ | refine uJ ?_ | refine uG ?_ _)); refine uQ ?_ NB245_252.out _; (with_reducible repeat (first | refine uH ?_ _ | refine uJ ?_ | refine uG ?_ _)); exact BK245.out⟩
   have n3_ : Aside0 (((((w11.setCell ⟨gb252, 0, none⟩ (.int .i64 t246)).setCell ⟨gb252, 1, none⟩ (.int .i64 t247)).setCell ⟨gb252, 2, none⟩ (.bool t248)).setCell ⟨gb252, 3, none⟩ (.slice Ao15 t249.length co15)).heap[gb252]? = some (.cells #[.int .i64 t246, .int .i64 t247, .bool t248, .slice Ao15 t249.length co15] 29 (0, 0))) := ⟨by (with_reducible repeat (first | refine uH ?_ _ | refine uJ ?_ | refine uG ?_ _)); refine uP (cs := #[.int .i64 t246, .int .i64 t247, .bool t248, .slice none 0 0]) ?_ 3 _ rfl; (with_reducible repeat (first | refine uH ?_ _ | refine uJ ?_ | refine uG ?_ _)); refine uP (cs := #[.int .i64 t246, .int .i64 t247, .bool false, .slice none 0 0]) ?_ 2 _ rfl; (with_reducible repeat (first | refine uH ?_ _ | refine uJ ?_ | refine uG ?_ _)); refine uP (cs := #[.int .i64 t246, .int .i64 0, .bool false, .slice none 0 0]) ?_ 1 _ rfl; (with_reducible repeat (first | refine uH ?_ _ | refine uJ ?_ | refine uG ?_ _)); refine uP (cs := #[.int .i64 0, .int .i64 0, .bool false, .slice none 0 0]) ?_ 0 _ rfl; (with_reducible repeat (first | refine uH ?_ _ | refine uJ ?_ | refine uG ?_ _)); exact BK252.out⟩
   have n4_ : Aside0 (Below w.heap.size w ((((w11.setCell ⟨gb252, 0, none⟩ (.int .i64 t246)).setCell ⟨gb252, 1, none⟩ (.int .i64 t247)).setCell ⟨gb252, 2, none⟩ (.bool t248)).setCell ⟨gb252, 3, none⟩ (.slice Ao15 t249.length co15))) := ⟨pb HB⟩
   (try clear HO251)
   (try clear BK244)
   (try clear BK245)
   (try clear BK252)
   (try clear HB)
   generalize ((((w11.setCell ⟨gb252, 0, none⟩ (.int .i64 t246)).setCell ⟨gb252, 1, none⟩ (.int .i64 t247)).setCell ⟨gb252, 2, none⟩ (.bool t248)).setCell ⟨gb252, 3, none⟩ (.slice Ao15 t249.length co15)) = w16 at n0_ n1_ n2_ n3_ n4_ ⊢
   have HO251 := n0_
   have BK244 := n1_
   have BK245 := n2_
   have BK252 := n3_
   have HB := n4_
   clear n0_ n1_ n2_ n3_ n4_
   replace HO251 := uD (uT HO251.out)
   replace BK244 := uD (uJ BK244.out)
   replace BK245 := uD (uJ BK245.out)
   replace BK252 := uD (uJ BK252.out)
   replace HB := uD (uK HB.out)
   refine start_ (n := 23) (S := fun w' => w'.cell? ⟨gb244, 0, none⟩ = some (.int .i64 a0_0) ∧ w'.cell? ⟨gb244, 1, none⟩ = some (.int .i64 a0_1) ∧ w'.cell? ⟨gb244, 2, none⟩ = some (.bool true) ∧ w'.cell? ⟨gb244, 3, none⟩ = some (.slice A0_3 l0_3.length c0_3)) (ds := []) #[F,F,F,F,F,F,F,F,F,F,F,F,F,F,F,F,F,F,F,F,F,F,F] (by kernel_rfl) rfl rfl ⟨(uF BK244.out 0).trans rfl, (uF BK244.out 1).trans rfl, (uF BK244.out 2).trans rfl, (uF BK244.out 3).trans rfl⟩ (fun hHeld => ?_); refine with_tabW impl_Leave.tab2 impl_Leave.bits2 (fun HT_ HW_ => ?_)
   generalize w16.drew = w17 at HO251 BK244 BK245 BK252 HB HO251 hHeld ⊢
   refine take_ (i := 0) (N := some 8) (v := ?_) (a' := ?_) #[T,F,F,F,F,F,F,F,F,F,F,F,F,F,F,F,F,F,F,F,F,F,F] rfl rfl (take_ofW HT_.out HW_.out (by kernel_rfl)) (fun _ _ _ h => h) (Or.inl ⟨by rfl, ?_⟩) hHeld ?_ ?_
   rotate_left;(rintro w' ⟨s0, s1, s2, s3⟩;go_simp;with_reducible rfl);rotate_left;(simp only [uc,uA,uB,uC,uZ,ua];rfl)
   refine one_ (i := 1) (N := some 9) #[T,T,F,F,F,F,F,F,F,F,F,F,F,F,F,F,F,F,F,F,F,F,F] rfl rfl (one_of HT_.out (by kernel_rfl)) (by decide) (fun K hK => ?_)
   refine goes_ Try.func18 (by kernel_rfl) rfl #[.agg #[.int .i64 a0_0, .int .i64 a0_1, .bool true, .slice A0_3 l0_3.length c0_3]] (by rfl) rfl rfl (by (try simp only [List.map_toArray, List.map_cons, List.map_nil]); first | done | rfl | (simp only [List.length_drop, List.length_take]; rfl)) ?_
   with_reducible refine (impl_BeltOk.calls k a0_0 a0_1 true _ _ l0_3 true _ ?side1 ?side2 A3.out).mono ?_
   (case side1 => repeat (first | exact (Kd.C_below HR0_3.out HB.out) | (with_reducible refine Kd.C_alloc ?_ _) | (with_reducible refine Kd.C_drewN ?_ _) | (with_reducible refine Kd.C_drew ?_)))
   (case side2 => exact HC0_3.out)
   rintro e w18 ⟨rfl, hb⟩
   refine ⟨_, rfl, ?_⟩
   replace HO251 := uD (Kd.R_below (pr HO251) hb)
   replace BK244 := uD (blk_below (pk BK244) hb)
   replace BK245 := uD (blk_below (pk BK245) hb)
   replace BK252 := uD (blk_below (pk BK252) hb)
   replace HB := uD (uO (pb HB) hb)
   (try clear hb)
   (try clear hb2)
   (try clear hk)
   (try clear hi)
   refine hK.out _ _ ⟨(uF BK244.out 0).trans rfl, (uF BK244.out 1).trans rfl, (uF BK244.out 2).trans rfl, (uF BK244.out 3).trans rfl⟩ (fun hHeld => ?_)
   clear hK K
   refine norm_ (a' := ?_) ?_ ?_
   rotate_left
   ·show uc _ (some 9) _ = _
    simp only [uc, uA, uB, uC, uZ, ua]
    rfl
   refine ub (i := 2) (N := some 10) (v := ?_) (a' := ?_) #[T,T,T,F,F,F,F,F,F,F,F,F,F,F,F,F,F,F,F,F,F,F,F] rfl rfl (uY HT_.out (by kernel_rfl)) (fun _ _ _ h => h) (Or.inl ⟨by rfl, ?_⟩) ?_ ?_
   rotate_left;(intro w';go_simp;with_reducible rfl);rotate_left;(simp only [uc,uA,uB,uC,uZ,ua];rfl)
   refine ub (i := 3) (N := some 11) (v := ?_) (a' := ?_) #[T,T,T,T,F,F,F,F,F,F,F,F,F,F,F,F,F,F,F,F,F,F,F] rfl rfl (uY HT_.out (by kernel_rfl)) (fun _ _ _ h => h) (Or.inl ⟨by rfl, ?_⟩) ?_ ?_
   rotate_left;(intro w';go_simp;with_reducible rfl);rotate_left;(simp only [uc,uA,uB,uC,uZ,ua];rfl)
   refine ub (i := 4) (N := some 12) (v := ?_) (a' := ?_) #[T,T,T,T,T,F,F,F,F,F,F,F,F,F,F,F,F,F,F,F,F,F,F] rfl rfl (uY HT_.out (by kernel_rfl)) (fun _ _ _ h => h) (Or.inl ⟨by rfl, ?_⟩) ?_ ?_
   rotate_left;(intro w';go_simp;with_reducible rfl);rotate_left;(simp only [uc,uA,uB,uC,uZ,ua];rfl)
   refine take_ (i := 5) (N := some 13) (v := ?_) (a' := ?_) #[T,T,T,T,T,T,F,F,F,F,F,F,F,F,F,F,F,F,F,F,F,F,F] rfl rfl (take_ofW HT_.out HW_.out (by kernel_rfl)) (fun _ _ _ h => h) (Or.inl ⟨by rfl, ?_⟩) hHeld ?_ ?_
   rotate_left;(rintro w' ⟨s0, s1, s2, s3⟩;go_simp;with_reducible rfl);rotate_left;(simp only [uc,uA,uB,uC,uZ,ua];rfl)
   refine ub (i := 6) (N := some 14) (v := ?_) (a' := ?_) #[T,T,T,T,T,T,T,F,F,F,F,F,F,F,F,F,F,F,F,F,F,F,F] rfl rfl (uY HT_.out (by kernel_rfl)) (fun _ _ _ h => h) (Or.inl ⟨by rfl, ?_⟩) ?_ ?_
   rotate_left;(intro w';go_simp;with_reducible rfl);rotate_left;(simp only [uc,uA,uB,uC,uZ,ua];rfl)
   refine ub (i := 7) (N := some 15) (v := ?_) (a' := ?_) #[T,T,T,T,T,T,T,T,F,F,F,F,F,F,F,F,F,F,F,F,F,F,F] rfl rfl (uY HT_.out (by kernel_rfl)) (fun _ _ _ h => h) (Or.inl ⟨by rfl, ?_⟩) ?_ ?_
   rotate_left;(intro w';go_simp;with_reducible rfl);rotate_left;(simp only [uc,uA,uB,uC,uZ,ua];rfl)
   refine ub (i := 8) (N := some 16) (v := undef) (a' := ?_) #[T,T,T,T,T,T,T,T,T,F,F,F,F,F,F,F,F,F,F,F,F,F,F] rfl rfl (uY HT_.out (by kernel_rfl)) (fun _ _ _ h => h) (Or.inr ⟨by rfl, rfl⟩) ?_ ?_
   rotate_left
   ·simp only [uc, uA, uB, uC, uZ, ua]
    rfl
   refine ub (i := 9) (N := some 17) (v := undef) (a' := ?_) #[T,T,T,T,T,T,T,T,T,T,F,F,F,F,F,F,F,F,F,F,F,F,F] rfl rfl (uY HT_.out (by kernel_rfl)) (fun _ _ _ h => h) (Or.inr ⟨by rfl, rfl⟩) ?_ ?_
   rotate_left
   ·simp only [uc, uA, uB, uC, uZ, ua]
    rfl
   refine ub (i := 10) (N := some 18) (v := undef) (a' := ?_) #[T,T,T,T,T,T,T,T,T,T,T,F,F,F,F,F,F,F,F,F,F,F,F] rfl rfl (uY HT_.out (by kernel_rfl)) (fun _ _ _ h => h) (Or.inr ⟨by rfl, rfl⟩) ?_ ?_
   rotate_left
   ·simp only [uc, uA, uB, uC, uZ, ua]
    rfl
   refine ub (i := 11) (N := some 19) (v := undef) (a' := ?_) #[T,T,T,T,T,T,T,T,T,T,T,T,F,F,F,F,F,F,F,F,F,F,F] rfl rfl (uY HT_.out (by kernel_rfl)) (fun _ _ _ h => h) (Or.inr ⟨by rfl, rfl⟩) ?_ ?_
   rotate_left
   ·simp only [uc, uA, uB, uC, uZ, ua]
    rfl
   refine ub (i := 12) (N := some 20) (v := ?_) (a' := ?_) #[T,T,T,T,T,T,T,T,T,T,T,T,T,F,F,F,F,F,F,F,F,F,F] rfl rfl (uY HT_.out (by kernel_rfl)) (fun _ _ _ h => h) (Or.inl ⟨by rfl, ?_⟩) ?_ ?_
   rotate_left;(intro w';go_simp;with_reducible rfl);rotate_left;(simp only [uc,uA,uB,uC,uZ,ua];rfl)
   refine ub (i := 13) (N := some 21) (v := ?_) (a' := ?_) #[T,T,T,T,T,T,T,T,T,T,T,T,T,T,F,F,F,F,F,F,F,F,F] rfl rfl (uY HT_.out (by kernel_rfl)) (fun _ _ _ h => h) (Or.inl ⟨by rfl, ?_⟩) ?_ ?_
   rotate_left;(intro w';go_simp;with_reducible rfl);rotate_left;(simp only [uc,uA,uB,uC,uZ,ua];rfl)
   refine ub (i := 14) (N := some 22) (v := undef) (a' := ?_) #[T,T,T,T,T,T,T,T,T,T,T,T,T,T,T,F,F,F,F,F,F,F,F] rfl rfl (uY HT_.out (by kernel_rfl)) (fun _ _ _ h => h) (Or.inr ⟨by rfl, rfl⟩) ?_ ?_
   rotate_left
   ·simp only [uc, uA, uB, uC, uZ, ua]
    rfl
   refine ub (i := 15) (N := some 23) (v := undef) (a' := ?_) #[T,T,T,T,T,T,T,T,T,T,T,T,T,T,T,T,F,F,F,F,F,F,F] rfl rfl (uY HT_.out (by kernel_rfl)) (fun _ _ _ h => h) (Or.inr ⟨by rfl, rfl⟩) ?_ ?_
   rotate_left
   ·simp only [uc, uA, uB, uC, uZ, ua]
    rfl
   refine ub (i := 16) (N := some 24) (v := undef) (a' := ?_) #[T,T,T,T,T,T,T,T,T,T,T,T,T,T,T,T,T,F,F,F,F,F,F] rfl rfl (uY HT_.out (by kernel_rfl)) (fun _ _ _ h => h) (Or.inr ⟨by rfl, rfl⟩) ?_ ?_
   rotate_left
   ·simp only [uc, uA, uB, uC, uZ, ua]
    rfl
   refine ub (i := 17) (N := some 25) (v := undef) (a' := ?_) #[T,T,T,T,T,T,T,T,T,T,T,T,T,T,T,T,T,T,F,F,F,F,F] rfl rfl (uY HT_.out (by kernel_rfl)) (fun _ _ _ h => h) (Or.inr ⟨by rfl, rfl⟩) ?_ ?_
   rotate_left
   ·simp only [uc, uA, uB, uC, uZ, ua]
    rfl
   refine ub (i := 18) (N := some 26) (v := undef) (a' := ?_) #[T,T,T,T,T,T,T,T,T,T,T,T,T,T,T,T,T,T,T,F,F,F,F] rfl rfl (uY HT_.out (by kernel_rfl)) (fun _ _ _ h => h) (Or.inr ⟨by rfl, rfl⟩) ?_ ?_
   rotate_left
   ·simp only [uc, uA, uB, uC, uZ, ua]
    rfl
   refine ub (i := 19) (N := some 27) (v := undef) (a' := ?_) #[T,T,T,T,T,T,T,T,T,T,T,T,T,T,T,T,T,T,T,T,F,F,F] rfl rfl (uY HT_.out (by kernel_rfl)) (fun _ _ _ h => h) (Or.inr ⟨by rfl, rfl⟩) ?_ ?_
   rotate_left
   ·simp only [uc, uA, uB, uC, uZ, ua]
    rfl
   refine ub (i := 20) (N := some 28) (v := undef) (a' := ?_) #[T,T,T,T,T,T,T,T,T,T,T,T,T,T,T,T,T,T,T,T,T,F,F] rfl rfl (uY HT_.out (by kernel_rfl)) (fun _ _ _ h => h) (Or.inr ⟨by rfl, rfl⟩) ?_ ?_
   rotate_left
   ·simp only [uc, uA, uB, uC, uZ, ua]
    rfl
   refine ub (i := 21) (N := some 29) (v := undef) (a' := ?_) #[T,T,T,T,T,T,T,T,T,T,T,T,T,T,T,T,T,T,T,T,T,T,F] rfl rfl (uY HT_.out (by kernel_rfl)) (fun _ _ _ h => h) (Or.inr ⟨by rfl, rfl⟩) ?_ ?_
   rotate_left
   ·simp only [uc, uA, uB, uC, uZ, ua]
    rfl
   refine ub (i := 22) (N := some 30) (v := ?_) (a' := ?_) #[T,T,T,T,T,T,T,T,T,T,T,T,T,T,T,T,T,T,T,T,T,T,T] rfl rfl (uY HT_.out (by kernel_rfl)) (fun _ _ _ h => h) (Or.inl ⟨by rfl, ?_⟩) ?_ ?_
   rotate_left;(intro w';go_simp;with_reducible rfl);rotate_left;(simp only [uc,uA,uB,uC,uZ,ua];rfl)
   refine done_ (done_of HT_.out (by kernel_rfl)) ?_
   obtain ⟨hcz19_0, hcz19_1, hcz19_2, hcz19_3, hfz19_0, hfz19_1, hfz19_2, hfz19_3⟩ := cz4 BK252
   obtain ⟨hcz20_0, hcz20_1, hcz20_2, hcz20_3, hfz20_0, hfz20_1, hfz20_2, hfz20_3⟩ := cz4 BK245
   try go_wp2
   refine bodyPost_ret (results_ctt rfl _ _ gb245 29 #[.int .i64 t246, .int .i64 t247, .bool t248, .slice Ao15 t249.length co15] (0, 0) _ rfl (by (with_reducible repeat (first | refine uH ?_ _ | refine uJ ?_ | refine uG ?_ _)); refine uP (cs := #[.int .i64 t246, .int .i64 t247, .bool t248, .slice none 0 0]) ?_ 3 _ rfl; (with_reducible repeat (first | refine uH ?_ _ | refine uJ ?_ | refine uG ?_ _)); refine uP (cs := #[.int .i64 t246, .int .i64 t247, .bool false, .slice none 0 0]) ?_ 2 _ rfl; (with_reducible repeat (first | refine uH ?_ _ | refine uJ ?_ | refine uG ?_ _)); refine uP (cs := #[.int .i64 t246, .int .i64 0, .bool false, .slice none 0 0]) ?_ 1 _ rfl; (with_reducible repeat (first | refine uH ?_ _ | refine uJ ?_ | refine uG ?_ _)); refine uP (cs := #[.int .i64 0, .int .i64 0, .bool false, .slice none 0 0]) ?_ 0 _ rfl; (with_reducible repeat (first | refine uH ?_ _ | refine uJ ?_ | refine uG ?_ _)); exact BK245.out) Try.underlying29 rfl (by kernel_rfl)) rfl ?_
   exact ⟨_, by first | rfl | (simp [errW_none, errW_some] <;> rfl) | (simp [*, errW_none, errW_some] <;> rfl), Kd.Q_of_R (by (with_reducible repeat (first | apply uU | apply uS | apply uT)); exact uX (uV (p := ⟨gb245, 3, none⟩) (uV (p := ⟨gb245, 2, none⟩) (uV (p := ⟨gb245, 1, none⟩) (uV (p := ⟨gb245, 0, none⟩) (uW HO251.out BK245.out (by decide)) (fun _ hk => hk.2) (.int .i64 t246)) (fun _ hk => hk.2) (.int .i64 t247)) (fun _ hk => hk.2) (.bool t248)) (fun _ hk => hk.2) (.slice Ao15 t249.length co15)) (fun _ hk => trivial)), pb HB⟩
  ·replace c5 := Bool.eq_false_iff.mpr c5
   subst c5
   have H1 : (if (l0_3.length : Int) = 0 then (some (t246, t247, t248, t249, 0, false)) else (if 0 < (l0_3.length : Int) then (if ((rd_T53 l0_3 0).f1) < a0_0 then (some (t246, t247, t248, t249, 0, false)) else (if 1 ≤ (t249.length : Int) then (some (t246, t247, t248, (t249.drop (1 : Int).toNat), (rd_T53 l0_3 0).f0, true)) else (none))) else (none))) = some (r1, r2, r3, r4, r5, r6) := by rw [if_neg (show ¬ (false = true) by decide)] at H; first | done | exact H
   clear H
   have H := H1
   clear H1
   by_cases c21 : (l0_3.length : Int) = 0
   ·rw [if_pos c21] at H
    have c21b0 : ((l0_3.length : Int) == 0) = true := beq_iff_eq.mpr c21
    have c21b1 : ((l0_3.length : Int) != 0) = false := bne_eq_false_iff_eq.mpr c21
    clear c21
    simp only [Option.some.injEq, Prod.mk.injEq] at H
    obtain ⟨rfl, rfl, rfl, rfl, rfl, rfl⟩ := H
    go_enter Try.func27, Try.ntmps27
    try go_wp2_with (first | ((with_reducible refine gate_dst (N := 1) rfl ?_); (try (refine gate_guard (by rfl) ?_; dsimp only)); refine box_event ?hg (N := 1) ?hd (cs := #[.int .i64 a0_0, .int .i64 a0_1, .bool false, .slice A0_3 l0_3.length c0_3]) (t := 29) ?hr ?_; (case hd => rfl); (case hg => rfl); (case hr => first | (go_simp; done) | (go_simp; rfl)); intro gb244 hg w22 hbox hb; have BK244 := uD (hbox); have GW244 := uD ((by rw [hg]; exact (uN (pb HB)) : w.heap.size ≤ gb244)); have GE244 := uD ((by rw [hg]; exact (uN (pb HB)) : w.heap.size ≤ gb244)); replace HB := uD (uO (pb HB) hb); clear hb hbox hg) | ((with_reducible refine gate_dst (N := 2) rfl ?_); (try (refine gate_guard (by rfl) ?_; dsimp only)); refine box_event ?hg (N := 2) ?hd (cs := #[.int .i64 0, .int .i64 0, .bool false, .slice none 0 0]) (t := 29) ?hr ?_; (case hd => rfl); (case hg => rfl); (case hr => first | (go_simp; done) | (go_simp; rfl)); intro gb245 hg w23 hbox hb; have BK245 := uD (hbox); have GW245 := uD ((by rw [hg]; exact (uN (pb HB)) : w.heap.size ≤ gb245)); have GE245 := uD ((by rw [hg]; exact (uN (pb HB)) : w.heap.size ≤ gb245)); replace HB := uD (uO (pb HB) hb); have NB244_245 := uD ((by rw [hg]; exact Nat.ne_of_lt (blk_lt (g := gb244) (o := .cells #[.int .i64 a0_0, .int .i64 a0_1, .bool false, .slice A0_3 l0_3.length c0_3] 29 (0, 0)) (pk BK244)) : gb244 ≠ gb245)); have NB245_244 := uD ((by rw [hg]; exact Nat.ne_of_gt (blk_lt (g := gb244) (o := .cells #[.int .i64 a0_0, .int .i64 a0_1, .bool false, .slice A0_3 l0_3.length c0_3] 29 (0, 0)) (pk BK244)) : gb245 ≠ gb244)); replace BK244 := uD (blk_below (pk BK244) hb); clear hb hbox hg; have hnb24 := NB244_245.out; have hnc24 := NB245_244.out; obtain ⟨hcz25_0, hcz25_1, hcz25_2, hcz25_3, hfz25_0, hfz25_1, hfz25_2, hfz25_3⟩ := cz4 BK244) | ((with_reducible refine gate_callee (f := 54) rfl ?_); refine goesL_ (some 7) rfl rfl Try.func54 (by kernel_rfl) rfl #[.agg #[.int .i64 a0_0, .int .i64 a0_1, .bool false, .slice A0_3 l0_3.length c0_3]] rfl (by (try simp only [List.map_toArray, List.map_cons, List.map_nil]); first | done | rfl | (simp only [List.length_drop, List.length_take]; rfl)) ?_; (with_reducible refine (impl_copyBelt.calls a0_0 a0_1 false _ _ l0_3 t246 t247 t248 t249 _ ?side1 ?side2 A2.out).mono ?_); (case side1 => repeat (first | exact (Kd.C_below HR0_3.out HB.out) | (with_reducible refine Kd.C_alloc ?_ _) | (with_reducible refine Kd.C_drewN ?_ _) | (with_reducible refine Kd.C_drew ?_))); (case side2 => exact HC0_3.out); rintro e w26 ⟨v250, rfl, ho0, hb⟩; refine ⟨_, rfl, ?_⟩; have HO251 := uD (Kd.R_lower ho0 (uN (pb HB))); replace BK244 := uD (blk_below (pk BK244) hb); replace BK245 := uD (blk_below (pk BK245) hb); replace HB := uD (uO (pb HB) hb); (try clear hb); (try clear hb2); (try clear hk); (try clear hi); (try clear ho0)) | ((with_reducible refine gate_dst (N := 5) rfl ?_); (try (refine gate_guard (by rfl) ?_; dsimp only)); refine box_event ?hg (N := 5) ?hd (cs := #[.int .i64 0, .int .i64 0, .bool false, .slice none 0 0]) (t := 29) ?hr ?_; (case hd => rfl); (case hg => rfl); (case hr => first | (go_simp; done) | (go_simp; rfl)); intro gb252 hg w27 hbox hb; replace HO251 := uD (Kd.R_below (pr HO251) hb); have BK252 := uD (hbox); have GW252 := uD ((by rw [hg]; exact (uN (pb HB)) : w.heap.size ≤ gb252)); have GE252 := uD ((by rw [hg]; exact (uN (pb HB)) : w.heap.size ≤ gb252)); replace HB := uD (uO (pb HB) hb); have NB244_252 := uD ((by rw [hg]; exact Nat.ne_of_lt (blk_lt (g := gb244) (o := .cells #[.int .i64 a0_0, .int .i64 a0_1, .bool false, .slice A0_3 l0_3.length c0_3] 29 (0, 0)) (pk BK244)) : gb244 ≠ gb252)); have NB252_244 := uD ((by rw [hg]; exact Nat.ne_of_gt (blk_lt (g := gb244) (o := .cells #[.int .i64 a0_0, .int .i64 a0_1, .bool false, .slice A0_3 l0_3.length c0_3] 29 (0, 0)) (pk BK244)) : gb252 ≠ gb244)); replace BK244 := uD (blk_below (pk BK244) hb); have NB245_252 := uD ((by rw [hg]; exact Nat.ne_of_lt (blk_lt (g := gb245) (o := .cells #[.int .i64 0, .int .i64 0, .bool false, .slice none 0 0] 29 (0, 0)) (pk BK245)) : gb245 ≠ gb252)); have NB252_245 := uD ((by rw [hg]; exact Nat.ne_of_gt (blk_lt (g := gb245) (o := .cells #[.int .i64 0, .int .i64 0, .bool false, .slice none 0 0] 29 (0, 0)) (pk BK245)) : gb252 ≠ gb245)); replace BK245 := uD (blk_below (pk BK245) hb); clear hb hbox hg; have hnb28 := NB252_244.out; have hnc28 := NB244_252.out; have hnb29 := NB252_245.out; have hnc29 := NB245_252.out; obtain ⟨hcz30_0, hcz30_1, hcz30_2, hcz30_3, hfz30_0, hfz30_1, hfz30_2, hfz30_3⟩ := cz4 BK252; obtain ⟨Ao31, co31, eo31⟩ := Kd.R_slice HO251.out; subst eo31))
    have n0_ : Aside0 (Kd.R k53 53 ((((w27.setCell ⟨gb252, 0, none⟩ (.int .i64 t246)).setCell ⟨gb252, 1, none⟩ (.int .i64 t247)).setCell ⟨gb252, 2, none⟩ (.bool t248)).setCell ⟨gb252, 3, none⟩ (.slice Ao31 t249.length co31)) w.heap.size (fun _ => True) (.slice Ao31 t249.length co31) t249) := ⟨by (with_reducible repeat (first | apply uU | apply uS | apply uT)); exact uX (uV (p := ⟨gb252, 3, none⟩) (uV (p := ⟨gb252, 2, none⟩) (uV (p := ⟨gb252, 1, none⟩) (uV (p := ⟨gb252, 0, none⟩) (uW HO251.out BK252.out (by decide)) (fun _ hk => hk.2) (.int .i64 t246)) (fun _ hk => hk.2) (.int .i64 t247)) (fun _ hk => hk.2) (.bool t248)) (fun _ hk => hk.2) (.slice Ao31 t249.length co31)) (fun _ hk => trivial)⟩
    have n1_ : Aside0 (((((w27.setCell ⟨gb252, 0, none⟩ (.int .i64 t246)).setCell ⟨gb252, 1, none⟩ (.int .i64 t247)).setCell ⟨gb252, 2, none⟩ (.bool t248)).setCell ⟨gb252, 3, none⟩ (.slice Ao31 t249.length co31)).heap[gb244]? = some (.cells #[.int .i64 a0_0, .int .i64 a0_1, .bool false, .slice A0_3 l0_3.length c0_3] 29 (0, 0))) := ⟨by (with_reducible repeat (first | refine uH ?_ _ | refine uJ ?_ | refine uG ?_ _)); refine uQ ?_ NB244_252.out _; (with_reducible repeat (first | refine uH ?_ _ | refine uJ ?_ | refine uG ?_ _)); refine uQ ?_ NB244_252.out _; (with_reducible repeat (first | refine uH ?_ _ | refine uJ ?_ | refine uG ?_ _)); refine uQ ?_ NB244_252.out _; (with_reducible repeat (first | refine uH ?_ _ | refine uJ ?_ | refine uG ?_ _)); refine uQ ?_ NB244_252.out _; (with_reducible repeat (first | refine uH ?_ _ | refine uJ ?_ | refine uG ?_ _)); exact BK244.out⟩
    have n2_ : Aside0 (((((w27.setCell ⟨gb252, 0, none⟩ (.int .i64 t246)).setCell ⟨gb252, 1, none⟩ (.int .i64 t247)).setCell ⟨gb252, 2, none⟩ (.bool t248)).setCell ⟨gb252, 3, none⟩ (.slice Ao31 t249.length co31)).heap[gb245]? = some (.cells #[.int .i64 0, .int .i64 0, .bool false, .slice none 0 0] 29 (0, 0))) := ⟨by (with_reducible repeat (first | refine uH ?_ _ | refine uJ ?_ | refine uG ?_ _)); refine uQ ?_ NB245_252.out _; (with_reducible repeat (first | refine uH ?_ _ | refine uJ ?_ | refine uG ?_ _)); refine uQ ?_ NB245_252.out _; (with_reducible repeat (first | refine uH ?_ _ | refine uJ ?_ | refine uG ?_ _)); refine uQ ?_ NB245_252.out _; (with_reducible repeat (first | refine uH ?_ _ | refine uJ ?_ | refine uG ?_ _)); refine uQ ?_ NB245_252.out _; (with_reducible repeat (first | refine uH ?_ _ | refine uJ ?_ | refine uG ?_ _)); exact BK245.out⟩
    have n3_ : Aside0 (((((w27.setCell ⟨gb252, 0, none⟩ (.int .i64 t246)).setCell ⟨gb252, 1, none⟩ (.int .i64 t247)).setCell ⟨gb252, 2, none⟩ (.bool t248)).setCell ⟨gb252, 3, none⟩ (.slice Ao31 t249.length co31)).heap[gb252]? = some (.cells #[.int .i64 t246, .int .i64 t247, .bool t248, .slice Ao31 t249.length co31] 29 (0, 0))) := ⟨by (with_reducible repeat (first | refine uH ?_ _ | refine uJ ?_ | refine uG ?_ _)); refine uP (cs := #[.int .i64 t246, .int .i64 t247, .bool t248, .slice none 0 0]) ?_ 3 _ rfl; (with_reducible repeat (first | refine uH ?_ _ | refine uJ ?_ | refine uG ?_ _)); refine uP (cs := #[.int .i64 t246, .int .i64 t247, .bool false, .slice none 0 0]) ?_ 2 _ rfl; (with_reducible repeat (first | refine uH ?_ _ | refine uJ ?_ | refine uG ?_ _)); refine uP (cs := #[.int .i64 t246, .int .i64 0, .bool false, .slice none 0 0]) ?_ 1 _ rfl; (with_reducible repeat (first | refine uH ?_ _ | refine uJ ?_ | refine uG ?_ _)); refine uP (cs := #[.int .i64 0, .int .i64 0, .bool false, .slice none 0 0]) ?_ 0 _ rfl; (with_reducible repeat (first | refine uH ?_ _ | refine uJ ?_ | refine uG ?_ _)); exact BK252.out⟩
    have n4_ : Aside0 (Below w.heap.size w ((((w27.setCell ⟨gb252, 0, none⟩ (.int .i64 t246)).setCell ⟨gb252, 1, none⟩ (.int .i64 t247)).setCell ⟨gb252, 2, none⟩ (.bool t248)).setCell ⟨gb252, 3, none⟩ (.slice Ao31 t249.length co31))) := ⟨pb HB⟩
    (try clear HO251)
    (try clear BK244)
    (try clear BK245)
    (try clear BK252)
    (try clear HB)
    generalize ((((w27.setCell ⟨gb252, 0, none⟩ (.int .i64 t246)).setCell ⟨gb252, 1, none⟩ (.int .i64 t247)).setCell ⟨gb252, 2, none⟩ (.bool t248)).setCell ⟨gb252, 3, none⟩ (.slice Ao31 t249.length co31)) = w32 at n0_ n1_ n2_ n3_ n4_ ⊢
    have HO251 := n0_
    have BK244 := n1_
    have BK245 := n2_
    have BK252 := n3_
    have HB := n4_
    clear n0_ n1_ n2_ n3_ n4_
    replace HO251 := uD (uT HO251.out)
    replace BK244 := uD (uJ BK244.out)
    replace BK245 := uD (uJ BK245.out)
    replace BK252 := uD (uJ BK252.out)
    replace HB := uD (uK HB.out)
    refine start_ (n := 23) (S := fun w' => w'.cell? ⟨gb244, 0, none⟩ = some (.int .i64 a0_0) ∧ w'.cell? ⟨gb244, 1, none⟩ = some (.int .i64 a0_1) ∧ w'.cell? ⟨gb244, 2, none⟩ = some (.bool false) ∧ w'.cell? ⟨gb244, 3, none⟩ = some (.slice A0_3 l0_3.length c0_3)) (ds := []) #[F,F,F,F,F,F,F,F,F,F,F,F,F,F,F,F,F,F,F,F,F,F,F] (by kernel_rfl) rfl rfl ⟨(uF BK244.out 0).trans rfl, (uF BK244.out 1).trans rfl, (uF BK244.out 2).trans rfl, (uF BK244.out 3).trans rfl⟩ (fun hHeld => ?_); refine with_tabW impl_Leave.tab2 impl_Leave.bits2 (fun HT_ HW_ => ?_)
    generalize w32.drew = w33 at HO251 BK244 BK245 BK252 HB HO251 hHeld ⊢
    refine take_ (i := 0) (N := some 8) (v := ?_) (a' := ?_) #[T,F,F,F,F,F,F,F,F,F,F,F,F,F,F,F,F,F,F,F,F,F,F] rfl rfl (take_ofW HT_.out HW_.out (by kernel_rfl)) (fun _ _ _ h => h) (Or.inl ⟨by rfl, ?_⟩) hHeld ?_ ?_
    rotate_left;(rintro w' ⟨s0, s1, s2, s3⟩;go_simp;with_reducible rfl);rotate_left;(simp only [uc,uA,uB,uC,uZ,ua];rfl)
    refine one_ (i := 1) (N := some 9) #[T,T,F,F,F,F,F,F,F,F,F,F,F,F,F,F,F,F,F,F,F,F,F] rfl rfl (one_of HT_.out (by kernel_rfl)) (by decide) (fun K hK => ?_)
    refine goes_ Try.func18 (by kernel_rfl) rfl #[.agg #[.int .i64 a0_0, .int .i64 a0_1, .bool false, .slice A0_3 l0_3.length c0_3]] (by rfl) rfl rfl (by (try simp only [List.map_toArray, List.map_cons, List.map_nil]); first | done | rfl | (simp only [List.length_drop, List.length_take]; rfl)) ?_
    with_reducible refine (impl_BeltOk.calls k a0_0 a0_1 false _ _ l0_3 true _ ?side1 ?side2 A3.out).mono ?_
    (case side1 => repeat (first | exact (Kd.C_below HR0_3.out HB.out) | (with_reducible refine Kd.C_alloc ?_ _) | (with_reducible refine Kd.C_drewN ?_ _) | (with_reducible refine Kd.C_drew ?_)))
    (case side2 => exact HC0_3.out)
    rintro e w34 ⟨rfl, hb⟩
    refine ⟨_, rfl, ?_⟩
    replace HO251 := uD (Kd.R_below (pr HO251) hb)
    replace BK244 := uD (blk_below (pk BK244) hb)
    replace BK245 := uD (blk_below (pk BK245) hb)
    replace BK252 := uD (blk_below (pk BK252) hb)
    replace HB := uD (uO (pb HB) hb)
    (try clear hb)
    (try clear hb2)
    (try clear hk)
    (try clear hi)
    refine hK.out _ _ ⟨(uF BK244.out 0).trans rfl, (uF BK244.out 1).trans rfl, (uF BK244.out 2).trans rfl, (uF BK244.out 3).trans rfl⟩ (fun hHeld => ?_)
    clear hK K
    refine norm_ (a' := ?_) ?_ ?_
    rotate_left
    ·show uc _ (some 9) _ = _
     simp only [uc, uA, uB, uC, uZ, ua]
     rfl
    refine ub (i := 2) (N := some 10) (v := ?_) (a' := ?_) #[T,T,T,F,F,F,F,F,F,F,F,F,F,F,F,F,F,F,F,F,F,F,F] rfl rfl (uY HT_.out (by kernel_rfl)) (fun _ _ _ h => h) (Or.inl ⟨by rfl, ?_⟩) ?_ ?_
    rotate_left;(intro w';go_simp;with_reducible rfl);rotate_left;(simp only [uc,uA,uB,uC,uZ,ua];rfl)
    refine ub (i := 3) (N := some 11) (v := ?_) (a' := ?_) #[T,T,T,T,F,F,F,F,F,F,F,F,F,F,F,F,F,F,F,F,F,F,F] rfl rfl (uY HT_.out (by kernel_rfl)) (fun _ _ _ h => h) (Or.inl ⟨by rfl, ?_⟩) ?_ ?_
    rotate_left;(intro w';go_simp;with_reducible rfl);rotate_left;(simp only [uc,uA,uB,uC,uZ,ua];rfl)
    refine ub (i := 4) (N := some 12) (v := ?_) (a' := ?_) #[T,T,T,T,T,F,F,F,F,F,F,F,F,F,F,F,F,F,F,F,F,F,F] rfl rfl (uY HT_.out (by kernel_rfl)) (fun _ _ _ h => h) (Or.inl ⟨by rfl, ?_⟩) ?_ ?_
    rotate_left;(intro w';go_simp;with_reducible rfl);rotate_left;(simp only [uc,uA,uB,uC,uZ,ua];rfl)
    refine take_ (i := 5) (N := some 13) (v := ?_) (a' := ?_) #[T,T,T,T,T,T,F,F,F,F,F,F,F,F,F,F,F,F,F,F,F,F,F] rfl rfl (take_ofW HT_.out HW_.out (by kernel_rfl)) (fun _ _ _ h => h) (Or.inl ⟨by rfl, ?_⟩) hHeld ?_ ?_
    rotate_left;(rintro w' ⟨s0, s1, s2, s3⟩;go_simp;with_reducible rfl);rotate_left;(simp only [uc,uA,uB,uC,uZ,ua];rfl)
    refine ub (i := 6) (N := some 14) (v := ?_) (a' := ?_) #[T,T,T,T,T,T,T,F,F,F,F,F,F,F,F,F,F,F,F,F,F,F,F] rfl rfl (uY HT_.out (by kernel_rfl)) (fun _ _ _ h => h) (Or.inl ⟨by rfl, ?_⟩) ?_ ?_
    rotate_left;(intro w';go_simp;with_reducible rfl);rotate_left;(simp only [uc,uA,uB,uC,uZ,ua];rfl)
    refine ub (i := 7) (N := some 15) (v := ?_) (a' := ?_) #[T,T,T,T,T,T,T,T,F,F,F,F,F,F,F,F,F,F,F,F,F,F,F] rfl rfl (uY HT_.out (by kernel_rfl)) (fun _ _ _ h => h) (Or.inl ⟨by rfl, ?_⟩) ?_ ?_
    rotate_left;(intro w';go_simp;with_reducible rfl);rotate_left;(simp only [uc,uA,uB,uC,uZ,ua];rfl)
    refine ub (i := 8) (N := some 16) (v := ?_) (a' := ?_) #[T,T,T,T,T,T,T,T,T,F,F,F,F,F,F,F,F,F,F,F,F,F,F] rfl rfl (uY HT_.out (by kernel_rfl)) (fun _ _ _ h => h) (Or.inl ⟨by rfl, ?_⟩) ?_ ?_
    rotate_left;(intro w';go_simp;with_reducible rfl);rotate_left;(simp only [uc,uA,uB,uC,uZ,ua];rfl)
    refine take_ (i := 9) (N := some 17) (v := ?_) (a' := ?_) #[T,T,T,T,T,T,T,T,T,T,F,F,F,F,F,F,F,F,F,F,F,F,F] rfl rfl (take_ofW HT_.out HW_.out (by kernel_rfl)) (fun _ _ _ h => h) (Or.inl ⟨by rfl, ?_⟩) hHeld ?_ ?_
    rotate_left;(rintro w' ⟨s0, s1, s2, s3⟩;go_simp;with_reducible rfl);rotate_left;(simp only [uc,uA,uB,uC,uZ,ua];rfl)
    refine ub (i := 10) (N := some 18) (v := ?_) (a' := ?_) #[T,T,T,T,T,T,T,T,T,T,T,F,F,F,F,F,F,F,F,F,F,F,F] rfl rfl (uY HT_.out (by kernel_rfl)) (fun _ _ _ h => h) (Or.inl ⟨by rfl, ?_⟩) ?_ ?_
    rotate_left;(intro w';go_simp;with_reducible rfl);rotate_left;(simp only [uc,uA,uB,uC,uZ,ua];rfl)
    refine ub (i := 11) (N := some 19) (v := ?_) (a' := ?_) #[T,T,T,T,T,T,T,T,T,T,T,T,F,F,F,F,F,F,F,F,F,F,F] rfl rfl (uY HT_.out (by kernel_rfl)) (fun _ _ _ h => h) (Or.inl ⟨by rfl, ?_⟩) ?_ ?_
    rotate_left;(intro w';go_simp;with_reducible rfl);rotate_left;(simp only [uc,uA,uB,uC,uZ,ua];rfl)
    refine ub (i := 12) (N := some 20) (v := ?_) (a' := ?_) #[T,T,T,T,T,T,T,T,T,T,T,T,T,F,F,F,F,F,F,F,F,F,F] rfl rfl (uY HT_.out (by kernel_rfl)) (fun _ _ _ h => h) (Or.inl ⟨by rfl, ?_⟩) ?_ ?_
    rotate_left;(intro w';go_simp;with_reducible rfl);rotate_left;(simp only [uc,uA,uB,uC,uZ,ua];rfl)
    refine ub (i := 13) (N := some 21) (v := ?_) (a' := ?_) #[T,T,T,T,T,T,T,T,T,T,T,T,T,T,F,F,F,F,F,F,F,F,F] rfl rfl (uY HT_.out (by kernel_rfl)) (fun _ _ _ h => h) (Or.inl ⟨by rfl, ?_⟩) ?_ ?_
    rotate_left;(intro w';go_simp;with_reducible rfl);rotate_left;(simp only [uc,uA,uB,uC,uZ,ua];rfl)
    refine ub (i := 14) (N := some 22) (v := undef) (a' := ?_) #[T,T,T,T,T,T,T,T,T,T,T,T,T,T,T,F,F,F,F,F,F,F,F] rfl rfl (uY HT_.out (by kernel_rfl)) (fun _ _ _ h => h) (Or.inr ⟨by rfl, rfl⟩) ?_ ?_
    rotate_left
    ·simp only [uc, uA, uB, uC, uZ, ua]
     rfl
    refine ub (i := 15) (N := some 23) (v := undef) (a' := ?_) #[T,T,T,T,T,T,T,T,T,T,T,T,T,T,T,T,F,F,F,F,F,F,F] rfl rfl (uY HT_.out (by kernel_rfl)) (fun _ _ _ h => h) (Or.inr ⟨by rfl, rfl⟩) ?_ ?_
    rotate_left
    ·simp only [uc, uA, uB, uC, uZ, ua]
     rfl
    refine ub (i := 16) (N := some 24) (v := undef) (a' := ?_) #[T,T,T,T,T,T,T,T,T,T,T,T,T,T,T,T,T,F,F,F,F,F,F] rfl rfl (uY HT_.out (by kernel_rfl)) (fun _ _ _ h => h) (Or.inr ⟨by rfl, rfl⟩) ?_ ?_
    rotate_left
    ·simp only [uc, uA, uB, uC, uZ, ua]
     rfl
    refine ub (i := 17) (N := some 25) (v := undef) (a' := ?_) #[T,T,T,T,T,T,T,T,T,T,T,T,T,T,T,T,T,T,F,F,F,F,F] rfl rfl (uY HT_.out (by kernel_rfl)) (fun _ _ _ h => h) (Or.inr ⟨by rfl, rfl⟩) ?_ ?_
    rotate_left
    ·simp only [uc, uA, uB, uC, uZ, ua]
     rfl
    refine ub (i := 18) (N := some 26) (v := undef) (a' := ?_) #[T,T,T,T,T,T,T,T,T,T,T,T,T,T,T,T,T,T,T,F,F,F,F] rfl rfl (uY HT_.out (by kernel_rfl)) (fun _ _ _ h => h) (Or.inr ⟨by rfl, rfl⟩) ?_ ?_
    rotate_left
    ·simp only [uc, uA, uB, uC, uZ, ua]
     rfl
    refine ub (i := 19) (N := some 27) (v := undef) (a' := ?_) #[T,T,T,T,T,T,T,T,T,T,T,T,T,T,T,T,T,T,T,T,F,F,F] rfl rfl (uY HT_.out (by kernel_rfl)) (fun _ _ _ h => h) (Or.inr ⟨by rfl, rfl⟩) ?_ ?_
    rotate_left
    ·simp only [uc, uA, uB, uC, uZ, ua]
     rfl
    refine ub (i := 20) (N := some 28) (v := undef) (a' := ?_) #[T,T,T,T,T,T,T,T,T,T,T,T,T,T,T,T,T,T,T,T,T,F,F] rfl rfl (uY HT_.out (by kernel_rfl)) (fun _ _ _ h => h) (Or.inr ⟨by rfl, rfl⟩) ?_ ?_
    rotate_left
    ·simp only [uc, uA, uB, uC, uZ, ua]
     rfl
    refine ub (i := 21) (N := some 29) (v := undef) (a' := ?_) #[T,T,T,T,T,T,T,T,T,T,T,T,T,T,T,T,T,T,T,T,T,T,F] rfl rfl (uY HT_.out (by kernel_rfl)) (fun _ _ _ h => h) (Or.inr ⟨by rfl, rfl⟩) ?_ ?_
    rotate_left
    ·simp only [uc, uA, uB, uC, uZ, ua]
     rfl
    refine ub (i := 22) (N := some 30) (v := ?_) (a' := ?_) #[T,T,T,T,T,T,T,T,T,T,T,T,T,T,T,T,T,T,T,T,T,T,T] rfl rfl (uY HT_.out (by kernel_rfl)) (fun _ _ _ h => h) (Or.inl ⟨by rfl, ?_⟩) ?_ ?_
    rotate_left;(intro w';go_simp;with_reducible rfl);rotate_left;(simp only [uc,uA,uB,uC,uZ,ua];rfl)
    refine done_ (done_of HT_.out (by kernel_rfl)) ?_
    obtain ⟨hcz35_0, hcz35_1, hcz35_2, hcz35_3, hfz35_0, hfz35_1, hfz35_2, hfz35_3⟩ := cz4 BK252
    obtain ⟨hcz36_0, hcz36_1, hcz36_2, hcz36_3, hfz36_0, hfz36_1, hfz36_2, hfz36_3⟩ := cz4 BK245
    try go_wp2
    refine bodyPost_ret (results_ctt rfl _ _ gb245 29 #[.int .i64 t246, .int .i64 t247, .bool t248, .slice Ao31 t249.length co31] (0, 0) _ rfl (by (with_reducible repeat (first | refine uH ?_ _ | refine uJ ?_ | refine uG ?_ _)); refine uP (cs := #[.int .i64 t246, .int .i64 t247, .bool t248, .slice none 0 0]) ?_ 3 _ rfl; (with_reducible repeat (first | refine uH ?_ _ | refine uJ ?_ | refine uG ?_ _)); refine uP (cs := #[.int .i64 t246, .int .i64 t247, .bool false, .slice none 0 0]) ?_ 2 _ rfl; (with_reducible repeat (first | refine uH ?_ _ | refine uJ ?_ | refine uG ?_ _)); refine uP (cs := #[.int .i64 t246, .int .i64 0, .bool false, .slice none 0 0]) ?_ 1 _ rfl; (with_reducible repeat (first | refine uH ?_ _ | refine uJ ?_ | refine uG ?_ _)); refine uP (cs := #[.int .i64 0, .int .i64 0, .bool false, .slice none 0 0]) ?_ 0 _ rfl; (with_reducible repeat (first | refine uH ?_ _ | refine uJ ?_ | refine uG ?_ _)); exact BK245.out) Try.underlying29 rfl (by kernel_rfl)) rfl ?_
    exact ⟨_, by first | rfl | (simp [errW_none, errW_some] <;> rfl) | (simp [*, errW_none, errW_some] <;> rfl), Kd.Q_of_R (by (with_reducible repeat (first | apply uU | apply uS | apply uT)); exact uX (uV (p := ⟨gb245, 3, none⟩) (uV (p := ⟨gb245, 2, none⟩) (uV (p := ⟨gb245, 1, none⟩) (uV (p := ⟨gb245, 0, none⟩) (uW HO251.out BK245.out (by decide)) (fun _ hk => hk.2) (.int .i64 t246)) (fun _ hk => hk.2) (.int .i64 t247)) (fun _ hk => hk.2) (.bool t248)) (fun _ hk => hk.2) (.slice Ao31 t249.length co31)) (fun _ hk => trivial)), pb HB⟩
   ·rw [if_neg c21] at H
    have c21b0 : ((l0_3.length : Int) == 0) = false := beq_eq_false_iff_ne.mpr c21
    have c21b1 : ((l0_3.length : Int) != 0) = true := bne_iff_ne.mpr c21
    have c21b2 : ¬ (l0_3 = []) := fun h_ => c21 (by rw [h_]; rfl)
    by_cases c37 : 0 < (l0_3.length : Int)
    ·rw [if_pos c37] at H
     have c37b0 : decide (0 < (l0_3.length : Int)) = true := decide_eq_true c37
     have c37b1 : decide (0 < l0_3.length) = true := decide_eq_true (by omega)
     clear c37
     by_cases c38 : ((rd_T53 l0_3 0).f1) < a0_0
     ·rw [if_pos c38] at H
      have c38b0 : decide (((rd_T53 l0_3 0).f1) < a0_0) = true := decide_eq_true c38
      clear c38
      simp only [Option.some.injEq, Prod.mk.injEq] at H
      obtain ⟨rfl, rfl, rfl, rfl, rfl, rfl⟩ := H
      go_enter Try.func27, Try.ntmps27
      try go_wp2_with (first | ((with_reducible refine gate_dst (N := 1) rfl ?_); (try (refine gate_guard (by rfl) ?_; dsimp only)); refine box_event ?hg (N := 1) ?hd (cs := #[.int .i64 a0_0, .int .i64 a0_1, .bool false, .slice A0_3 l0_3.length c0_3]) (t := 29) ?hr ?_; (case hd => rfl); (case hg => rfl); (case hr => first | (go_simp; done) | (go_simp; rfl)); intro gb244 hg w39 hbox hb; have BK244 := uD (hbox); have GW244 := uD ((by rw [hg]; exact (uN (pb HB)) : w.heap.size ≤ gb244)); have GE244 := uD ((by rw [hg]; exact (uN (pb HB)) : w.heap.size ≤ gb244)); replace HB := uD (uO (pb HB) hb); clear hb hbox hg) | ((with_reducible refine gate_dst (N := 2) rfl ?_); (try (refine gate_guard (by rfl) ?_; dsimp only)); refine box_event ?hg (N := 2) ?hd (cs := #[.int .i64 0, .int .i64 0, .bool false, .slice none 0 0]) (t := 29) ?hr ?_; (case hd => rfl); (case hg => rfl); (case hr => first | (go_simp; done) | (go_simp; rfl)); intro gb245 hg w40 hbox hb; have BK245 := uD (hbox); have GW245 := uD ((by rw [hg]; exact (uN (pb HB)) : w.heap.size ≤ gb245)); have GE245 := uD ((by rw [hg]; exact (uN (pb HB)) : w.heap.size ≤ gb245)); replace HB := uD (uO (pb HB) hb); have NB244_245 := uD ((by rw [hg]; exact Nat.ne_of_lt (blk_lt (g := gb244) (o := .cells #[.int .i64 a0_0, .int .i64 a0_1, .bool false, .slice A0_3 l0_3.length c0_3] 29 (0, 0)) (pk BK244)) : gb244 ≠ gb245)); have NB245_244 := uD ((by rw [hg]; exact Nat.ne_of_gt (blk_lt (g := gb244) (o := .cells #[.int .i64 a0_0, .int .i64 a0_1, .bool false, .slice A0_3 l0_3.length c0_3] 29 (0, 0)) (pk BK244)) : gb245 ≠ gb244)); replace BK244 := uD (blk_below (pk BK244) hb); clear hb hbox hg; have hnb41 := NB244_245.out; have hnc41 := NB245_244.out; obtain ⟨hcz42_0, hcz42_1, hcz42_2, hcz42_3, hfz42_0, hfz42_1, hfz42_2, hfz42_3⟩ := cz4 BK244) | ((with_reducible refine gate_callee (f := 54) rfl ?_); refine goesL_ (some 7) rfl rfl Try.func54 (by kernel_rfl) rfl #[.agg #[.int .i64 a0_0, .int .i64 a0_1, .bool false, .slice A0_3 l0_3.length c0_3]] rfl (by (try simp only [List.map_toArray, List.map_cons, List.map_nil]); first | done | rfl | (simp only [List.length_drop, List.length_take]; rfl)) ?_; (with_reducible refine (impl_copyBelt.calls a0_0 a0_1 false _ _ l0_3 t246 t247 t248 t249 _ ?side1 ?side2 A2.out).mono ?_); (case side1 => repeat (first | exact (Kd.C_below HR0_3.out HB.out) | (with_reducible refine Kd.C_alloc ?_ _) | (with_reducible refine Kd.C_drewN ?_ _) | (with_reducible refine Kd.C_drew ?_))); (case side2 => exact HC0_3.out); rintro e w43 ⟨v250, rfl, ho0, hb⟩; refine ⟨_, rfl, ?_⟩; have HO251 := uD (Kd.R_lower ho0 (uN (pb HB))); replace BK244 := uD (blk_below (pk BK244) hb); replace BK245 := uD (blk_below (pk BK245) hb); replace HB := uD (uO (pb HB) hb); (try clear hb); (try clear hb2); (try clear hk); (try clear hi); (try clear ho0)) | ((with_reducible refine gate_dst (N := 5) rfl ?_); (try (refine gate_guard (by rfl) ?_; dsimp only)); refine box_event ?hg (N := 5) ?hd (cs := #[.int .i64 0, .int .i64 0, .bool false, .slice none 0 0]) (t := 29) ?hr ?_; (case hd => rfl); (case hg => rfl); (case hr => first | (go_simp; done) | (go_simp; rfl)); intro gb252 hg w44 hbox hb; replace HO251 := uD (Kd.R_below (pr HO251) hb); have BK252 := uD (hbox); have GW252 := uD ((by rw [hg]; exact (uN (pb HB)) : w.heap.size ≤ gb252)); have GE252 := uD ((by rw [hg]; exact (uN (pb HB)) : w.heap.size ≤ gb252)); replace HB := uD (uO (pb HB) hb); have NB244_252 := uD ((by rw [hg]; exact Nat.ne_of_lt (blk_lt (g := gb244) (o := .cells #[.int .i64 a0_0, .int .i64 a0_1, .bool false, .slice A0_3 l0_3.length c0_3] 29 (0, 0)) (pk BK244)) : gb244 ≠ gb252)); have NB252_244 := uD ((by rw [hg]; exact Nat.ne_of_gt (blk_lt (g := gb244) (o := .cells #[.int .i64 a0_0, .int .i64 a0_1, .bool false, .slice A0_3 l0_3.length c0_3] 29 (0, 0)) (pk BK244)) : gb252 ≠ gb244)); replace BK244 := uD (blk_below (pk BK244) hb); have NB245_252 := uD ((by rw [hg]; exact Nat.ne_of_lt (blk_lt (g := gb245) (o := .cells #[.int .i64 0, .int .i64 0, .bool false, .slice none 0 0] 29 (0, 0)) (pk BK245)) : gb245 ≠ gb252)); have NB252_245 := uD ((by rw [hg]; exact Nat.ne_of_gt (blk_lt (g := gb245) (o := .cells #[.int .i64 0, .int .i64 0, .bool false, .slice none 0 0] 29 (0, 0)) (pk BK245)) : gb252 ≠ gb245)); replace BK245 := uD (blk_below (pk BK245) hb); clear hb hbox hg; have hnb45 := NB252_244.out; have hnc45 := NB244_252.out; have hnb46 := NB252_245.out; have hnc46 := NB245_252.out; obtain ⟨hcz47_0, hcz47_1, hcz47_2, hcz47_3, hfz47_0, hfz47_1, hfz47_2, hfz47_3⟩ := cz4 BK252; obtain ⟨Ao48, co48, eo48⟩ := Kd.R_slice HO251.out; subst eo48))
      have n0_ : Aside0 (Kd.R k53 53 ((((w44.setCell ⟨gb252, 0, none⟩ (.int .i64 t246)).setCell ⟨gb252, 1, none⟩ (.int .i64 t247)).setCell ⟨gb252, 2, none⟩ (.bool t248)).setCell ⟨gb252, 3, none⟩ (.slice Ao48 t249.length co48)) w.heap.size (fun _ => True) (.slice Ao48 t249.length co48) t249) := ⟨by (with_reducible repeat (first | apply uU | apply uS | apply uT)); exact uX (uV (p := ⟨gb252, 3, none⟩) (uV (p := ⟨gb252, 2, none⟩) (uV (p := ⟨gb252, 1, none⟩) (uV (p := ⟨gb252, 0, none⟩) (uW HO251.out BK252.out (by decide)) (fun _ hk => hk.2) (.int .i64 t246)) (fun _ hk => hk.2) (.int .i64 t247)) (fun _ hk => hk.2) (.bool t248)) (fun _ hk => hk.2) (.slice Ao48 t249.length co48)) (fun _ hk => trivial)⟩
      have n1_ : Aside0 (((((w44.setCell ⟨gb252, 0, none⟩ (.int .i64 t246)).setCell ⟨gb252, 1, none⟩ (.int .i64 t247)).setCell ⟨gb252, 2, none⟩ (.bool t248)).setCell ⟨gb252, 3, none⟩ (.slice Ao48 t249.length co48)).heap[gb244]? = some (.cells #[.int .i64 a0_0, .int .i64 a0_1, .bool false, .slice A0_3 l0_3.length c0_3] 29 (0, 0))) := ⟨by (with_reducible repeat (first | refine uH ?_ _ | refine uJ ?_ | refine uG ?_ _)); refine uQ ?_ NB244_252.out _; (with_reducible repeat (first | refine uH ?_ _ | refine uJ ?_ | refine uG ?_ _)); refine uQ ?_ NB244_252.out _; (with_reducible repeat (first | refine uH ?_ _ | refine uJ ?_ | refine uG ?_ _)); refine uQ ?_ NB244_252.out _; (with_reducible repeat (first | refine uH ?_ _ | refine uJ ?_ | refine uG ?_ _)); refine uQ ?_ NB244_252.out _; (with_reducible repeat (first | refine uH ?_ _ | refine uJ ?_ | refine uG ?_ _)); exact BK244.out⟩
      have n2_ : Aside0 (((((w44.setCell ⟨gb252, 0, none⟩ (.int .i64 t246)).setCell ⟨gb252, 1, none⟩ (.int .i64 t247)).setCell ⟨gb252, 2, none⟩ (.bool t248)).setCell ⟨gb252, 3, none⟩ (.slice Ao48 t249.length co48)).heap[gb245]? = some (.cells #[.int .i64 0, .int .i64 0, .bool false, .slice none 0 0] 29 (0, 0))) := ⟨by (with_reducible repeat (first | refine uH ?_ _ | refine uJ ?_ | refine uG ?_ _)); refine uQ ?_ NB245_252.out _; (with_reducible repeat (first | refine uH ?_ _ | refine uJ ?_ | refine uG ?_ _)); refine uQ ?_ NB245_252.out _; (with_reducible repeat (first | refine uH ?_ _ | refine uJ ?_ | refine uG ?_ _)); refine uQ ?_ NB245_252.out _; (with_reducible repeat (first | refine uH ?_ _ | refine uJ ?_ | refine uG ?_ _)); refine uQ ?_ NB245_252.out _; (with_reducible repeat (first | refine uH ?_ _ | refine uJ ?_ | refine uG ?_ _)); exact BK245.out⟩
      have n3_ : Aside0 (((((w44.setCell ⟨gb252, 0, none⟩ (.int .i64 t246)).setCell ⟨gb252, 1, none⟩ (.int .i64 t247)).setCell ⟨gb252, 2, none⟩ (.bool t248)).setCell ⟨gb252, 3, none⟩ (.slice Ao48 t249.length co48)).heap[gb252]? = some (.cells #[.int .i64 t246, .int .i64 t247, .bool t248, .slice Ao48 t249.length co48] 29 (0, 0))) := ⟨by (with_reducible repeat (first | refine uH ?_ _ | refine uJ ?_ | refine uG ?_ _)); refine uP (cs := #[.int .i64 t246, .int .i64 t247, .bool t248, .slice none 0 0]) ?_ 3 _ rfl; (with_reducible repeat (first | refine uH ?_ _ | refine uJ ?_ | refine uG ?_ _)); refine uP (cs := #[.int .i64 t246, .int .i64 t247, .bool false, .slice none 0 0]) ?_ 2 _ rfl; (with_reducible repeat (first | refine uH ?_ _ | refine uJ ?_ | refine uG ?_ _)); refine uP (cs := #[.int .i64 t246, .int .i64 0, .bool false, .slice none 0 0]) ?_ 1 _ rfl; (with_reducible repeat (first | refine uH ?_ _ | refine uJ ?_ | refine uG ?_ _)); refine uP (cs := #[.int .i64 0, .int .i64 0, .bool false, .slice none 0 0]) ?_ 0 _ rfl; (with_reducible repeat (first | refine uH ?_ _ | refine uJ ?_ | refine uG ?_ _)); exact BK252.out⟩
      have n4_ : Aside0 (Below w.heap.size w ((((w44.setCell ⟨gb252, 0, none⟩ (.int .i64 t246)).setCell ⟨gb252, 1, none⟩ (.int .i64 t247)).setCell ⟨gb252, 2, none⟩ (.bool t248)).setCell ⟨gb252, 3, none⟩ (.slice Ao48 t249.length co48))) := ⟨pb HB⟩
      (try clear HO251)
      (try clear BK244)
      (try clear BK245)
      (try clear BK252)
      (try clear HB)
      generalize ((((w44.setCell ⟨gb252, 0, none⟩ (.int .i64 t246)).setCell ⟨gb252, 1, none⟩ (.int .i64 t247)).setCell ⟨gb252, 2, none⟩ (.bool t248)).setCell ⟨gb252, 3, none⟩ (.slice Ao48 t249.length co48)) = w49 at n0_ n1_ n2_ n3_ n4_ ⊢
      have HO251 := n0_
      have BK244 := n1_
      have BK245 := n2_
      have BK252 := n3_
      have HB := n4_
      clear n0_ n1_ n2_ n3_ n4_
      replace HO251 := uD (uT HO251.out)
      replace BK244 := uD (uJ BK244.out)
      replace BK245 := uD (uJ BK245.out)
      replace BK252 := uD (uJ BK252.out)
      replace HB := uD (uK HB.out)
      have p254 : 0 ≤ (0 : Int) := (by omega)
      have q254 : 0 < (l0_3.length : Int) := of_decide_eq_true (by first | (with_reducible assumption) | assumption)
      obtain ⟨ad254, e254, hx254_0, hx254_1, hx254_2⟩ := at_T53 HR0_3.out 0 p254 q254
      have hw254_2 := hx254_2
      (try rw [show ((0 : Int)).toNat = 0 from rfl] at hw254_2)
      (try rw [show 0 * 3 = 0 from rfl] at hw254_2)
      (try rw [Addr.add_zero'] at hw254_2)
      have hw254_1 := hx254_1
      (try rw [show ((0 : Int)).toNat = 0 from rfl] at hw254_1)
      (try rw [show 0 * 3 = 0 from rfl] at hw254_1)
      (try rw [Addr.add_zero'] at hw254_1)
      have hw254_0 := hx254_0
      (try rw [show ((0 : Int)).toNat = 0 from rfl] at hw254_0)
      (try rw [show 0 * 3 = 0 from rfl] at hw254_0)
      (try rw [Addr.add_zero'] at hw254_0)
      cases e254
      have qi254 : (0 < l0_3.length) = True := eq_true (by omega)
      (try rw [show ((0 : Int)).toNat = 0 from rfl] at hx254_0)
      (try rw [show 0 * 3 = 0 from rfl] at hx254_0)
      (try rw [Addr.add_zero'] at hx254_0)
      (try rw [show ((0 : Int)).toNat = 0 from rfl] at hx254_1)
      (try rw [show 0 * 3 = 0 from rfl] at hx254_1)
      (try rw [Addr.add_zero'] at hx254_1)
      (try rw [show ((0 : Int)).toNat = 0 from rfl] at hx254_2)
      (try rw [show 0 * 3 = 0 from rfl] at hx254_2)
      (try rw [Addr.add_zero'] at hx254_2)
      replace hx254_0 := (HB.out.cell (World.block_lt_of_cell? w _ hx254_0)).trans hx254_0
      replace hx254_1 := (HB.out.cell (World.block_lt_of_cell? w _ hx254_1)).trans hx254_1
      replace hx254_2 := (HB.out.cell (World.block_lt_of_cell? w _ hx254_2)).trans hx254_2
      replace p254 := eq_true p254
      replace q254 := eq_true q254
      refine start_ (n := 23) (S := fun w' => w'.cell? ⟨gb244, 0, none⟩ = some (.int .i64 a0_0) ∧ w'.cell? ⟨gb244, 1, none⟩ = some (.int .i64 a0_1) ∧ w'.cell? ⟨gb244, 2, none⟩ = some (.bool false) ∧ w'.cell? ⟨gb244, 3, none⟩ = some (.slice (some ad254) l0_3.length c0_3) ∧ w'.cell? ad254 = some (.int .i64 ((rd_T53 l0_3 0).f0)) ∧ w'.cell? ⟨ad254.block, ad254.off + 1, none⟩ = some (.int .i64 ((rd_T53 l0_3 0).f1)) ∧ w'.cell? ⟨ad254.block, ad254.off + 2, none⟩ = some (.int .i64 ((rd_T53 l0_3 0).f2))) (ds := []) #[F,F,F,F,F,F,F,F,F,F,F,F,F,F,F,F,F,F,F,F,F,F,F] (by kernel_rfl) rfl rfl ⟨(uF BK244.out 0).trans rfl, (uF BK244.out 1).trans rfl, (uF BK244.out 2).trans rfl, (uF BK244.out 3).trans rfl, ((HB.out.cell (World.block_lt_of_cell? w _ hw254_0)).trans hw254_0), ((HB.out.cell (World.block_lt_of_cell? w _ hw254_1)).trans hw254_1), ((HB.out.cell (World.block_lt_of_cell? w _ hw254_2)).trans hw254_2)⟩ (fun hHeld => ?_); refine with_tabW impl_Leave.tab2 impl_Leave.bits2 (fun HT_ HW_ => ?_)
      generalize w49.drew = w50 at HO251 BK244 BK245 BK252 HB HO251 hx254_0 hx254_1 hx254_2 hHeld ⊢
      refine take_ (i := 0) (N := some 8) (v := ?_) (a' := ?_) #[T,F,F,F,F,F,F,F,F,F,F,F,F,F,F,F,F,F,F,F,F,F,F] rfl rfl (take_ofW HT_.out HW_.out (by kernel_rfl)) (fun _ _ _ h => h) (Or.inl ⟨by rfl, ?_⟩) hHeld ?_ ?_
      rotate_left;(rintro w' ⟨s0, s1, s2, s3, s4, s5, s6⟩;go_simp;with_reducible rfl);rotate_left;(simp only [uc,uA,uB,uC,uZ,ua];rfl)
      refine one_ (i := 1) (N := some 9) #[T,T,F,F,F,F,F,F,F,F,F,F,F,F,F,F,F,F,F,F,F,F,F] rfl rfl (one_of HT_.out (by kernel_rfl)) (by decide) (fun K hK => ?_)
      refine goes_ Try.func18 (by kernel_rfl) rfl #[.agg #[.int .i64 a0_0, .int .i64 a0_1, .bool false, .slice (some ad254) l0_3.length c0_3]] (by rfl) rfl rfl (by (try simp only [List.map_toArray, List.map_cons, List.map_nil]); first | done | rfl | (simp only [List.length_drop, List.length_take]; rfl)) ?_
      with_reducible refine (impl_BeltOk.calls k a0_0 a0_1 false _ _ l0_3 true _ ?side1 ?side2 A3.out).mono ?_
      (case side1 => repeat (first | exact (Kd.C_below HR0_3.out HB.out) | (with_reducible refine Kd.C_alloc ?_ _) | (with_reducible refine Kd.C_drewN ?_ _) | (with_reducible refine Kd.C_drew ?_)))
      (case side2 => exact HC0_3.out)
      rintro e w51 ⟨rfl, hb⟩
      refine ⟨_, rfl, ?_⟩
      replace HO251 := uD (Kd.R_below (pr HO251) hb)
      replace BK244 := uD (blk_below (pk BK244) hb)
      replace BK245 := uD (blk_below (pk BK245) hb)
      replace BK252 := uD (blk_below (pk BK252) hb)
      replace HB := uD (uO (pb HB) hb)
      (try clear hb)
      (try clear hb2)
      (try clear hk)
      (try clear hi)
      refine hK.out _ _ ⟨(uF BK244.out 0).trans rfl, (uF BK244.out 1).trans rfl, (uF BK244.out 2).trans rfl, (uF BK244.out 3).trans rfl, ((HB.out.cell (World.block_lt_of_cell? w _ hw254_0)).trans hw254_0), ((HB.out.cell (World.block_lt_of_cell? w _ hw254_1)).trans hw254_1), ((HB.out.cell (World.block_lt_of_cell? w _ hw254_2)).trans hw254_2)⟩ (fun hHeld => ?_)
      clear hK K
      refine norm_ (a' := ?_) ?_ ?_
      rotate_left
      ·show uc _ (some 9) _ = _
       simp only [uc, uA, uB, uC, uZ, ua]
       rfl
      refine ub (i := 2) (N := some 10) (v := ?_) (a' := ?_) #[T,T,T,F,F,F,F,F,F,F,F,F,F,F,F,F,F,F,F,F,F,F,F] rfl rfl (uY HT_.out (by kernel_rfl)) (fun _ _ _ h => h) (Or.inl ⟨by rfl, ?_⟩) ?_ ?_
      rotate_left;(intro w';go_simp;with_reducible rfl);rotate_left;(simp only [uc,uA,uB,uC,uZ,ua];rfl)
      refine ub (i := 3) (N := some 11) (v := ?_) (a' := ?_) #[T,T,T,T,F,F,F,F,F,F,F,F,F,F,F,F,F,F,F,F,F,F,F] rfl rfl (uY HT_.out (by kernel_rfl)) (fun _ _ _ h => h) (Or.inl ⟨by rfl, ?_⟩) ?_ ?_
      rotate_left;(intro w';go_simp;with_reducible rfl);rotate_left;(simp only [uc,uA,uB,uC,uZ,ua];rfl)
      refine ub (i := 4) (N := some 12) (v := ?_) (a' := ?_) #[T,T,T,T,T,F,F,F,F,F,F,F,F,F,F,F,F,F,F,F,F,F,F] rfl rfl (uY HT_.out (by kernel_rfl)) (fun _ _ _ h => h) (Or.inl ⟨by rfl, ?_⟩) ?_ ?_
      rotate_left;(intro w';go_simp;with_reducible rfl);rotate_left;(simp only [uc,uA,uB,uC,uZ,ua];rfl)
      refine take_ (i := 5) (N := some 13) (v := ?_) (a' := ?_) #[T,T,T,T,T,T,F,F,F,F,F,F,F,F,F,F,F,F,F,F,F,F,F] rfl rfl (take_ofW HT_.out HW_.out (by kernel_rfl)) (fun _ _ _ h => h) (Or.inl ⟨by rfl, ?_⟩) hHeld ?_ ?_
      rotate_left;(rintro w' ⟨s0, s1, s2, s3, s4, s5, s6⟩;go_simp;with_reducible rfl);rotate_left;(simp only [uc,uA,uB,uC,uZ,ua];rfl)
      refine ub (i := 6) (N := some 14) (v := ?_) (a' := ?_) #[T,T,T,T,T,T,T,F,F,F,F,F,F,F,F,F,F,F,F,F,F,F,F] rfl rfl (uY HT_.out (by kernel_rfl)) (fun _ _ _ h => h) (Or.inl ⟨by rfl, ?_⟩) ?_ ?_
      rotate_left;(intro w';go_simp;with_reducible rfl);rotate_left;(simp only [uc,uA,uB,uC,uZ,ua];rfl)
      refine ub (i := 7) (N := some 15) (v := ?_) (a' := ?_) #[T,T,T,T,T,T,T,T,F,F,F,F,F,F,F,F,F,F,F,F,F,F,F] rfl rfl (uY HT_.out (by kernel_rfl)) (fun _ _ _ h => h) (Or.inl ⟨by rfl, ?_⟩) ?_ ?_
      rotate_left;(intro w';go_simp;with_reducible rfl);rotate_left;(simp only [uc,uA,uB,uC,uZ,ua];rfl)
      refine ub (i := 8) (N := some 16) (v := ?_) (a' := ?_) #[T,T,T,T,T,T,T,T,T,F,F,F,F,F,F,F,F,F,F,F,F,F,F] rfl rfl (uY HT_.out (by kernel_rfl)) (fun _ _ _ h => h) (Or.inl ⟨by rfl, ?_⟩) ?_ ?_
      rotate_left;(intro w';go_simp;with_reducible rfl);rotate_left;(simp only [uc,uA,uB,uC,uZ,ua];rfl)
      refine take_ (i := 9) (N := some 17) (v := ?_) (a' := ?_) #[T,T,T,T,T,T,T,T,T,T,F,F,F,F,F,F,F,F,F,F,F,F,F] rfl rfl (take_ofW HT_.out HW_.out (by kernel_rfl)) (fun _ _ _ h => h) (Or.inl ⟨by rfl, ?_⟩) hHeld ?_ ?_
      rotate_left;(rintro w' ⟨s0, s1, s2, s3, s4, s5, s6⟩;go_simp;with_reducible rfl);rotate_left;(simp only [uc,uA,uB,uC,uZ,ua];rfl)
      refine ub (i := 10) (N := some 18) (v := ?_) (a' := ?_) #[T,T,T,T,T,T,T,T,T,T,T,F,F,F,F,F,F,F,F,F,F,F,F] rfl rfl (uY HT_.out (by kernel_rfl)) (fun _ _ _ h => h) (Or.inl ⟨by rfl, ?_⟩) ?_ ?_
      rotate_left;(intro w';go_simp;with_reducible rfl);rotate_left;(simp only [uc,uA,uB,uC,uZ,ua];rfl)
      refine ub (i := 11) (N := some 19) (v := ?_) (a' := ?_) #[T,T,T,T,T,T,T,T,T,T,T,T,F,F,F,F,F,F,F,F,F,F,F] rfl rfl (uY HT_.out (by kernel_rfl)) (fun _ _ _ h => h) (Or.inl ⟨by rfl, ?_⟩) ?_ ?_
      rotate_left;(intro w';go_simp;with_reducible rfl);rotate_left;(simp only [uc,uA,uB,uC,uZ,ua];rfl)
      refine ub (i := 12) (N := some 20) (v := ?_) (a' := ?_) #[T,T,T,T,T,T,T,T,T,T,T,T,T,F,F,F,F,F,F,F,F,F,F] rfl rfl (uY HT_.out (by kernel_rfl)) (fun _ _ _ h => h) (Or.inl ⟨by rfl, ?_⟩) ?_ ?_
      rotate_left;(intro w';go_simp;with_reducible rfl);rotate_left;(simp only [uc,uA,uB,uC,uZ,ua];rfl)
      refine ub (i := 13) (N := some 21) (v := ?_) (a' := ?_) #[T,T,T,T,T,T,T,T,T,T,T,T,T,T,F,F,F,F,F,F,F,F,F] rfl rfl (uY HT_.out (by kernel_rfl)) (fun _ _ _ h => h) (Or.inl ⟨by rfl, ?_⟩) ?_ ?_
      rotate_left;(intro w';go_simp;with_reducible rfl);rotate_left;(simp only [uc,uA,uB,uC,uZ,ua];rfl)
      refine ub (i := 14) (N := some 22) (v := ?_) (a' := ?_) #[T,T,T,T,T,T,T,T,T,T,T,T,T,T,T,F,F,F,F,F,F,F,F] rfl rfl (uY HT_.out (by kernel_rfl)) (fun _ _ _ h => h) (Or.inl ⟨by rfl, ?_⟩) ?_ ?_
      rotate_left;(intro w';go_simp;with_reducible rfl);rotate_left;(simp only [uc,uA,uB,uC,uZ,ua];rfl)
      refine ub (i := 19) (N := some 27) (v := ?_) (a' := ?_) #[T,T,T,T,T,T,T,T,T,T,T,T,T,T,T,F,F,F,F,T,F,F,F] rfl rfl (uY HT_.out (by kernel_rfl)) (fun _ _ _ h => h) (Or.inl ⟨by rfl, ?_⟩) ?_ ?_
      rotate_left;(intro w';go_simp;with_reducible rfl);rotate_left;(simp only [uc,uA,uB,uC,uZ,ua];rfl)
      refine take_ (i := 15) (N := some 23) (v := ?_) (a' := ?_) #[T,T,T,T,T,T,T,T,T,T,T,T,T,T,T,T,F,F,F,T,F,F,F] rfl rfl (take_ofW HT_.out HW_.out (by kernel_rfl)) (fun _ _ _ h => h) (Or.inl ⟨by rfl, ?_⟩) hHeld ?_ ?_
      rotate_left;(rintro w' ⟨s0, s1, s2, s3, s4, s5, s6⟩;go_simp;with_reducible rfl);rotate_left;(simp only [uc,uA,uB,uC,uZ,ua];rfl)
      refine ub (i := 16) (N := some 24) (v := ?_) (a' := ?_) #[T,T,T,T,T,T,T,T,T,T,T,T,T,T,T,T,T,F,F,T,F,F,F] rfl rfl (uY HT_.out (by kernel_rfl)) (fun _ _ _ h => h) (Or.inl ⟨by rfl, ?_⟩) ?_ ?_
      rotate_left;(intro w';go_simp;with_reducible rfl);rotate_left;(simp only [uc,uA,uB,uC,uZ,ua];rfl)
      refine ub (i := 17) (N := some 25) (v := ?_) (a' := ?_) #[T,T,T,T,T,T,T,T,T,T,T,T,T,T,T,T,T,T,F,T,F,F,F] rfl rfl (uY HT_.out (by kernel_rfl)) (fun _ _ _ h => h) (Or.inl ⟨by rfl, ?_⟩) ?_ ?_
      rotate_left;(intro w';go_simp;with_reducible rfl);rotate_left;(simp only [uc,uA,uB,uC,uZ,ua];rfl)
      refine take_ (i := 18) (N := some 26) (v := ?_) (a' := ?_) #[T,T,T,T,T,T,T,T,T,T,T,T,T,T,T,T,T,T,T,T,F,F,F] rfl rfl (take_ofW HT_.out HW_.out (by kernel_rfl)) (fun _ _ _ h => h) (Or.inl ⟨by rfl, ?_⟩) hHeld ?_ ?_
      rotate_left;(rintro w' ⟨s0, s1, s2, s3, s4, s5, s6⟩;go_simp;with_reducible rfl);rotate_left;(simp only [uc,uA,uB,uC,uZ,ua];rfl)
      refine take_ (i := 20) (N := some 28) (v := ?_) (a' := ?_) #[T,T,T,T,T,T,T,T,T,T,T,T,T,T,T,T,T,T,T,T,T,F,F] rfl rfl (take_ofW HT_.out HW_.out (by kernel_rfl)) (fun _ _ _ h => h) (Or.inl ⟨by rfl, ?_⟩) hHeld ?_ ?_
      rotate_left;(rintro w' ⟨s0, s1, s2, s3, s4, s5, s6⟩;go_simp;with_reducible rfl);rotate_left;(simp only [uc,uA,uB,uC,uZ,ua];rfl)
      refine ub (i := 21) (N := some 29) (v := ?_) (a' := ?_) #[T,T,T,T,T,T,T,T,T,T,T,T,T,T,T,T,T,T,T,T,T,T,F] rfl rfl (uY HT_.out (by kernel_rfl)) (fun _ _ _ h => h) (Or.inl ⟨by rfl, ?_⟩) ?_ ?_
      rotate_left;(intro w';go_simp;with_reducible rfl);rotate_left;(simp only [uc,uA,uB,uC,uZ,ua];rfl)
      refine ub (i := 22) (N := some 30) (v := ?_) (a' := ?_) #[T,T,T,T,T,T,T,T,T,T,T,T,T,T,T,T,T,T,T,T,T,T,T] rfl rfl (uY HT_.out (by kernel_rfl)) (fun _ _ _ h => h) (Or.inl ⟨by rfl, ?_⟩) ?_ ?_
      rotate_left;(intro w';go_simp;with_reducible rfl);rotate_left;(simp only [uc,uA,uB,uC,uZ,ua];rfl)
      refine done_ (done_of HT_.out (by kernel_rfl)) ?_
      obtain ⟨hcz52_0, hcz52_1, hcz52_2, hcz52_3, hfz52_0, hfz52_1, hfz52_2, hfz52_3⟩ := cz4 BK252
      obtain ⟨hcz53_0, hcz53_1, hcz53_2, hcz53_3, hfz53_0, hfz53_1, hfz53_2, hfz53_3⟩ := cz4 BK245
      try go_wp2
      refine bodyPost_ret (results_ctt rfl _ _ gb245 29 #[.int .i64 t246, .int .i64 t247, .bool t248, .slice Ao48 t249.length co48] (0, 0) _ rfl (by (with_reducible repeat (first | refine uH ?_ _ | refine uJ ?_ | refine uG ?_ _)); refine uP (cs := #[.int .i64 t246, .int .i64 t247, .bool t248, .slice none 0 0]) ?_ 3 _ rfl; (with_reducible repeat (first | refine uH ?_ _ | refine uJ ?_ | refine uG ?_ _)); refine uP (cs := #[.int .i64 t246, .int .i64 t247, .bool false, .slice none 0 0]) ?_ 2 _ rfl; (with_reducible repeat (first | refine uH ?_ _ | refine uJ ?_ | refine uG ?_ _)); refine uP (cs := #[.int .i64 t246, .int .i64 0, .bool false, .slice none 0 0]) ?_ 1 _ rfl; (with_reducible repeat (first | refine uH ?_ _ | refine uJ ?_ | refine uG ?_ _)); refine uP (cs := #[.int .i64 0, .int .i64 0, .bool false, .slice none 0 0]) ?_ 0 _ rfl; (with_reducible repeat (first | refine uH ?_ _ | refine uJ ?_ | refine uG ?_ _)); exact BK245.out) Try.underlying29 rfl (by kernel_rfl)) rfl ?_
      exact ⟨_, by first | rfl | (simp [errW_none, errW_some] <;> rfl) | (simp [*, errW_none, errW_some] <;> rfl), Kd.Q_of_R (by (with_reducible repeat (first | apply uU | apply uS | apply uT)); exact uX (uV (p := ⟨gb245, 3, none⟩) (uV (p := ⟨gb245, 2, none⟩) (uV (p := ⟨gb245, 1, none⟩) (uV (p := ⟨gb245, 0, none⟩) (uW HO251.out BK245.out (by decide)) (fun _ hk => hk.2) (.int .i64 t246)) (fun _ hk => hk.2) (.int .i64 t247)) (fun _ hk => hk.2) (.bool t248)) (fun _ hk => hk.2) (.slice Ao48 t249.length co48)) (fun _ hk => trivial)), pb HB⟩
     ·rw [if_neg c38] at H
      have c38b0 : decide (((rd_T53 l0_3 0).f1) < a0_0) = false := decide_eq_false c38
      clear c38
      by_cases c54 : 1 ≤ (t249.length : Int)
      ·rw [if_pos c54] at H
       have c54b0 := eq_true c54
       have c54b1 : decide (1 ≤ (t249.length : Int)) = true := decide_eq_true c54
       clear c54
       obtain ⟨y255, hy255⟩ : ∃ y_ : List (S53), y_ = (t249.drop (1 : Int).toNat) := ⟨_, rfl⟩
       replace H : (some (t246, t247, t248, y255, (rd_T53 l0_3 0).f0, true)) = some (r1, r2, r3, r4, r5, r6) := by first | (rw [hy255]; with_reducible exact H) | (have H2_ := (Option.bind_some _ _).symm.trans H; rw [hy255]; with_reducible exact H2_) | (have H2_ := (Option.bind_some _ _).symm.trans H; with_reducible exact H2_) | with_reducible exact H | (rw [hy255]; exact H) | exact H
       have Ny255 := uD hy255
       clear hy255
       simp only [Option.some.injEq, Prod.mk.injEq] at H
       obtain ⟨rfl, rfl, rfl, rfl, rfl, rfl⟩ := H
       go_enter Try.func27, Try.ntmps27
       try go_wp2_with (first | ((with_reducible refine gate_dst (N := 1) rfl ?_); (try (refine gate_guard (by rfl) ?_; dsimp only)); refine box_event ?hg (N := 1) ?hd (cs := #[.int .i64 a0_0, .int .i64 a0_1, .bool false, .slice A0_3 l0_3.length c0_3]) (t := 29) ?hr ?_; (case hd => rfl); (case hg => rfl); (case hr => first | (go_simp; done) | (go_simp; rfl)); intro gb244 hg w55 hbox hb; have BK244 := uD (hbox); have GW244 := uD ((by rw [hg]; exact (uN (pb HB)) : w.heap.size ≤ gb244)); have GE244 := uD ((by rw [hg]; exact (uN (pb HB)) : w.heap.size ≤ gb244)); replace HB := uD (uO (pb HB) hb); clear hb hbox hg) | ((with_reducible refine gate_dst (N := 2) rfl ?_); (try (refine gate_guard (by rfl) ?_; dsimp only)); refine box_event ?hg (N := 2) ?hd (cs := #[.int .i64 0, .int .i64 0, .bool false, .slice none 0 0]) (t := 29) ?hr ?_; (case hd => rfl); (case hg => rfl); (case hr => first | (go_simp; done) | (go_simp; rfl)); intro gb245 hg w56 hbox hb; have BK245 := uD (hbox); have GW245 := uD ((by rw [hg]; exact (uN (pb HB)) : w.heap.size ≤ gb245)); have GE245 := uD ((by rw [hg]; exact (uN (pb HB)) : w.heap.size ≤ gb245)); replace HB := uD (uO (pb HB) hb); have NB244_245 := uD ((by rw [hg]; exact Nat.ne_of_lt (blk_lt (g := gb244) (o := .cells #[.int .i64 a0_0, .int .i64 a0_1, .bool false, .slice A0_3 l0_3.length c0_3] 29 (0, 0)) (pk BK244)) : gb244 ≠ gb245)); have NB245_244 := uD ((by rw [hg]; exact Nat.ne_of_gt (blk_lt (g := gb244) (o := .cells #[.int .i64 a0_0, .int .i64 a0_1, .bool false, .slice A0_3 l0_3.length c0_3] 29 (0, 0)) (pk BK244)) : gb245 ≠ gb244)); replace BK244 := uD (blk_below (pk BK244) hb); clear hb hbox hg; have hnb57 := NB244_245.out; have hnc57 := NB245_244.out; obtain ⟨hcz58_0, hcz58_1, hcz58_2, hcz58_3, hfz58_0, hfz58_1, hfz58_2, hfz58_3⟩ := cz4 BK244) | ((with_reducible refine gate_callee (f := 54) rfl ?_); refine goesL_ (some 7) rfl rfl Try.func54 (by kernel_rfl) rfl #[.agg #[.int .i64 a0_0, .int .i64 a0_1, .bool false, .slice A0_3 l0_3.length c0_3]] rfl (by (try simp only [List.map_toArray, List.map_cons, List.map_nil]); first | done | rfl | (simp only [List.length_drop, List.length_take]; rfl)) ?_; (with_reducible refine (impl_copyBelt.calls a0_0 a0_1 false _ _ l0_3 t246 t247 t248 t249 _ ?side1 ?side2 A2.out).mono ?_); (case side1 => repeat (first | exact (Kd.C_below HR0_3.out HB.out) | (with_reducible refine Kd.C_alloc ?_ _) | (with_reducible refine Kd.C_drewN ?_ _) | (with_reducible refine Kd.C_drew ?_))); (case side2 => exact HC0_3.out); rintro e w59 ⟨v250, rfl, ho0, hb⟩; refine ⟨_, rfl, ?_⟩; have HO251 := uD (Kd.R_lower ho0 (uN (pb HB))); replace BK244 := uD (blk_below (pk BK244) hb); replace BK245 := uD (blk_below (pk BK245) hb); replace HB := uD (uO (pb HB) hb); (try clear hb); (try clear hb2); (try clear hk); (try clear hi); (try clear ho0)) | ((with_reducible refine gate_dst (N := 5) rfl ?_); (try (refine gate_guard (by rfl) ?_; dsimp only)); refine box_event ?hg (N := 5) ?hd (cs := #[.int .i64 0, .int .i64 0, .bool false, .slice none 0 0]) (t := 29) ?hr ?_; (case hd => rfl); (case hg => rfl); (case hr => first | (go_simp; done) | (go_simp; rfl)); intro gb252 hg w60 hbox hb; replace HO251 := uD (Kd.R_below (pr HO251) hb); have BK252 := uD (hbox); have GW252 := uD ((by rw [hg]; exact (uN (pb HB)) : w.heap.size ≤ gb252)); have GE252 := uD ((by rw [hg]; exact (uN (pb HB)) : w.heap.size ≤ gb252)); replace HB := uD (uO (pb HB) hb); have NB244_252 := uD ((by rw [hg]; exact Nat.ne_of_lt (blk_lt (g := gb244) (o := .cells #[.int .i64 a0_0, .int .i64 a0_1, .bool false, .slice A0_3 l0_3.length c0_3] 29 (0, 0)) (pk BK244)) : gb244 ≠ gb252)); have NB252_244 := uD ((by rw [hg]; exact Nat.ne_of_gt (blk_lt (g := gb244) (o := .cells #[.int .i64 a0_0, .int .i64 a0_1, .bool false, .slice A0_3 l0_3.length c0_3] 29 (0, 0)) (pk BK244)) : gb252 ≠ gb244)); replace BK244 := uD (blk_below (pk BK244) hb); have NB245_252 := uD ((by rw [hg]; exact Nat.ne_of_lt (blk_lt (g := gb245) (o := .cells #[.int .i64 0, .int .i64 0, .bool false, .slice none 0 0] 29 (0, 0)) (pk BK245)) : gb245 ≠ gb252)); have NB252_245 := uD ((by rw [hg]; exact Nat.ne_of_gt (blk_lt (g := gb245) (o := .cells #[.int .i64 0, .int .i64 0, .bool false, .slice none 0 0] 29 (0, 0)) (pk BK245)) : gb252 ≠ gb245)); replace BK245 := uD (blk_below (pk BK245) hb); clear hb hbox hg; have hnb61 := NB252_244.out; have hnc61 := NB244_252.out; have hnb62 := NB252_245.out; have hnc62 := NB245_252.out; obtain ⟨hcz63_0, hcz63_1, hcz63_2, hcz63_3, hfz63_0, hfz63_1, hfz63_2, hfz63_3⟩ := cz4 BK252; obtain ⟨Ao64, co64, eo64⟩ := Kd.R_slice HO251.out; subst eo64))
       have n0_ : Aside0 (Kd.R k53 53 ((((w60.setCell ⟨gb252, 0, none⟩ (.int .i64 t246)).setCell ⟨gb252, 1, none⟩ (.int .i64 t247)).setCell ⟨gb252, 2, none⟩ (.bool t248)).setCell ⟨gb252, 3, none⟩ (.slice Ao64 t249.length co64)) w.heap.size (fun _ => True) (.slice Ao64 t249.length co64) t249) := ⟨by (with_reducible repeat (first | apply uU | apply uS | apply uT)); exact uX (uV (p := ⟨gb252, 3, none⟩) (uV (p := ⟨gb252, 2, none⟩) (uV (p := ⟨gb252, 1, none⟩) (uV (p := ⟨gb252, 0, none⟩) (uW HO251.out BK252.out (by decide)) (fun _ hk => hk.2) (.int .i64 t246)) (fun _ hk => hk.2) (.int .i64 t247)) (fun _ hk => hk.2) (.bool t248)) (fun _ hk => hk.2) (.slice Ao64 t249.length co64)) (fun _ hk => trivial)⟩
       have n1_ : Aside0 (((((w60.setCell ⟨gb252, 0, none⟩ (.int .i64 t246)).setCell ⟨gb252, 1, none⟩ (.int .i64 t247)).setCell ⟨gb252, 2, none⟩ (.bool t248)).setCell ⟨gb252, 3, none⟩ (.slice Ao64 t249.length co64)).heap[gb244]? = some (.cells #[.int .i64 a0_0, .int .i64 a0_1, .bool false, .slice A0_3 l0_3.length c0_3] 29 (0, 0))) := ⟨by (with_reducible repeat (first | refine uH ?_ _ | refine uJ ?_ | refine uG ?_ _)); refine uQ ?_ NB244_252.out _; (with_reducible repeat (first | refine uH ?_ _ | refine uJ ?_ | refine uG ?_ _)); refine uQ ?_ NB244_252.out _; (with_reducible repeat (first | refine uH ?_ _ | refine uJ ?_ | refine uG ?_ _)); refine uQ ?_ NB244_252.out _; (with_reducible repeat (first | refine uH ?_ _ | refine uJ ?_ | refine uG ?_ _)); refine uQ ?_ NB244_252.out _; (with_reducible repeat (first | refine uH ?_ _ | refine uJ ?_ | refine uG ?_ _)); exact BK244.out⟩
       have n2_ : Aside0 (((((w60.setCell ⟨gb252, 0, none⟩ (.int .i64 t246)).setCell ⟨gb252, 1, none⟩ (.int .i64 t247)).setCell ⟨gb252, 2, none⟩ (.bool t248)).setCell ⟨gb252, 3, none⟩ (.slice Ao64 t249.length co64)).heap[gb245]? = some (.cells #[.int .i64 0, .int .i64 0, .bool false, .slice none 0 0] 29 (0, 0))) := ⟨by (with_reducible repeat (first | refine uH ?_ _ | refine uJ ?_ | refine uG ?_ _)); refine uQ ?_ NB245_252.out _; (with_reducible repeat (first | refine uH ?_ _ | refine uJ ?_ | refine uG ?_ _)); refine uQ ?_ NB245_252.out _; (with_reducible repeat (first | refine uH ?_ _ | refine uJ ?_ | refine uG ?_ _)); refine uQ ?_ NB245_252.out _; (with_reducible repeat (first | refine uH ?_ _ | refine uJ ?_ | refine uG ?_ _)); refine uQ ?_ NB245_252.out _; (with_reducible repeat (first | refine uH ?_ _ | refine uJ ?_ | refine uG ?_ _)); exact BK245.out⟩
       have n3_ : Aside0 (((((w60.setCell ⟨gb252, 0, none⟩ (.int .i64 t246)).setCell ⟨gb252, 1, none⟩ (.int .i64 t247)).setCell ⟨gb252, 2, none⟩ (.bool t248)).setCell ⟨gb252, 3, none⟩ (.slice Ao64 t249.length co64)).heap[gb252]? = some (.cells #[.int .i64 t246, .int .i64 t247, .bool t248, .slice Ao64 t249.length co64] 29 (0, 0))) := ⟨by (with_reducible repeat (first | refine uH ?_ _ | refine uJ ?_ | refine uG ?_ _)); refine uP (cs := #[.int .i64 t246, .int .i64 t247, .bool t248, .slice none 0 0]) ?_ 3 _ rfl; (with_reducible repeat (first | refine uH ?_ _ | refine uJ ?_ | refine uG ?_ _)); refine uP (cs := #[.int .i64 t246, .int .i64 t247, .bool false, .slice none 0 0]) ?_ 2 _ rfl; (with_reducible repeat (first | refine uH ?_ _ | refine uJ ?_ | refine uG ?_ _)); refine uP (cs := #[.int .i64 t246, .int .i64 0, .bool false, .slice none 0 0]) ?_ 1 _ rfl; (with_reducible repeat (first | refine uH ?_ _ | refine uJ ?_ | refine uG ?_ _)); refine uP (cs := #[.int .i64 0, .int .i64 0, .bool false, .slice none 0 0]) ?_ 0 _ rfl; (with_reducible repeat (first | refine uH ?_ _ | refine uJ ?_ | refine uG ?_ _)); exact BK252.out⟩
       have n4_ : Aside0 (Below w.heap.size w ((((w60.setCell ⟨gb252, 0, none⟩ (.int .i64 t246)).setCell ⟨gb252, 1, none⟩ (.int .i64 t247)).setCell ⟨gb252, 2, none⟩ (.bool t248)).setCell ⟨gb252, 3, none⟩ (.slice Ao64 t249.length co64))) := ⟨pb HB⟩
       (try clear HO251)
       (try clear BK244)
       (try clear BK245)
       (try clear BK252)
       (try clear HB)
       generalize ((((w60.setCell ⟨gb252, 0, none⟩ (.int .i64 t246)).setCell ⟨gb252, 1, none⟩ (.int .i64 t247)).setCell ⟨gb252, 2, none⟩ (.bool t248)).setCell ⟨gb252, 3, none⟩ (.slice Ao64 t249.length co64)) = w65 at n0_ n1_ n2_ n3_ n4_ ⊢
       have HO251 := n0_
       have BK244 := n1_
       have BK245 := n2_
       have BK252 := n3_
       have HB := n4_
       clear n0_ n1_ n2_ n3_ n4_
       replace HO251 := uD (uT HO251.out)
       replace BK244 := uD (uJ BK244.out)
       replace BK245 := uD (uJ BK245.out)
       replace BK252 := uD (uJ BK252.out)
       replace HB := uD (uK HB.out)
       have p254 : 0 ≤ (0 : Int) := (by omega)
       have q254 : 0 < (l0_3.length : Int) := of_decide_eq_true (by first | (with_reducible assumption) | assumption)
       obtain ⟨ad254, e254, hx254_0, hx254_1, hx254_2⟩ := at_T53 HR0_3.out 0 p254 q254
       have hw254_2 := hx254_2
       (try rw [show ((0 : Int)).toNat = 0 from rfl] at hw254_2)
       (try rw [show 0 * 3 = 0 from rfl] at hw254_2)
       (try rw [Addr.add_zero'] at hw254_2)
       have hw254_1 := hx254_1
       (try rw [show ((0 : Int)).toNat = 0 from rfl] at hw254_1)
       (try rw [show 0 * 3 = 0 from rfl] at hw254_1)
       (try rw [Addr.add_zero'] at hw254_1)
       have hw254_0 := hx254_0
       (try rw [show ((0 : Int)).toNat = 0 from rfl] at hw254_0)
       (try rw [show 0 * 3 = 0 from rfl] at hw254_0)
       (try rw [Addr.add_zero'] at hw254_0)
       cases e254
       have qi254 : (0 < l0_3.length) = True := eq_true (by omega)
       (try rw [show ((0 : Int)).toNat = 0 from rfl] at hx254_0)
       (try rw [show 0 * 3 = 0 from rfl] at hx254_0)
       (try rw [Addr.add_zero'] at hx254_0)
       (try rw [show ((0 : Int)).toNat = 0 from rfl] at hx254_1)
       (try rw [show 0 * 3 = 0 from rfl] at hx254_1)
       (try rw [Addr.add_zero'] at hx254_1)
       (try rw [show ((0 : Int)).toNat = 0 from rfl] at hx254_2)
       (try rw [show 0 * 3 = 0 from rfl] at hx254_2)
       (try rw [Addr.add_zero'] at hx254_2)
       replace hx254_0 := (HB.out.cell (World.block_lt_of_cell? w _ hx254_0)).trans hx254_0
       replace hx254_1 := (HB.out.cell (World.block_lt_of_cell? w _ hx254_1)).trans hx254_1
       replace hx254_2 := (HB.out.cell (World.block_lt_of_cell? w _ hx254_2)).trans hx254_2
       replace p254 := eq_true p254
       replace q254 := eq_true q254
       refine start_ (n := 23) (S := fun w' => w'.cell? ⟨gb244, 0, none⟩ = some (.int .i64 a0_0) ∧ w'.cell? ⟨gb244, 1, none⟩ = some (.int .i64 a0_1) ∧ w'.cell? ⟨gb244, 2, none⟩ = some (.bool false) ∧ w'.cell? ⟨gb244, 3, none⟩ = some (.slice (some ad254) l0_3.length c0_3) ∧ w'.cell? ad254 = some (.int .i64 ((rd_T53 l0_3 0).f0)) ∧ w'.cell? ⟨ad254.block, ad254.off + 1, none⟩ = some (.int .i64 ((rd_T53 l0_3 0).f1)) ∧ w'.cell? ⟨ad254.block, ad254.off + 2, none⟩ = some (.int .i64 ((rd_T53 l0_3 0).f2))) (ds := []) #[F,F,F,F,F,F,F,F,F,F,F,F,F,F,F,F,F,F,F,F,F,F,F] (by kernel_rfl) rfl rfl ⟨(uF BK244.out 0).trans rfl, (uF BK244.out 1).trans rfl, (uF BK244.out 2).trans rfl, (uF BK244.out 3).trans rfl, ((HB.out.cell (World.block_lt_of_cell? w _ hw254_0)).trans hw254_0), ((HB.out.cell (World.block_lt_of_cell? w _ hw254_1)).trans hw254_1), ((HB.out.cell (World.block_lt_of_cell? w _ hw254_2)).trans hw254_2)⟩ (fun hHeld => ?_); refine with_tabW impl_Leave.tab2 impl_Leave.bits2 (fun HT_ HW_ => ?_)
       generalize w65.drew = w66 at HO251 BK244 BK245 BK252 HB HO251 hx254_0 hx254_1 hx254_2 hHeld ⊢
       refine take_ (i := 0) (N := some 8) (v := ?_) (a' := ?_) #[T,F,F,F,F,F,F,F,F,F,F,F,F,F,F,F,F,F,F,F,F,F,F] rfl rfl (take_ofW HT_.out HW_.out (by kernel_rfl)) (fun _ _ _ h => h) (Or.inl ⟨by rfl, ?_⟩) hHeld ?_ ?_
       rotate_left;(rintro w' ⟨s0, s1, s2, s3, s4, s5, s6⟩;go_simp;with_reducible rfl);rotate_left;(simp only [uc,uA,uB,uC,uZ,ua];rfl)
       refine one_ (i := 1) (N := some 9) #[T,T,F,F,F,F,F,F,F,F,F,F,F,F,F,F,F,F,F,F,F,F,F] rfl rfl (one_of HT_.out (by kernel_rfl)) (by decide) (fun K hK => ?_)
       refine goes_ Try.func18 (by kernel_rfl) rfl #[.agg #[.int .i64 a0_0, .int .i64 a0_1, .bool false, .slice (some ad254) l0_3.length c0_3]] (by rfl) rfl rfl (by (try simp only [List.map_toArray, List.map_cons, List.map_nil]); first | done | rfl | (simp only [List.length_drop, List.length_take]; rfl)) ?_
       with_reducible refine (impl_BeltOk.calls k a0_0 a0_1 false _ _ l0_3 true _ ?side1 ?side2 A3.out).mono ?_
       (case side1 => repeat (first | exact (Kd.C_below HR0_3.out HB.out) | (with_reducible refine Kd.C_alloc ?_ _) | (with_reducible refine Kd.C_drewN ?_ _) | (with_reducible refine Kd.C_drew ?_)))
       (case side2 => exact HC0_3.out)
       rintro e w67 ⟨rfl, hb⟩
       refine ⟨_, rfl, ?_⟩
       replace HO251 := uD (Kd.R_below (pr HO251) hb)
       replace BK244 := uD (blk_below (pk BK244) hb)
       replace BK245 := uD (blk_below (pk BK245) hb)
       replace BK252 := uD (blk_below (pk BK252) hb)
       replace HB := uD (uO (pb HB) hb)
       (try clear hb)
       (try clear hb2)
       (try clear hk)
       (try clear hi)
       refine hK.out _ _ ⟨(uF BK244.out 0).trans rfl, (uF BK244.out 1).trans rfl, (uF BK244.out 2).trans rfl, (uF BK244.out 3).trans rfl, ((HB.out.cell (World.block_lt_of_cell? w _ hw254_0)).trans hw254_0), ((HB.out.cell (World.block_lt_of_cell? w _ hw254_1)).trans hw254_1), ((HB.out.cell (World.block_lt_of_cell? w _ hw254_2)).trans hw254_2)⟩ (fun hHeld => ?_)
       clear hK K
       refine norm_ (a' := ?_) ?_ ?_
       rotate_left
       ·show uc _ (some 9) _ = _
        simp only [uc, uA, uB, uC, uZ, ua]
        rfl
       refine ub (i := 2) (N := some 10) (v := ?_) (a' := ?_) #[T,T,T,F,F,F,F,F,F,F,F,F,F,F,F,F,F,F,F,F,F,F,F] rfl rfl (uY HT_.out (by kernel_rfl)) (fun _ _ _ h => h) (Or.inl ⟨by rfl, ?_⟩) ?_ ?_
       rotate_left;(intro w';go_simp;with_reducible rfl);rotate_left;(simp only [uc,uA,uB,uC,uZ,ua];rfl)
       refine ub (i := 3) (N := some 11) (v := ?_) (a' := ?_) #[T,T,T,T,F,F,F,F,F,F,F,F,F,F,F,F,F,F,F,F,F,F,F] rfl rfl (uY HT_.out (by kernel_rfl)) (fun _ _ _ h => h) (Or.inl ⟨by rfl, ?_⟩) ?_ ?_
       rotate_left;(intro w';go_simp;with_reducible rfl);rotate_left;(simp only [uc,uA,uB,uC,uZ,ua];rfl)
       refine ub (i := 4) (N := some 12) (v := ?_) (a' := ?_) #[T,T,T,T,T,F,F,F,F,F,F,F,F,F,F,F,F,F,F,F,F,F,F] rfl rfl (uY HT_.out (by kernel_rfl)) (fun _ _ _ h => h) (Or.inl ⟨by rfl, ?_⟩) ?_ ?_
       rotate_left;(intro w';go_simp;with_reducible rfl);rotate_left;(simp only [uc,uA,uB,uC,uZ,ua];rfl)
       refine take_ (i := 5) (N := some 13) (v := ?_) (a' := ?_) #[T,T,T,T,T,T,F,F,F,F,F,F,F,F,F,F,F,F,F,F,F,F,F] rfl rfl (take_ofW HT_.out HW_.out (by kernel_rfl)) (fun _ _ _ h => h) (Or.inl ⟨by rfl, ?_⟩) hHeld ?_ ?_
       rotate_left;(rintro w' ⟨s0, s1, s2, s3, s4, s5, s6⟩;go_simp;with_reducible rfl);rotate_left;(simp only [uc,uA,uB,uC,uZ,ua];rfl)
       refine ub (i := 6) (N := some 14) (v := ?_) (a' := ?_) #[T,T,T,T,T,T,T,F,F,F,F,F,F,F,F,F,F,F,F,F,F,F,F] rfl rfl (uY HT_.out (by kernel_rfl)) (fun _ _ _ h => h) (Or.inl ⟨by rfl, ?_⟩) ?_ ?_
       rotate_left;(intro w';go_simp;with_reducible rfl);rotate_left;(simp only [uc,uA,uB,uC,uZ,ua];rfl)
       refine ub (i := 7) (N := some 15) (v := ?_) (a' := ?_) #[T,T,T,T,T,T,T,T,F,F,F,F,F,F,F,F,F,F,F,F,F,F,F] rfl rfl (uY HT_.out (by kernel_rfl)) (fun _ _ _ h => h) (Or.inl ⟨by rfl, ?_⟩) ?_ ?_
       rotate_left;(intro w';go_simp;with_reducible rfl);rotate_left;(simp only [uc,uA,uB,uC,uZ,ua];rfl)
       refine ub (i := 8) (N := some 16) (v := ?_) (a' := ?_) #[T,T,T,T,T,T,T,T,T,F,F,F,F,F,F,F,F,F,F,F,F,F,F] rfl rfl (uY HT_.out (by kernel_rfl)) (fun _ _ _ h => h) (Or.inl ⟨by rfl, ?_⟩) ?_ ?_
       rotate_left;(intro w';go_simp;with_reducible rfl);rotate_left;(simp only [uc,uA,uB,uC,uZ,ua];rfl)
       refine take_ (i := 9) (N := some 17) (v := ?_) (a' := ?_) #[T,T,T,T,T,T,T,T,T,T,F,F,F,F,F,F,F,F,F,F,F,F,F] rfl rfl (take_ofW HT_.out HW_.out (by kernel_rfl)) (fun _ _ _ h => h) (Or.inl ⟨by rfl, ?_⟩) hHeld ?_ ?_
       rotate_left;(rintro w' ⟨s0, s1, s2, s3, s4, s5, s6⟩;go_simp;with_reducible rfl);rotate_left;(simp only [uc,uA,uB,uC,uZ,ua];rfl)
       refine ub (i := 10) (N := some 18) (v := ?_) (a' := ?_) #[T,T,T,T,T,T,T,T,T,T,T,F,F,F,F,F,F,F,F,F,F,F,F] rfl rfl (uY HT_.out (by kernel_rfl)) (fun _ _ _ h => h) (Or.inl ⟨by rfl, ?_⟩) ?_ ?_
       rotate_left;(intro w';go_simp;with_reducible rfl);rotate_left;(simp only [uc,uA,uB,uC,uZ,ua];rfl)
       refine ub (i := 11) (N := some 19) (v := ?_) (a' := ?_) #[T,T,T,T,T,T,T,T,T,T,T,T,F,F,F,F,F,F,F,F,F,F,F] rfl rfl (uY HT_.out (by kernel_rfl)) (fun _ _ _ h => h) (Or.inl ⟨by rfl, ?_⟩) ?_ ?_
       rotate_left;(intro w';go_simp;with_reducible rfl);rotate_left;(simp only [uc,uA,uB,uC,uZ,ua];rfl)
       refine ub (i := 12) (N := some 20) (v := ?_) (a' := ?_) #[T,T,T,T,T,T,T,T,T,T,T,T,T,F,F,F,F,F,F,F,F,F,F] rfl rfl (uY HT_.out (by kernel_rfl)) (fun _ _ _ h => h) (Or.inl ⟨by rfl, ?_⟩) ?_ ?_
       rotate_left;(intro w';go_simp;with_reducible rfl);rotate_left;(simp only [uc,uA,uB,uC,uZ,ua];rfl)
       refine ub (i := 13) (N := some 21) (v := ?_) (a' := ?_) #[T,T,T,T,T,T,T,T,T,T,T,T,T,T,F,F,F,F,F,F,F,F,F] rfl rfl (uY HT_.out (by kernel_rfl)) (fun _ _ _ h => h) (Or.inl ⟨by rfl, ?_⟩) ?_ ?_
       rotate_left;(intro w';go_simp;with_reducible rfl);rotate_left;(simp only [uc,uA,uB,uC,uZ,ua];rfl)
       refine ub (i := 14) (N := some 22) (v := ?_) (a' := ?_) #[T,T,T,T,T,T,T,T,T,T,T,T,T,T,T,F,F,F,F,F,F,F,F] rfl rfl (uY HT_.out (by kernel_rfl)) (fun _ _ _ h => h) (Or.inl ⟨by rfl, ?_⟩) ?_ ?_
       rotate_left;(intro w';go_simp;with_reducible rfl);rotate_left;(simp only [uc,uA,uB,uC,uZ,ua];rfl)
       refine ub (i := 19) (N := some 27) (v := ?_) (a' := ?_) #[T,T,T,T,T,T,T,T,T,T,T,T,T,T,T,F,F,F,F,T,F,F,F] rfl rfl (uY HT_.out (by kernel_rfl)) (fun _ _ _ h => h) (Or.inl ⟨by rfl, ?_⟩) ?_ ?_
       rotate_left;(intro w';go_simp;with_reducible rfl);rotate_left;(simp only [uc,uA,uB,uC,uZ,ua];rfl)
       refine take_ (i := 15) (N := some 23) (v := ?_) (a' := ?_) #[T,T,T,T,T,T,T,T,T,T,T,T,T,T,T,T,F,F,F,T,F,F,F] rfl rfl (take_ofW HT_.out HW_.out (by kernel_rfl)) (fun _ _ _ h => h) (Or.inl ⟨by rfl, ?_⟩) hHeld ?_ ?_
       rotate_left;(rintro w' ⟨s0, s1, s2, s3, s4, s5, s6⟩;go_simp;with_reducible rfl);rotate_left;(simp only [uc,uA,uB,uC,uZ,ua];rfl)
       refine ub (i := 16) (N := some 24) (v := ?_) (a' := ?_) #[T,T,T,T,T,T,T,T,T,T,T,T,T,T,T,T,T,F,F,T,F,F,F] rfl rfl (uY HT_.out (by kernel_rfl)) (fun _ _ _ h => h) (Or.inl ⟨by rfl, ?_⟩) ?_ ?_
       rotate_left;(intro w';go_simp;with_reducible rfl);rotate_left;(simp only [uc,uA,uB,uC,uZ,ua];rfl)
       refine ub (i := 17) (N := some 25) (v := ?_) (a' := ?_) #[T,T,T,T,T,T,T,T,T,T,T,T,T,T,T,T,T,T,F,T,F,F,F] rfl rfl (uY HT_.out (by kernel_rfl)) (fun _ _ _ h => h) (Or.inl ⟨by rfl, ?_⟩) ?_ ?_
       rotate_left;(intro w';go_simp;with_reducible rfl);rotate_left;(simp only [uc,uA,uB,uC,uZ,ua];rfl)
       refine take_ (i := 18) (N := some 26) (v := ?_) (a' := ?_) #[T,T,T,T,T,T,T,T,T,T,T,T,T,T,T,T,T,T,T,T,F,F,F] rfl rfl (take_ofW HT_.out HW_.out (by kernel_rfl)) (fun _ _ _ h => h) (Or.inl ⟨by rfl, ?_⟩) hHeld ?_ ?_
       rotate_left;(rintro w' ⟨s0, s1, s2, s3, s4, s5, s6⟩;go_simp;with_reducible rfl);rotate_left;(simp only [uc,uA,uB,uC,uZ,ua];rfl)
       refine take_ (i := 20) (N := some 28) (v := ?_) (a' := ?_) #[T,T,T,T,T,T,T,T,T,T,T,T,T,T,T,T,T,T,T,T,T,F,F] rfl rfl (take_ofW HT_.out HW_.out (by kernel_rfl)) (fun _ _ _ h => h) (Or.inl ⟨by rfl, ?_⟩) hHeld ?_ ?_
       rotate_left;(rintro w' ⟨s0, s1, s2, s3, s4, s5, s6⟩;go_simp;with_reducible rfl);rotate_left;(simp only [uc,uA,uB,uC,uZ,ua];rfl)
       refine ub (i := 21) (N := some 29) (v := ?_) (a' := ?_) #[T,T,T,T,T,T,T,T,T,T,T,T,T,T,T,T,T,T,T,T,T,T,F] rfl rfl (uY HT_.out (by kernel_rfl)) (fun _ _ _ h => h) (Or.inl ⟨by rfl, ?_⟩) ?_ ?_
       rotate_left;(intro w';go_simp;with_reducible rfl);rotate_left;(simp only [uc,uA,uB,uC,uZ,ua];rfl)
       refine ub (i := 22) (N := some 30) (v := ?_) (a' := ?_) #[T,T,T,T,T,T,T,T,T,T,T,T,T,T,T,T,T,T,T,T,T,T,T] rfl rfl (uY HT_.out (by kernel_rfl)) (fun _ _ _ h => h) (Or.inl ⟨by rfl, ?_⟩) ?_ ?_
       rotate_left;(intro w';go_simp;with_reducible rfl);rotate_left;(simp only [uc,uA,uB,uC,uZ,ua];rfl)
       refine done_ (done_of HT_.out (by kernel_rfl)) ?_
       obtain ⟨hcz68_0, hcz68_1, hcz68_2, hcz68_3, hfz68_0, hfz68_1, hfz68_2, hfz68_3⟩ := cz4 BK252
       have q69 : (1 : Int) ≤ ((t249.length : Int) : Int) := of_decide_eq_true (by first | (with_reducible assumption) | assumption)
       obtain ⟨i069, hi069, _, hsz69, _⟩ := info_parts info53
       have hcut69 := cut_from (P := Try.prog) 27 53 .i64 Try.underlying27 hi069 3 hsz69 Ao64 t249.length co64 1 (by omega) q69
       have hr69 := Kd.Q_drop (k := (1 : Int).toNat) (Kd.Q_of_R HO251.out) (by omega)
       obtain ⟨A69, hA69⟩ : ∃ A1, A1 = (if co64 = (1 : Int).toNat then Ao64 else (Ao64 : Option Addr).map (·.add ((1 : Int).toNat * 3))) := ⟨_, rfl⟩
       obtain ⟨c69, hc69⟩ : ∃ c1, c1 = co64 - (1 : Int).toNat := ⟨_, rfl⟩
       have hy69 : y255.length = t249.length - (1 : Int).toNat := (by rw [Ny255.out, List.length_drop])
       rw [← Ny255.out] at hr69
       rw [← hy69, ← hA69, ← hc69] at hcut69
       replace hr69 : Kd.Q k53 53 w67 w.heap.size (fun _ => True) (.slice A69 y255.length c69) y255 := (by rw [hA69, hc69, hy69]; exact hr69)
       have HE69 : Aside0 ((Value.slice A69 y255.length c69).ownBlock = (.slice Ao64 t249.length co64 : Value).ownBlock) := ⟨by rw [hA69]; split <;> (cases (Ao64 : Option Addr) <;> rfl)⟩
       clear hy69 hi069 hsz69 HO251 hA69 hc69
       have HO257 := uD hr69
       clear hr69
       replace q69 := eq_true q69
       try go_wp2
       have n0_ : Aside0 (Kd.Q k53 53 (w67.setCell ⟨gb252, 3, none⟩ (.slice A69 y255.length c69)) w.heap.size (fun _ => True) (.slice A69 y255.length c69) y255) := ⟨by (with_reducible repeat (first | apply Kd.Q_alloc | apply Kd.Q_drewN | apply Kd.Q_drew)); exact Kd.Q_mono (Kd.Q_far (p := ⟨gb252, 3, none⟩) (Kd.Q_types HO257.out BK252.out (by decide)) (fun _ hk => hk.2) (.slice A69 y255.length c69)) (fun _ hk => trivial)⟩
       have n1_ : Aside0 ((w67.setCell ⟨gb252, 3, none⟩ (.slice A69 y255.length c69)).heap[gb244]? = some (.cells #[.int .i64 a0_0, .int .i64 a0_1, .bool false, .slice (some ad254) l0_3.length c0_3] 29 (0, 0))) := ⟨by (with_reducible repeat (first | refine uH ?_ _ | refine uJ ?_ | refine uG ?_ _)); refine uQ ?_ NB244_252.out _; (with_reducible repeat (first | refine uH ?_ _ | refine uJ ?_ | refine uG ?_ _)); exact BK244.out⟩
       have n2_ : Aside0 ((w67.setCell ⟨gb252, 3, none⟩ (.slice A69 y255.length c69)).heap[gb245]? = some (.cells #[.int .i64 0, .int .i64 0, .bool false, .slice none 0 0] 29 (0, 0))) := ⟨by (with_reducible repeat (first | refine uH ?_ _ | refine uJ ?_ | refine uG ?_ _)); refine uQ ?_ NB245_252.out _; (with_reducible repeat (first | refine uH ?_ _ | refine uJ ?_ | refine uG ?_ _)); exact BK245.out⟩
       have n3_ : Aside0 ((w67.setCell ⟨gb252, 3, none⟩ (.slice A69 y255.length c69)).heap[gb252]? = some (.cells #[.int .i64 t246, .int .i64 t247, .bool t248, .slice A69 y255.length c69] 29 (0, 0))) := ⟨by (with_reducible repeat (first | refine uH ?_ _ | refine uJ ?_ | refine uG ?_ _)); refine uP (cs := #[.int .i64 t246, .int .i64 t247, .bool t248, .slice Ao64 t249.length co64]) ?_ 3 _ rfl; (with_reducible repeat (first | refine uH ?_ _ | refine uJ ?_ | refine uG ?_ _)); exact BK252.out⟩
       have n4_ : Aside0 (Below w.heap.size w (w67.setCell ⟨gb252, 3, none⟩ (.slice A69 y255.length c69))) := ⟨pb HB⟩
       (try clear HO257)
       (try clear BK244)
       (try clear BK245)
       (try clear BK252)
       (try clear HB)
       generalize (w67.setCell ⟨gb252, 3, none⟩ (.slice A69 y255.length c69)) = w70 at n0_ n1_ n2_ n3_ n4_ ⊢
       have HO257 := n0_
       have BK244 := n1_
       have BK245 := n2_
       have BK252 := n3_
       have HB := n4_
       clear n0_ n1_ n2_ n3_ n4_
       replace HO257 := uD (Kd.Q_drew HO257.out)
       replace BK244 := uD (uJ BK244.out)
       replace BK245 := uD (uJ BK245.out)
       replace BK252 := uD (uJ BK252.out)
       replace HB := uD (uK HB.out)
       have p258 : 0 ≤ (0 : Int) := (by omega)
       have q258 : 0 < (l0_3.length : Int) := of_decide_eq_true (by first | (with_reducible assumption) | assumption)
       obtain ⟨ad258, e258, hx258_0, hx258_1, hx258_2⟩ := at_T53 HR0_3.out 0 p258 q258
       have hw258_2 := hx258_2
       (try rw [show ((0 : Int)).toNat = 0 from rfl] at hw258_2)
       (try rw [show 0 * 3 = 0 from rfl] at hw258_2)
       (try rw [Addr.add_zero'] at hw258_2)
       have hw258_1 := hx258_1
       (try rw [show ((0 : Int)).toNat = 0 from rfl] at hw258_1)
       (try rw [show 0 * 3 = 0 from rfl] at hw258_1)
       (try rw [Addr.add_zero'] at hw258_1)
       have hw258_0 := hx258_0
       (try rw [show ((0 : Int)).toNat = 0 from rfl] at hw258_0)
       (try rw [show 0 * 3 = 0 from rfl] at hw258_0)
       (try rw [Addr.add_zero'] at hw258_0)
       obtain rfl : ad254 = ad258 := (by injection e258)
       have qi258 : (0 < l0_3.length) = True := eq_true (by omega)
       (try rw [show ((0 : Int)).toNat = 0 from rfl] at hx258_0)
       (try rw [show 0 * 3 = 0 from rfl] at hx258_0)
       (try rw [Addr.add_zero'] at hx258_0)
       (try rw [show ((0 : Int)).toNat = 0 from rfl] at hx258_1)
       (try rw [show 0 * 3 = 0 from rfl] at hx258_1)
       (try rw [Addr.add_zero'] at hx258_1)
       (try rw [show ((0 : Int)).toNat = 0 from rfl] at hx258_2)
       (try rw [show 0 * 3 = 0 from rfl] at hx258_2)
       (try rw [Addr.add_zero'] at hx258_2)
       replace hx258_0 := (HB.out.cell (World.block_lt_of_cell? w _ hx258_0)).trans hx258_0
       replace hx258_1 := (HB.out.cell (World.block_lt_of_cell? w _ hx258_1)).trans hx258_1
       replace hx258_2 := (HB.out.cell (World.block_lt_of_cell? w _ hx258_2)).trans hx258_2
       replace p258 := eq_true p258
       replace q258 := eq_true q258
       refine start_ (n := 9) (S := fun w' => w'.cell? ⟨gb252, 0, none⟩ = some (.int .i64 t246) ∧ w'.cell? ⟨gb252, 1, none⟩ = some (.int .i64 t247) ∧ w'.cell? ⟨gb252, 2, none⟩ = some (.bool t248) ∧ w'.cell? ⟨gb252, 3, none⟩ = some (.slice A69 y255.length c69) ∧ w'.cell? ⟨gb244, 0, none⟩ = some (.int .i64 a0_0) ∧ w'.cell? ⟨gb244, 1, none⟩ = some (.int .i64 a0_1) ∧ w'.cell? ⟨gb244, 2, none⟩ = some (.bool false) ∧ w'.cell? ⟨gb244, 3, none⟩ = some (.slice (some ad254) l0_3.length c0_3) ∧ w'.cell? ad254 = some (.int .i64 ((rd_T53 l0_3 0).f0)) ∧ w'.cell? ⟨ad254.block, ad254.off + 1, none⟩ = some (.int .i64 ((rd_T53 l0_3 0).f1)) ∧ w'.cell? ⟨ad254.block, ad254.off + 2, none⟩ = some (.int .i64 ((rd_T53 l0_3 0).f2))) (ds := []) #[F,F,F,F,F,F,F,F,F] (by kernel_rfl) rfl rfl ⟨(uF BK252.out 0).trans rfl, (uF BK252.out 1).trans rfl, (uF BK252.out 2).trans rfl, (uF BK252.out 3).trans rfl, (uF BK244.out 0).trans rfl, (uF BK244.out 1).trans rfl, (uF BK244.out 2).trans rfl, (uF BK244.out 3).trans rfl, ((HB.out.cell (World.block_lt_of_cell? w _ hw258_0)).trans hw258_0), ((HB.out.cell (World.block_lt_of_cell? w _ hw258_1)).trans hw258_1), ((HB.out.cell (World.block_lt_of_cell? w _ hw258_2)).trans hw258_2)⟩ (fun hHeld => ?_); refine with_tabW impl_Leave.tab5 impl_Leave.bits5 (fun HT_ HW_ => ?_)
       generalize w70.drew = w71 at HO257 BK244 BK245 BK252 HB HO257 hx258_0 hx258_1 hx258_2 hHeld ⊢
       refine ub (i := 1) (N := some 37) (v := ?_) (a' := ?_) #[F,T,F,F,F,F,F,F,F] rfl rfl (uY HT_.out (by kernel_rfl)) (fun _ _ _ h => h) (Or.inl ⟨by rfl, ?_⟩) ?_ ?_
       rotate_left;(intro w';go_simp;with_reducible rfl);rotate_left;(simp only [uc,uA,uB,uC,uZ,ua];rfl)
       refine take_ (i := 0) (N := some 36) (v := ?_) (a' := ?_) #[T,T,F,F,F,F,F,F,F] rfl rfl (take_ofW HT_.out HW_.out (by kernel_rfl)) (fun _ _ _ h => h) (Or.inl ⟨by rfl, ?_⟩) hHeld ?_ ?_
       rotate_left;(rintro w' ⟨s0, s1, s2, s3, s4, s5, s6, s7, s8, s9, s10⟩;go_simp;with_reducible rfl);rotate_left;(simp only [uc,uA,uB,uC,uZ,ua];rfl)
       refine take_ (i := 2) (N := some 38) (v := ?_) (a' := ?_) #[T,T,T,F,F,F,F,F,F] rfl rfl (take_ofW HT_.out HW_.out (by kernel_rfl)) (fun _ _ _ h => h) (Or.inl ⟨by rfl, ?_⟩) hHeld ?_ ?_
       rotate_left;(rintro w' ⟨s0, s1, s2, s3, s4, s5, s6, s7, s8, s9, s10⟩;go_simp;with_reducible rfl);rotate_left;(simp only [uc,uA,uB,uC,uZ,ua];rfl)
       refine ub (i := 3) (N := some 39) (v := ?_) (a' := ?_) #[T,T,T,T,F,F,F,F,F] rfl rfl (uY HT_.out (by kernel_rfl)) (fun _ _ _ h => h) (Or.inl ⟨by rfl, ?_⟩) ?_ ?_
       rotate_left;(intro w';go_simp;with_reducible rfl);rotate_left;(simp only [uc,uA,uB,uC,uZ,ua];rfl)
       refine ub (i := 4) (N := some 40) (v := ?_) (a' := ?_) #[T,T,T,T,T,F,F,F,F] rfl rfl (uY HT_.out (by kernel_rfl)) (fun _ _ _ h => h) (Or.inl ⟨by rfl, ?_⟩) ?_ ?_
       rotate_left;(intro w';go_simp;with_reducible rfl);rotate_left;(simp only [uc,uA,uB,uC,uZ,ua];rfl)
       refine take_ (i := 5) (N := some 41) (v := ?_) (a' := ?_) #[T,T,T,T,T,T,F,F,F] rfl rfl (take_ofW HT_.out HW_.out (by kernel_rfl)) (fun _ _ _ h => h) (Or.inl ⟨by rfl, ?_⟩) hHeld ?_ ?_
       rotate_left;(rintro w' ⟨s0, s1, s2, s3, s4, s5, s6, s7, s8, s9, s10⟩;go_simp;with_reducible rfl);rotate_left;(simp only [uc,uA,uB,uC,uZ,ua];rfl)
       refine one_ (i := 6) (N := none) #[T,T,T,T,T,T,T,F,F] rfl rfl (one_of HT_.out (by kernel_rfl)) (by decide) (fun K hK => ?_)
       have hs72 : w71.cell? ⟨gb245, 0, none⟩ = some (.int .i64 0) := (uF BK245.out 0).trans rfl
       have hfs72 := uI BK245.out 0
       have hns72_0 := NB244_245.out
       have hns72_2 := NB252_245.out
       have hms72_0 := NB245_244.out
       have hms72_2 := NB245_252.out
       have hs73 : w71.cell? ⟨gb245, 1, none⟩ = some (.int .i64 0) := (uF BK245.out 1).trans rfl
       have hfs73 := uI BK245.out 1
       have hns73_0 := NB244_245.out
       have hns73_2 := NB252_245.out
       have hms73_0 := NB245_244.out
       have hms73_2 := NB245_252.out
       have hs74 : w71.cell? ⟨gb245, 2, none⟩ = some (.bool false) := (uF BK245.out 2).trans rfl
       have hfs74 := uI BK245.out 2
       have hns74_0 := NB244_245.out
       have hns74_2 := NB252_245.out
       have hms74_0 := NB245_244.out
       have hms74_2 := NB245_252.out
       have hs75 : w71.cell? ⟨gb245, 3, none⟩ = some (.slice none 0 0) := (uF BK245.out 3).trans rfl
       have hfs75 := uI BK245.out 3
       have hns75_0 := NB244_245.out
       have hns75_2 := NB252_245.out
       have hms75_0 := NB245_244.out
       have hms75_2 := NB245_252.out
       refine skip_ (w1 := ?_) (by rfl) rfl ?_ ?_
       rotate_left
       ·go_simp
        rfl
       refine hK.out _ _ ⟨((cell_far (p := ⟨gb245, _, none⟩) NB252_245.out _).trans (((cell_far (p := ⟨gb245, _, none⟩) NB252_245.out _).trans (((cell_far (p := ⟨gb245, _, none⟩) NB252_245.out _).trans (((cell_far (p := ⟨gb245, _, none⟩) NB252_245.out _).trans (hHeld.1)))))))), ((cell_far (p := ⟨gb245, _, none⟩) NB252_245.out _).trans (((cell_far (p := ⟨gb245, _, none⟩) NB252_245.out _).trans (((cell_far (p := ⟨gb245, _, none⟩) NB252_245.out _).trans (((cell_far (p := ⟨gb245, _, none⟩) NB252_245.out _).trans (hHeld.2.1)))))))), ((cell_far (p := ⟨gb245, _, none⟩) NB252_245.out _).trans (((cell_far (p := ⟨gb245, _, none⟩) NB252_245.out _).trans (((cell_far (p := ⟨gb245, _, none⟩) NB252_245.out _).trans (((cell_far (p := ⟨gb245, _, none⟩) NB252_245.out _).trans (hHeld.2.2.1)))))))), ((cell_far (p := ⟨gb245, _, none⟩) NB252_245.out _).trans (((cell_far (p := ⟨gb245, _, none⟩) NB252_245.out _).trans (((cell_far (p := ⟨gb245, _, none⟩) NB252_245.out _).trans (((cell_far (p := ⟨gb245, _, none⟩) NB252_245.out _).trans (hHeld.2.2.2.1)))))))), ((cell_far (p := ⟨gb245, _, none⟩) NB244_245.out _).trans (((cell_far (p := ⟨gb245, _, none⟩) NB244_245.out _).trans (((cell_far (p := ⟨gb245, _, none⟩) NB244_245.out _).trans (((cell_far (p := ⟨gb245, _, none⟩) NB244_245.out _).trans (hHeld.2.2.2.2.1)))))))), ((cell_far (p := ⟨gb245, _, none⟩) NB244_245.out _).trans (((cell_far (p := ⟨gb245, _, none⟩) NB244_245.out _).trans (((cell_far (p := ⟨gb245, _, none⟩) NB244_245.out _).trans (((cell_far (p := ⟨gb245, _, none⟩) NB244_245.out _).trans (hHeld.2.2.2.2.2.1)))))))), ((cell_far (p := ⟨gb245, _, none⟩) NB244_245.out _).trans (((cell_far (p := ⟨gb245, _, none⟩) NB244_245.out _).trans (((cell_far (p := ⟨gb245, _, none⟩) NB244_245.out _).trans (((cell_far (p := ⟨gb245, _, none⟩) NB244_245.out _).trans (hHeld.2.2.2.2.2.2.1)))))))), ((cell_far (p := ⟨gb245, _, none⟩) NB244_245.out _).trans (((cell_far (p := ⟨gb245, _, none⟩) NB244_245.out _).trans (((cell_far (p := ⟨gb245, _, none⟩) NB244_245.out _).trans (((cell_far (p := ⟨gb245, _, none⟩) NB244_245.out _).trans (hHeld.2.2.2.2.2.2.2.1)))))))), ((cell_far (p := ⟨gb245, _, none⟩) (by first | exact Nat.ne_of_lt (Nat.lt_of_lt_of_le (by have := World.block_lt_of_cell? _ _ hw258_0; first | rwa [add_block] at this | exact this) GW245.out) | (rw [add_block]; exact Nat.ne_of_lt (Nat.lt_of_lt_of_le (by have := World.block_lt_of_cell? _ _ hw258_0; first | rwa [add_block] at this | exact this) GW245.out)) | (show (Addr.add _ _).block ≠ _; rw [add_block]; exact Nat.ne_of_lt (Nat.lt_of_lt_of_le (by have := World.block_lt_of_cell? _ _ hw258_0; first | rwa [add_block] at this | exact this) GW245.out)) | (dsimp only; exact Nat.ne_of_lt (Nat.lt_of_lt_of_le (by have := World.block_lt_of_cell? _ _ hw258_0; first | rwa [add_block] at this | exact this) GW245.out))) _).trans (((cell_far (p := ⟨gb245, _, none⟩) (by first | exact Nat.ne_of_lt (Nat.lt_of_lt_of_le (by have := World.block_lt_of_cell? _ _ hw258_0; first | rwa [add_block] at this | exact this) GW245.out) | (rw [add_block]; exact Nat.ne_of_lt (Nat.lt_of_lt_of_le (by have := World.block_lt_of_cell? _ _ hw258_0; first | rwa [add_block] at this | exact this) GW245.out)) | (show (Addr.add _ _).block ≠ _; rw [add_block]; exact Nat.ne_of_lt (Nat.lt_of_lt_of_le (by have := World.block_lt_of_cell? _ _ hw258_0; first | rwa [add_block] at this | exact this) GW245.out)) | (dsimp only; exact Nat.ne_of_lt (Nat.lt_of_lt_of_le (by have := World.block_lt_of_cell? _ _ hw258_0; first | rwa [add_block] at this | exact this) GW245.out))) _).trans (((cell_far (p := ⟨gb245, _, none⟩) (by first | exact Nat.ne_of_lt (Nat.lt_of_lt_of_le (by have := World.block_lt_of_cell? _ _ hw258_0; first | rwa [add_block] at this | exact this) GW245.out) | (rw [add_block]; exact Nat.ne_of_lt (Nat.lt_of_lt_of_le (by have := World.block_lt_of_cell? _ _ hw258_0; first | rwa [add_block] at this | exact this) GW245.out)) | (show (Addr.add _ _).block ≠ _; rw [add_block]; exact Nat.ne_of_lt (Nat.lt_of_lt_of_le (by have := World.block_lt_of_cell? _ _ hw258_0; first | rwa [add_block] at this | exact this) GW245.out)) | (dsimp only; exact Nat.ne_of_lt (Nat.lt_of_lt_of_le (by have := World.block_lt_of_cell? _ _ hw258_0; first | rwa [add_block] at this | exact this) GW245.out))) _).trans (((cell_far (p := ⟨gb245, _, none⟩) (by first | exact Nat.ne_of_lt (Nat.lt_of_lt_of_le (by have := World.block_lt_of_cell? _ _ hw258_0; first | rwa [add_block] at this | exact this) GW245.out) | (rw [add_block]; exact Nat.ne_of_lt (Nat.lt_of_lt_of_le (by have := World.block_lt_of_cell? _ _ hw258_0; first | rwa [add_block] at this | exact this) GW245.out)) | (show (Addr.add _ _).block ≠ _; rw [add_block]; exact Nat.ne_of_lt (Nat.lt_of_lt_of_le (by have := World.block_lt_of_cell? _ _ hw258_0; first | rwa [add_block] at this | exact this) GW245.out)) | (dsimp only; exact Nat.ne_of_lt (Nat.lt_of_lt_of_le (by have := World.block_lt_of_cell? _ _ hw258_0; first | rwa [add_block] at this | exact this) GW245.out))) _).trans (hHeld.2.2.2.2.2.2.2.2.1)))))))), ((cell_far (p := ⟨gb245, _, none⟩) (by first | exact Nat.ne_of_lt (Nat.lt_of_lt_of_le (by have := World.block_lt_of_cell? _ _ hw258_1; first | rwa [add_block] at this | exact this) GW245.out) | (rw [add_block]; exact Nat.ne_of_lt (Nat.lt_of_lt_of_le (by have := World.block_lt_of_cell? _ _ hw258_1; first | rwa [add_block] at this | exact this) GW245.out)) | (show (Addr.add _ _).block ≠ _; rw [add_block]; exact Nat.ne_of_lt (Nat.lt_of_lt_of_le (by have := World.block_lt_of_cell? _ _ hw258_1; first | rwa [add_block] at this | exact this) GW245.out)) | (dsimp only; exact Nat.ne_of_lt (Nat.lt_of_lt_of_le (by have := World.block_lt_of_cell? _ _ hw258_1; first | rwa [add_block] at this | exact this) GW245.out))) _).trans (((cell_far (p := ⟨gb245, _, none⟩) (by first | exact Nat.ne_of_lt (Nat.lt_of_lt_of_le (by have := World.block_lt_of_cell? _ _ hw258_1; first | rwa [add_block] at this | exact this) GW245.out) | (rw [add_block]; exact Nat.ne_of_lt (Nat.lt_of_lt_of_le (by have := World.block_lt_of_cell? _ _ hw258_1; first | rwa [add_block] at this | exact this) GW245.out)) | (show (Addr.add _ _).block ≠ _; rw [add_block]; exact Nat.ne_of_lt (Nat.lt_of_lt_of_le (by have := World.block_lt_of_cell? _ _ hw258_1; first | rwa [add_block] at this | exact this) GW245.out)) | (dsimp only; exact Nat.ne_of_lt (Nat.lt_of_lt_of_le (by have := World.block_lt_of_cell? _ _ hw258_1; first | rwa [add_block] at this | exact this) GW245.out))) _).trans (((cell_far (p := ⟨gb245, _, none⟩) (by first | exact Nat.ne_of_lt (Nat.lt_of_lt_of_le (by have := World.block_lt_of_cell? _ _ hw258_1; first | rwa [add_block] at this | exact this) GW245.out) | (rw [add_block]; exact Nat.ne_of_lt (Nat.lt_of_lt_of_le (by have := World.block_lt_of_cell? _ _ hw258_1; first | rwa [add_block] at this | exact this) GW245.out)) | (show (Addr.add _ _).block ≠ _; rw [add_block]; exact Nat.ne_of_lt (Nat.lt_of_lt_of_le (by have := World.block_lt_of_cell? _ _ hw258_1; first | rwa [add_block] at this | exact this) GW245.out)) | (dsimp only; exact Nat.ne_of_lt (Nat.lt_of_lt_of_le (by have := World.block_lt_of_cell? _ _ hw258_1; first | rwa [add_block] at this | exact this) GW245.out))) _).trans (((cell_far (p := ⟨gb245, _, none⟩) (by first | exact Nat.ne_of_lt (Nat.lt_of_lt_of_le (by have := World.block_lt_of_cell? _ _ hw258_1; first | rwa [add_block] at this | exact this) GW245.out) | (rw [add_block]; exact Nat.ne_of_lt (Nat.lt_of_lt_of_le (by have := World.block_lt_of_cell? _ _ hw258_1; first | rwa [add_block] at this | exact this) GW245.out)) | (show (Addr.add _ _).block ≠ _; rw [add_block]; exact Nat.ne_of_lt (Nat.lt_of_lt_of_le (by have := World.block_lt_of_cell? _ _ hw258_1; first | rwa [add_block] at this | exact this) GW245.out)) | (dsimp only; exact Nat.ne_of_lt (Nat.lt_of_lt_of_le (by have := World.block_lt_of_cell? _ _ hw258_1; first | rwa [add_block] at this | exact this) GW245.out))) _).trans (hHeld.2.2.2.2.2.2.2.2.2.1)))))))), ((cell_far (p := ⟨gb245, _, none⟩) (by first | exact Nat.ne_of_lt (Nat.lt_of_lt_of_le (by have := World.block_lt_of_cell? _ _ hw258_2; first | rwa [add_block] at this | exact this) GW245.out) | (rw [add_block]; exact Nat.ne_of_lt (Nat.lt_of_lt_of_le (by have := World.block_lt_of_cell? _ _ hw258_2; first | rwa [add_block] at this | exact this) GW245.out)) | (show (Addr.add _ _).block ≠ _; rw [add_block]; exact Nat.ne_of_lt (Nat.lt_of_lt_of_le (by have := World.block_lt_of_cell? _ _ hw258_2; first | rwa [add_block] at this | exact this) GW245.out)) | (dsimp only; exact Nat.ne_of_lt (Nat.lt_of_lt_of_le (by have := World.block_lt_of_cell? _ _ hw258_2; first | rwa [add_block] at this | exact this) GW245.out))) _).trans (((cell_far (p := ⟨gb245, _, none⟩) (by first | exact Nat.ne_of_lt (Nat.lt_of_lt_of_le (by have := World.block_lt_of_cell? _ _ hw258_2; first | rwa [add_block] at this | exact this) GW245.out) | (rw [add_block]; exact Nat.ne_of_lt (Nat.lt_of_lt_of_le (by have := World.block_lt_of_cell? _ _ hw258_2; first | rwa [add_block] at this | exact this) GW245.out)) | (show (Addr.add _ _).block ≠ _; rw [add_block]; exact Nat.ne_of_lt (Nat.lt_of_lt_of_le (by have := World.block_lt_of_cell? _ _ hw258_2; first | rwa [add_block] at this | exact this) GW245.out)) | (dsimp only; exact Nat.ne_of_lt (Nat.lt_of_lt_of_le (by have := World.block_lt_of_cell? _ _ hw258_2; first | rwa [add_block] at this | exact this) GW245.out))) _).trans (((cell_far (p := ⟨gb245, _, none⟩) (by first | exact Nat.ne_of_lt (Nat.lt_of_lt_of_le (by have := World.block_lt_of_cell? _ _ hw258_2; first | rwa [add_block] at this | exact this) GW245.out) | (rw [add_block]; exact Nat.ne_of_lt (Nat.lt_of_lt_of_le (by have := World.block_lt_of_cell? _ _ hw258_2; first | rwa [add_block] at this | exact this) GW245.out)) | (show (Addr.add _ _).block ≠ _; rw [add_block]; exact Nat.ne_of_lt (Nat.lt_of_lt_of_le (by have := World.block_lt_of_cell? _ _ hw258_2; first | rwa [add_block] at this | exact this) GW245.out)) | (dsimp only; exact Nat.ne_of_lt (Nat.lt_of_lt_of_le (by have := World.block_lt_of_cell? _ _ hw258_2; first | rwa [add_block] at this | exact this) GW245.out))) _).trans (((cell_far (p := ⟨gb245, _, none⟩) (by first | exact Nat.ne_of_lt (Nat.lt_of_lt_of_le (by have := World.block_lt_of_cell? _ _ hw258_2; first | rwa [add_block] at this | exact this) GW245.out) | (rw [add_block]; exact Nat.ne_of_lt (Nat.lt_of_lt_of_le (by have := World.block_lt_of_cell? _ _ hw258_2; first | rwa [add_block] at this | exact this) GW245.out)) | (show (Addr.add _ _).block ≠ _; rw [add_block]; exact Nat.ne_of_lt (Nat.lt_of_lt_of_le (by have := World.block_lt_of_cell? _ _ hw258_2; first | rwa [add_block] at this | exact this) GW245.out)) | (dsimp only; exact Nat.ne_of_lt (Nat.lt_of_lt_of_le (by have := World.block_lt_of_cell? _ _ hw258_2; first | rwa [add_block] at this | exact this) GW245.out))) _).trans (hHeld.2.2.2.2.2.2.2.2.2.2))))))))⟩ (fun hHeld => ?_)
       clear hK K
       refine ub (i := 7) (N := some 3) (v := ?_) (a' := ?_) #[T,T,T,T,T,T,T,T,F] rfl rfl (uY HT_.out (by kernel_rfl)) (fun _ _ _ h => h) (Or.inl ⟨by rfl, ?_⟩) ?_ ?_
       rotate_left;(intro w';go_simp;with_reducible rfl);rotate_left;(simp only [uc,uA,uB,uC,uZ,ua];rfl)
       refine ub (i := 8) (N := some 4) (v := ?_) (a' := ?_) #[T,T,T,T,T,T,T,T,T] rfl rfl (uY HT_.out (by kernel_rfl)) (fun _ _ _ h => h) (Or.inl ⟨by rfl, ?_⟩) ?_ ?_
       rotate_left;(intro w';go_simp;with_reducible rfl);rotate_left;(simp only [uc,uA,uB,uC,uZ,ua];rfl)
       refine done_ (done_of HT_.out (by kernel_rfl)) ?_
       try go_wp2
       refine bodyPost_ret (results_ctt rfl _ _ gb245 29 #[.int .i64 t246, .int .i64 t247, .bool t248, .slice A69 y255.length c69] (0, 0) _ rfl (by (with_reducible repeat (first | refine uH ?_ _ | refine uJ ?_ | refine uG ?_ _)); refine uP (cs := #[.int .i64 t246, .int .i64 t247, .bool t248, .slice none 0 0]) ?_ 3 _ rfl; (with_reducible repeat (first | refine uH ?_ _ | refine uJ ?_ | refine uG ?_ _)); refine uP (cs := #[.int .i64 t246, .int .i64 t247, .bool false, .slice none 0 0]) ?_ 2 _ rfl; (with_reducible repeat (first | refine uH ?_ _ | refine uJ ?_ | refine uG ?_ _)); refine uP (cs := #[.int .i64 t246, .int .i64 0, .bool false, .slice none 0 0]) ?_ 1 _ rfl; (with_reducible repeat (first | refine uH ?_ _ | refine uJ ?_ | refine uG ?_ _)); refine uP (cs := #[.int .i64 0, .int .i64 0, .bool false, .slice none 0 0]) ?_ 0 _ rfl; (with_reducible repeat (first | refine uH ?_ _ | refine uJ ?_ | refine uG ?_ _)); exact BK245.out) Try.underlying29 rfl (by kernel_rfl)) rfl ?_
       exact ⟨_, by first | rfl | (simp [errW_none, errW_some] <;> rfl) | (simp [*, errW_none, errW_some] <;> rfl), by (with_reducible repeat (first | apply Kd.Q_alloc | apply Kd.Q_drewN | apply Kd.Q_drew)); exact Kd.Q_mono (Kd.Q_far (p := ⟨gb245, 3, none⟩) (Kd.Q_far (p := ⟨gb245, 2, none⟩) (Kd.Q_far (p := ⟨gb245, 1, none⟩) (Kd.Q_far (p := ⟨gb245, 0, none⟩) (Kd.Q_types HO257.out BK245.out (by decide)) (fun _ hk => hk.2) (.int .i64 t246)) (fun _ hk => hk.2) (.int .i64 t247)) (fun _ hk => hk.2) (.bool t248)) (fun _ hk => hk.2) (.slice A69 y255.length c69)) (fun _ hk => trivial), pb HB⟩
      ·rw [if_neg c54] at H
       exact absurd H (by simp)
    ·rw [if_neg c37] at H
     exact absurd H (by simp)
 ·replace c4 := Bool.eq_false_iff.mpr c4
  subst c4
  have H1 : (some (t246, t247, t248, t249, 0, false)) = some (r1, r2, r3, r4, r5, r6) := by rw [if_neg (show ¬ (false = true) by decide)] at H; first | done | exact H
  clear H
  have H := H1
  clear H1
  simp only [Option.some.injEq, Prod.mk.injEq] at H
  obtain ⟨rfl, rfl, rfl, rfl, rfl, rfl⟩ := H
  go_enter Try.func27, Try.ntmps27
  try go_wp2_with (first | ((with_reducible refine gate_dst (N := 1) rfl ?_); (try (refine gate_guard (by rfl) ?_; dsimp only)); refine box_event ?hg (N := 1) ?hd (cs := #[.int .i64 a0_0, .int .i64 a0_1, .bool a0_2, .slice A0_3 l0_3.length c0_3]) (t := 29) ?hr ?_; (case hd => rfl); (case hg => rfl); (case hr => first | (go_simp; done) | (go_simp; rfl)); intro gb244 hg w76 hbox hb; have BK244 := uD (hbox); have GW244 := uD ((by rw [hg]; exact (uN (pb HB)) : w.heap.size ≤ gb244)); have GE244 := uD ((by rw [hg]; exact (uN (pb HB)) : w.heap.size ≤ gb244)); replace HB := uD (uO (pb HB) hb); clear hb hbox hg) | ((with_reducible refine gate_dst (N := 2) rfl ?_); (try (refine gate_guard (by rfl) ?_; dsimp only)); refine box_event ?hg (N := 2) ?hd (cs := #[.int .i64 0, .int .i64 0, .bool false, .slice none 0 0]) (t := 29) ?hr ?_; (case hd => rfl); (case hg => rfl); (case hr => first | (go_simp; done) | (go_simp; rfl)); intro gb245 hg w77 hbox hb; have BK245 := uD (hbox); have GW245 := uD ((by rw [hg]; exact (uN (pb HB)) : w.heap.size ≤ gb245)); have GE245 := uD ((by rw [hg]; exact (uN (pb HB)) : w.heap.size ≤ gb245)); replace HB := uD (uO (pb HB) hb); have NB244_245 := uD ((by rw [hg]; exact Nat.ne_of_lt (blk_lt (g := gb244) (o := .cells #[.int .i64 a0_0, .int .i64 a0_1, .bool a0_2, .slice A0_3 l0_3.length c0_3] 29 (0, 0)) (pk BK244)) : gb244 ≠ gb245)); have NB245_244 := uD ((by rw [hg]; exact Nat.ne_of_gt (blk_lt (g := gb244) (o := .cells #[.int .i64 a0_0, .int .i64 a0_1, .bool a0_2, .slice A0_3 l0_3.length c0_3] 29 (0, 0)) (pk BK244)) : gb245 ≠ gb244)); replace BK244 := uD (blk_below (pk BK244) hb); clear hb hbox hg; have hnb78 := NB244_245.out; have hnc78 := NB245_244.out; obtain ⟨hcz79_0, hcz79_1, hcz79_2, hcz79_3, hfz79_0, hfz79_1, hfz79_2, hfz79_3⟩ := cz4 BK244) | ((with_reducible refine gate_callee (f := 54) rfl ?_); refine goesL_ (some 7) rfl rfl Try.func54 (by kernel_rfl) rfl #[.agg #[.int .i64 a0_0, .int .i64 a0_1, .bool a0_2, .slice A0_3 l0_3.length c0_3]] rfl (by (try simp only [List.map_toArray, List.map_cons, List.map_nil]); first | done | rfl | (simp only [List.length_drop, List.length_take]; rfl)) ?_; (with_reducible refine (impl_copyBelt.calls a0_0 a0_1 a0_2 _ _ l0_3 t246 t247 t248 t249 _ ?side1 ?side2 A2.out).mono ?_); (case side1 => repeat (first | exact (Kd.C_below HR0_3.out HB.out) | (with_reducible refine Kd.C_alloc ?_ _) | (with_reducible refine Kd.C_drewN ?_ _) | (with_reducible refine Kd.C_drew ?_))); (case side2 => exact HC0_3.out); rintro e w80 ⟨v250, rfl, ho0, hb⟩; refine ⟨_, rfl, ?_⟩; have HO251 := uD (Kd.R_lower ho0 (uN (pb HB))); replace BK244 := uD (blk_below (pk BK244) hb); replace BK245 := uD (blk_below (pk BK245) hb); replace HB := uD (uO (pb HB) hb); (try clear hb); (try clear hb2); (try clear hk); (try clear hi); (try clear ho0)) | ((with_reducible refine gate_dst (N := 5) rfl ?_); (try (refine gate_guard (by rfl) ?_; dsimp only)); refine box_event ?hg (N := 5) ?hd (cs := #[.int .i64 0, .int .i64 0, .bool false, .slice none 0 0]) (t := 29) ?hr ?_; (case hd => rfl); (case hg => rfl); (case hr => first | (go_simp; done) | (go_simp; rfl)); intro gb252 hg w81 hbox hb; replace HO251 := uD (Kd.R_below (pr HO251) hb); have BK252 := uD (hbox); have GW252 := uD ((by rw [hg]; exact (uN (pb HB)) : w.heap.size ≤ gb252)); have GE252 := uD ((by rw [hg]; exact (uN (pb HB)) : w.heap.size ≤ gb252)); replace HB := uD (uO (pb HB) hb); have NB244_252 := uD ((by rw [hg]; exact Nat.ne_of_lt (blk_lt (g := gb244) (o := .cells #[.int .i64 a0_0, .int .i64 a0_1, .bool a0_2, .slice A0_3 l0_3.length c0_3] 29 (0, 0)) (pk BK244)) : gb244 ≠ gb252)); have NB252_244 := uD ((by rw [hg]; exact Nat.ne_of_gt (blk_lt (g := gb244) (o := .cells #[.int .i64 a0_0, .int .i64 a0_1, .bool a0_2, .slice A0_3 l0_3.length c0_3] 29 (0, 0)) (pk BK244)) : gb252 ≠ gb244)); replace BK244 := uD (blk_below (pk BK244) hb); have NB245_252 := uD ((by rw [hg]; exact Nat.ne_of_lt (blk_lt (g := gb245) (o := .cells #[.int .i64 0, .int .i64 0, .bool false, .slice none 0 0] 29 (0, 0)) (pk BK245)) : gb245 ≠ gb252)); have NB252_245 := uD ((by rw [hg]; exact Nat.ne_of_gt (blk_lt (g := gb245) (o := .cells #[.int .i64 0, .int .i64 0, .bool false, .slice none 0 0] 29 (0, 0)) (pk BK245)) : gb252 ≠ gb245)); replace BK245 := uD (blk_below (pk BK245) hb); clear hb hbox hg; have hnb82 := NB252_244.out; have hnc82 := NB244_252.out; have hnb83 := NB252_245.out; have hnc83 := NB245_252.out; obtain ⟨hcz84_0, hcz84_1, hcz84_2, hcz84_3, hfz84_0, hfz84_1, hfz84_2, hfz84_3⟩ := cz4 BK252; obtain ⟨Ao85, co85, eo85⟩ := Kd.R_slice HO251.out; subst eo85))
  have n0_ : Aside0 (Kd.R k53 53 ((((w81.setCell ⟨gb252, 0, none⟩ (.int .i64 t246)).setCell ⟨gb252, 1, none⟩ (.int .i64 t247)).setCell ⟨gb252, 2, none⟩ (.bool t248)).setCell ⟨gb252, 3, none⟩ (.slice Ao85 t249.length co85)) w.heap.size (fun _ => True) (.slice Ao85 t249.length co85) t249) := ⟨by (with_reducible repeat (first | apply uU | apply uS | apply uT)); exact uX (uV (p := ⟨gb252, 3, none⟩) (uV (p := ⟨gb252, 2, none⟩) (uV (p := ⟨gb252, 1, none⟩) (uV (p := ⟨gb252, 0, none⟩) (uW HO251.out BK252.out (by decide)) (fun _ hk => hk.2) (.int .i64 t246)) (fun _ hk => hk.2) (.int .i64 t247)) (fun _ hk => hk.2) (.bool t248)) (fun _ hk => hk.2) (.slice Ao85 t249.length co85)) (fun _ hk => trivial)⟩
  have n1_ : Aside0 (((((w81.setCell ⟨gb252, 0, none⟩ (.int .i64 t246)).setCell ⟨gb252, 1, none⟩ (.int .i64 t247)).setCell ⟨gb252, 2, none⟩ (.bool t248)).setCell ⟨gb252, 3, none⟩ (.slice Ao85 t249.length co85)).heap[gb244]? = some (.cells #[.int .i64 a0_0, .int .i64 a0_1, .bool a0_2, .slice A0_3 l0_3.length c0_3] 29 (0, 0))) := ⟨by (with_reducible repeat (first | refine uH ?_ _ | refine uJ ?_ | refine uG ?_ _)); refine uQ ?_ NB244_252.out _; (with_reducible repeat (first | refine uH ?_ _ | refine uJ ?_ | refine uG ?_ _)); refine uQ ?_ NB244_252.out _; (with_reducible repeat (first | refine uH ?_ _ | refine uJ ?_ | refine uG ?_ _)); refine uQ ?_ NB244_252.out _; (with_reducible repeat (first | refine uH ?_ _ | refine uJ ?_ | refine uG ?_ _)); refine uQ ?_ NB244_252.out _; (with_reducible repeat (first | refine uH ?_ _ | refine uJ ?_ | refine uG ?_ _)); exact BK244.out⟩
  have n2_ : Aside0 (((((w81.setCell ⟨gb252, 0, none⟩ (.int .i64 t246)).setCell ⟨gb252, 1, none⟩ (.int .i64 t247)).setCell ⟨gb252, 2, none⟩ (.bool t248)).setCell ⟨gb252, 3, none⟩ (.slice Ao85 t249.length co85)).heap[gb245]? = some (.cells #[.int .i64 0, .int .i64 0, .bool false, .slice none 0 0] 29 (0, 0))) := ⟨by (with_reducible repeat (first | refine uH ?_ _ | refine uJ ?_ | refine uG ?_ _)); refine uQ ?_ NB245_252.out _; (with_reducible repeat (first | refine uH ?_ _ | refine uJ ?_ | refine uG ?_ _)); refine uQ ?_ NB245_252.out _; (with_reducible repeat (first | refine uH ?_ _ | refine uJ ?_ | refine uG ?_ _)); refine uQ ?_ NB245_252.out _; (with_reducible repeat (first | refine uH ?_ _ | refine uJ ?_ | refine uG ?_ _)); refine uQ ?_ NB245_252.out _; (with_reducible repeat (first | refine uH ?_ _ | refine uJ ?_ | refine uG ?_ _)); exact BK245.out⟩
  have n3_ : Aside0 (((((w81.setCell ⟨gb252, 0, none⟩ (.int .i64 t246)).setCell ⟨gb252, 1, none⟩ (.int .i64 t247)).setCell ⟨gb252, 2, none⟩ (.bool t248)).setCell ⟨gb252, 3, none⟩ (.slice Ao85 t249.length co85)).heap[gb252]? = some (.cells #[.int .i64 t246, .int .i64 t247, .bool t248, .slice Ao85 t249.length co85] 29 (0, 0))) := ⟨by (with_reducible repeat (first | refine uH ?_ _ | refine uJ ?_ | refine uG ?_ _)); refine uP (cs := #[.int .i64 t246, .int .i64 t247, .bool t248, .slice none 0 0]) ?_ 3 _ rfl; (with_reducible repeat (first | refine uH ?_ _ | refine uJ ?_ | refine uG ?_ _)); refine uP (cs := #[.int .i64 t246, .int .i64 t247, .bool false, .slice none 0 0]) ?_ 2 _ rfl; (with_reducible repeat (first | refine uH ?_ _ | refine uJ ?_ | refine uG ?_ _)); refine uP (cs := #[.int .i64 t246, .int .i64 0, .bool false, .slice none 0 0]) ?_ 1 _ rfl; (with_reducible repeat (first | refine uH ?_ _ | refine uJ ?_ | refine uG ?_ _)); refine uP (cs := #[.int .i64 0, .int .i64 0, .bool false, .slice none 0 0]) ?_ 0 _ rfl; (with_reducible repeat (first | refine uH ?_ _ | refine uJ ?_ | refine uG ?_ _)); exact BK252.out⟩
  have n4_ : Aside0 (Below w.heap.size w ((((w81.setCell ⟨gb252, 0, none⟩ (.int .i64 t246)).setCell ⟨gb252, 1, none⟩ (.int .i64 t247)).setCell ⟨gb252, 2, none⟩ (.bool t248)).setCell ⟨gb252, 3, none⟩ (.slice Ao85 t249.length co85))) := ⟨pb HB⟩
  (try clear HO251)
  (try clear BK244)
  (try clear BK245)
  (try clear BK252)
  (try clear HB)
  generalize ((((w81.setCell ⟨gb252, 0, none⟩ (.int .i64 t246)).setCell ⟨gb252, 1, none⟩ (.int .i64 t247)).setCell ⟨gb252, 2, none⟩ (.bool t248)).setCell ⟨gb252, 3, none⟩ (.slice Ao85 t249.length co85)) = w86 at n0_ n1_ n2_ n3_ n4_ ⊢
  have HO251 := n0_
  have BK244 := n1_
  have BK245 := n2_
  have BK252 := n3_
  have HB := n4_
  clear n0_ n1_ n2_ n3_ n4_
  replace HO251 := uD (uT HO251.out)
  replace BK244 := uD (uJ BK244.out)
  replace BK245 := uD (uJ BK245.out)
  replace BK252 := uD (uJ BK252.out)
  replace HB := uD (uK HB.out)
  refine start_ (n := 23) (S := fun w' => w'.cell? ⟨gb244, 0, none⟩ = some (.int .i64 a0_0) ∧ w'.cell? ⟨gb244, 1, none⟩ = some (.int .i64 a0_1) ∧ w'.cell? ⟨gb244, 2, none⟩ = some (.bool a0_2) ∧ w'.cell? ⟨gb244, 3, none⟩ = some (.slice A0_3 l0_3.length c0_3)) (ds := []) #[F,F,F,F,F,F,F,F,F,F,F,F,F,F,F,F,F,F,F,F,F,F,F] (by kernel_rfl) rfl rfl ⟨(uF BK244.out 0).trans rfl, (uF BK244.out 1).trans rfl, (uF BK244.out 2).trans rfl, (uF BK244.out 3).trans rfl⟩ (fun hHeld => ?_); refine with_tabW impl_Leave.tab2 impl_Leave.bits2 (fun HT_ HW_ => ?_)
  generalize w86.drew = w87 at HO251 BK244 BK245 BK252 HB HO251 hHeld ⊢
  refine take_ (i := 0) (N := some 8) (v := ?_) (a' := ?_) #[T,F,F,F,F,F,F,F,F,F,F,F,F,F,F,F,F,F,F,F,F,F,F] rfl rfl (take_ofW HT_.out HW_.out (by kernel_rfl)) (fun _ _ _ h => h) (Or.inl ⟨by rfl, ?_⟩) hHeld ?_ ?_
  rotate_left;(rintro w' ⟨s0, s1, s2, s3⟩;go_simp;with_reducible rfl);rotate_left;(simp only [uc,uA,uB,uC,uZ,ua];rfl)
  refine one_ (i := 1) (N := some 9) #[T,T,F,F,F,F,F,F,F,F,F,F,F,F,F,F,F,F,F,F,F,F,F] rfl rfl (one_of HT_.out (by kernel_rfl)) (by decide) (fun K hK => ?_)
  refine goes_ Try.func18 (by kernel_rfl) rfl #[.agg #[.int .i64 a0_0, .int .i64 a0_1, .bool a0_2, .slice A0_3 l0_3.length c0_3]] (by rfl) rfl rfl (by (try simp only [List.map_toArray, List.map_cons, List.map_nil]); first | done | rfl | (simp only [List.length_drop, List.length_take]; rfl)) ?_
  with_reducible refine (impl_BeltOk.calls k a0_0 a0_1 a0_2 _ _ l0_3 false _ ?side1 ?side2 A3.out).mono ?_
  (case side1 => repeat (first | exact (Kd.C_below HR0_3.out HB.out) | (with_reducible refine Kd.C_alloc ?_ _) | (with_reducible refine Kd.C_drewN ?_ _) | (with_reducible refine Kd.C_drew ?_)))
  (case side2 => exact HC0_3.out)
  rintro e w88 ⟨rfl, hb⟩
  refine ⟨_, rfl, ?_⟩
  replace HO251 := uD (Kd.R_below (pr HO251) hb)
  replace BK244 := uD (blk_below (pk BK244) hb)
  replace BK245 := uD (blk_below (pk BK245) hb)
  replace BK252 := uD (blk_below (pk BK252) hb)
  replace HB := uD (uO (pb HB) hb)
  (try clear hb)
  (try clear hb2)
  (try clear hk)
  (try clear hi)
  refine hK.out _ _ ⟨(uF BK244.out 0).trans rfl, (uF BK244.out 1).trans rfl, (uF BK244.out 2).trans rfl, (uF BK244.out 3).trans rfl⟩ (fun hHeld => ?_)
  clear hK K
  refine norm_ (a' := ?_) ?_ ?_
  rotate_left
  ·show uc _ (some 9) _ = _
   simp only [uc, uA, uB, uC, uZ, ua]
   rfl
  refine ub (i := 2) (N := some 10) (v := ?_) (a' := ?_) #[T,T,T,F,F,F,F,F,F,F,F,F,F,F,F,F,F,F,F,F,F,F,F] rfl rfl (uY HT_.out (by kernel_rfl)) (fun _ _ _ h => h) (Or.inl ⟨by rfl, ?_⟩) ?_ ?_
  rotate_left;(intro w';go_simp;with_reducible rfl);rotate_left;(simp only [uc,uA,uB,uC,uZ,ua];rfl)
  refine ub (i := 3) (N := some 11) (v := ?_) (a' := ?_) #[T,T,T,T,F,F,F,F,F,F,F,F,F,F,F,F,F,F,F,F,F,F,F] rfl rfl (uY HT_.out (by kernel_rfl)) (fun _ _ _ h => h) (Or.inl ⟨by rfl, ?_⟩) ?_ ?_
  rotate_left;(intro w';go_simp;with_reducible rfl);rotate_left;(simp only [uc,uA,uB,uC,uZ,ua];rfl)
  refine ub (i := 4) (N := some 12) (v := undef) (a' := ?_) #[T,T,T,T,T,F,F,F,F,F,F,F,F,F,F,F,F,F,F,F,F,F,F] rfl rfl (uY HT_.out (by kernel_rfl)) (fun _ _ _ h => h) (Or.inr ⟨by rfl, rfl⟩) ?_ ?_
  rotate_left
  ·simp only [uc, uA, uB, uC, uZ, ua]
   rfl
  refine ub (i := 5) (N := some 13) (v := undef) (a' := ?_) #[T,T,T,T,T,T,F,F,F,F,F,F,F,F,F,F,F,F,F,F,F,F,F] rfl rfl (uY HT_.out (by kernel_rfl)) (fun _ _ _ h => h) (Or.inr ⟨by rfl, rfl⟩) ?_ ?_
  rotate_left
  ·simp only [uc, uA, uB, uC, uZ, ua]
   rfl
  refine ub (i := 6) (N := some 14) (v := ?_) (a' := ?_) #[T,T,T,T,T,T,T,F,F,F,F,F,F,F,F,F,F,F,F,F,F,F,F] rfl rfl (uY HT_.out (by kernel_rfl)) (fun _ _ _ h => h) (Or.inl ⟨by rfl, ?_⟩) ?_ ?_
  rotate_left;(intro w';go_simp;with_reducible rfl);rotate_left;(simp only [uc,uA,uB,uC,uZ,ua];rfl)
  refine ub (i := 7) (N := some 15) (v := ?_) (a' := ?_) #[T,T,T,T,T,T,T,T,F,F,F,F,F,F,F,F,F,F,F,F,F,F,F] rfl rfl (uY HT_.out (by kernel_rfl)) (fun _ _ _ h => h) (Or.inl ⟨by rfl, ?_⟩) ?_ ?_
  rotate_left;(intro w';go_simp;with_reducible rfl);rotate_left;(simp only [uc,uA,uB,uC,uZ,ua];rfl)
  refine ub (i := 8) (N := some 16) (v := undef) (a' := ?_) #[T,T,T,T,T,T,T,T,T,F,F,F,F,F,F,F,F,F,F,F,F,F,F] rfl rfl (uY HT_.out (by kernel_rfl)) (fun _ _ _ h => h) (Or.inr ⟨by rfl, rfl⟩) ?_ ?_
  rotate_left
  ·simp only [uc, uA, uB, uC, uZ, ua]
   rfl
  refine ub (i := 9) (N := some 17) (v := undef) (a' := ?_) #[T,T,T,T,T,T,T,T,T,T,F,F,F,F,F,F,F,F,F,F,F,F,F] rfl rfl (uY HT_.out (by kernel_rfl)) (fun _ _ _ h => h) (Or.inr ⟨by rfl, rfl⟩) ?_ ?_
  rotate_left
  ·simp only [uc, uA, uB, uC, uZ, ua]
   rfl
  refine ub (i := 10) (N := some 18) (v := undef) (a' := ?_) #[T,T,T,T,T,T,T,T,T,T,T,F,F,F,F,F,F,F,F,F,F,F,F] rfl rfl (uY HT_.out (by kernel_rfl)) (fun _ _ _ h => h) (Or.inr ⟨by rfl, rfl⟩) ?_ ?_
  rotate_left
  ·simp only [uc, uA, uB, uC, uZ, ua]
   rfl
  refine ub (i := 11) (N := some 19) (v := undef) (a' := ?_) #[T,T,T,T,T,T,T,T,T,T,T,T,F,F,F,F,F,F,F,F,F,F,F] rfl rfl (uY HT_.out (by kernel_rfl)) (fun _ _ _ h => h) (Or.inr ⟨by rfl, rfl⟩) ?_ ?_
  rotate_left
  ·simp only [uc, uA, uB, uC, uZ, ua]
   rfl
  refine ub (i := 12) (N := some 20) (v := ?_) (a' := ?_) #[T,T,T,T,T,T,T,T,T,T,T,T,T,F,F,F,F,F,F,F,F,F,F] rfl rfl (uY HT_.out (by kernel_rfl)) (fun _ _ _ h => h) (Or.inl ⟨by rfl, ?_⟩) ?_ ?_
  rotate_left;(intro w';go_simp;with_reducible rfl);rotate_left;(simp only [uc,uA,uB,uC,uZ,ua];rfl)
  refine ub (i := 13) (N := some 21) (v := ?_) (a' := ?_) #[T,T,T,T,T,T,T,T,T,T,T,T,T,T,F,F,F,F,F,F,F,F,F] rfl rfl (uY HT_.out (by kernel_rfl)) (fun _ _ _ h => h) (Or.inl ⟨by rfl, ?_⟩) ?_ ?_
  rotate_left;(intro w';go_simp;with_reducible rfl);rotate_left;(simp only [uc,uA,uB,uC,uZ,ua];rfl)
  refine ub (i := 14) (N := some 22) (v := undef) (a' := ?_) #[T,T,T,T,T,T,T,T,T,T,T,T,T,T,T,F,F,F,F,F,F,F,F] rfl rfl (uY HT_.out (by kernel_rfl)) (fun _ _ _ h => h) (Or.inr ⟨by rfl, rfl⟩) ?_ ?_
  rotate_left
  ·simp only [uc, uA, uB, uC, uZ, ua]
   rfl
  refine ub (i := 15) (N := some 23) (v := undef) (a' := ?_) #[T,T,T,T,T,T,T,T,T,T,T,T,T,T,T,T,F,F,F,F,F,F,F] rfl rfl (uY HT_.out (by kernel_rfl)) (fun _ _ _ h => h) (Or.inr ⟨by rfl, rfl⟩) ?_ ?_
  rotate_left
  ·simp only [uc, uA, uB, uC, uZ, ua]
   rfl
  refine ub (i := 16) (N := some 24) (v := undef) (a' := ?_) #[T,T,T,T,T,T,T,T,T,T,T,T,T,T,T,T,T,F,F,F,F,F,F] rfl rfl (uY HT_.out (by kernel_rfl)) (fun _ _ _ h => h) (Or.inr ⟨by rfl, rfl⟩) ?_ ?_
  rotate_left
  ·simp only [uc, uA, uB, uC, uZ, ua]
   rfl
  refine ub (i := 17) (N := some 25) (v := undef) (a' := ?_) #[T,T,T,T,T,T,T,T,T,T,T,T,T,T,T,T,T,T,F,F,F,F,F] rfl rfl (uY HT_.out (by kernel_rfl)) (fun _ _ _ h => h) (Or.inr ⟨by rfl, rfl⟩) ?_ ?_
  rotate_left
  ·simp only [uc, uA, uB, uC, uZ, ua]
   rfl
  refine ub (i := 18) (N := some 26) (v := undef) (a' := ?_) #[T,T,T,T,T,T,T,T,T,T,T,T,T,T,T,T,T,T,T,F,F,F,F] rfl rfl (uY HT_.out (by kernel_rfl)) (fun _ _ _ h => h) (Or.inr ⟨by rfl, rfl⟩) ?_ ?_
  rotate_left
  ·simp only [uc, uA, uB, uC, uZ, ua]
   rfl
  refine ub (i := 19) (N := some 27) (v := undef) (a' := ?_) #[T,T,T,T,T,T,T,T,T,T,T,T,T,T,T,T,T,T,T,T,F,F,F] rfl rfl (uY HT_.out (by kernel_rfl)) (fun _ _ _ h => h) (Or.inr ⟨by rfl, rfl⟩) ?_ ?_
  rotate_left
  ·simp only [uc, uA, uB, uC, uZ, ua]
   rfl
  refine ub (i := 20) (N := some 28) (v := undef) (a' := ?_) #[T,T,T,T,T,T,T,T,T,T,T,T,T,T,T,T,T,T,T,T,T,F,F] rfl rfl (uY HT_.out (by kernel_rfl)) (fun _ _ _ h => h) (Or.inr ⟨by rfl, rfl⟩) ?_ ?_
  rotate_left
  ·simp only [uc, uA, uB, uC, uZ, ua]
   rfl
  refine ub (i := 21) (N := some 29) (v := undef) (a' := ?_) #[T,T,T,T,T,T,T,T,T,T,T,T,T,T,T,T,T,T,T,T,T,T,F] rfl rfl (uY HT_.out (by kernel_rfl)) (fun _ _ _ h => h) (Or.inr ⟨by rfl, rfl⟩) ?_ ?_
  rotate_left
  ·simp only [uc, uA, uB, uC, uZ, ua]
   rfl
  refine ub (i := 22) (N := some 30) (v := ?_) (a' := ?_) #[T,T,T,T,T,T,T,T,T,T,T,T,T,T,T,T,T,T,T,T,T,T,T] rfl rfl (uY HT_.out (by kernel_rfl)) (fun _ _ _ h => h) (Or.inl ⟨by rfl, ?_⟩) ?_ ?_
  rotate_left;(intro w';go_simp;with_reducible rfl);rotate_left;(simp only [uc,uA,uB,uC,uZ,ua];rfl)
  refine done_ (done_of HT_.out (by kernel_rfl)) ?_
  obtain ⟨hcz89_0, hcz89_1, hcz89_2, hcz89_3, hfz89_0, hfz89_1, hfz89_2, hfz89_3⟩ := cz4 BK252
  obtain ⟨hcz90_0, hcz90_1, hcz90_2, hcz90_3, hfz90_0, hfz90_1, hfz90_2, hfz90_3⟩ := cz4 BK245
  try go_wp2
  refine bodyPost_ret (results_ctt rfl _ _ gb245 29 #[.int .i64 t246, .int .i64 t247, .bool t248, .slice Ao85 t249.length co85] (0, 0) _ rfl (by (with_reducible repeat (first | refine uH ?_ _ | refine uJ ?_ | refine uG ?_ _)); refine uP (cs := #[.int .i64 t246, .int .i64 t247, .bool t248, .slice none 0 0]) ?_ 3 _ rfl; (with_reducible repeat (first | refine uH ?_ _ | refine uJ ?_ | refine uG ?_ _)); refine uP (cs := #[.int .i64 t246, .int .i64 t247, .bool false, .slice none 0 0]) ?_ 2 _ rfl; (with_reducible repeat (first | refine uH ?_ _ | refine uJ ?_ | refine uG ?_ _)); refine uP (cs := #[.int .i64 t246, .int .i64 0, .bool false, .slice none 0 0]) ?_ 1 _ rfl; (with_reducible repeat (first | refine uH ?_ _ | refine uJ ?_ | refine uG ?_ _)); refine uP (cs := #[.int .i64 0, .int .i64 0, .bool false, .slice none 0 0]) ?_ 0 _ rfl; (with_reducible repeat (first | refine uH ?_ _ | refine uJ ?_ | refine uG ?_ _)); exact BK245.out) Try.underlying29 rfl (by kernel_rfl)) rfl ?_
  exact ⟨_, by first | rfl | (simp [errW_none, errW_some] <;> rfl) | (simp [*, errW_none, errW_some] <;> rfl), Kd.Q_of_R (by (with_reducible repeat (first | apply uU | apply uS | apply uT)); exact uX (uV (p := ⟨gb245, 3, none⟩) (uV (p := ⟨gb245, 2, none⟩) (uV (p := ⟨gb245, 1, none⟩) (uV (p := ⟨gb245, 0, none⟩) (uW HO251.out BK245.out (by decide)) (fun _ hk => hk.2) (.int .i64 t246)) (fun _ hk => hk.2) (.int .i64 t247)) (fun _ hk => hk.2) (.bool t248)) (fun _ hk => hk.2) (.slice Ao85 t249.length co85)) (fun _ hk => trivial)), pb HB⟩

end Go.Proofs.Ytbdjbdoelbmjcaa.PFnExactRun
