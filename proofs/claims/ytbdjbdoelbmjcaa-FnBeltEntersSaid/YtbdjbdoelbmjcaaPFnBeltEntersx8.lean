-- Written by a program of this session (wip/myprint.py: the kit's print with changes): not by print.sh itself.
import Derived.Test.YtbdjbdoelbmjcaaPFnBeltEntersx0
import Derived.Test.YtbdjbdoelbmjcaaPFnBeltEntersx3
import Derived.Test.YtbdjbdoelbmjcaaPFnBeltEntersx6
namespace Go.Proofs.Ytbdjbdoelbmjcaa.PFnBeltEnters
open Go.RowKit Go.Proofs.YtbdjbdoelbmjcaaW.PrintWords Go.Proofs.YtbdjbdoelbmjcaaW.PrintLast Go.Proofs.YtbdjbdoelbmjcaaW.PrintMore
open Go renaming Act.put → uc
open Go.Proofs.YtbdjbdoelbmjcaaW.PrintLast renaming any_of → uY, i64_w → uZ, i32_w → ua, pure_ → ub
open Go.Proofs.YtbdjbdoelbmjcaaW.PrintWords renaming Aside0.mk → uD, blk_cell → uF, blk_alloc → uG, blk_drewN → uH, blk_frozen → uI, blk_drew → uJ, below_drew1 → uK, below_size → uN, below_step → uO, blk_put → uP, Kd.R_drewN → uS, Kd.R_drew → uT, Kd.R_alloc → uU, Kd.R_far → uV, Kd.R_types → uW, Kd.R_mono → uX
open List renaming setIfInBounds_toArray → uA, set_cons_zero → uB, set_cons_succ → uC
open Bool renaming true → T, false → F
attribute [local go_sem] max2_int min2_int max_two min_two max_three min_three max_four min_four   -- for this text's walks alone
set_option linter.unusedVariables false
set_option linter.unusedSimpArgs false

/-! ### impl_Leave: function 27 -/
def impl_Leave.f (k : Nat) (a0_0 : Int) (a0_1 : Int) (a0_2 : Bool) (l0_3 : List (S53)) : Option (Int × Int × Bool × (List (S53)) × Int × Bool) := (impl_copyBelt.f a0_0 a0_1 a0_2 l0_3).bind fun bt211 => ((impl_BeltOk.f k a0_0 a0_1 a0_2 l0_3).bind fun t218 => (if t218 = true then (if a0_2 = true then (some (bt211.1, bt211.2.1, bt211.2.2.1, bt211.2.2.2, 0, false)) else (if (l0_3.length : Int) = 0 then (some (bt211.1, bt211.2.1, bt211.2.2.1, bt211.2.2.2, 0, false)) else (if 0 < (l0_3.length : Int) then (if ((rd_T53 l0_3 0).f1) < a0_0 then (some (bt211.1, bt211.2.1, bt211.2.2.1, bt211.2.2.2, 0, false)) else (if 1 ≤ (bt211.2.2.2.length : Int) then (some (bt211.1, bt211.2.1, bt211.2.2.1, (bt211.2.2.2.drop (1 : Int).toNat), (rd_T53 l0_3 0).f0, true)) else (none))) else (none)))) else (some (bt211.1, bt211.2.1, bt211.2.2.1, bt211.2.2.2, 0, false))))
theorem impl_Leave.mono : ∀ a0 a1 a2 a3 k, LeO (impl_Leave.f k a0 a1 a2 a3) (impl_Leave.f (k + 1) a0 a1 a2 a3) := by
 intro a0 a1 a2 a3 k
 unfold impl_Leave.f
 repeat' first
   | (with_reducible exact impl_BeltOk.mono _ _ _ _ _)
   | (with_reducible exact LeO.refl _)
   | (with_reducible exact LeO.none _)
   | (with_reducible refine LeO.ite ?_ ?_)
   | (with_reducible refine LeO.bind ?_ (fun _ => ?_))
   | exact impl_BeltOk.mono _ _ _ _ _
   | exact LeO.none _
   | refine LeO.ite ?_ ?_
   | refine LeO.bind ?_ (fun _ => ?_)
def impl_Leave.T2 : Bool × List (List Nat × List Nat) := (true, [([], []), ([0], [0]), ([1], [1]), ([2, 1], [2]), ([3], [3]), ([4, 3], [3, 4]), ([3, 5], [3, 5]), ([6, 3], [6]), ([7], [7]), ([8, 7], [7, 8]), ([9, 7], [7, 9]), ([10, 7], [7, 10]), ([7, 11], [7, 11]), ([12, 7], [12]), ([13], [13]), ([14, 13], [13, 14]), ([15, 13], [13, 15]), ([16, 13], [13, 16]), ([17, 13], [13, 17]), ([13], [13]), ([19, 13], [13, 19]), ([18, 20, 13], [13, 18, 20]), ([13, 21], [13, 21])])
def impl_Leave.B2 : List Nat := [0, 1, 3, 7, 15, 31, 63, 127, 255, 511, 1023, 2047, 4095, 8191, 16383, 32767, 65535, 131071, 262143, 16383, 540671, 2097151, 4194303]
theorem impl_Leave.tab2 : rtab .any (opsOf Try.f27 2) = impl_Leave.T2 := by kernel_rfl
theorem impl_Leave.bits2 : waitsOk impl_Leave.T2.2 impl_Leave.B2 = true := by kernel_rfl
def impl_Leave.T5 : Bool × List (List Nat × List Nat) := (true, [([], []), ([], []), ([1], [1]), ([2], [2]), ([3], [3]), ([4], [4]), ([0, 0], [0]), ([5, 6, 0, 1, 2, 3, 4, 5, 6], [5]), ([7, 0, 1, 2, 3, 4, 5, 6, 7], [])])
def impl_Leave.B5 : List Nat := [0, 0, 2, 6, 14, 30, 1, 127, 255]
theorem impl_Leave.tab5 : rtab .any (opsOf Try.f27 5) = impl_Leave.T5 := by kernel_rfl
theorem impl_Leave.bits5 : waitsOk impl_Leave.T5.2 impl_Leave.B5 = true := by kernel_rfl
set_option maxHeartbeats 8000000 in
set_option maxRecDepth 100000 in
theorem impl_Leave.calls (k : Nat) (a0_0 : Int) (a0_1 : Int) (a0_2 : Bool) (A0_3 : Option Addr) (c0_3 : Nat) (l0_3 : List (S53)) (r1 : Int) (r2 : Int) (r3 : Bool) (r4 : List (S53)) (r5 : Int) (r6 : Bool) (w : World) (hr0_3 : Kd.C k53 w A0_3 l0_3.length l0_3) (hc0_3 : l0_3.length ≤ c0_3) (h : impl_Leave.f k a0_0 a0_1 a0_2 l0_3 = some (r1, r2, r3, r4, r5, r6)) :
  Calls Try.prog 27 #[.agg #[.int .i64 a0_0, .int .i64 a0_1, .bool a0_2, .slice A0_3 l0_3.length c0_3]] w fun e w' => ∃ v3_ : Value, e = .returned (.tuple #[.agg #[.int .i64 r1, .int .i64 r2, .bool r3, v3_], .int .i64 r5, .bool r6]) ∧ Kd.Q k53 53 w' w.heap.size (fun _ => True) v3_ r4 ∧ Below w.heap.size w w' := by
 have hu29 := Try.underlying29
 have HR0_3 := uD hr0_3
 have HC0_3 := uD hc0_3
 clear hr0_3 hc0_3
 have HB := uD (Below.refl w.heap.size w)
 have H : ((impl_copyBelt.f a0_0 a0_1 a0_2 l0_3).bind fun bt211 => ((impl_BeltOk.f k a0_0 a0_1 a0_2 l0_3).bind fun t218 => (if t218 = true then (if a0_2 = true then (some (bt211.1, bt211.2.1, bt211.2.2.1, bt211.2.2.2, 0, false)) else (if (l0_3.length : Int) = 0 then (some (bt211.1, bt211.2.1, bt211.2.2.1, bt211.2.2.2, 0, false)) else (if 0 < (l0_3.length : Int) then (if ((rd_T53 l0_3 0).f1) < a0_0 then (some (bt211.1, bt211.2.1, bt211.2.2.1, bt211.2.2.2, 0, false)) else (if 1 ≤ (bt211.2.2.2.length : Int) then (some (bt211.1, bt211.2.1, bt211.2.2.1, (bt211.2.2.2.drop (1 : Int).toNat), (rd_T53 l0_3 0).f0, true)) else (none))) else (none)))) else (some (bt211.1, bt211.2.1, bt211.2.2.1, bt211.2.2.2, 0, false))))) = some (r1, r2, r3, r4, r5, r6) := h
 clear h
 replace H := Option.bind_eq_some_iff.mp H
 obtain ⟨⟨t211, t212, t213, t214⟩, A20, H⟩ := H
 replace H : ((impl_BeltOk.f k a0_0 a0_1 a0_2 l0_3).bind fun t218 => (if t218 = true then (if a0_2 = true then (some (t211, t212, t213, t214, 0, false)) else (if (l0_3.length : Int) = 0 then (some (t211, t212, t213, t214, 0, false)) else (if 0 < (l0_3.length : Int) then (if ((rd_T53 l0_3 0).f1) < a0_0 then (some (t211, t212, t213, t214, 0, false)) else (if 1 ≤ (t214.length : Int) then (some (t211, t212, t213, (t214.drop (1 : Int).toNat), (rd_T53 l0_3 0).f0, true)) else (none))) else (none)))) else (some (t211, t212, t213, t214, 0, false)))) = some (r1, r2, r3, r4, r5, r6) := H
 have A2 := uD A20
 clear A20
 replace H := Option.bind_eq_some_iff.mp H
 obtain ⟨t218, A30, H⟩ := H
 replace H : (if t218 = true then (if a0_2 = true then (some (t211, t212, t213, t214, 0, false)) else (if (l0_3.length : Int) = 0 then (some (t211, t212, t213, t214, 0, false)) else (if 0 < (l0_3.length : Int) then (if ((rd_T53 l0_3 0).f1) < a0_0 then (some (t211, t212, t213, t214, 0, false)) else (if 1 ≤ (t214.length : Int) then (some (t211, t212, t213, (t214.drop (1 : Int).toNat), (rd_T53 l0_3 0).f0, true)) else (none))) else (none)))) else (some (t211, t212, t213, t214, 0, false))) = some (r1, r2, r3, r4, r5, r6) := H
 have A3 := uD A30
 clear A30
 by_cases c4 : t218 = true
 ·subst c4
  have H1 : (if a0_2 = true then (some (t211, t212, t213, t214, 0, false)) else (if (l0_3.length : Int) = 0 then (some (t211, t212, t213, t214, 0, false)) else (if 0 < (l0_3.length : Int) then (if ((rd_T53 l0_3 0).f1) < a0_0 then (some (t211, t212, t213, t214, 0, false)) else (if 1 ≤ (t214.length : Int) then (some (t211, t212, t213, (t214.drop (1 : Int).toNat), (rd_T53 l0_3 0).f0, true)) else (none))) else (none)))) = some (r1, r2, r3, r4, r5, r6) := by rw [if_pos rfl] at H; first | done | exact H
  clear H
  have H := H1
  clear H1
  by_cases c5 : a0_2 = true
  ·subst c5
   have H1 : (some (t211, t212, t213, t214, 0, false)) = some (r1, r2, r3, r4, r5, r6) := by rw [if_pos rfl] at H; first | done | exact H
   clear H
   have H := H1
   clear H1
   simp only [Option.some.injEq, Prod.mk.injEq] at H
   obtain ⟨rfl, rfl, rfl, rfl, rfl, rfl⟩ := H
   go_enter Try.func27, Try.ntmps27
   try go_wp2_with (first | ((with_reducible refine gate_dst (N := 1) rfl ?_); (try (refine gate_guard (by rfl) ?_; dsimp only)); refine bx 1 #[.int .i64 a0_0, .int .i64 a0_1, .bool true, .slice A0_3 l0_3.length c0_3] 29 ?_; intro gb209 hg w6 hbox hb; have BK209 := uD (hbox); have GW209 := uD ((by rw [hg]; exact (uN (pb HB)) : w.heap.size ≤ gb209)); have GE209 := uD ((by rw [hg]; exact (uN (pb HB)) : w.heap.size ≤ gb209)); replace HB := uD (uO (pb HB) hb); clear hb hbox hg) | ((with_reducible refine gate_dst (N := 2) rfl ?_); (try (refine gate_guard (by rfl) ?_; dsimp only)); refine bx 2 #[.int .i64 0, .int .i64 0, .bool false, .slice none 0 0] 29 ?_; intro gb210 hg w7 hbox hb; have BK210 := uD (hbox); have GW210 := uD ((by rw [hg]; exact (uN (pb HB)) : w.heap.size ≤ gb210)); have GE210 := uD ((by rw [hg]; exact (uN (pb HB)) : w.heap.size ≤ gb210)); replace HB := uD (uO (pb HB) hb); have NB209_210 := uD ((by rw [hg]; exact Nat.ne_of_lt (blk_lt (pk BK209)) : gb209 ≠ gb210)); have NB210_209 := uD ((by rw [hg]; exact Nat.ne_of_gt (blk_lt (pk BK209)) : gb210 ≠ gb209)); replace BK209 := uD (blk_below (pk BK209) hb); clear hb hbox hg; have hnb8 := NB209_210.out; have hnc8 := NB210_209.out; obtain ⟨hcz9_0, hcz9_1, hcz9_2, hcz9_3, hfz9_0, hfz9_1, hfz9_2, hfz9_3⟩ := cz4 BK209) | ((with_reducible refine gate_callee (f := 54) rfl ?_); refine gl (some 7) Try.func54 #[.agg #[.int .i64 a0_0, .int .i64 a0_1, .bool true, .slice A0_3 l0_3.length c0_3]] ?_; (with_reducible refine (impl_copyBelt.calls a0_0 a0_1 true _ _ l0_3 t211 t212 t213 t214 _ ?side1 ?side2 A2.out).mono ?_); (case side1 => exact pc (Kd.C_below HR0_3.out HB.out)); (case side2 => exact HC0_3.out); rintro e w10 ⟨v215, rfl, ho0, hb⟩; refine ⟨_, rfl, ?_⟩; have HO216 := uD (Kd.R_lower ho0 (uN (pb HB))); replace BK209 := uD (blk_below (pk BK209) hb); replace BK210 := uD (blk_below (pk BK210) hb); replace HB := uD (uO (pb HB) hb); (try clear hb); (try clear hb2); (try clear hk); (try clear hi); (try clear ho0)) | ((with_reducible refine gate_dst (N := 5) rfl ?_); (try (refine gate_guard (by rfl) ?_; dsimp only)); refine bx 5 #[.int .i64 0, .int .i64 0, .bool false, .slice none 0 0] 29 ?_; intro gb217 hg w11 hbox hb; replace HO216 := uD (Kd.R_below (pr HO216) hb); have BK217 := uD (hbox); have GW217 := uD ((by rw [hg]; exact (uN (pb HB)) : w.heap.size ≤ gb217)); have GE217 := uD ((by rw [hg]; exact (uN (pb HB)) : w.heap.size ≤ gb217)); replace HB := uD (uO (pb HB) hb); have NB209_217 := uD ((by rw [hg]; exact Nat.ne_of_lt (blk_lt (pk BK209)) : gb209 ≠ gb217)); have NB217_209 := uD ((by rw [hg]; exact Nat.ne_of_gt (blk_lt (pk BK209)) : gb217 ≠ gb209)); replace BK209 := uD (blk_below (pk BK209) hb); have NB210_217 := uD ((by rw [hg]; exact Nat.ne_of_lt (blk_lt (pk BK210)) : gb210 ≠ gb217)); have NB217_210 := uD ((by rw [hg]; exact Nat.ne_of_gt (blk_lt (pk BK210)) : gb217 ≠ gb210)); replace BK210 := uD (blk_below (pk BK210) hb); clear hb hbox hg; have hnb12 := NB217_209.out; have hnc12 := NB209_217.out; have hnb13 := NB217_210.out; have hnc13 := NB210_217.out; obtain ⟨hcz14_0, hcz14_1, hcz14_2, hcz14_3, hfz14_0, hfz14_1, hfz14_2, hfz14_3⟩ := cz4 BK217; obtain ⟨Ao15, co15, eo15⟩ := Kd.R_slice HO216.out; subst eo15))
   have n0_ : Aside0 (Kd.R k53 53 ((((w11.setCell ⟨gb217, 0, none⟩ (.int .i64 t211)).setCell ⟨gb217, 1, none⟩ (.int .i64 t212)).setCell ⟨gb217, 2, none⟩ (.bool t213)).setCell ⟨gb217, 3, none⟩ (.slice Ao15 t214.length co15)) w.heap.size (fun _ => True) (.slice Ao15 t214.length co15) t214) := ⟨by (with_reducible repeat (first | apply uU | apply uS | apply uT)); exact uX (uV (p := ⟨gb217, 3, none⟩) (uV (p := ⟨gb217, 2, none⟩) (uV (p := ⟨gb217, 1, none⟩) (uV (p := ⟨gb217, 0, none⟩) (uW HO216.out BK217.out (by decide)) (fun _ hk => hk.2) (.int .i64 t211)) (fun _ hk => hk.2) (.int .i64 t212)) (fun _ hk => hk.2) (.bool t213)) (fun _ hk => hk.2) (.slice Ao15 t214.length co15)) (fun _ hk => trivial)⟩
   have n1_ : Aside0 (((((w11.setCell ⟨gb217, 0, none⟩ (.int .i64 t211)).setCell ⟨gb217, 1, none⟩ (.int .i64 t212)).setCell ⟨gb217, 2, none⟩ (.bool t213)).setCell ⟨gb217, 3, none⟩ (.slice Ao15 t214.length co15)).heap[gb209]? = some (.cells #[.int .i64 a0_0, .int .i64 a0_1, .bool true, .slice A0_3 l0_3.length c0_3] 29 (0, 0))) := ⟨by exact ps BK209⟩
   have n2_ : Aside0 (((((w11.setCell ⟨gb217, 0, none⟩ (.int .i64 t211)).setCell ⟨gb217, 1, none⟩ (.int .i64 t212)).setCell ⟨gb217, 2, none⟩ (.bool t213)).setCell ⟨gb217, 3, none⟩ (.slice Ao15 t214.length co15)).heap[gb210]? = some (.cells #[.int .i64 0, .int .i64 0, .bool false, .slice none 0 0] 29 (0, 0))) := ⟨by exact ps BK210⟩
   have n3_ : Aside0 (((((w11.setCell ⟨gb217, 0, none⟩ (.int .i64 t211)).setCell ⟨gb217, 1, none⟩ (.int .i64 t212)).setCell ⟨gb217, 2, none⟩ (.bool t213)).setCell ⟨gb217, 3, none⟩ (.slice Ao15 t214.length co15)).heap[gb217]? = some (.cells #[.int .i64 t211, .int .i64 t212, .bool t213, .slice Ao15 t214.length co15] 29 (0, 0))) := ⟨by (with_reducible repeat first|apply uH|apply uJ|apply uG); refine uP (cs := #[.int .i64 t211, .int .i64 t212, .bool t213, .slice none 0 0]) ?_ 3 _ rfl; (with_reducible repeat first|apply uH|apply uJ|apply uG); refine uP (cs := #[.int .i64 t211, .int .i64 t212, .bool false, .slice none 0 0]) ?_ 2 _ rfl; (with_reducible repeat first|apply uH|apply uJ|apply uG); refine uP (cs := #[.int .i64 t211, .int .i64 0, .bool false, .slice none 0 0]) ?_ 1 _ rfl; (with_reducible repeat first|apply uH|apply uJ|apply uG); refine uP (cs := #[.int .i64 0, .int .i64 0, .bool false, .slice none 0 0]) ?_ 0 _ rfl; (with_reducible repeat first|apply uH|apply uJ|apply uG); exact BK217.out⟩
   have n4_ : Aside0 (Below w.heap.size w ((((w11.setCell ⟨gb217, 0, none⟩ (.int .i64 t211)).setCell ⟨gb217, 1, none⟩ (.int .i64 t212)).setCell ⟨gb217, 2, none⟩ (.bool t213)).setCell ⟨gb217, 3, none⟩ (.slice Ao15 t214.length co15))) := ⟨pb HB⟩
   (try clear HO216)
   (try clear BK209)
   (try clear BK210)
   (try clear BK217)
   (try clear HB)
   generalize ((((w11.setCell ⟨gb217, 0, none⟩ (.int .i64 t211)).setCell ⟨gb217, 1, none⟩ (.int .i64 t212)).setCell ⟨gb217, 2, none⟩ (.bool t213)).setCell ⟨gb217, 3, none⟩ (.slice Ao15 t214.length co15)) = w16 at n0_ n1_ n2_ n3_ n4_ ⊢
   have HO216 := n0_
   have BK209 := n1_
   have BK210 := n2_
   have BK217 := n3_
   have HB := n4_
   clear n0_ n1_ n2_ n3_ n4_
   replace HO216 := uD (uT HO216.out)
   replace BK209 := uD (uJ BK209.out)
   replace BK210 := uD (uJ BK210.out)
   replace BK217 := uD (uJ BK217.out)
   replace HB := uD (uK HB.out)
   refine start_ (n := 23) (S := fun w' => w'.cell? ⟨gb209, 0, none⟩ = some (.int .i64 a0_0) ∧ w'.cell? ⟨gb209, 1, none⟩ = some (.int .i64 a0_1) ∧ w'.cell? ⟨gb209, 2, none⟩ = some (.bool true) ∧ w'.cell? ⟨gb209, 3, none⟩ = some (.slice A0_3 l0_3.length c0_3)) (ds := []) #[F,F,F,F,F,F,F,F,F,F,F,F,F,F,F,F,F,F,F,F,F,F,F] (by kernel_rfl) rfl rfl ⟨(uF BK209.out 0).trans rfl, (uF BK209.out 1).trans rfl, (uF BK209.out 2).trans rfl, (uF BK209.out 3).trans rfl⟩ (fun hHeld => ?_); refine with_tabW impl_Leave.tab2 impl_Leave.bits2 (fun HT_ HW_ => ?_)
   generalize w16.drew = w17 at HO216 BK209 BK210 BK217 HB HO216 hHeld ⊢
   refine tk 0 (some 8) #[T,F,F,F,F,F,F,F,F,F,F,F,F,F,F,F,F,F,F,F,F,F,F] HT_ HW_ hHeld ?_
   refine one_ (i := 1) (N := some 9) #[T,T,F,F,F,F,F,F,F,F,F,F,F,F,F,F,F,F,F,F,F,F,F] rfl rfl (one_of HT_.out (by kernel_rfl)) (by decide) (fun K hK => ?_)
   refine goes_ Try.func18 (by kernel_rfl) rfl #[.agg #[.int .i64 a0_0, .int .i64 a0_1, .bool true, .slice A0_3 l0_3.length c0_3]] (by rfl) rfl rfl (by (try simp only [List.map_toArray, List.map_cons, List.map_nil]); first | done | rfl | (simp only [List.length_drop, List.length_take]; rfl)) ?_
   with_reducible refine (impl_BeltOk.calls k a0_0 a0_1 true _ _ l0_3 true _ ?side1 ?side2 A3.out).mono ?_
   (case side1 => exact pc (Kd.C_below HR0_3.out HB.out))
   (case side2 => exact HC0_3.out)
   rintro e w18 ⟨rfl, hb⟩
   refine ⟨_, rfl, ?_⟩
   replace HO216 := uD (Kd.R_below (pr HO216) hb)
   replace BK209 := uD (blk_below (pk BK209) hb)
   replace BK210 := uD (blk_below (pk BK210) hb)
   replace BK217 := uD (blk_below (pk BK217) hb)
   replace HB := uD (uO (pb HB) hb)
   (try clear hb)
   (try clear hb2)
   (try clear hk)
   (try clear hi)
   refine hK.out _ _ ⟨(uF BK209.out 0).trans rfl, (uF BK209.out 1).trans rfl, (uF BK209.out 2).trans rfl, (uF BK209.out 3).trans rfl⟩ (fun hHeld => ?_)
   clear hK K
   refine norm_ (a' := ?_) ?_ ?_
   rotate_left
   ·show uc _ (some 9) _ = _
    simp only [uc, uA, uB, uC, uZ, ua]
    rfl
   refine pu 2 (some 10) #[T,T,T,F,F,F,F,F,F,F,F,F,F,F,F,F,F,F,F,F,F,F,F] HT_ ?_
   refine pu 3 (some 11) #[T,T,T,T,F,F,F,F,F,F,F,F,F,F,F,F,F,F,F,F,F,F,F] HT_ ?_
   refine pu 4 (some 12) #[T,T,T,T,T,F,F,F,F,F,F,F,F,F,F,F,F,F,F,F,F,F,F] HT_ ?_
   refine tk 5 (some 13) #[T,T,T,T,T,T,F,F,F,F,F,F,F,F,F,F,F,F,F,F,F,F,F] HT_ HW_ hHeld ?_
   refine pu 6 (some 14) #[T,T,T,T,T,T,T,F,F,F,F,F,F,F,F,F,F,F,F,F,F,F,F] HT_ ?_
   refine pu 7 (some 15) #[T,T,T,T,T,T,T,T,F,F,F,F,F,F,F,F,F,F,F,F,F,F,F] HT_ ?_
   refine ub (i := 8) (N := some 16) (v := undef) (a' := ?_) #[T,T,T,T,T,T,T,T,T,F,F,F,F,F,F,F,F,F,F,F,F,F,F] rfl rfl (uY HT_.out (by kernel_rfl)) (fun _ _ _ h => h) (Or.inr ⟨by rfl, rfl⟩) ?_ ?_
   rotate_left
   ·simp only [uc, uA, uB, uC, uZ, ua]
    rfl
   refine ub (i := 9) (N := some 17) (v := undef) (a' := ?_) #[T,T,T,T,T,T,T,T,T,T,F,F,F,F,F,F,F,F,F,F,F,F,F] rfl rfl (uY HT_.out (by kernel_rfl)) (fun _ _ _ h => h) (Or.inr ⟨by rfl, rfl⟩) ?_ ?_
   rotate_left
   ·simp only [uc, uA, uB, uC, uZ, ua]
    rfl
   refine ub (i := 10) (N := some 18) (v := undef) (a' := ?_) #[T,T,T,T,T,T,T,T,T,T,T,F,F,F,F,F,F,F,F,F,F,F,F] rfl rfl (uY HT_.out (by kernel_rfl)) (fun _ _ _ h => h) (Or.inr ⟨by rfl, rfl⟩) ?_ ?_
   rotate_left
   ·simp only [uc, uA, uB, uC, uZ, ua]
    rfl
   refine ub (i := 11) (N := some 19) (v := undef) (a' := ?_) #[T,T,T,T,T,T,T,T,T,T,T,T,F,F,F,F,F,F,F,F,F,F,F] rfl rfl (uY HT_.out (by kernel_rfl)) (fun _ _ _ h => h) (Or.inr ⟨by rfl, rfl⟩) ?_ ?_
   rotate_left
   ·simp only [uc, uA, uB, uC, uZ, ua]
    rfl
   refine pu 12 (some 20) #[T,T,T,T,T,T,T,T,T,T,T,T,T,F,F,F,F,F,F,F,F,F,F] HT_ ?_
   refine pu 13 (some 21) #[T,T,T,T,T,T,T,T,T,T,T,T,T,T,F,F,F,F,F,F,F,F,F] HT_ ?_
   refine ub (i := 14) (N := some 22) (v := undef) (a' := ?_) #[T,T,T,T,T,T,T,T,T,T,T,T,T,T,T,F,F,F,F,F,F,F,F] rfl rfl (uY HT_.out (by kernel_rfl)) (fun _ _ _ h => h) (Or.inr ⟨by rfl, rfl⟩) ?_ ?_
   rotate_left
   ·simp only [uc, uA, uB, uC, uZ, ua]
    rfl
   refine ub (i := 15) (N := some 23) (v := undef) (a' := ?_) #[T,T,T,T,T,T,T,T,T,T,T,T,T,T,T,T,F,F,F,F,F,F,F] rfl rfl (uY HT_.out (by kernel_rfl)) (fun _ _ _ h => h) (Or.inr ⟨by rfl, rfl⟩) ?_ ?_
   rotate_left
   ·simp only [uc, uA, uB, uC, uZ, ua]
    rfl
   refine ub (i := 16) (N := some 24) (v := undef) (a' := ?_) #[T,T,T,T,T,T,T,T,T,T,T,T,T,T,T,T,T,F,F,F,F,F,F] rfl rfl (uY HT_.out (by kernel_rfl)) (fun _ _ _ h => h) (Or.inr ⟨by rfl, rfl⟩) ?_ ?_
   rotate_left
   ·simp only [uc, uA, uB, uC, uZ, ua]
    rfl
   refine ub (i := 17) (N := some 25) (v := undef) (a' := ?_) #[T,T,T,T,T,T,T,T,T,T,T,T,T,T,T,T,T,T,F,F,F,F,F] rfl rfl (uY HT_.out (by kernel_rfl)) (fun _ _ _ h => h) (Or.inr ⟨by rfl, rfl⟩) ?_ ?_
   rotate_left
   ·simp only [uc, uA, uB, uC, uZ, ua]
    rfl
   refine ub (i := 18) (N := some 26) (v := undef) (a' := ?_) #[T,T,T,T,T,T,T,T,T,T,T,T,T,T,T,T,T,T,T,F,F,F,F] rfl rfl (uY HT_.out (by kernel_rfl)) (fun _ _ _ h => h) (Or.inr ⟨by rfl, rfl⟩) ?_ ?_
   rotate_left
   ·simp only [uc, uA, uB, uC, uZ, ua]
    rfl
   refine ub (i := 19) (N := some 27) (v := undef) (a' := ?_) #[T,T,T,T,T,T,T,T,T,T,T,T,T,T,T,T,T,T,T,T,F,F,F] rfl rfl (uY HT_.out (by kernel_rfl)) (fun _ _ _ h => h) (Or.inr ⟨by rfl, rfl⟩) ?_ ?_
   rotate_left
   ·simp only [uc, uA, uB, uC, uZ, ua]
    rfl
   refine ub (i := 20) (N := some 28) (v := undef) (a' := ?_) #[T,T,T,T,T,T,T,T,T,T,T,T,T,T,T,T,T,T,T,T,T,F,F] rfl rfl (uY HT_.out (by kernel_rfl)) (fun _ _ _ h => h) (Or.inr ⟨by rfl, rfl⟩) ?_ ?_
   rotate_left
   ·simp only [uc, uA, uB, uC, uZ, ua]
    rfl
   refine ub (i := 21) (N := some 29) (v := undef) (a' := ?_) #[T,T,T,T,T,T,T,T,T,T,T,T,T,T,T,T,T,T,T,T,T,T,F] rfl rfl (uY HT_.out (by kernel_rfl)) (fun _ _ _ h => h) (Or.inr ⟨by rfl, rfl⟩) ?_ ?_
   rotate_left
   ·simp only [uc, uA, uB, uC, uZ, ua]
    rfl
   refine pu 22 (some 30) #[T,T,T,T,T,T,T,T,T,T,T,T,T,T,T,T,T,T,T,T,T,T,T] HT_ ?_
   refine done_ (done_of HT_.out (by kernel_rfl)) ?_
   obtain ⟨hcz19_0, hcz19_1, hcz19_2, hcz19_3, hfz19_0, hfz19_1, hfz19_2, hfz19_3⟩ := cz4 BK217
   obtain ⟨hcz20_0, hcz20_1, hcz20_2, hcz20_3, hfz20_0, hfz20_1, hfz20_2, hfz20_3⟩ := cz4 BK210
   try go_wp2
   refine bodyPost_ret (results_ctt rfl _ _ gb210 29 #[.int .i64 t211, .int .i64 t212, .bool t213, .slice Ao15 t214.length co15] (0, 0) _ rfl (by (with_reducible repeat first|apply uH|apply uJ|apply uG); refine uP (cs := #[.int .i64 t211, .int .i64 t212, .bool t213, .slice none 0 0]) ?_ 3 _ rfl; (with_reducible repeat first|apply uH|apply uJ|apply uG); refine uP (cs := #[.int .i64 t211, .int .i64 t212, .bool false, .slice none 0 0]) ?_ 2 _ rfl; (with_reducible repeat first|apply uH|apply uJ|apply uG); refine uP (cs := #[.int .i64 t211, .int .i64 0, .bool false, .slice none 0 0]) ?_ 1 _ rfl; (with_reducible repeat first|apply uH|apply uJ|apply uG); refine uP (cs := #[.int .i64 0, .int .i64 0, .bool false, .slice none 0 0]) ?_ 0 _ rfl; (with_reducible repeat first|apply uH|apply uJ|apply uG); exact BK210.out) Try.underlying29 rfl (by kernel_rfl)) rfl ?_
   exact ⟨_, by first | rfl | (simp [errW_none, errW_some] <;> rfl) | (simp [*, errW_none, errW_some] <;> rfl), Kd.Q_of_R (by (with_reducible repeat (first | apply uU | apply uS | apply uT)); exact uX (uV (p := ⟨gb210, 3, none⟩) (uV (p := ⟨gb210, 2, none⟩) (uV (p := ⟨gb210, 1, none⟩) (uV (p := ⟨gb210, 0, none⟩) (uW HO216.out BK210.out (by decide)) (fun _ hk => hk.2) (.int .i64 t211)) (fun _ hk => hk.2) (.int .i64 t212)) (fun _ hk => hk.2) (.bool t213)) (fun _ hk => hk.2) (.slice Ao15 t214.length co15)) (fun _ hk => trivial)), pb HB⟩
  ·replace c5 := Bool.eq_false_iff.mpr c5
   subst c5
   have H1 : (if (l0_3.length : Int) = 0 then (some (t211, t212, t213, t214, 0, false)) else (if 0 < (l0_3.length : Int) then (if ((rd_T53 l0_3 0).f1) < a0_0 then (some (t211, t212, t213, t214, 0, false)) else (if 1 ≤ (t214.length : Int) then (some (t211, t212, t213, (t214.drop (1 : Int).toNat), (rd_T53 l0_3 0).f0, true)) else (none))) else (none))) = some (r1, r2, r3, r4, r5, r6) := by rw [if_neg (show ¬ (false = true) by decide)] at H; first | done | exact H
   clear H
   have H := H1
   clear H1
   by_cases c21 : (l0_3.length : Int) = 0
   ·rw [if_pos c21] at H
    have c21b0 : ((l0_3.length : Int) == 0) = true := beq_iff_eq.mpr c21
    have c21b1 : ((l0_3.length : Int) != 0) = false := bne_eq_false_iff_eq.mpr c21
    clear c21
    simp only [Option.some.injEq, Prod.mk.injEq] at H
    obtain ⟨rfl, rfl, rfl, rfl, rfl, rfl⟩ := H
    go_enter Try.func27, Try.ntmps27
    try go_wp2_with (first | ((with_reducible refine gate_dst (N := 1) rfl ?_); (try (refine gate_guard (by rfl) ?_; dsimp only)); refine bx 1 #[.int .i64 a0_0, .int .i64 a0_1, .bool false, .slice A0_3 l0_3.length c0_3] 29 ?_; intro gb209 hg w22 hbox hb; have BK209 := uD (hbox); have GW209 := uD ((by rw [hg]; exact (uN (pb HB)) : w.heap.size ≤ gb209)); have GE209 := uD ((by rw [hg]; exact (uN (pb HB)) : w.heap.size ≤ gb209)); replace HB := uD (uO (pb HB) hb); clear hb hbox hg) | ((with_reducible refine gate_dst (N := 2) rfl ?_); (try (refine gate_guard (by rfl) ?_; dsimp only)); refine bx 2 #[.int .i64 0, .int .i64 0, .bool false, .slice none 0 0] 29 ?_; intro gb210 hg w23 hbox hb; have BK210 := uD (hbox); have GW210 := uD ((by rw [hg]; exact (uN (pb HB)) : w.heap.size ≤ gb210)); have GE210 := uD ((by rw [hg]; exact (uN (pb HB)) : w.heap.size ≤ gb210)); replace HB := uD (uO (pb HB) hb); have NB209_210 := uD ((by rw [hg]; exact Nat.ne_of_lt (blk_lt (pk BK209)) : gb209 ≠ gb210)); have NB210_209 := uD ((by rw [hg]; exact Nat.ne_of_gt (blk_lt (pk BK209)) : gb210 ≠ gb209)); replace BK209 := uD (blk_below (pk BK209) hb); clear hb hbox hg; have hnb24 := NB209_210.out; have hnc24 := NB210_209.out; obtain ⟨hcz25_0, hcz25_1, hcz25_2, hcz25_3, hfz25_0, hfz25_1, hfz25_2, hfz25_3⟩ := cz4 BK209) | ((with_reducible refine gate_callee (f := 54) rfl ?_); refine gl (some 7) Try.func54 #[.agg #[.int .i64 a0_0, .int .i64 a0_1, .bool false, .slice A0_3 l0_3.length c0_3]] ?_; (with_reducible refine (impl_copyBelt.calls a0_0 a0_1 false _ _ l0_3 t211 t212 t213 t214 _ ?side1 ?side2 A2.out).mono ?_); (case side1 => exact pc (Kd.C_below HR0_3.out HB.out)); (case side2 => exact HC0_3.out); rintro e w26 ⟨v215, rfl, ho0, hb⟩; refine ⟨_, rfl, ?_⟩; have HO216 := uD (Kd.R_lower ho0 (uN (pb HB))); replace BK209 := uD (blk_below (pk BK209) hb); replace BK210 := uD (blk_below (pk BK210) hb); replace HB := uD (uO (pb HB) hb); (try clear hb); (try clear hb2); (try clear hk); (try clear hi); (try clear ho0)) | ((with_reducible refine gate_dst (N := 5) rfl ?_); (try (refine gate_guard (by rfl) ?_; dsimp only)); refine bx 5 #[.int .i64 0, .int .i64 0, .bool false, .slice none 0 0] 29 ?_; intro gb217 hg w27 hbox hb; replace HO216 := uD (Kd.R_below (pr HO216) hb); have BK217 := uD (hbox); have GW217 := uD ((by rw [hg]; exact (uN (pb HB)) : w.heap.size ≤ gb217)); have GE217 := uD ((by rw [hg]; exact (uN (pb HB)) : w.heap.size ≤ gb217)); replace HB := uD (uO (pb HB) hb); have NB209_217 := uD ((by rw [hg]; exact Nat.ne_of_lt (blk_lt (pk BK209)) : gb209 ≠ gb217)); have NB217_209 := uD ((by rw [hg]; exact Nat.ne_of_gt (blk_lt (pk BK209)) : gb217 ≠ gb209)); replace BK209 := uD (blk_below (pk BK209) hb); have NB210_217 := uD ((by rw [hg]; exact Nat.ne_of_lt (blk_lt (pk BK210)) : gb210 ≠ gb217)); have NB217_210 := uD ((by rw [hg]; exact Nat.ne_of_gt (blk_lt (pk BK210)) : gb217 ≠ gb210)); replace BK210 := uD (blk_below (pk BK210) hb); clear hb hbox hg; have hnb28 := NB217_209.out; have hnc28 := NB209_217.out; have hnb29 := NB217_210.out; have hnc29 := NB210_217.out; obtain ⟨hcz30_0, hcz30_1, hcz30_2, hcz30_3, hfz30_0, hfz30_1, hfz30_2, hfz30_3⟩ := cz4 BK217; obtain ⟨Ao31, co31, eo31⟩ := Kd.R_slice HO216.out; subst eo31))
    have n0_ : Aside0 (Kd.R k53 53 ((((w27.setCell ⟨gb217, 0, none⟩ (.int .i64 t211)).setCell ⟨gb217, 1, none⟩ (.int .i64 t212)).setCell ⟨gb217, 2, none⟩ (.bool t213)).setCell ⟨gb217, 3, none⟩ (.slice Ao31 t214.length co31)) w.heap.size (fun _ => True) (.slice Ao31 t214.length co31) t214) := ⟨by (with_reducible repeat (first | apply uU | apply uS | apply uT)); exact uX (uV (p := ⟨gb217, 3, none⟩) (uV (p := ⟨gb217, 2, none⟩) (uV (p := ⟨gb217, 1, none⟩) (uV (p := ⟨gb217, 0, none⟩) (uW HO216.out BK217.out (by decide)) (fun _ hk => hk.2) (.int .i64 t211)) (fun _ hk => hk.2) (.int .i64 t212)) (fun _ hk => hk.2) (.bool t213)) (fun _ hk => hk.2) (.slice Ao31 t214.length co31)) (fun _ hk => trivial)⟩
    have n1_ : Aside0 (((((w27.setCell ⟨gb217, 0, none⟩ (.int .i64 t211)).setCell ⟨gb217, 1, none⟩ (.int .i64 t212)).setCell ⟨gb217, 2, none⟩ (.bool t213)).setCell ⟨gb217, 3, none⟩ (.slice Ao31 t214.length co31)).heap[gb209]? = some (.cells #[.int .i64 a0_0, .int .i64 a0_1, .bool false, .slice A0_3 l0_3.length c0_3] 29 (0, 0))) := ⟨by exact ps BK209⟩
    have n2_ : Aside0 (((((w27.setCell ⟨gb217, 0, none⟩ (.int .i64 t211)).setCell ⟨gb217, 1, none⟩ (.int .i64 t212)).setCell ⟨gb217, 2, none⟩ (.bool t213)).setCell ⟨gb217, 3, none⟩ (.slice Ao31 t214.length co31)).heap[gb210]? = some (.cells #[.int .i64 0, .int .i64 0, .bool false, .slice none 0 0] 29 (0, 0))) := ⟨by exact ps BK210⟩
    have n3_ : Aside0 (((((w27.setCell ⟨gb217, 0, none⟩ (.int .i64 t211)).setCell ⟨gb217, 1, none⟩ (.int .i64 t212)).setCell ⟨gb217, 2, none⟩ (.bool t213)).setCell ⟨gb217, 3, none⟩ (.slice Ao31 t214.length co31)).heap[gb217]? = some (.cells #[.int .i64 t211, .int .i64 t212, .bool t213, .slice Ao31 t214.length co31] 29 (0, 0))) := ⟨by (with_reducible repeat first|apply uH|apply uJ|apply uG); refine uP (cs := #[.int .i64 t211, .int .i64 t212, .bool t213, .slice none 0 0]) ?_ 3 _ rfl; (with_reducible repeat first|apply uH|apply uJ|apply uG); refine uP (cs := #[.int .i64 t211, .int .i64 t212, .bool false, .slice none 0 0]) ?_ 2 _ rfl; (with_reducible repeat first|apply uH|apply uJ|apply uG); refine uP (cs := #[.int .i64 t211, .int .i64 0, .bool false, .slice none 0 0]) ?_ 1 _ rfl; (with_reducible repeat first|apply uH|apply uJ|apply uG); refine uP (cs := #[.int .i64 0, .int .i64 0, .bool false, .slice none 0 0]) ?_ 0 _ rfl; (with_reducible repeat first|apply uH|apply uJ|apply uG); exact BK217.out⟩
    have n4_ : Aside0 (Below w.heap.size w ((((w27.setCell ⟨gb217, 0, none⟩ (.int .i64 t211)).setCell ⟨gb217, 1, none⟩ (.int .i64 t212)).setCell ⟨gb217, 2, none⟩ (.bool t213)).setCell ⟨gb217, 3, none⟩ (.slice Ao31 t214.length co31))) := ⟨pb HB⟩
    (try clear HO216)
    (try clear BK209)
    (try clear BK210)
    (try clear BK217)
    (try clear HB)
    generalize ((((w27.setCell ⟨gb217, 0, none⟩ (.int .i64 t211)).setCell ⟨gb217, 1, none⟩ (.int .i64 t212)).setCell ⟨gb217, 2, none⟩ (.bool t213)).setCell ⟨gb217, 3, none⟩ (.slice Ao31 t214.length co31)) = w32 at n0_ n1_ n2_ n3_ n4_ ⊢
    have HO216 := n0_
    have BK209 := n1_
    have BK210 := n2_
    have BK217 := n3_
    have HB := n4_
    clear n0_ n1_ n2_ n3_ n4_
    replace HO216 := uD (uT HO216.out)
    replace BK209 := uD (uJ BK209.out)
    replace BK210 := uD (uJ BK210.out)
    replace BK217 := uD (uJ BK217.out)
    replace HB := uD (uK HB.out)
    refine start_ (n := 23) (S := fun w' => w'.cell? ⟨gb209, 0, none⟩ = some (.int .i64 a0_0) ∧ w'.cell? ⟨gb209, 1, none⟩ = some (.int .i64 a0_1) ∧ w'.cell? ⟨gb209, 2, none⟩ = some (.bool false) ∧ w'.cell? ⟨gb209, 3, none⟩ = some (.slice A0_3 l0_3.length c0_3)) (ds := []) #[F,F,F,F,F,F,F,F,F,F,F,F,F,F,F,F,F,F,F,F,F,F,F] (by kernel_rfl) rfl rfl ⟨(uF BK209.out 0).trans rfl, (uF BK209.out 1).trans rfl, (uF BK209.out 2).trans rfl, (uF BK209.out 3).trans rfl⟩ (fun hHeld => ?_); refine with_tabW impl_Leave.tab2 impl_Leave.bits2 (fun HT_ HW_ => ?_)
    generalize w32.drew = w33 at HO216 BK209 BK210 BK217 HB HO216 hHeld ⊢
    refine tk 0 (some 8) #[T,F,F,F,F,F,F,F,F,F,F,F,F,F,F,F,F,F,F,F,F,F,F] HT_ HW_ hHeld ?_
    refine one_ (i := 1) (N := some 9) #[T,T,F,F,F,F,F,F,F,F,F,F,F,F,F,F,F,F,F,F,F,F,F] rfl rfl (one_of HT_.out (by kernel_rfl)) (by decide) (fun K hK => ?_)
    refine goes_ Try.func18 (by kernel_rfl) rfl #[.agg #[.int .i64 a0_0, .int .i64 a0_1, .bool false, .slice A0_3 l0_3.length c0_3]] (by rfl) rfl rfl (by (try simp only [List.map_toArray, List.map_cons, List.map_nil]); first | done | rfl | (simp only [List.length_drop, List.length_take]; rfl)) ?_
    with_reducible refine (impl_BeltOk.calls k a0_0 a0_1 false _ _ l0_3 true _ ?side1 ?side2 A3.out).mono ?_
    (case side1 => exact pc (Kd.C_below HR0_3.out HB.out))
    (case side2 => exact HC0_3.out)
    rintro e w34 ⟨rfl, hb⟩
    refine ⟨_, rfl, ?_⟩
    replace HO216 := uD (Kd.R_below (pr HO216) hb)
    replace BK209 := uD (blk_below (pk BK209) hb)
    replace BK210 := uD (blk_below (pk BK210) hb)
    replace BK217 := uD (blk_below (pk BK217) hb)
    replace HB := uD (uO (pb HB) hb)
    (try clear hb)
    (try clear hb2)
    (try clear hk)
    (try clear hi)
    refine hK.out _ _ ⟨(uF BK209.out 0).trans rfl, (uF BK209.out 1).trans rfl, (uF BK209.out 2).trans rfl, (uF BK209.out 3).trans rfl⟩ (fun hHeld => ?_)
    clear hK K
    refine norm_ (a' := ?_) ?_ ?_
    rotate_left
    ·show uc _ (some 9) _ = _
     simp only [uc, uA, uB, uC, uZ, ua]
     rfl
    refine pu 2 (some 10) #[T,T,T,F,F,F,F,F,F,F,F,F,F,F,F,F,F,F,F,F,F,F,F] HT_ ?_
    refine pu 3 (some 11) #[T,T,T,T,F,F,F,F,F,F,F,F,F,F,F,F,F,F,F,F,F,F,F] HT_ ?_
    refine pu 4 (some 12) #[T,T,T,T,T,F,F,F,F,F,F,F,F,F,F,F,F,F,F,F,F,F,F] HT_ ?_
    refine tk 5 (some 13) #[T,T,T,T,T,T,F,F,F,F,F,F,F,F,F,F,F,F,F,F,F,F,F] HT_ HW_ hHeld ?_
    refine pu 6 (some 14) #[T,T,T,T,T,T,T,F,F,F,F,F,F,F,F,F,F,F,F,F,F,F,F] HT_ ?_
    refine pu 7 (some 15) #[T,T,T,T,T,T,T,T,F,F,F,F,F,F,F,F,F,F,F,F,F,F,F] HT_ ?_
    refine pu 8 (some 16) #[T,T,T,T,T,T,T,T,T,F,F,F,F,F,F,F,F,F,F,F,F,F,F] HT_ ?_
    refine tk 9 (some 17) #[T,T,T,T,T,T,T,T,T,T,F,F,F,F,F,F,F,F,F,F,F,F,F] HT_ HW_ hHeld ?_
    refine pu 10 (some 18) #[T,T,T,T,T,T,T,T,T,T,T,F,F,F,F,F,F,F,F,F,F,F,F] HT_ ?_
    refine pu 11 (some 19) #[T,T,T,T,T,T,T,T,T,T,T,T,F,F,F,F,F,F,F,F,F,F,F] HT_ ?_
    refine pu 12 (some 20) #[T,T,T,T,T,T,T,T,T,T,T,T,T,F,F,F,F,F,F,F,F,F,F] HT_ ?_
    refine pu 13 (some 21) #[T,T,T,T,T,T,T,T,T,T,T,T,T,T,F,F,F,F,F,F,F,F,F] HT_ ?_
    refine ub (i := 14) (N := some 22) (v := undef) (a' := ?_) #[T,T,T,T,T,T,T,T,T,T,T,T,T,T,T,F,F,F,F,F,F,F,F] rfl rfl (uY HT_.out (by kernel_rfl)) (fun _ _ _ h => h) (Or.inr ⟨by rfl, rfl⟩) ?_ ?_
    rotate_left
    ·simp only [uc, uA, uB, uC, uZ, ua]
     rfl
    refine ub (i := 15) (N := some 23) (v := undef) (a' := ?_) #[T,T,T,T,T,T,T,T,T,T,T,T,T,T,T,T,F,F,F,F,F,F,F] rfl rfl (uY HT_.out (by kernel_rfl)) (fun _ _ _ h => h) (Or.inr ⟨by rfl, rfl⟩) ?_ ?_
    rotate_left
    ·simp only [uc, uA, uB, uC, uZ, ua]
     rfl
    refine ub (i := 16) (N := some 24) (v := undef) (a' := ?_) #[T,T,T,T,T,T,T,T,T,T,T,T,T,T,T,T,T,F,F,F,F,F,F] rfl rfl (uY HT_.out (by kernel_rfl)) (fun _ _ _ h => h) (Or.inr ⟨by rfl, rfl⟩) ?_ ?_
    rotate_left
    ·simp only [uc, uA, uB, uC, uZ, ua]
     rfl
    refine ub (i := 17) (N := some 25) (v := undef) (a' := ?_) #[T,T,T,T,T,T,T,T,T,T,T,T,T,T,T,T,T,T,F,F,F,F,F] rfl rfl (uY HT_.out (by kernel_rfl)) (fun _ _ _ h => h) (Or.inr ⟨by rfl, rfl⟩) ?_ ?_
    rotate_left
    ·simp only [uc, uA, uB, uC, uZ, ua]
     rfl
    refine ub (i := 18) (N := some 26) (v := undef) (a' := ?_) #[T,T,T,T,T,T,T,T,T,T,T,T,T,T,T,T,T,T,T,F,F,F,F] rfl rfl (uY HT_.out (by kernel_rfl)) (fun _ _ _ h => h) (Or.inr ⟨by rfl, rfl⟩) ?_ ?_
    rotate_left
    ·simp only [uc, uA, uB, uC, uZ, ua]
     rfl
    refine ub (i := 19) (N := some 27) (v := undef) (a' := ?_) #[T,T,T,T,T,T,T,T,T,T,T,T,T,T,T,T,T,T,T,T,F,F,F] rfl rfl (uY HT_.out (by kernel_rfl)) (fun _ _ _ h => h) (Or.inr ⟨by rfl, rfl⟩) ?_ ?_
    rotate_left
    ·simp only [uc, uA, uB, uC, uZ, ua]
     rfl
    refine ub (i := 20) (N := some 28) (v := undef) (a' := ?_) #[T,T,T,T,T,T,T,T,T,T,T,T,T,T,T,T,T,T,T,T,T,F,F] rfl rfl (uY HT_.out (by kernel_rfl)) (fun _ _ _ h => h) (Or.inr ⟨by rfl, rfl⟩) ?_ ?_
    rotate_left
    ·simp only [uc, uA, uB, uC, uZ, ua]
     rfl
    refine ub (i := 21) (N := some 29) (v := undef) (a' := ?_) #[T,T,T,T,T,T,T,T,T,T,T,T,T,T,T,T,T,T,T,T,T,T,F] rfl rfl (uY HT_.out (by kernel_rfl)) (fun _ _ _ h => h) (Or.inr ⟨by rfl, rfl⟩) ?_ ?_
    rotate_left
    ·simp only [uc, uA, uB, uC, uZ, ua]
     rfl
    refine pu 22 (some 30) #[T,T,T,T,T,T,T,T,T,T,T,T,T,T,T,T,T,T,T,T,T,T,T] HT_ ?_
    refine done_ (done_of HT_.out (by kernel_rfl)) ?_
    obtain ⟨hcz35_0, hcz35_1, hcz35_2, hcz35_3, hfz35_0, hfz35_1, hfz35_2, hfz35_3⟩ := cz4 BK217
    obtain ⟨hcz36_0, hcz36_1, hcz36_2, hcz36_3, hfz36_0, hfz36_1, hfz36_2, hfz36_3⟩ := cz4 BK210
    try go_wp2
    refine bodyPost_ret (results_ctt rfl _ _ gb210 29 #[.int .i64 t211, .int .i64 t212, .bool t213, .slice Ao31 t214.length co31] (0, 0) _ rfl (by (with_reducible repeat first|apply uH|apply uJ|apply uG); refine uP (cs := #[.int .i64 t211, .int .i64 t212, .bool t213, .slice none 0 0]) ?_ 3 _ rfl; (with_reducible repeat first|apply uH|apply uJ|apply uG); refine uP (cs := #[.int .i64 t211, .int .i64 t212, .bool false, .slice none 0 0]) ?_ 2 _ rfl; (with_reducible repeat first|apply uH|apply uJ|apply uG); refine uP (cs := #[.int .i64 t211, .int .i64 0, .bool false, .slice none 0 0]) ?_ 1 _ rfl; (with_reducible repeat first|apply uH|apply uJ|apply uG); refine uP (cs := #[.int .i64 0, .int .i64 0, .bool false, .slice none 0 0]) ?_ 0 _ rfl; (with_reducible repeat first|apply uH|apply uJ|apply uG); exact BK210.out) Try.underlying29 rfl (by kernel_rfl)) rfl ?_
    exact ⟨_, by first | rfl | (simp [errW_none, errW_some] <;> rfl) | (simp [*, errW_none, errW_some] <;> rfl), Kd.Q_of_R (by (with_reducible repeat (first | apply uU | apply uS | apply uT)); exact uX (uV (p := ⟨gb210, 3, none⟩) (uV (p := ⟨gb210, 2, none⟩) (uV (p := ⟨gb210, 1, none⟩) (uV (p := ⟨gb210, 0, none⟩) (uW HO216.out BK210.out (by decide)) (fun _ hk => hk.2) (.int .i64 t211)) (fun _ hk => hk.2) (.int .i64 t212)) (fun _ hk => hk.2) (.bool t213)) (fun _ hk => hk.2) (.slice Ao31 t214.length co31)) (fun _ hk => trivial)), pb HB⟩
   ·rw [if_neg c21] at H
    have c21b0 : ((l0_3.length : Int) == 0) = false := beq_eq_false_iff_ne.mpr c21
    have c21b1 : ((l0_3.length : Int) != 0) = true := bne_iff_ne.mpr c21
    have c21b2 : ¬ (l0_3 = []) := fun h_ => c21 (by rw [h_]; rfl)
    by_cases c37 : 0 < (l0_3.length : Int)
    ·rw [if_pos c37] at H
     have c37b0 : decide (0 < (l0_3.length : Int)) = true := decide_eq_true c37
     have c37b1 : decide (0 < l0_3.length) = true := decide_eq_true (by omega)
     clear c37
     by_cases c38 : ((rd_T53 l0_3 0).f1) < a0_0
     ·rw [if_pos c38] at H
      have c38b0 : decide (((rd_T53 l0_3 0).f1) < a0_0) = true := decide_eq_true c38
      clear c38
      simp only [Option.some.injEq, Prod.mk.injEq] at H
      obtain ⟨rfl, rfl, rfl, rfl, rfl, rfl⟩ := H
      go_enter Try.func27, Try.ntmps27
      try go_wp2_with (first | ((with_reducible refine gate_dst (N := 1) rfl ?_); (try (refine gate_guard (by rfl) ?_; dsimp only)); refine bx 1 #[.int .i64 a0_0, .int .i64 a0_1, .bool false, .slice A0_3 l0_3.length c0_3] 29 ?_; intro gb209 hg w39 hbox hb; have BK209 := uD (hbox); have GW209 := uD ((by rw [hg]; exact (uN (pb HB)) : w.heap.size ≤ gb209)); have GE209 := uD ((by rw [hg]; exact (uN (pb HB)) : w.heap.size ≤ gb209)); replace HB := uD (uO (pb HB) hb); clear hb hbox hg) | ((with_reducible refine gate_dst (N := 2) rfl ?_); (try (refine gate_guard (by rfl) ?_; dsimp only)); refine bx 2 #[.int .i64 0, .int .i64 0, .bool false, .slice none 0 0] 29 ?_; intro gb210 hg w40 hbox hb; have BK210 := uD (hbox); have GW210 := uD ((by rw [hg]; exact (uN (pb HB)) : w.heap.size ≤ gb210)); have GE210 := uD ((by rw [hg]; exact (uN (pb HB)) : w.heap.size ≤ gb210)); replace HB := uD (uO (pb HB) hb); have NB209_210 := uD ((by rw [hg]; exact Nat.ne_of_lt (blk_lt (pk BK209)) : gb209 ≠ gb210)); have NB210_209 := uD ((by rw [hg]; exact Nat.ne_of_gt (blk_lt (pk BK209)) : gb210 ≠ gb209)); replace BK209 := uD (blk_below (pk BK209) hb); clear hb hbox hg; have hnb41 := NB209_210.out; have hnc41 := NB210_209.out; obtain ⟨hcz42_0, hcz42_1, hcz42_2, hcz42_3, hfz42_0, hfz42_1, hfz42_2, hfz42_3⟩ := cz4 BK209) | ((with_reducible refine gate_callee (f := 54) rfl ?_); refine gl (some 7) Try.func54 #[.agg #[.int .i64 a0_0, .int .i64 a0_1, .bool false, .slice A0_3 l0_3.length c0_3]] ?_; (with_reducible refine (impl_copyBelt.calls a0_0 a0_1 false _ _ l0_3 t211 t212 t213 t214 _ ?side1 ?side2 A2.out).mono ?_); (case side1 => exact pc (Kd.C_below HR0_3.out HB.out)); (case side2 => exact HC0_3.out); rintro e w43 ⟨v215, rfl, ho0, hb⟩; refine ⟨_, rfl, ?_⟩; have HO216 := uD (Kd.R_lower ho0 (uN (pb HB))); replace BK209 := uD (blk_below (pk BK209) hb); replace BK210 := uD (blk_below (pk BK210) hb); replace HB := uD (uO (pb HB) hb); (try clear hb); (try clear hb2); (try clear hk); (try clear hi); (try clear ho0)) | ((with_reducible refine gate_dst (N := 5) rfl ?_); (try (refine gate_guard (by rfl) ?_; dsimp only)); refine bx 5 #[.int .i64 0, .int .i64 0, .bool false, .slice none 0 0] 29 ?_; intro gb217 hg w44 hbox hb; replace HO216 := uD (Kd.R_below (pr HO216) hb); have BK217 := uD (hbox); have GW217 := uD ((by rw [hg]; exact (uN (pb HB)) : w.heap.size ≤ gb217)); have GE217 := uD ((by rw [hg]; exact (uN (pb HB)) : w.heap.size ≤ gb217)); replace HB := uD (uO (pb HB) hb); have NB209_217 := uD ((by rw [hg]; exact Nat.ne_of_lt (blk_lt (pk BK209)) : gb209 ≠ gb217)); have NB217_209 := uD ((by rw [hg]; exact Nat.ne_of_gt (blk_lt (pk BK209)) : gb217 ≠ gb209)); replace BK209 := uD (blk_below (pk BK209) hb); have NB210_217 := uD ((by rw [hg]; exact Nat.ne_of_lt (blk_lt (pk BK210)) : gb210 ≠ gb217)); have NB217_210 := uD ((by rw [hg]; exact Nat.ne_of_gt (blk_lt (pk BK210)) : gb217 ≠ gb210)); replace BK210 := uD (blk_below (pk BK210) hb); clear hb hbox hg; have hnb45 := NB217_209.out; have hnc45 := NB209_217.out; have hnb46 := NB217_210.out; have hnc46 := NB210_217.out; obtain ⟨hcz47_0, hcz47_1, hcz47_2, hcz47_3, hfz47_0, hfz47_1, hfz47_2, hfz47_3⟩ := cz4 BK217; obtain ⟨Ao48, co48, eo48⟩ := Kd.R_slice HO216.out; subst eo48))
      have n0_ : Aside0 (Kd.R k53 53 ((((w44.setCell ⟨gb217, 0, none⟩ (.int .i64 t211)).setCell ⟨gb217, 1, none⟩ (.int .i64 t212)).setCell ⟨gb217, 2, none⟩ (.bool t213)).setCell ⟨gb217, 3, none⟩ (.slice Ao48 t214.length co48)) w.heap.size (fun _ => True) (.slice Ao48 t214.length co48) t214) := ⟨by (with_reducible repeat (first | apply uU | apply uS | apply uT)); exact uX (uV (p := ⟨gb217, 3, none⟩) (uV (p := ⟨gb217, 2, none⟩) (uV (p := ⟨gb217, 1, none⟩) (uV (p := ⟨gb217, 0, none⟩) (uW HO216.out BK217.out (by decide)) (fun _ hk => hk.2) (.int .i64 t211)) (fun _ hk => hk.2) (.int .i64 t212)) (fun _ hk => hk.2) (.bool t213)) (fun _ hk => hk.2) (.slice Ao48 t214.length co48)) (fun _ hk => trivial)⟩
      have n1_ : Aside0 (((((w44.setCell ⟨gb217, 0, none⟩ (.int .i64 t211)).setCell ⟨gb217, 1, none⟩ (.int .i64 t212)).setCell ⟨gb217, 2, none⟩ (.bool t213)).setCell ⟨gb217, 3, none⟩ (.slice Ao48 t214.length co48)).heap[gb209]? = some (.cells #[.int .i64 a0_0, .int .i64 a0_1, .bool false, .slice A0_3 l0_3.length c0_3] 29 (0, 0))) := ⟨by exact ps BK209⟩
      have n2_ : Aside0 (((((w44.setCell ⟨gb217, 0, none⟩ (.int .i64 t211)).setCell ⟨gb217, 1, none⟩ (.int .i64 t212)).setCell ⟨gb217, 2, none⟩ (.bool t213)).setCell ⟨gb217, 3, none⟩ (.slice Ao48 t214.length co48)).heap[gb210]? = some (.cells #[.int .i64 0, .int .i64 0, .bool false, .slice none 0 0] 29 (0, 0))) := ⟨by exact ps BK210⟩
      have n3_ : Aside0 (((((w44.setCell ⟨gb217, 0, none⟩ (.int .i64 t211)).setCell ⟨gb217, 1, none⟩ (.int .i64 t212)).setCell ⟨gb217, 2, none⟩ (.bool t213)).setCell ⟨gb217, 3, none⟩ (.slice Ao48 t214.length co48)).heap[gb217]? = some (.cells #[.int .i64 t211, .int .i64 t212, .bool t213, .slice Ao48 t214.length co48] 29 (0, 0))) := ⟨by (with_reducible repeat first|apply uH|apply uJ|apply uG); refine uP (cs := #[.int .i64 t211, .int .i64 t212, .bool t213, .slice none 0 0]) ?_ 3 _ rfl; (with_reducible repeat first|apply uH|apply uJ|apply uG); refine uP (cs := #[.int .i64 t211, .int .i64 t212, .bool false, .slice none 0 0]) ?_ 2 _ rfl; (with_reducible repeat first|apply uH|apply uJ|apply uG); refine uP (cs := #[.int .i64 t211, .int .i64 0, .bool false, .slice none 0 0]) ?_ 1 _ rfl; (with_reducible repeat first|apply uH|apply uJ|apply uG); refine uP (cs := #[.int .i64 0, .int .i64 0, .bool false, .slice none 0 0]) ?_ 0 _ rfl; (with_reducible repeat first|apply uH|apply uJ|apply uG); exact BK217.out⟩
      have n4_ : Aside0 (Below w.heap.size w ((((w44.setCell ⟨gb217, 0, none⟩ (.int .i64 t211)).setCell ⟨gb217, 1, none⟩ (.int .i64 t212)).setCell ⟨gb217, 2, none⟩ (.bool t213)).setCell ⟨gb217, 3, none⟩ (.slice Ao48 t214.length co48))) := ⟨pb HB⟩
      (try clear HO216)
      (try clear BK209)
      (try clear BK210)
      (try clear BK217)
      (try clear HB)
      generalize ((((w44.setCell ⟨gb217, 0, none⟩ (.int .i64 t211)).setCell ⟨gb217, 1, none⟩ (.int .i64 t212)).setCell ⟨gb217, 2, none⟩ (.bool t213)).setCell ⟨gb217, 3, none⟩ (.slice Ao48 t214.length co48)) = w49 at n0_ n1_ n2_ n3_ n4_ ⊢
      have HO216 := n0_
      have BK209 := n1_
      have BK210 := n2_
      have BK217 := n3_
      have HB := n4_
      clear n0_ n1_ n2_ n3_ n4_
      replace HO216 := uD (uT HO216.out)
      replace BK209 := uD (uJ BK209.out)
      replace BK210 := uD (uJ BK210.out)
      replace BK217 := uD (uJ BK217.out)
      replace HB := uD (uK HB.out)
      have p219 : 0 ≤ (0 : Int) := (by omega)
      have q219 : 0 < (l0_3.length : Int) := of_decide_eq_true (by first | (with_reducible assumption) | assumption)
      obtain ⟨ad219, e219, hx219_0, hx219_1, hx219_2⟩ := at_T53 HR0_3.out 0 p219 q219
      have hw219_2 := hx219_2
      (try rw [show ((0 : Int)).toNat = 0 from rfl] at hw219_2)
      (try rw [show 0 * 3 = 0 from rfl] at hw219_2)
      (try rw [Addr.add_zero'] at hw219_2)
      have hw219_1 := hx219_1
      (try rw [show ((0 : Int)).toNat = 0 from rfl] at hw219_1)
      (try rw [show 0 * 3 = 0 from rfl] at hw219_1)
      (try rw [Addr.add_zero'] at hw219_1)
      have hw219_0 := hx219_0
      (try rw [show ((0 : Int)).toNat = 0 from rfl] at hw219_0)
      (try rw [show 0 * 3 = 0 from rfl] at hw219_0)
      (try rw [Addr.add_zero'] at hw219_0)
      cases e219
      have qi219 : (0 < l0_3.length) = True := eq_true (by omega)
      (try rw [show ((0 : Int)).toNat = 0 from rfl] at hx219_0)
      (try rw [show 0 * 3 = 0 from rfl] at hx219_0)
      (try rw [Addr.add_zero'] at hx219_0)
      (try rw [show ((0 : Int)).toNat = 0 from rfl] at hx219_1)
      (try rw [show 0 * 3 = 0 from rfl] at hx219_1)
      (try rw [Addr.add_zero'] at hx219_1)
      (try rw [show ((0 : Int)).toNat = 0 from rfl] at hx219_2)
      (try rw [show 0 * 3 = 0 from rfl] at hx219_2)
      (try rw [Addr.add_zero'] at hx219_2)
      replace hx219_0 := (HB.out.cell (World.block_lt_of_cell? w _ hx219_0)).trans hx219_0
      replace hx219_1 := (HB.out.cell (World.block_lt_of_cell? w _ hx219_1)).trans hx219_1
      replace hx219_2 := (HB.out.cell (World.block_lt_of_cell? w _ hx219_2)).trans hx219_2
      replace p219 := eq_true p219
      replace q219 := eq_true q219
      refine start_ (n := 23) (S := fun w' => w'.cell? ⟨gb209, 0, none⟩ = some (.int .i64 a0_0) ∧ w'.cell? ⟨gb209, 1, none⟩ = some (.int .i64 a0_1) ∧ w'.cell? ⟨gb209, 2, none⟩ = some (.bool false) ∧ w'.cell? ⟨gb209, 3, none⟩ = some (.slice (some ad219) l0_3.length c0_3) ∧ w'.cell? ad219 = some (.int .i64 ((rd_T53 l0_3 0).f0)) ∧ w'.cell? ⟨ad219.block, ad219.off + 1, none⟩ = some (.int .i64 ((rd_T53 l0_3 0).f1)) ∧ w'.cell? ⟨ad219.block, ad219.off + 2, none⟩ = some (.int .i64 ((rd_T53 l0_3 0).f2))) (ds := []) #[F,F,F,F,F,F,F,F,F,F,F,F,F,F,F,F,F,F,F,F,F,F,F] (by kernel_rfl) rfl rfl ⟨(uF BK209.out 0).trans rfl, (uF BK209.out 1).trans rfl, (uF BK209.out 2).trans rfl, (uF BK209.out 3).trans rfl, ((HB.out.cell (World.block_lt_of_cell? w _ hw219_0)).trans hw219_0), ((HB.out.cell (World.block_lt_of_cell? w _ hw219_1)).trans hw219_1), ((HB.out.cell (World.block_lt_of_cell? w _ hw219_2)).trans hw219_2)⟩ (fun hHeld => ?_); refine with_tabW impl_Leave.tab2 impl_Leave.bits2 (fun HT_ HW_ => ?_)
      generalize w49.drew = w50 at HO216 BK209 BK210 BK217 HB HO216 hx219_0 hx219_1 hx219_2 hHeld ⊢
      refine tk 0 (some 8) #[T,F,F,F,F,F,F,F,F,F,F,F,F,F,F,F,F,F,F,F,F,F,F] HT_ HW_ hHeld ?_
      refine one_ (i := 1) (N := some 9) #[T,T,F,F,F,F,F,F,F,F,F,F,F,F,F,F,F,F,F,F,F,F,F] rfl rfl (one_of HT_.out (by kernel_rfl)) (by decide) (fun K hK => ?_)
      refine goes_ Try.func18 (by kernel_rfl) rfl #[.agg #[.int .i64 a0_0, .int .i64 a0_1, .bool false, .slice (some ad219) l0_3.length c0_3]] (by rfl) rfl rfl (by (try simp only [List.map_toArray, List.map_cons, List.map_nil]); first | done | rfl | (simp only [List.length_drop, List.length_take]; rfl)) ?_
      with_reducible refine (impl_BeltOk.calls k a0_0 a0_1 false _ _ l0_3 true _ ?side1 ?side2 A3.out).mono ?_
      (case side1 => exact pc (Kd.C_below HR0_3.out HB.out))
      (case side2 => exact HC0_3.out)
      rintro e w51 ⟨rfl, hb⟩
      refine ⟨_, rfl, ?_⟩
      replace HO216 := uD (Kd.R_below (pr HO216) hb)
      replace BK209 := uD (blk_below (pk BK209) hb)
      replace BK210 := uD (blk_below (pk BK210) hb)
      replace BK217 := uD (blk_below (pk BK217) hb)
      replace HB := uD (uO (pb HB) hb)
      (try clear hb)
      (try clear hb2)
      (try clear hk)
      (try clear hi)
      refine hK.out _ _ ⟨(uF BK209.out 0).trans rfl, (uF BK209.out 1).trans rfl, (uF BK209.out 2).trans rfl, (uF BK209.out 3).trans rfl, ((HB.out.cell (World.block_lt_of_cell? w _ hw219_0)).trans hw219_0), ((HB.out.cell (World.block_lt_of_cell? w _ hw219_1)).trans hw219_1), ((HB.out.cell (World.block_lt_of_cell? w _ hw219_2)).trans hw219_2)⟩ (fun hHeld => ?_)
      clear hK K
      refine norm_ (a' := ?_) ?_ ?_
      rotate_left
      ·show uc _ (some 9) _ = _
       simp only [uc, uA, uB, uC, uZ, ua]
       rfl
      refine pu 2 (some 10) #[T,T,T,F,F,F,F,F,F,F,F,F,F,F,F,F,F,F,F,F,F,F,F] HT_ ?_
      refine pu 3 (some 11) #[T,T,T,T,F,F,F,F,F,F,F,F,F,F,F,F,F,F,F,F,F,F,F] HT_ ?_
      refine pu 4 (some 12) #[T,T,T,T,T,F,F,F,F,F,F,F,F,F,F,F,F,F,F,F,F,F,F] HT_ ?_
      refine tk 5 (some 13) #[T,T,T,T,T,T,F,F,F,F,F,F,F,F,F,F,F,F,F,F,F,F,F] HT_ HW_ hHeld ?_
      refine pu 6 (some 14) #[T,T,T,T,T,T,T,F,F,F,F,F,F,F,F,F,F,F,F,F,F,F,F] HT_ ?_
      refine pu 7 (some 15) #[T,T,T,T,T,T,T,T,F,F,F,F,F,F,F,F,F,F,F,F,F,F,F] HT_ ?_
      refine pu 8 (some 16) #[T,T,T,T,T,T,T,T,T,F,F,F,F,F,F,F,F,F,F,F,F,F,F] HT_ ?_
      refine tk 9 (some 17) #[T,T,T,T,T,T,T,T,T,T,F,F,F,F,F,F,F,F,F,F,F,F,F] HT_ HW_ hHeld ?_
      refine pu 10 (some 18) #[T,T,T,T,T,T,T,T,T,T,T,F,F,F,F,F,F,F,F,F,F,F,F] HT_ ?_
      refine pu 11 (some 19) #[T,T,T,T,T,T,T,T,T,T,T,T,F,F,F,F,F,F,F,F,F,F,F] HT_ ?_
      refine pu 12 (some 20) #[T,T,T,T,T,T,T,T,T,T,T,T,T,F,F,F,F,F,F,F,F,F,F] HT_ ?_
      refine pu 13 (some 21) #[T,T,T,T,T,T,T,T,T,T,T,T,T,T,F,F,F,F,F,F,F,F,F] HT_ ?_
      refine pu 14 (some 22) #[T,T,T,T,T,T,T,T,T,T,T,T,T,T,T,F,F,F,F,F,F,F,F] HT_ ?_
      refine pu 19 (some 27) #[T,T,T,T,T,T,T,T,T,T,T,T,T,T,T,F,F,F,F,T,F,F,F] HT_ ?_
      refine tk 15 (some 23) #[T,T,T,T,T,T,T,T,T,T,T,T,T,T,T,T,F,F,F,T,F,F,F] HT_ HW_ hHeld ?_
      refine pu 16 (some 24) #[T,T,T,T,T,T,T,T,T,T,T,T,T,T,T,T,T,F,F,T,F,F,F] HT_ ?_
      refine pu 17 (some 25) #[T,T,T,T,T,T,T,T,T,T,T,T,T,T,T,T,T,T,F,T,F,F,F] HT_ ?_
      refine tk 18 (some 26) #[T,T,T,T,T,T,T,T,T,T,T,T,T,T,T,T,T,T,T,T,F,F,F] HT_ HW_ hHeld ?_
      refine tk 20 (some 28) #[T,T,T,T,T,T,T,T,T,T,T,T,T,T,T,T,T,T,T,T,T,F,F] HT_ HW_ hHeld ?_
      refine pu 21 (some 29) #[T,T,T,T,T,T,T,T,T,T,T,T,T,T,T,T,T,T,T,T,T,T,F] HT_ ?_
      refine pu 22 (some 30) #[T,T,T,T,T,T,T,T,T,T,T,T,T,T,T,T,T,T,T,T,T,T,T] HT_ ?_
      refine done_ (done_of HT_.out (by kernel_rfl)) ?_
      obtain ⟨hcz52_0, hcz52_1, hcz52_2, hcz52_3, hfz52_0, hfz52_1, hfz52_2, hfz52_3⟩ := cz4 BK217
      obtain ⟨hcz53_0, hcz53_1, hcz53_2, hcz53_3, hfz53_0, hfz53_1, hfz53_2, hfz53_3⟩ := cz4 BK210
      try go_wp2
      refine bodyPost_ret (results_ctt rfl _ _ gb210 29 #[.int .i64 t211, .int .i64 t212, .bool t213, .slice Ao48 t214.length co48] (0, 0) _ rfl (by (with_reducible repeat first|apply uH|apply uJ|apply uG); refine uP (cs := #[.int .i64 t211, .int .i64 t212, .bool t213, .slice none 0 0]) ?_ 3 _ rfl; (with_reducible repeat first|apply uH|apply uJ|apply uG); refine uP (cs := #[.int .i64 t211, .int .i64 t212, .bool false, .slice none 0 0]) ?_ 2 _ rfl; (with_reducible repeat first|apply uH|apply uJ|apply uG); refine uP (cs := #[.int .i64 t211, .int .i64 0, .bool false, .slice none 0 0]) ?_ 1 _ rfl; (with_reducible repeat first|apply uH|apply uJ|apply uG); refine uP (cs := #[.int .i64 0, .int .i64 0, .bool false, .slice none 0 0]) ?_ 0 _ rfl; (with_reducible repeat first|apply uH|apply uJ|apply uG); exact BK210.out) Try.underlying29 rfl (by kernel_rfl)) rfl ?_
      exact ⟨_, by first | rfl | (simp [errW_none, errW_some] <;> rfl) | (simp [*, errW_none, errW_some] <;> rfl), Kd.Q_of_R (by (with_reducible repeat (first | apply uU | apply uS | apply uT)); exact uX (uV (p := ⟨gb210, 3, none⟩) (uV (p := ⟨gb210, 2, none⟩) (uV (p := ⟨gb210, 1, none⟩) (uV (p := ⟨gb210, 0, none⟩) (uW HO216.out BK210.out (by decide)) (fun _ hk => hk.2) (.int .i64 t211)) (fun _ hk => hk.2) (.int .i64 t212)) (fun _ hk => hk.2) (.bool t213)) (fun _ hk => hk.2) (.slice Ao48 t214.length co48)) (fun _ hk => trivial)), pb HB⟩
     ·rw [if_neg c38] at H
      have c38b0 : decide (((rd_T53 l0_3 0).f1) < a0_0) = false := decide_eq_false c38
      clear c38
      by_cases c54 : 1 ≤ (t214.length : Int)
      ·rw [if_pos c54] at H
       have c54b0 := eq_true c54
       have c54b1 : decide (1 ≤ (t214.length : Int)) = true := decide_eq_true c54
       clear c54
       obtain ⟨y220, hy220⟩ : ∃ y_ : List (S53), y_ = (t214.drop (1 : Int).toNat) := ⟨_, rfl⟩
       replace H : (some (t211, t212, t213, y220, (rd_T53 l0_3 0).f0, true)) = some (r1, r2, r3, r4, r5, r6) := by first | (rw [hy220]; with_reducible exact H) | (have H2_ := (Option.bind_some _ _).symm.trans H; rw [hy220]; with_reducible exact H2_) | (have H2_ := (Option.bind_some _ _).symm.trans H; with_reducible exact H2_) | with_reducible exact H | (rw [hy220]; exact H) | exact H
       have Ny220 := uD hy220
       clear hy220
       simp only [Option.some.injEq, Prod.mk.injEq] at H
       obtain ⟨rfl, rfl, rfl, rfl, rfl, rfl⟩ := H
       go_enter Try.func27, Try.ntmps27
       try go_wp2_with (first | ((with_reducible refine gate_dst (N := 1) rfl ?_); (try (refine gate_guard (by rfl) ?_; dsimp only)); refine bx 1 #[.int .i64 a0_0, .int .i64 a0_1, .bool false, .slice A0_3 l0_3.length c0_3] 29 ?_; intro gb209 hg w55 hbox hb; have BK209 := uD (hbox); have GW209 := uD ((by rw [hg]; exact (uN (pb HB)) : w.heap.size ≤ gb209)); have GE209 := uD ((by rw [hg]; exact (uN (pb HB)) : w.heap.size ≤ gb209)); replace HB := uD (uO (pb HB) hb); clear hb hbox hg) | ((with_reducible refine gate_dst (N := 2) rfl ?_); (try (refine gate_guard (by rfl) ?_; dsimp only)); refine bx 2 #[.int .i64 0, .int .i64 0, .bool false, .slice none 0 0] 29 ?_; intro gb210 hg w56 hbox hb; have BK210 := uD (hbox); have GW210 := uD ((by rw [hg]; exact (uN (pb HB)) : w.heap.size ≤ gb210)); have GE210 := uD ((by rw [hg]; exact (uN (pb HB)) : w.heap.size ≤ gb210)); replace HB := uD (uO (pb HB) hb); have NB209_210 := uD ((by rw [hg]; exact Nat.ne_of_lt (blk_lt (pk BK209)) : gb209 ≠ gb210)); have NB210_209 := uD ((by rw [hg]; exact Nat.ne_of_gt (blk_lt (pk BK209)) : gb210 ≠ gb209)); replace BK209 := uD (blk_below (pk BK209) hb); clear hb hbox hg; have hnb57 := NB209_210.out; have hnc57 := NB210_209.out; obtain ⟨hcz58_0, hcz58_1, hcz58_2, hcz58_3, hfz58_0, hfz58_1, hfz58_2, hfz58_3⟩ := cz4 BK209) | ((with_reducible refine gate_callee (f := 54) rfl ?_); refine gl (some 7) Try.func54 #[.agg #[.int .i64 a0_0, .int .i64 a0_1, .bool false, .slice A0_3 l0_3.length c0_3]] ?_; (with_reducible refine (impl_copyBelt.calls a0_0 a0_1 false _ _ l0_3 t211 t212 t213 t214 _ ?side1 ?side2 A2.out).mono ?_); (case side1 => exact pc (Kd.C_below HR0_3.out HB.out)); (case side2 => exact HC0_3.out); rintro e w59 ⟨v215, rfl, ho0, hb⟩; refine ⟨_, rfl, ?_⟩; have HO216 := uD (Kd.R_lower ho0 (uN (pb HB))); replace BK209 := uD (blk_below (pk BK209) hb); replace BK210 := uD (blk_below (pk BK210) hb); replace HB := uD (uO (pb HB) hb); (try clear hb); (try clear hb2); (try clear hk); (try clear hi); (try clear ho0)) | ((with_reducible refine gate_dst (N := 5) rfl ?_); (try (refine gate_guard (by rfl) ?_; dsimp only)); refine bx 5 #[.int .i64 0, .int .i64 0, .bool false, .slice none 0 0] 29 ?_; intro gb217 hg w60 hbox hb; replace HO216 := uD (Kd.R_below (pr HO216) hb); have BK217 := uD (hbox); have GW217 := uD ((by rw [hg]; exact (uN (pb HB)) : w.heap.size ≤ gb217)); have GE217 := uD ((by rw [hg]; exact (uN (pb HB)) : w.heap.size ≤ gb217)); replace HB := uD (uO (pb HB) hb); have NB209_217 := uD ((by rw [hg]; exact Nat.ne_of_lt (blk_lt (pk BK209)) : gb209 ≠ gb217)); have NB217_209 := uD ((by rw [hg]; exact Nat.ne_of_gt (blk_lt (pk BK209)) : gb217 ≠ gb209)); replace BK209 := uD (blk_below (pk BK209) hb); have NB210_217 := uD ((by rw [hg]; exact Nat.ne_of_lt (blk_lt (pk BK210)) : gb210 ≠ gb217)); have NB217_210 := uD ((by rw [hg]; exact Nat.ne_of_gt (blk_lt (pk BK210)) : gb217 ≠ gb210)); replace BK210 := uD (blk_below (pk BK210) hb); clear hb hbox hg; have hnb61 := NB217_209.out; have hnc61 := NB209_217.out; have hnb62 := NB217_210.out; have hnc62 := NB210_217.out; obtain ⟨hcz63_0, hcz63_1, hcz63_2, hcz63_3, hfz63_0, hfz63_1, hfz63_2, hfz63_3⟩ := cz4 BK217; obtain ⟨Ao64, co64, eo64⟩ := Kd.R_slice HO216.out; subst eo64))
       have n0_ : Aside0 (Kd.R k53 53 ((((w60.setCell ⟨gb217, 0, none⟩ (.int .i64 t211)).setCell ⟨gb217, 1, none⟩ (.int .i64 t212)).setCell ⟨gb217, 2, none⟩ (.bool t213)).setCell ⟨gb217, 3, none⟩ (.slice Ao64 t214.length co64)) w.heap.size (fun _ => True) (.slice Ao64 t214.length co64) t214) := ⟨by (with_reducible repeat (first | apply uU | apply uS | apply uT)); exact uX (uV (p := ⟨gb217, 3, none⟩) (uV (p := ⟨gb217, 2, none⟩) (uV (p := ⟨gb217, 1, none⟩) (uV (p := ⟨gb217, 0, none⟩) (uW HO216.out BK217.out (by decide)) (fun _ hk => hk.2) (.int .i64 t211)) (fun _ hk => hk.2) (.int .i64 t212)) (fun _ hk => hk.2) (.bool t213)) (fun _ hk => hk.2) (.slice Ao64 t214.length co64)) (fun _ hk => trivial)⟩
       have n1_ : Aside0 (((((w60.setCell ⟨gb217, 0, none⟩ (.int .i64 t211)).setCell ⟨gb217, 1, none⟩ (.int .i64 t212)).setCell ⟨gb217, 2, none⟩ (.bool t213)).setCell ⟨gb217, 3, none⟩ (.slice Ao64 t214.length co64)).heap[gb209]? = some (.cells #[.int .i64 a0_0, .int .i64 a0_1, .bool false, .slice A0_3 l0_3.length c0_3] 29 (0, 0))) := ⟨by exact ps BK209⟩
       have n2_ : Aside0 (((((w60.setCell ⟨gb217, 0, none⟩ (.int .i64 t211)).setCell ⟨gb217, 1, none⟩ (.int .i64 t212)).setCell ⟨gb217, 2, none⟩ (.bool t213)).setCell ⟨gb217, 3, none⟩ (.slice Ao64 t214.length co64)).heap[gb210]? = some (.cells #[.int .i64 0, .int .i64 0, .bool false, .slice none 0 0] 29 (0, 0))) := ⟨by exact ps BK210⟩
       have n3_ : Aside0 (((((w60.setCell ⟨gb217, 0, none⟩ (.int .i64 t211)).setCell ⟨gb217, 1, none⟩ (.int .i64 t212)).setCell ⟨gb217, 2, none⟩ (.bool t213)).setCell ⟨gb217, 3, none⟩ (.slice Ao64 t214.length co64)).heap[gb217]? = some (.cells #[.int .i64 t211, .int .i64 t212, .bool t213, .slice Ao64 t214.length co64] 29 (0, 0))) := ⟨by (with_reducible repeat first|apply uH|apply uJ|apply uG); refine uP (cs := #[.int .i64 t211, .int .i64 t212, .bool t213, .slice none 0 0]) ?_ 3 _ rfl; (with_reducible repeat first|apply uH|apply uJ|apply uG); refine uP (cs := #[.int .i64 t211, .int .i64 t212, .bool false, .slice none 0 0]) ?_ 2 _ rfl; (with_reducible repeat first|apply uH|apply uJ|apply uG); refine uP (cs := #[.int .i64 t211, .int .i64 0, .bool false, .slice none 0 0]) ?_ 1 _ rfl; (with_reducible repeat first|apply uH|apply uJ|apply uG); refine uP (cs := #[.int .i64 0, .int .i64 0, .bool false, .slice none 0 0]) ?_ 0 _ rfl; (with_reducible repeat first|apply uH|apply uJ|apply uG); exact BK217.out⟩
       have n4_ : Aside0 (Below w.heap.size w ((((w60.setCell ⟨gb217, 0, none⟩ (.int .i64 t211)).setCell ⟨gb217, 1, none⟩ (.int .i64 t212)).setCell ⟨gb217, 2, none⟩ (.bool t213)).setCell ⟨gb217, 3, none⟩ (.slice Ao64 t214.length co64))) := ⟨pb HB⟩
       (try clear HO216)
       (try clear BK209)
       (try clear BK210)
       (try clear BK217)
       (try clear HB)
       generalize ((((w60.setCell ⟨gb217, 0, none⟩ (.int .i64 t211)).setCell ⟨gb217, 1, none⟩ (.int .i64 t212)).setCell ⟨gb217, 2, none⟩ (.bool t213)).setCell ⟨gb217, 3, none⟩ (.slice Ao64 t214.length co64)) = w65 at n0_ n1_ n2_ n3_ n4_ ⊢
       have HO216 := n0_
       have BK209 := n1_
       have BK210 := n2_
       have BK217 := n3_
       have HB := n4_
       clear n0_ n1_ n2_ n3_ n4_
       replace HO216 := uD (uT HO216.out)
       replace BK209 := uD (uJ BK209.out)
       replace BK210 := uD (uJ BK210.out)
       replace BK217 := uD (uJ BK217.out)
       replace HB := uD (uK HB.out)
       have p219 : 0 ≤ (0 : Int) := (by omega)
       have q219 : 0 < (l0_3.length : Int) := of_decide_eq_true (by first | (with_reducible assumption) | assumption)
       obtain ⟨ad219, e219, hx219_0, hx219_1, hx219_2⟩ := at_T53 HR0_3.out 0 p219 q219
       have hw219_2 := hx219_2
       (try rw [show ((0 : Int)).toNat = 0 from rfl] at hw219_2)
       (try rw [show 0 * 3 = 0 from rfl] at hw219_2)
       (try rw [Addr.add_zero'] at hw219_2)
       have hw219_1 := hx219_1
       (try rw [show ((0 : Int)).toNat = 0 from rfl] at hw219_1)
       (try rw [show 0 * 3 = 0 from rfl] at hw219_1)
       (try rw [Addr.add_zero'] at hw219_1)
       have hw219_0 := hx219_0
       (try rw [show ((0 : Int)).toNat = 0 from rfl] at hw219_0)
       (try rw [show 0 * 3 = 0 from rfl] at hw219_0)
       (try rw [Addr.add_zero'] at hw219_0)
       cases e219
       have qi219 : (0 < l0_3.length) = True := eq_true (by omega)
       (try rw [show ((0 : Int)).toNat = 0 from rfl] at hx219_0)
       (try rw [show 0 * 3 = 0 from rfl] at hx219_0)
       (try rw [Addr.add_zero'] at hx219_0)
       (try rw [show ((0 : Int)).toNat = 0 from rfl] at hx219_1)
       (try rw [show 0 * 3 = 0 from rfl] at hx219_1)
       (try rw [Addr.add_zero'] at hx219_1)
       (try rw [show ((0 : Int)).toNat = 0 from rfl] at hx219_2)
       (try rw [show 0 * 3 = 0 from rfl] at hx219_2)
       (try rw [Addr.add_zero'] at hx219_2)
       replace hx219_0 := (HB.out.cell (World.block_lt_of_cell? w _ hx219_0)).trans hx219_0
       replace hx219_1 := (HB.out.cell (World.block_lt_of_cell? w _ hx219_1)).trans hx219_1
       replace hx219_2 := (HB.out.cell (World.block_lt_of_cell? w _ hx219_2)).trans hx219_2
       replace p219 := eq_true p219
       replace q219 := eq_true q219
       refine start_ (n := 23) (S := fun w' => w'.cell? ⟨gb209, 0, none⟩ = some (.int .i64 a0_0) ∧ w'.cell? ⟨gb209, 1, none⟩ = some (.int .i64 a0_1) ∧ w'.cell? ⟨gb209, 2, none⟩ = some (.bool false) ∧ w'.cell? ⟨gb209, 3, none⟩ = some (.slice (some ad219) l0_3.length c0_3) ∧ w'.cell? ad219 = some (.int .i64 ((rd_T53 l0_3 0).f0)) ∧ w'.cell? ⟨ad219.block, ad219.off + 1, none⟩ = some (.int .i64 ((rd_T53 l0_3 0).f1)) ∧ w'.cell? ⟨ad219.block, ad219.off + 2, none⟩ = some (.int .i64 ((rd_T53 l0_3 0).f2))) (ds := []) #[F,F,F,F,F,F,F,F,F,F,F,F,F,F,F,F,F,F,F,F,F,F,F] (by kernel_rfl) rfl rfl ⟨(uF BK209.out 0).trans rfl, (uF BK209.out 1).trans rfl, (uF BK209.out 2).trans rfl, (uF BK209.out 3).trans rfl, ((HB.out.cell (World.block_lt_of_cell? w _ hw219_0)).trans hw219_0), ((HB.out.cell (World.block_lt_of_cell? w _ hw219_1)).trans hw219_1), ((HB.out.cell (World.block_lt_of_cell? w _ hw219_2)).trans hw219_2)⟩ (fun hHeld => ?_); refine with_tabW impl_Leave.tab2 impl_Leave.bits2 (fun HT_ HW_ => ?_)
       generalize w65.drew = w66 at HO216 BK209 BK210 BK217 HB HO216 hx219_0 hx219_1 hx219_2 hHeld ⊢
       refine tk 0 (some 8) #[T,F,F,F,F,F,F,F,F,F,F,F,F,F,F,F,F,F,F,F,F,F,F] HT_ HW_ hHeld ?_
       refine one_ (i := 1) (N := some 9) #[T,T,F,F,F,F,F,F,F,F,F,F,F,F,F,F,F,F,F,F,F,F,F] rfl rfl (one_of HT_.out (by kernel_rfl)) (by decide) (fun K hK => ?_)
       refine goes_ Try.func18 (by kernel_rfl) rfl #[.agg #[.int .i64 a0_0, .int .i64 a0_1, .bool false, .slice (some ad219) l0_3.length c0_3]] (by rfl) rfl rfl (by (try simp only [List.map_toArray, List.map_cons, List.map_nil]); first | done | rfl | (simp only [List.length_drop, List.length_take]; rfl)) ?_
       with_reducible refine (impl_BeltOk.calls k a0_0 a0_1 false _ _ l0_3 true _ ?side1 ?side2 A3.out).mono ?_
       (case side1 => exact pc (Kd.C_below HR0_3.out HB.out))
       (case side2 => exact HC0_3.out)
       rintro e w67 ⟨rfl, hb⟩
       refine ⟨_, rfl, ?_⟩
       replace HO216 := uD (Kd.R_below (pr HO216) hb)
       replace BK209 := uD (blk_below (pk BK209) hb)
       replace BK210 := uD (blk_below (pk BK210) hb)
       replace BK217 := uD (blk_below (pk BK217) hb)
       replace HB := uD (uO (pb HB) hb)
       (try clear hb)
       (try clear hb2)
       (try clear hk)
       (try clear hi)
       refine hK.out _ _ ⟨(uF BK209.out 0).trans rfl, (uF BK209.out 1).trans rfl, (uF BK209.out 2).trans rfl, (uF BK209.out 3).trans rfl, ((HB.out.cell (World.block_lt_of_cell? w _ hw219_0)).trans hw219_0), ((HB.out.cell (World.block_lt_of_cell? w _ hw219_1)).trans hw219_1), ((HB.out.cell (World.block_lt_of_cell? w _ hw219_2)).trans hw219_2)⟩ (fun hHeld => ?_)
       clear hK K
       refine norm_ (a' := ?_) ?_ ?_
       rotate_left
       ·show uc _ (some 9) _ = _
        simp only [uc, uA, uB, uC, uZ, ua]
        rfl
       refine pu 2 (some 10) #[T,T,T,F,F,F,F,F,F,F,F,F,F,F,F,F,F,F,F,F,F,F,F] HT_ ?_
       refine pu 3 (some 11) #[T,T,T,T,F,F,F,F,F,F,F,F,F,F,F,F,F,F,F,F,F,F,F] HT_ ?_
       refine pu 4 (some 12) #[T,T,T,T,T,F,F,F,F,F,F,F,F,F,F,F,F,F,F,F,F,F,F] HT_ ?_
       refine tk 5 (some 13) #[T,T,T,T,T,T,F,F,F,F,F,F,F,F,F,F,F,F,F,F,F,F,F] HT_ HW_ hHeld ?_
       refine pu 6 (some 14) #[T,T,T,T,T,T,T,F,F,F,F,F,F,F,F,F,F,F,F,F,F,F,F] HT_ ?_
       refine pu 7 (some 15) #[T,T,T,T,T,T,T,T,F,F,F,F,F,F,F,F,F,F,F,F,F,F,F] HT_ ?_
       refine pu 8 (some 16) #[T,T,T,T,T,T,T,T,T,F,F,F,F,F,F,F,F,F,F,F,F,F,F] HT_ ?_
       refine tk 9 (some 17) #[T,T,T,T,T,T,T,T,T,T,F,F,F,F,F,F,F,F,F,F,F,F,F] HT_ HW_ hHeld ?_
       refine pu 10 (some 18) #[T,T,T,T,T,T,T,T,T,T,T,F,F,F,F,F,F,F,F,F,F,F,F] HT_ ?_
       refine pu 11 (some 19) #[T,T,T,T,T,T,T,T,T,T,T,T,F,F,F,F,F,F,F,F,F,F,F] HT_ ?_
       refine pu 12 (some 20) #[T,T,T,T,T,T,T,T,T,T,T,T,T,F,F,F,F,F,F,F,F,F,F] HT_ ?_
       refine pu 13 (some 21) #[T,T,T,T,T,T,T,T,T,T,T,T,T,T,F,F,F,F,F,F,F,F,F] HT_ ?_
       refine pu 14 (some 22) #[T,T,T,T,T,T,T,T,T,T,T,T,T,T,T,F,F,F,F,F,F,F,F] HT_ ?_
       refine pu 19 (some 27) #[T,T,T,T,T,T,T,T,T,T,T,T,T,T,T,F,F,F,F,T,F,F,F] HT_ ?_
       refine tk 15 (some 23) #[T,T,T,T,T,T,T,T,T,T,T,T,T,T,T,T,F,F,F,T,F,F,F] HT_ HW_ hHeld ?_
       refine pu 16 (some 24) #[T,T,T,T,T,T,T,T,T,T,T,T,T,T,T,T,T,F,F,T,F,F,F] HT_ ?_
       refine pu 17 (some 25) #[T,T,T,T,T,T,T,T,T,T,T,T,T,T,T,T,T,T,F,T,F,F,F] HT_ ?_
       refine tk 18 (some 26) #[T,T,T,T,T,T,T,T,T,T,T,T,T,T,T,T,T,T,T,T,F,F,F] HT_ HW_ hHeld ?_
       refine tk 20 (some 28) #[T,T,T,T,T,T,T,T,T,T,T,T,T,T,T,T,T,T,T,T,T,F,F] HT_ HW_ hHeld ?_
       refine pu 21 (some 29) #[T,T,T,T,T,T,T,T,T,T,T,T,T,T,T,T,T,T,T,T,T,T,F] HT_ ?_
       refine pu 22 (some 30) #[T,T,T,T,T,T,T,T,T,T,T,T,T,T,T,T,T,T,T,T,T,T,T] HT_ ?_
       refine done_ (done_of HT_.out (by kernel_rfl)) ?_
       obtain ⟨hcz68_0, hcz68_1, hcz68_2, hcz68_3, hfz68_0, hfz68_1, hfz68_2, hfz68_3⟩ := cz4 BK217
       have q69 : (1 : Int) ≤ ((t214.length : Int) : Int) := of_decide_eq_true (by first | (with_reducible assumption) | assumption)
       obtain ⟨i069, hi069, _, hsz69, _⟩ := info_parts info53
       have hcut69 := cut_from (P := Try.prog) 27 53 .i64 Try.underlying27 hi069 3 hsz69 Ao64 t214.length co64 1 (by omega) q69
       have hr69 := Kd.Q_drop (k := (1 : Int).toNat) (Kd.Q_of_R HO216.out) (by omega)
       obtain ⟨A69, hA69⟩ : ∃ A1, A1 = (if co64 = (1 : Int).toNat then Ao64 else (Ao64 : Option Addr).map (·.add ((1 : Int).toNat * 3))) := ⟨_, rfl⟩
       obtain ⟨c69, hc69⟩ : ∃ c1, c1 = co64 - (1 : Int).toNat := ⟨_, rfl⟩
       have hy69 : y220.length = t214.length - (1 : Int).toNat := (by rw [Ny220.out, List.length_drop])
       rw [← Ny220.out] at hr69
       rw [← hy69, ← hA69, ← hc69] at hcut69
       replace hr69 : Kd.Q k53 53 w67 w.heap.size (fun _ => True) (.slice A69 y220.length c69) y220 := (by rw [hA69, hc69, hy69]; exact hr69)
       have HE69 : Aside0 ((Value.slice A69 y220.length c69).ownBlock = (.slice Ao64 t214.length co64 : Value).ownBlock) := ⟨by rw [hA69]; split <;> (cases (Ao64 : Option Addr) <;> rfl)⟩
       clear hy69 hi069 hsz69 HO216 hA69 hc69
       have HO222 := uD hr69
       clear hr69
       replace q69 := eq_true q69
       try go_wp2
       have n0_ : Aside0 (Kd.Q k53 53 (w67.setCell ⟨gb217, 3, none⟩ (.slice A69 y220.length c69)) w.heap.size (fun _ => True) (.slice A69 y220.length c69) y220) := ⟨by (with_reducible repeat (first | apply Kd.Q_alloc | apply Kd.Q_drewN | apply Kd.Q_drew)); exact Kd.Q_mono (Kd.Q_far (p := ⟨gb217, 3, none⟩) (Kd.Q_types HO222.out BK217.out (by decide)) (fun _ hk => hk.2) (.slice A69 y220.length c69)) (fun _ hk => trivial)⟩
       have n1_ : Aside0 ((w67.setCell ⟨gb217, 3, none⟩ (.slice A69 y220.length c69)).heap[gb209]? = some (.cells #[.int .i64 a0_0, .int .i64 a0_1, .bool false, .slice (some ad219) l0_3.length c0_3] 29 (0, 0))) := ⟨by exact ps BK209⟩
       have n2_ : Aside0 ((w67.setCell ⟨gb217, 3, none⟩ (.slice A69 y220.length c69)).heap[gb210]? = some (.cells #[.int .i64 0, .int .i64 0, .bool false, .slice none 0 0] 29 (0, 0))) := ⟨by exact ps BK210⟩
       have n3_ : Aside0 ((w67.setCell ⟨gb217, 3, none⟩ (.slice A69 y220.length c69)).heap[gb217]? = some (.cells #[.int .i64 t211, .int .i64 t212, .bool t213, .slice A69 y220.length c69] 29 (0, 0))) := ⟨by (with_reducible repeat first|apply uH|apply uJ|apply uG); refine uP (cs := #[.int .i64 t211, .int .i64 t212, .bool t213, .slice Ao64 t214.length co64]) ?_ 3 _ rfl; (with_reducible repeat first|apply uH|apply uJ|apply uG); exact BK217.out⟩
       have n4_ : Aside0 (Below w.heap.size w (w67.setCell ⟨gb217, 3, none⟩ (.slice A69 y220.length c69))) := ⟨pb HB⟩
       (try clear HO222)
       (try clear BK209)
       (try clear BK210)
       (try clear BK217)
       (try clear HB)
       generalize (w67.setCell ⟨gb217, 3, none⟩ (.slice A69 y220.length c69)) = w70 at n0_ n1_ n2_ n3_ n4_ ⊢
       have HO222 := n0_
       have BK209 := n1_
       have BK210 := n2_
       have BK217 := n3_
       have HB := n4_
       clear n0_ n1_ n2_ n3_ n4_
       replace HO222 := uD (Kd.Q_drew HO222.out)
       replace BK209 := uD (uJ BK209.out)
       replace BK210 := uD (uJ BK210.out)
       replace BK217 := uD (uJ BK217.out)
       replace HB := uD (uK HB.out)
       have p223 : 0 ≤ (0 : Int) := (by omega)
       have q223 : 0 < (l0_3.length : Int) := of_decide_eq_true (by first | (with_reducible assumption) | assumption)
       obtain ⟨ad223, e223, hx223_0, hx223_1, hx223_2⟩ := at_T53 HR0_3.out 0 p223 q223
       have hw223_2 := hx223_2
       (try rw [show ((0 : Int)).toNat = 0 from rfl] at hw223_2)
       (try rw [show 0 * 3 = 0 from rfl] at hw223_2)
       (try rw [Addr.add_zero'] at hw223_2)
       have hw223_1 := hx223_1
       (try rw [show ((0 : Int)).toNat = 0 from rfl] at hw223_1)
       (try rw [show 0 * 3 = 0 from rfl] at hw223_1)
       (try rw [Addr.add_zero'] at hw223_1)
       have hw223_0 := hx223_0
       (try rw [show ((0 : Int)).toNat = 0 from rfl] at hw223_0)
       (try rw [show 0 * 3 = 0 from rfl] at hw223_0)
       (try rw [Addr.add_zero'] at hw223_0)
       obtain rfl : ad219 = ad223 := (by injection e223)
       have qi223 : (0 < l0_3.length) = True := eq_true (by omega)
       (try rw [show ((0 : Int)).toNat = 0 from rfl] at hx223_0)
       (try rw [show 0 * 3 = 0 from rfl] at hx223_0)
       (try rw [Addr.add_zero'] at hx223_0)
       (try rw [show ((0 : Int)).toNat = 0 from rfl] at hx223_1)
       (try rw [show 0 * 3 = 0 from rfl] at hx223_1)
       (try rw [Addr.add_zero'] at hx223_1)
       (try rw [show ((0 : Int)).toNat = 0 from rfl] at hx223_2)
       (try rw [show 0 * 3 = 0 from rfl] at hx223_2)
       (try rw [Addr.add_zero'] at hx223_2)
       replace hx223_0 := (HB.out.cell (World.block_lt_of_cell? w _ hx223_0)).trans hx223_0
       replace hx223_1 := (HB.out.cell (World.block_lt_of_cell? w _ hx223_1)).trans hx223_1
       replace hx223_2 := (HB.out.cell (World.block_lt_of_cell? w _ hx223_2)).trans hx223_2
       replace p223 := eq_true p223
       replace q223 := eq_true q223
       refine start_ (n := 9) (S := fun w' => w'.cell? ⟨gb217, 0, none⟩ = some (.int .i64 t211) ∧ w'.cell? ⟨gb217, 1, none⟩ = some (.int .i64 t212) ∧ w'.cell? ⟨gb217, 2, none⟩ = some (.bool t213) ∧ w'.cell? ⟨gb217, 3, none⟩ = some (.slice A69 y220.length c69) ∧ w'.cell? ⟨gb209, 0, none⟩ = some (.int .i64 a0_0) ∧ w'.cell? ⟨gb209, 1, none⟩ = some (.int .i64 a0_1) ∧ w'.cell? ⟨gb209, 2, none⟩ = some (.bool false) ∧ w'.cell? ⟨gb209, 3, none⟩ = some (.slice (some ad219) l0_3.length c0_3) ∧ w'.cell? ad219 = some (.int .i64 ((rd_T53 l0_3 0).f0)) ∧ w'.cell? ⟨ad219.block, ad219.off + 1, none⟩ = some (.int .i64 ((rd_T53 l0_3 0).f1)) ∧ w'.cell? ⟨ad219.block, ad219.off + 2, none⟩ = some (.int .i64 ((rd_T53 l0_3 0).f2))) (ds := []) #[F,F,F,F,F,F,F,F,F] (by kernel_rfl) rfl rfl ⟨(uF BK217.out 0).trans rfl, (uF BK217.out 1).trans rfl, (uF BK217.out 2).trans rfl, (uF BK217.out 3).trans rfl, (uF BK209.out 0).trans rfl, (uF BK209.out 1).trans rfl, (uF BK209.out 2).trans rfl, (uF BK209.out 3).trans rfl, ((HB.out.cell (World.block_lt_of_cell? w _ hw223_0)).trans hw223_0), ((HB.out.cell (World.block_lt_of_cell? w _ hw223_1)).trans hw223_1), ((HB.out.cell (World.block_lt_of_cell? w _ hw223_2)).trans hw223_2)⟩ (fun hHeld => ?_); refine with_tabW impl_Leave.tab5 impl_Leave.bits5 (fun HT_ HW_ => ?_)
       generalize w70.drew = w71 at HO222 BK209 BK210 BK217 HB HO222 hx223_0 hx223_1 hx223_2 hHeld ⊢
       refine pu 1 (some 37) #[F,T,F,F,F,F,F,F,F] HT_ ?_
       refine tk 0 (some 36) #[T,T,F,F,F,F,F,F,F] HT_ HW_ hHeld ?_
       refine tk 2 (some 38) #[T,T,T,F,F,F,F,F,F] HT_ HW_ hHeld ?_
       refine pu 3 (some 39) #[T,T,T,T,F,F,F,F,F] HT_ ?_
       refine pu 4 (some 40) #[T,T,T,T,T,F,F,F,F] HT_ ?_
       refine tk 5 (some 41) #[T,T,T,T,T,T,F,F,F] HT_ HW_ hHeld ?_
       refine one_ (i := 6) (N := none) #[T,T,T,T,T,T,T,F,F] rfl rfl (one_of HT_.out (by kernel_rfl)) (by decide) (fun K hK => ?_)
       have hs72 : w71.cell? ⟨gb210, 0, none⟩ = some (.int .i64 0) := (uF BK210.out 0).trans rfl
       have hfs72 := uI BK210.out 0
       have hns72_0 := NB209_210.out
       have hns72_2 := NB217_210.out
       have hms72_0 := NB210_209.out
       have hms72_2 := NB210_217.out
       have hs73 : w71.cell? ⟨gb210, 1, none⟩ = some (.int .i64 0) := (uF BK210.out 1).trans rfl
       have hfs73 := uI BK210.out 1
       have hns73_0 := NB209_210.out
       have hns73_2 := NB217_210.out
       have hms73_0 := NB210_209.out
       have hms73_2 := NB210_217.out
       have hs74 : w71.cell? ⟨gb210, 2, none⟩ = some (.bool false) := (uF BK210.out 2).trans rfl
       have hfs74 := uI BK210.out 2
       have hns74_0 := NB209_210.out
       have hns74_2 := NB217_210.out
       have hms74_0 := NB210_209.out
       have hms74_2 := NB210_217.out
       have hs75 : w71.cell? ⟨gb210, 3, none⟩ = some (.slice none 0 0) := (uF BK210.out 3).trans rfl
       have hfs75 := uI BK210.out 3
       have hns75_0 := NB209_210.out
       have hns75_2 := NB217_210.out
       have hms75_0 := NB210_209.out
       have hms75_2 := NB210_217.out
       refine skip_ (w1 := ?_) (by rfl) rfl ?_ ?_
       rotate_left
       ·go_simp
        rfl
       refine hK.out _ _ ⟨((cell_far (p := ⟨gb210, _, none⟩) NB217_210.out _).trans (((cell_far (p := ⟨gb210, _, none⟩) NB217_210.out _).trans (((cell_far (p := ⟨gb210, _, none⟩) NB217_210.out _).trans (((cell_far (p := ⟨gb210, _, none⟩) NB217_210.out _).trans (hHeld.1)))))))), ((cell_far (p := ⟨gb210, _, none⟩) NB217_210.out _).trans (((cell_far (p := ⟨gb210, _, none⟩) NB217_210.out _).trans (((cell_far (p := ⟨gb210, _, none⟩) NB217_210.out _).trans (((cell_far (p := ⟨gb210, _, none⟩) NB217_210.out _).trans (hHeld.2.1)))))))), ((cell_far (p := ⟨gb210, _, none⟩) NB217_210.out _).trans (((cell_far (p := ⟨gb210, _, none⟩) NB217_210.out _).trans (((cell_far (p := ⟨gb210, _, none⟩) NB217_210.out _).trans (((cell_far (p := ⟨gb210, _, none⟩) NB217_210.out _).trans (hHeld.2.2.1)))))))), ((cell_far (p := ⟨gb210, _, none⟩) NB217_210.out _).trans (((cell_far (p := ⟨gb210, _, none⟩) NB217_210.out _).trans (((cell_far (p := ⟨gb210, _, none⟩) NB217_210.out _).trans (((cell_far (p := ⟨gb210, _, none⟩) NB217_210.out _).trans (hHeld.2.2.2.1)))))))), ((cell_far (p := ⟨gb210, _, none⟩) NB209_210.out _).trans (((cell_far (p := ⟨gb210, _, none⟩) NB209_210.out _).trans (((cell_far (p := ⟨gb210, _, none⟩) NB209_210.out _).trans (((cell_far (p := ⟨gb210, _, none⟩) NB209_210.out _).trans (hHeld.2.2.2.2.1)))))))), ((cell_far (p := ⟨gb210, _, none⟩) NB209_210.out _).trans (((cell_far (p := ⟨gb210, _, none⟩) NB209_210.out _).trans (((cell_far (p := ⟨gb210, _, none⟩) NB209_210.out _).trans (((cell_far (p := ⟨gb210, _, none⟩) NB209_210.out _).trans (hHeld.2.2.2.2.2.1)))))))), ((cell_far (p := ⟨gb210, _, none⟩) NB209_210.out _).trans (((cell_far (p := ⟨gb210, _, none⟩) NB209_210.out _).trans (((cell_far (p := ⟨gb210, _, none⟩) NB209_210.out _).trans (((cell_far (p := ⟨gb210, _, none⟩) NB209_210.out _).trans (hHeld.2.2.2.2.2.2.1)))))))), ((cell_far (p := ⟨gb210, _, none⟩) NB209_210.out _).trans (((cell_far (p := ⟨gb210, _, none⟩) NB209_210.out _).trans (((cell_far (p := ⟨gb210, _, none⟩) NB209_210.out _).trans (((cell_far (p := ⟨gb210, _, none⟩) NB209_210.out _).trans (hHeld.2.2.2.2.2.2.2.1)))))))), ((cell_far (p := ⟨gb210, _, none⟩) (by first | exact Nat.ne_of_lt (Nat.lt_of_lt_of_le (by have := World.block_lt_of_cell? _ _ hw223_0; first | rwa [add_block] at this | exact this) GW210.out) | (rw [add_block]; exact Nat.ne_of_lt (Nat.lt_of_lt_of_le (by have := World.block_lt_of_cell? _ _ hw223_0; first | rwa [add_block] at this | exact this) GW210.out)) | (show (Addr.add _ _).block ≠ _; rw [add_block]; exact Nat.ne_of_lt (Nat.lt_of_lt_of_le (by have := World.block_lt_of_cell? _ _ hw223_0; first | rwa [add_block] at this | exact this) GW210.out)) | (dsimp only; exact Nat.ne_of_lt (Nat.lt_of_lt_of_le (by have := World.block_lt_of_cell? _ _ hw223_0; first | rwa [add_block] at this | exact this) GW210.out))) _).trans (((cell_far (p := ⟨gb210, _, none⟩) (by first | exact Nat.ne_of_lt (Nat.lt_of_lt_of_le (by have := World.block_lt_of_cell? _ _ hw223_0; first | rwa [add_block] at this | exact this) GW210.out) | (rw [add_block]; exact Nat.ne_of_lt (Nat.lt_of_lt_of_le (by have := World.block_lt_of_cell? _ _ hw223_0; first | rwa [add_block] at this | exact this) GW210.out)) | (show (Addr.add _ _).block ≠ _; rw [add_block]; exact Nat.ne_of_lt (Nat.lt_of_lt_of_le (by have := World.block_lt_of_cell? _ _ hw223_0; first | rwa [add_block] at this | exact this) GW210.out)) | (dsimp only; exact Nat.ne_of_lt (Nat.lt_of_lt_of_le (by have := World.block_lt_of_cell? _ _ hw223_0; first | rwa [add_block] at this | exact this) GW210.out))) _).trans (((cell_far (p := ⟨gb210, _, none⟩) (by first | exact Nat.ne_of_lt (Nat.lt_of_lt_of_le (by have := World.block_lt_of_cell? _ _ hw223_0; first | rwa [add_block] at this | exact this) GW210.out) | (rw [add_block]; exact Nat.ne_of_lt (Nat.lt_of_lt_of_le (by have := World.block_lt_of_cell? _ _ hw223_0; first | rwa [add_block] at this | exact this) GW210.out)) | (show (Addr.add _ _).block ≠ _; rw [add_block]; exact Nat.ne_of_lt (Nat.lt_of_lt_of_le (by have := World.block_lt_of_cell? _ _ hw223_0; first | rwa [add_block] at this | exact this) GW210.out)) | (dsimp only; exact Nat.ne_of_lt (Nat.lt_of_lt_of_le (by have := World.block_lt_of_cell? _ _ hw223_0; first | rwa [add_block] at this | exact this) GW210.out))) _).trans (((cell_far (p := ⟨gb210, _, none⟩) (by first | exact Nat.ne_of_lt (Nat.lt_of_lt_of_le (by have := World.block_lt_of_cell? _ _ hw223_0; first | rwa [add_block] at this | exact this) GW210.out) | (rw [add_block]; exact Nat.ne_of_lt (Nat.lt_of_lt_of_le (by have := World.block_lt_of_cell? _ _ hw223_0; first | rwa [add_block] at this | exact this) GW210.out)) | (show (Addr.add _ _).block ≠ _; rw [add_block]; exact Nat.ne_of_lt (Nat.lt_of_lt_of_le (by have := World.block_lt_of_cell? _ _ hw223_0; first | rwa [add_block] at this | exact this) GW210.out)) | (dsimp only; exact Nat.ne_of_lt (Nat.lt_of_lt_of_le (by have := World.block_lt_of_cell? _ _ hw223_0; first | rwa [add_block] at this | exact this) GW210.out))) _).trans (hHeld.2.2.2.2.2.2.2.2.1)))))))), ((cell_far (p := ⟨gb210, _, none⟩) (by first | exact Nat.ne_of_lt (Nat.lt_of_lt_of_le (by have := World.block_lt_of_cell? _ _ hw223_1; first | rwa [add_block] at this | exact this) GW210.out) | (rw [add_block]; exact Nat.ne_of_lt (Nat.lt_of_lt_of_le (by have := World.block_lt_of_cell? _ _ hw223_1; first | rwa [add_block] at this | exact this) GW210.out)) | (show (Addr.add _ _).block ≠ _; rw [add_block]; exact Nat.ne_of_lt (Nat.lt_of_lt_of_le (by have := World.block_lt_of_cell? _ _ hw223_1; first | rwa [add_block] at this | exact this) GW210.out)) | (dsimp only; exact Nat.ne_of_lt (Nat.lt_of_lt_of_le (by have := World.block_lt_of_cell? _ _ hw223_1; first | rwa [add_block] at this | exact this) GW210.out))) _).trans (((cell_far (p := ⟨gb210, _, none⟩) (by first | exact Nat.ne_of_lt (Nat.lt_of_lt_of_le (by have := World.block_lt_of_cell? _ _ hw223_1; first | rwa [add_block] at this | exact this) GW210.out) | (rw [add_block]; exact Nat.ne_of_lt (Nat.lt_of_lt_of_le (by have := World.block_lt_of_cell? _ _ hw223_1; first | rwa [add_block] at this | exact this) GW210.out)) | (show (Addr.add _ _).block ≠ _; rw [add_block]; exact Nat.ne_of_lt (Nat.lt_of_lt_of_le (by have := World.block_lt_of_cell? _ _ hw223_1; first | rwa [add_block] at this | exact this) GW210.out)) | (dsimp only; exact Nat.ne_of_lt (Nat.lt_of_lt_of_le (by have := World.block_lt_of_cell? _ _ hw223_1; first | rwa [add_block] at this | exact this) GW210.out))) _).trans (((cell_far (p := ⟨gb210, _, none⟩) (by first | exact Nat.ne_of_lt (Nat.lt_of_lt_of_le (by have := World.block_lt_of_cell? _ _ hw223_1; first | rwa [add_block] at this | exact this) GW210.out) | (rw [add_block]; exact Nat.ne_of_lt (Nat.lt_of_lt_of_le (by have := World.block_lt_of_cell? _ _ hw223_1; first | rwa [add_block] at this | exact this) GW210.out)) | (show (Addr.add _ _).block ≠ _; rw [add_block]; exact Nat.ne_of_lt (Nat.lt_of_lt_of_le (by have := World.block_lt_of_cell? _ _ hw223_1; first | rwa [add_block] at this | exact this) GW210.out)) | (dsimp only; exact Nat.ne_of_lt (Nat.lt_of_lt_of_le (by have := World.block_lt_of_cell? _ _ hw223_1; first | rwa [add_block] at this | exact this) GW210.out))) _).trans (((cell_far (p := ⟨gb210, _, none⟩) (by first | exact Nat.ne_of_lt (Nat.lt_of_lt_of_le (by have := World.block_lt_of_cell? _ _ hw223_1; first | rwa [add_block] at this | exact this) GW210.out) | (rw [add_block]; exact Nat.ne_of_lt (Nat.lt_of_lt_of_le (by have := World.block_lt_of_cell? _ _ hw223_1; first | rwa [add_block] at this | exact this) GW210.out)) | (show (Addr.add _ _).block ≠ _; rw [add_block]; exact Nat.ne_of_lt (Nat.lt_of_lt_of_le (by have := World.block_lt_of_cell? _ _ hw223_1; first | rwa [add_block] at this | exact this) GW210.out)) | (dsimp only; exact Nat.ne_of_lt (Nat.lt_of_lt_of_le (by have := World.block_lt_of_cell? _ _ hw223_1; first | rwa [add_block] at this | exact this) GW210.out))) _).trans (hHeld.2.2.2.2.2.2.2.2.2.1)))))))), ((cell_far (p := ⟨gb210, _, none⟩) (by first | exact Nat.ne_of_lt (Nat.lt_of_lt_of_le (by have := World.block_lt_of_cell? _ _ hw223_2; first | rwa [add_block] at this | exact this) GW210.out) | (rw [add_block]; exact Nat.ne_of_lt (Nat.lt_of_lt_of_le (by have := World.block_lt_of_cell? _ _ hw223_2; first | rwa [add_block] at this | exact this) GW210.out)) | (show (Addr.add _ _).block ≠ _; rw [add_block]; exact Nat.ne_of_lt (Nat.lt_of_lt_of_le (by have := World.block_lt_of_cell? _ _ hw223_2; first | rwa [add_block] at this | exact this) GW210.out)) | (dsimp only; exact Nat.ne_of_lt (Nat.lt_of_lt_of_le (by have := World.block_lt_of_cell? _ _ hw223_2; first | rwa [add_block] at this | exact this) GW210.out))) _).trans (((cell_far (p := ⟨gb210, _, none⟩) (by first | exact Nat.ne_of_lt (Nat.lt_of_lt_of_le (by have := World.block_lt_of_cell? _ _ hw223_2; first | rwa [add_block] at this | exact this) GW210.out) | (rw [add_block]; exact Nat.ne_of_lt (Nat.lt_of_lt_of_le (by have := World.block_lt_of_cell? _ _ hw223_2; first | rwa [add_block] at this | exact this) GW210.out)) | (show (Addr.add _ _).block ≠ _; rw [add_block]; exact Nat.ne_of_lt (Nat.lt_of_lt_of_le (by have := World.block_lt_of_cell? _ _ hw223_2; first | rwa [add_block] at this | exact this) GW210.out)) | (dsimp only; exact Nat.ne_of_lt (Nat.lt_of_lt_of_le (by have := World.block_lt_of_cell? _ _ hw223_2; first | rwa [add_block] at this | exact this) GW210.out))) _).trans (((cell_far (p := ⟨gb210, _, none⟩) (by first | exact Nat.ne_of_lt (Nat.lt_of_lt_of_le (by have := World.block_lt_of_cell? _ _ hw223_2; first | rwa [add_block] at this | exact this) GW210.out) | (rw [add_block]; exact Nat.ne_of_lt (Nat.lt_of_lt_of_le (by have := World.block_lt_of_cell? _ _ hw223_2; first | rwa [add_block] at this | exact this) GW210.out)) | (show (Addr.add _ _).block ≠ _; rw [add_block]; exact Nat.ne_of_lt (Nat.lt_of_lt_of_le (by have := World.block_lt_of_cell? _ _ hw223_2; first | rwa [add_block] at this | exact this) GW210.out)) | (dsimp only; exact Nat.ne_of_lt (Nat.lt_of_lt_of_le (by have := World.block_lt_of_cell? _ _ hw223_2; first | rwa [add_block] at this | exact this) GW210.out))) _).trans (((cell_far (p := ⟨gb210, _, none⟩) (by first | exact Nat.ne_of_lt (Nat.lt_of_lt_of_le (by have := World.block_lt_of_cell? _ _ hw223_2; first | rwa [add_block] at this | exact this) GW210.out) | (rw [add_block]; exact Nat.ne_of_lt (Nat.lt_of_lt_of_le (by have := World.block_lt_of_cell? _ _ hw223_2; first | rwa [add_block] at this | exact this) GW210.out)) | (show (Addr.add _ _).block ≠ _; rw [add_block]; exact Nat.ne_of_lt (Nat.lt_of_lt_of_le (by have := World.block_lt_of_cell? _ _ hw223_2; first | rwa [add_block] at this | exact this) GW210.out)) | (dsimp only; exact Nat.ne_of_lt (Nat.lt_of_lt_of_le (by have := World.block_lt_of_cell? _ _ hw223_2; first | rwa [add_block] at this | exact this) GW210.out))) _).trans (hHeld.2.2.2.2.2.2.2.2.2.2))))))))⟩ (fun hHeld => ?_)
       clear hK K
       refine pu 7 (some 3) #[T,T,T,T,T,T,T,T,F] HT_ ?_
       refine pu 8 (some 4) #[T,T,T,T,T,T,T,T,T] HT_ ?_
       refine done_ (done_of HT_.out (by kernel_rfl)) ?_
       try go_wp2
       refine bodyPost_ret (results_ctt rfl _ _ gb210 29 #[.int .i64 t211, .int .i64 t212, .bool t213, .slice A69 y220.length c69] (0, 0) _ rfl (by (with_reducible repeat first|apply uH|apply uJ|apply uG); refine uP (cs := #[.int .i64 t211, .int .i64 t212, .bool t213, .slice none 0 0]) ?_ 3 _ rfl; (with_reducible repeat first|apply uH|apply uJ|apply uG); refine uP (cs := #[.int .i64 t211, .int .i64 t212, .bool false, .slice none 0 0]) ?_ 2 _ rfl; (with_reducible repeat first|apply uH|apply uJ|apply uG); refine uP (cs := #[.int .i64 t211, .int .i64 0, .bool false, .slice none 0 0]) ?_ 1 _ rfl; (with_reducible repeat first|apply uH|apply uJ|apply uG); refine uP (cs := #[.int .i64 0, .int .i64 0, .bool false, .slice none 0 0]) ?_ 0 _ rfl; (with_reducible repeat first|apply uH|apply uJ|apply uG); exact BK210.out) Try.underlying29 rfl (by kernel_rfl)) rfl ?_
       exact ⟨_, by first | rfl | (simp [errW_none, errW_some] <;> rfl) | (simp [*, errW_none, errW_some] <;> rfl), by (with_reducible repeat (first | apply Kd.Q_alloc | apply Kd.Q_drewN | apply Kd.Q_drew)); exact Kd.Q_mono (Kd.Q_far (p := ⟨gb210, 3, none⟩) (Kd.Q_far (p := ⟨gb210, 2, none⟩) (Kd.Q_far (p := ⟨gb210, 1, none⟩) (Kd.Q_far (p := ⟨gb210, 0, none⟩) (Kd.Q_types HO222.out BK210.out (by decide)) (fun _ hk => hk.2) (.int .i64 t211)) (fun _ hk => hk.2) (.int .i64 t212)) (fun _ hk => hk.2) (.bool t213)) (fun _ hk => hk.2) (.slice A69 y220.length c69)) (fun _ hk => trivial), pb HB⟩
      ·rw [if_neg c54] at H
       exact absurd H (by simp)
    ·rw [if_neg c37] at H
     exact absurd H (by simp)
 ·replace c4 := Bool.eq_false_iff.mpr c4
  subst c4
  have H1 : (some (t211, t212, t213, t214, 0, false)) = some (r1, r2, r3, r4, r5, r6) := by rw [if_neg (show ¬ (false = true) by decide)] at H; first | done | exact H
  clear H
  have H := H1
  clear H1
  simp only [Option.some.injEq, Prod.mk.injEq] at H
  obtain ⟨rfl, rfl, rfl, rfl, rfl, rfl⟩ := H
  go_enter Try.func27, Try.ntmps27
  try go_wp2_with (first | ((with_reducible refine gate_dst (N := 1) rfl ?_); (try (refine gate_guard (by rfl) ?_; dsimp only)); refine bx 1 #[.int .i64 a0_0, .int .i64 a0_1, .bool a0_2, .slice A0_3 l0_3.length c0_3] 29 ?_; intro gb209 hg w76 hbox hb; have BK209 := uD (hbox); have GW209 := uD ((by rw [hg]; exact (uN (pb HB)) : w.heap.size ≤ gb209)); have GE209 := uD ((by rw [hg]; exact (uN (pb HB)) : w.heap.size ≤ gb209)); replace HB := uD (uO (pb HB) hb); clear hb hbox hg) | ((with_reducible refine gate_dst (N := 2) rfl ?_); (try (refine gate_guard (by rfl) ?_; dsimp only)); refine bx 2 #[.int .i64 0, .int .i64 0, .bool false, .slice none 0 0] 29 ?_; intro gb210 hg w77 hbox hb; have BK210 := uD (hbox); have GW210 := uD ((by rw [hg]; exact (uN (pb HB)) : w.heap.size ≤ gb210)); have GE210 := uD ((by rw [hg]; exact (uN (pb HB)) : w.heap.size ≤ gb210)); replace HB := uD (uO (pb HB) hb); have NB209_210 := uD ((by rw [hg]; exact Nat.ne_of_lt (blk_lt (pk BK209)) : gb209 ≠ gb210)); have NB210_209 := uD ((by rw [hg]; exact Nat.ne_of_gt (blk_lt (pk BK209)) : gb210 ≠ gb209)); replace BK209 := uD (blk_below (pk BK209) hb); clear hb hbox hg; have hnb78 := NB209_210.out; have hnc78 := NB210_209.out; obtain ⟨hcz79_0, hcz79_1, hcz79_2, hcz79_3, hfz79_0, hfz79_1, hfz79_2, hfz79_3⟩ := cz4 BK209) | ((with_reducible refine gate_callee (f := 54) rfl ?_); refine gl (some 7) Try.func54 #[.agg #[.int .i64 a0_0, .int .i64 a0_1, .bool a0_2, .slice A0_3 l0_3.length c0_3]] ?_; (with_reducible refine (impl_copyBelt.calls a0_0 a0_1 a0_2 _ _ l0_3 t211 t212 t213 t214 _ ?side1 ?side2 A2.out).mono ?_); (case side1 => exact pc (Kd.C_below HR0_3.out HB.out)); (case side2 => exact HC0_3.out); rintro e w80 ⟨v215, rfl, ho0, hb⟩; refine ⟨_, rfl, ?_⟩; have HO216 := uD (Kd.R_lower ho0 (uN (pb HB))); replace BK209 := uD (blk_below (pk BK209) hb); replace BK210 := uD (blk_below (pk BK210) hb); replace HB := uD (uO (pb HB) hb); (try clear hb); (try clear hb2); (try clear hk); (try clear hi); (try clear ho0)) | ((with_reducible refine gate_dst (N := 5) rfl ?_); (try (refine gate_guard (by rfl) ?_; dsimp only)); refine bx 5 #[.int .i64 0, .int .i64 0, .bool false, .slice none 0 0] 29 ?_; intro gb217 hg w81 hbox hb; replace HO216 := uD (Kd.R_below (pr HO216) hb); have BK217 := uD (hbox); have GW217 := uD ((by rw [hg]; exact (uN (pb HB)) : w.heap.size ≤ gb217)); have GE217 := uD ((by rw [hg]; exact (uN (pb HB)) : w.heap.size ≤ gb217)); replace HB := uD (uO (pb HB) hb); have NB209_217 := uD ((by rw [hg]; exact Nat.ne_of_lt (blk_lt (pk BK209)) : gb209 ≠ gb217)); have NB217_209 := uD ((by rw [hg]; exact Nat.ne_of_gt (blk_lt (pk BK209)) : gb217 ≠ gb209)); replace BK209 := uD (blk_below (pk BK209) hb); have NB210_217 := uD ((by rw [hg]; exact Nat.ne_of_lt (blk_lt (pk BK210)) : gb210 ≠ gb217)); have NB217_210 := uD ((by rw [hg]; exact Nat.ne_of_gt (blk_lt (pk BK210)) : gb217 ≠ gb210)); replace BK210 := uD (blk_below (pk BK210) hb); clear hb hbox hg; have hnb82 := NB217_209.out; have hnc82 := NB209_217.out; have hnb83 := NB217_210.out; have hnc83 := NB210_217.out; obtain ⟨hcz84_0, hcz84_1, hcz84_2, hcz84_3, hfz84_0, hfz84_1, hfz84_2, hfz84_3⟩ := cz4 BK217; obtain ⟨Ao85, co85, eo85⟩ := Kd.R_slice HO216.out; subst eo85))
  have n0_ : Aside0 (Kd.R k53 53 ((((w81.setCell ⟨gb217, 0, none⟩ (.int .i64 t211)).setCell ⟨gb217, 1, none⟩ (.int .i64 t212)).setCell ⟨gb217, 2, none⟩ (.bool t213)).setCell ⟨gb217, 3, none⟩ (.slice Ao85 t214.length co85)) w.heap.size (fun _ => True) (.slice Ao85 t214.length co85) t214) := ⟨by (with_reducible repeat (first | apply uU | apply uS | apply uT)); exact uX (uV (p := ⟨gb217, 3, none⟩) (uV (p := ⟨gb217, 2, none⟩) (uV (p := ⟨gb217, 1, none⟩) (uV (p := ⟨gb217, 0, none⟩) (uW HO216.out BK217.out (by decide)) (fun _ hk => hk.2) (.int .i64 t211)) (fun _ hk => hk.2) (.int .i64 t212)) (fun _ hk => hk.2) (.bool t213)) (fun _ hk => hk.2) (.slice Ao85 t214.length co85)) (fun _ hk => trivial)⟩
  have n1_ : Aside0 (((((w81.setCell ⟨gb217, 0, none⟩ (.int .i64 t211)).setCell ⟨gb217, 1, none⟩ (.int .i64 t212)).setCell ⟨gb217, 2, none⟩ (.bool t213)).setCell ⟨gb217, 3, none⟩ (.slice Ao85 t214.length co85)).heap[gb209]? = some (.cells #[.int .i64 a0_0, .int .i64 a0_1, .bool a0_2, .slice A0_3 l0_3.length c0_3] 29 (0, 0))) := ⟨by exact ps BK209⟩
  have n2_ : Aside0 (((((w81.setCell ⟨gb217, 0, none⟩ (.int .i64 t211)).setCell ⟨gb217, 1, none⟩ (.int .i64 t212)).setCell ⟨gb217, 2, none⟩ (.bool t213)).setCell ⟨gb217, 3, none⟩ (.slice Ao85 t214.length co85)).heap[gb210]? = some (.cells #[.int .i64 0, .int .i64 0, .bool false, .slice none 0 0] 29 (0, 0))) := ⟨by exact ps BK210⟩
  have n3_ : Aside0 (((((w81.setCell ⟨gb217, 0, none⟩ (.int .i64 t211)).setCell ⟨gb217, 1, none⟩ (.int .i64 t212)).setCell ⟨gb217, 2, none⟩ (.bool t213)).setCell ⟨gb217, 3, none⟩ (.slice Ao85 t214.length co85)).heap[gb217]? = some (.cells #[.int .i64 t211, .int .i64 t212, .bool t213, .slice Ao85 t214.length co85] 29 (0, 0))) := ⟨by (with_reducible repeat first|apply uH|apply uJ|apply uG); refine uP (cs := #[.int .i64 t211, .int .i64 t212, .bool t213, .slice none 0 0]) ?_ 3 _ rfl; (with_reducible repeat first|apply uH|apply uJ|apply uG); refine uP (cs := #[.int .i64 t211, .int .i64 t212, .bool false, .slice none 0 0]) ?_ 2 _ rfl; (with_reducible repeat first|apply uH|apply uJ|apply uG); refine uP (cs := #[.int .i64 t211, .int .i64 0, .bool false, .slice none 0 0]) ?_ 1 _ rfl; (with_reducible repeat first|apply uH|apply uJ|apply uG); refine uP (cs := #[.int .i64 0, .int .i64 0, .bool false, .slice none 0 0]) ?_ 0 _ rfl; (with_reducible repeat first|apply uH|apply uJ|apply uG); exact BK217.out⟩
  have n4_ : Aside0 (Below w.heap.size w ((((w81.setCell ⟨gb217, 0, none⟩ (.int .i64 t211)).setCell ⟨gb217, 1, none⟩ (.int .i64 t212)).setCell ⟨gb217, 2, none⟩ (.bool t213)).setCell ⟨gb217, 3, none⟩ (.slice Ao85 t214.length co85))) := ⟨pb HB⟩
  (try clear HO216)
  (try clear BK209)
  (try clear BK210)
  (try clear BK217)
  (try clear HB)
  generalize ((((w81.setCell ⟨gb217, 0, none⟩ (.int .i64 t211)).setCell ⟨gb217, 1, none⟩ (.int .i64 t212)).setCell ⟨gb217, 2, none⟩ (.bool t213)).setCell ⟨gb217, 3, none⟩ (.slice Ao85 t214.length co85)) = w86 at n0_ n1_ n2_ n3_ n4_ ⊢
  have HO216 := n0_
  have BK209 := n1_
  have BK210 := n2_
  have BK217 := n3_
  have HB := n4_
  clear n0_ n1_ n2_ n3_ n4_
  replace HO216 := uD (uT HO216.out)
  replace BK209 := uD (uJ BK209.out)
  replace BK210 := uD (uJ BK210.out)
  replace BK217 := uD (uJ BK217.out)
  replace HB := uD (uK HB.out)
  refine start_ (n := 23) (S := fun w' => w'.cell? ⟨gb209, 0, none⟩ = some (.int .i64 a0_0) ∧ w'.cell? ⟨gb209, 1, none⟩ = some (.int .i64 a0_1) ∧ w'.cell? ⟨gb209, 2, none⟩ = some (.bool a0_2) ∧ w'.cell? ⟨gb209, 3, none⟩ = some (.slice A0_3 l0_3.length c0_3)) (ds := []) #[F,F,F,F,F,F,F,F,F,F,F,F,F,F,F,F,F,F,F,F,F,F,F] (by kernel_rfl) rfl rfl ⟨(uF BK209.out 0).trans rfl, (uF BK209.out 1).trans rfl, (uF BK209.out 2).trans rfl, (uF BK209.out 3).trans rfl⟩ (fun hHeld => ?_); refine with_tabW impl_Leave.tab2 impl_Leave.bits2 (fun HT_ HW_ => ?_)
  generalize w86.drew = w87 at HO216 BK209 BK210 BK217 HB HO216 hHeld ⊢
  refine tk 0 (some 8) #[T,F,F,F,F,F,F,F,F,F,F,F,F,F,F,F,F,F,F,F,F,F,F] HT_ HW_ hHeld ?_
  refine one_ (i := 1) (N := some 9) #[T,T,F,F,F,F,F,F,F,F,F,F,F,F,F,F,F,F,F,F,F,F,F] rfl rfl (one_of HT_.out (by kernel_rfl)) (by decide) (fun K hK => ?_)
  refine goes_ Try.func18 (by kernel_rfl) rfl #[.agg #[.int .i64 a0_0, .int .i64 a0_1, .bool a0_2, .slice A0_3 l0_3.length c0_3]] (by rfl) rfl rfl (by (try simp only [List.map_toArray, List.map_cons, List.map_nil]); first | done | rfl | (simp only [List.length_drop, List.length_take]; rfl)) ?_
  with_reducible refine (impl_BeltOk.calls k a0_0 a0_1 a0_2 _ _ l0_3 false _ ?side1 ?side2 A3.out).mono ?_
  (case side1 => exact pc (Kd.C_below HR0_3.out HB.out))
  (case side2 => exact HC0_3.out)
  rintro e w88 ⟨rfl, hb⟩
  refine ⟨_, rfl, ?_⟩
  replace HO216 := uD (Kd.R_below (pr HO216) hb)
  replace BK209 := uD (blk_below (pk BK209) hb)
  replace BK210 := uD (blk_below (pk BK210) hb)
  replace BK217 := uD (blk_below (pk BK217) hb)
  replace HB := uD (uO (pb HB) hb)
  (try clear hb)
  (try clear hb2)
  (try clear hk)
  (try clear hi)
  refine hK.out _ _ ⟨(uF BK209.out 0).trans rfl, (uF BK209.out 1).trans rfl, (uF BK209.out 2).trans rfl, (uF BK209.out 3).trans rfl⟩ (fun hHeld => ?_)
  clear hK K
  refine norm_ (a' := ?_) ?_ ?_
  rotate_left
  ·show uc _ (some 9) _ = _
   simp only [uc, uA, uB, uC, uZ, ua]
   rfl
  refine pu 2 (some 10) #[T,T,T,F,F,F,F,F,F,F,F,F,F,F,F,F,F,F,F,F,F,F,F] HT_ ?_
  refine pu 3 (some 11) #[T,T,T,T,F,F,F,F,F,F,F,F,F,F,F,F,F,F,F,F,F,F,F] HT_ ?_
  refine ub (i := 4) (N := some 12) (v := undef) (a' := ?_) #[T,T,T,T,T,F,F,F,F,F,F,F,F,F,F,F,F,F,F,F,F,F,F] rfl rfl (uY HT_.out (by kernel_rfl)) (fun _ _ _ h => h) (Or.inr ⟨by rfl, rfl⟩) ?_ ?_
  rotate_left
  ·simp only [uc, uA, uB, uC, uZ, ua]
   rfl
  refine ub (i := 5) (N := some 13) (v := undef) (a' := ?_) #[T,T,T,T,T,T,F,F,F,F,F,F,F,F,F,F,F,F,F,F,F,F,F] rfl rfl (uY HT_.out (by kernel_rfl)) (fun _ _ _ h => h) (Or.inr ⟨by rfl, rfl⟩) ?_ ?_
  rotate_left
  ·simp only [uc, uA, uB, uC, uZ, ua]
   rfl
  refine pu 6 (some 14) #[T,T,T,T,T,T,T,F,F,F,F,F,F,F,F,F,F,F,F,F,F,F,F] HT_ ?_
  refine pu 7 (some 15) #[T,T,T,T,T,T,T,T,F,F,F,F,F,F,F,F,F,F,F,F,F,F,F] HT_ ?_
  refine ub (i := 8) (N := some 16) (v := undef) (a' := ?_) #[T,T,T,T,T,T,T,T,T,F,F,F,F,F,F,F,F,F,F,F,F,F,F] rfl rfl (uY HT_.out (by kernel_rfl)) (fun _ _ _ h => h) (Or.inr ⟨by rfl, rfl⟩) ?_ ?_
  rotate_left
  ·simp only [uc, uA, uB, uC, uZ, ua]
   rfl
  refine ub (i := 9) (N := some 17) (v := undef) (a' := ?_) #[T,T,T,T,T,T,T,T,T,T,F,F,F,F,F,F,F,F,F,F,F,F,F] rfl rfl (uY HT_.out (by kernel_rfl)) (fun _ _ _ h => h) (Or.inr ⟨by rfl, rfl⟩) ?_ ?_
  rotate_left
  ·simp only [uc, uA, uB, uC, uZ, ua]
   rfl
  refine ub (i := 10) (N := some 18) (v := undef) (a' := ?_) #[T,T,T,T,T,T,T,T,T,T,T,F,F,F,F,F,F,F,F,F,F,F,F] rfl rfl (uY HT_.out (by kernel_rfl)) (fun _ _ _ h => h) (Or.inr ⟨by rfl, rfl⟩) ?_ ?_
  rotate_left
  ·simp only [uc, uA, uB, uC, uZ, ua]
   rfl
  refine ub (i := 11) (N := some 19) (v := undef) (a' := ?_) #[T,T,T,T,T,T,T,T,T,T,T,T,F,F,F,F,F,F,F,F,F,F,F] rfl rfl (uY HT_.out (by kernel_rfl)) (fun _ _ _ h => h) (Or.inr ⟨by rfl, rfl⟩) ?_ ?_
  rotate_left
  ·simp only [uc, uA, uB, uC, uZ, ua]
   rfl
  refine pu 12 (some 20) #[T,T,T,T,T,T,T,T,T,T,T,T,T,F,F,F,F,F,F,F,F,F,F] HT_ ?_
  refine pu 13 (some 21) #[T,T,T,T,T,T,T,T,T,T,T,T,T,T,F,F,F,F,F,F,F,F,F] HT_ ?_
  refine ub (i := 14) (N := some 22) (v := undef) (a' := ?_) #[T,T,T,T,T,T,T,T,T,T,T,T,T,T,T,F,F,F,F,F,F,F,F] rfl rfl (uY HT_.out (by kernel_rfl)) (fun _ _ _ h => h) (Or.inr ⟨by rfl, rfl⟩) ?_ ?_
  rotate_left
  ·simp only [uc, uA, uB, uC, uZ, ua]
   rfl
  refine ub (i := 15) (N := some 23) (v := undef) (a' := ?_) #[T,T,T,T,T,T,T,T,T,T,T,T,T,T,T,T,F,F,F,F,F,F,F] rfl rfl (uY HT_.out (by kernel_rfl)) (fun _ _ _ h => h) (Or.inr ⟨by rfl, rfl⟩) ?_ ?_
  rotate_left
  ·simp only [uc, uA, uB, uC, uZ, ua]
   rfl
  refine ub (i := 16) (N := some 24) (v := undef) (a' := ?_) #[T,T,T,T,T,T,T,T,T,T,T,T,T,T,T,T,T,F,F,F,F,F,F] rfl rfl (uY HT_.out (by kernel_rfl)) (fun _ _ _ h => h) (Or.inr ⟨by rfl, rfl⟩) ?_ ?_
  rotate_left
  ·simp only [uc, uA, uB, uC, uZ, ua]
   rfl
  refine ub (i := 17) (N := some 25) (v := undef) (a' := ?_) #[T,T,T,T,T,T,T,T,T,T,T,T,T,T,T,T,T,T,F,F,F,F,F] rfl rfl (uY HT_.out (by kernel_rfl)) (fun _ _ _ h => h) (Or.inr ⟨by rfl, rfl⟩) ?_ ?_
  rotate_left
  ·simp only [uc, uA, uB, uC, uZ, ua]
   rfl
  refine ub (i := 18) (N := some 26) (v := undef) (a' := ?_) #[T,T,T,T,T,T,T,T,T,T,T,T,T,T,T,T,T,T,T,F,F,F,F] rfl rfl (uY HT_.out (by kernel_rfl)) (fun _ _ _ h => h) (Or.inr ⟨by rfl, rfl⟩) ?_ ?_
  rotate_left
  ·simp only [uc, uA, uB, uC, uZ, ua]
   rfl
  refine ub (i := 19) (N := some 27) (v := undef) (a' := ?_) #[T,T,T,T,T,T,T,T,T,T,T,T,T,T,T,T,T,T,T,T,F,F,F] rfl rfl (uY HT_.out (by kernel_rfl)) (fun _ _ _ h => h) (Or.inr ⟨by rfl, rfl⟩) ?_ ?_
  rotate_left
  ·simp only [uc, uA, uB, uC, uZ, ua]
   rfl
  refine ub (i := 20) (N := some 28) (v := undef) (a' := ?_) #[T,T,T,T,T,T,T,T,T,T,T,T,T,T,T,T,T,T,T,T,T,F,F] rfl rfl (uY HT_.out (by kernel_rfl)) (fun _ _ _ h => h) (Or.inr ⟨by rfl, rfl⟩) ?_ ?_
  rotate_left
  ·simp only [uc, uA, uB, uC, uZ, ua]
   rfl
  refine ub (i := 21) (N := some 29) (v := undef) (a' := ?_) #[T,T,T,T,T,T,T,T,T,T,T,T,T,T,T,T,T,T,T,T,T,T,F] rfl rfl (uY HT_.out (by kernel_rfl)) (fun _ _ _ h => h) (Or.inr ⟨by rfl, rfl⟩) ?_ ?_
  rotate_left
  ·simp only [uc, uA, uB, uC, uZ, ua]
   rfl
  refine pu 22 (some 30) #[T,T,T,T,T,T,T,T,T,T,T,T,T,T,T,T,T,T,T,T,T,T,T] HT_ ?_
  refine done_ (done_of HT_.out (by kernel_rfl)) ?_
  obtain ⟨hcz89_0, hcz89_1, hcz89_2, hcz89_3, hfz89_0, hfz89_1, hfz89_2, hfz89_3⟩ := cz4 BK217
  obtain ⟨hcz90_0, hcz90_1, hcz90_2, hcz90_3, hfz90_0, hfz90_1, hfz90_2, hfz90_3⟩ := cz4 BK210
  try go_wp2
  refine bodyPost_ret (results_ctt rfl _ _ gb210 29 #[.int .i64 t211, .int .i64 t212, .bool t213, .slice Ao85 t214.length co85] (0, 0) _ rfl (by (with_reducible repeat first|apply uH|apply uJ|apply uG); refine uP (cs := #[.int .i64 t211, .int .i64 t212, .bool t213, .slice none 0 0]) ?_ 3 _ rfl; (with_reducible repeat first|apply uH|apply uJ|apply uG); refine uP (cs := #[.int .i64 t211, .int .i64 t212, .bool false, .slice none 0 0]) ?_ 2 _ rfl; (with_reducible repeat first|apply uH|apply uJ|apply uG); refine uP (cs := #[.int .i64 t211, .int .i64 0, .bool false, .slice none 0 0]) ?_ 1 _ rfl; (with_reducible repeat first|apply uH|apply uJ|apply uG); refine uP (cs := #[.int .i64 0, .int .i64 0, .bool false, .slice none 0 0]) ?_ 0 _ rfl; (with_reducible repeat first|apply uH|apply uJ|apply uG); exact BK210.out) Try.underlying29 rfl (by kernel_rfl)) rfl ?_
  exact ⟨_, by first | rfl | (simp [errW_none, errW_some] <;> rfl) | (simp [*, errW_none, errW_some] <;> rfl), Kd.Q_of_R (by (with_reducible repeat (first | apply uU | apply uS | apply uT)); exact uX (uV (p := ⟨gb210, 3, none⟩) (uV (p := ⟨gb210, 2, none⟩) (uV (p := ⟨gb210, 1, none⟩) (uV (p := ⟨gb210, 0, none⟩) (uW HO216.out BK210.out (by decide)) (fun _ hk => hk.2) (.int .i64 t211)) (fun _ hk => hk.2) (.int .i64 t212)) (fun _ hk => hk.2) (.bool t213)) (fun _ hk => hk.2) (.slice Ao85 t214.length co85)) (fun _ hk => trivial)), pb HB⟩

end Go.Proofs.Ytbdjbdoelbmjcaa.PFnBeltEnters
