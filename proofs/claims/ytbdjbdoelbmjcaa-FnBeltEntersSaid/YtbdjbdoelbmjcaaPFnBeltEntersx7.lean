-- Written by a program of this session (wip/myprint.py: the kit's print with changes): not by print.sh itself.
import Derived.Test.YtbdjbdoelbmjcaaPFnBeltEntersx0
import Derived.Test.YtbdjbdoelbmjcaaPFnBeltEntersx4
import Derived.Test.YtbdjbdoelbmjcaaPFnBeltEntersx6
namespace Go.Proofs.Ytbdjbdoelbmjcaa.PFnBeltEnters
open Go.RowKit Go.Proofs.YtbdjbdoelbmjcaaW.PrintWords Go.Proofs.YtbdjbdoelbmjcaaW.PrintLast Go.Proofs.YtbdjbdoelbmjcaaW.PrintMore
open Go renaming Act.put → uc
open Go.Proofs.YtbdjbdoelbmjcaaW.PrintLast renaming any_of → uY, i64_w → uZ, i32_w → ua, pure_ → ub
open Go.Proofs.YtbdjbdoelbmjcaaW.PrintWords renaming Aside0.mk → uD, blk_cell → uF, blk_alloc → uG, blk_drewN → uH, blk_drew → uJ, below_drew1 → uK, below_size → uN, below_step → uO, blk_put → uP, Kd.R_drewN → uS, Kd.R_drew → uT, Kd.R_alloc → uU, Kd.R_far → uV, Kd.R_types → uW, Kd.R_mono → uX
open List renaming setIfInBounds_toArray → uA, set_cons_zero → uB, set_cons_succ → uC
open Bool renaming true → T, false → F
attribute [local go_sem] max2_int min2_int max_two min_two max_three min_three max_four min_four   -- for this text's walks alone
set_option linter.unusedVariables false
set_option linter.unusedSimpArgs false

/-! ### spec_Leave: function 26 -/
def spec_Leave.f (k : Nat) (a0_0 : Int) (a0_1 : Int) (a0_2 : Bool) (l0_3 : List (S53)) : Option (Int × Int × Bool × (List (S53)) × Int × Bool) := (spec_l02Fresh.f a0_0 a0_1 a0_2 l0_3).bind fun bt190 => ((spec_BeltOk.f k bt190.1 bt190.2.1 bt190.2.2.1 bt190.2.2.2).bind fun t196 => (if t196 = true then (if bt190.2.2.1 = true then (some (bt190.1, bt190.2.1, bt190.2.2.1, bt190.2.2.2, 0, false)) else (if (bt190.2.2.2.length : Int) = 0 then (some (bt190.1, bt190.2.1, bt190.2.2.1, bt190.2.2.2, 0, false)) else (if 0 < (bt190.2.2.2.length : Int) then (if ((rd_T53 bt190.2.2.2 0).f1) < bt190.1 then (some (bt190.1, bt190.2.1, bt190.2.2.1, bt190.2.2.2, 0, false)) else ((some (([] : List (S53)) : List (S53))).bind fun y199 => (if 1 ≤ (bt190.2.2.2.length : Int) then ((some (bt190.2.2.2.drop 1 : List (S53))).bind fun y202 => (if y199.length + y202.length < 5864062014805 then (some (bt190.1, bt190.2.1, bt190.2.2.1, (y199 ++ y202), (rd_T53 bt190.2.2.2 0).f0, true)) else (none))) else (none)))) else (none)))) else (some (bt190.1, bt190.2.1, bt190.2.2.1, bt190.2.2.2, 0, false))))
theorem spec_Leave.mono : ∀ a0 a1 a2 a3 k, LeO (spec_Leave.f k a0 a1 a2 a3) (spec_Leave.f (k + 1) a0 a1 a2 a3) := by
 intro a0 a1 a2 a3 k
 unfold spec_Leave.f
 repeat' first
   | (with_reducible exact spec_BeltOk.mono _ _ _ _ _)
   | (with_reducible exact LeO.refl _)
   | (with_reducible exact LeO.none _)
   | (with_reducible refine LeO.ite ?_ ?_)
   | (with_reducible refine LeO.bind ?_ (fun _ => ?_))
   | exact spec_BeltOk.mono _ _ _ _ _
   | exact LeO.none _
   | refine LeO.ite ?_ ?_
   | refine LeO.bind ?_ (fun _ => ?_)
def spec_Leave.T2 : Bool × List (List Nat × List Nat) := (true, [([], []), ([0], [0]), ([1], [1]), ([2, 1], [2]), ([3], [3]), ([4, 3], [3, 4]), ([3, 5], [3, 5]), ([6, 3], [6]), ([7], [7]), ([8, 7], [7, 8]), ([9, 7], [7, 9]), ([10, 7], [7, 10]), ([7, 11], [7, 11]), ([12, 7], [12]), ([13], [13]), ([14, 13], [13, 14]), ([15, 13], [13, 15]), ([16, 13], [13, 16]), ([17, 13], [13, 17]), ([13], [13]), ([19, 13], [13, 19]), ([18, 20, 13], [13, 18, 20]), ([13, 21], [13, 21])])
def spec_Leave.B2 : List Nat := [0, 1, 3, 7, 15, 31, 63, 127, 255, 511, 1023, 2047, 4095, 8191, 16383, 32767, 65535, 131071, 262143, 16383, 540671, 2097151, 4194303]
theorem spec_Leave.tab2 : rtab .any (opsOf Try.f26 2) = spec_Leave.T2 := by kernel_rfl
theorem spec_Leave.bits2 : waitsOk spec_Leave.T2.2 spec_Leave.B2 = true := by kernel_rfl
set_option maxHeartbeats 8000000 in
set_option maxRecDepth 100000 in
theorem spec_Leave.calls (k : Nat) (a0_0 : Int) (a0_1 : Int) (a0_2 : Bool) (A0_3 : Option Addr) (c0_3 : Nat) (l0_3 : List (S53)) (r1 : Int) (r2 : Int) (r3 : Bool) (r4 : List (S53)) (r5 : Int) (r6 : Bool) (w : World) (hr0_3 : Kd.C k53 w A0_3 l0_3.length l0_3) (hc0_3 : l0_3.length ≤ c0_3) (h : spec_Leave.f k a0_0 a0_1 a0_2 l0_3 = some (r1, r2, r3, r4, r5, r6)) :
  Calls Try.prog 26 #[.agg #[.int .i64 a0_0, .int .i64 a0_1, .bool a0_2, .slice A0_3 l0_3.length c0_3]] w fun e w' => ∃ v3_ : Value, e = .returned (.tuple #[.agg #[.int .i64 r1, .int .i64 r2, .bool r3, v3_], .int .i64 r5, .bool r6]) ∧ Kd.R k53 53 w' w.heap.size (fun _ => True) v3_ r4 ∧ Below w.heap.size w w' := by
 have hu29 := Try.underlying29
 have HR0_3 := uD hr0_3
 have HC0_3 := uD hc0_3
 clear hr0_3 hc0_3
 have HB := uD (Below.refl w.heap.size w)
 have H : ((spec_l02Fresh.f a0_0 a0_1 a0_2 l0_3).bind fun bt190 => ((spec_BeltOk.f k bt190.1 bt190.2.1 bt190.2.2.1 bt190.2.2.2).bind fun t196 => (if t196 = true then (if bt190.2.2.1 = true then (some (bt190.1, bt190.2.1, bt190.2.2.1, bt190.2.2.2, 0, false)) else (if (bt190.2.2.2.length : Int) = 0 then (some (bt190.1, bt190.2.1, bt190.2.2.1, bt190.2.2.2, 0, false)) else (if 0 < (bt190.2.2.2.length : Int) then (if ((rd_T53 bt190.2.2.2 0).f1) < bt190.1 then (some (bt190.1, bt190.2.1, bt190.2.2.1, bt190.2.2.2, 0, false)) else ((some (([] : List (S53)) : List (S53))).bind fun y199 => (if 1 ≤ (bt190.2.2.2.length : Int) then ((some (bt190.2.2.2.drop 1 : List (S53))).bind fun y202 => (if y199.length + y202.length < 5864062014805 then (some (bt190.1, bt190.2.1, bt190.2.2.1, (y199 ++ y202), (rd_T53 bt190.2.2.2 0).f0, true)) else (none))) else (none)))) else (none)))) else (some (bt190.1, bt190.2.1, bt190.2.2.1, bt190.2.2.2, 0, false))))) = some (r1, r2, r3, r4, r5, r6) := h
 clear h
 replace H := Option.bind_eq_some_iff.mp H
 obtain ⟨⟨t190, t191, t192, t193⟩, A20, H⟩ := H
 replace H : ((spec_BeltOk.f k t190 t191 t192 t193).bind fun t196 => (if t196 = true then (if t192 = true then (some (t190, t191, t192, t193, 0, false)) else (if (t193.length : Int) = 0 then (some (t190, t191, t192, t193, 0, false)) else (if 0 < (t193.length : Int) then (if ((rd_T53 t193 0).f1) < t190 then (some (t190, t191, t192, t193, 0, false)) else ((some (([] : List (S53)) : List (S53))).bind fun y199 => (if 1 ≤ (t193.length : Int) then ((some (t193.drop 1 : List (S53))).bind fun y202 => (if y199.length + y202.length < 5864062014805 then (some (t190, t191, t192, (y199 ++ y202), (rd_T53 t193 0).f0, true)) else (none))) else (none)))) else (none)))) else (some (t190, t191, t192, t193, 0, false)))) = some (r1, r2, r3, r4, r5, r6) := H
 have A2 := uD A20
 clear A20
 replace H := Option.bind_eq_some_iff.mp H
 obtain ⟨t196, A30, H⟩ := H
 replace H : (if t196 = true then (if t192 = true then (some (t190, t191, t192, t193, 0, false)) else (if (t193.length : Int) = 0 then (some (t190, t191, t192, t193, 0, false)) else (if 0 < (t193.length : Int) then (if ((rd_T53 t193 0).f1) < t190 then (some (t190, t191, t192, t193, 0, false)) else ((some (([] : List (S53)) : List (S53))).bind fun y199 => (if 1 ≤ (t193.length : Int) then ((some (t193.drop 1 : List (S53))).bind fun y202 => (if y199.length + y202.length < 5864062014805 then (some (t190, t191, t192, (y199 ++ y202), (rd_T53 t193 0).f0, true)) else (none))) else (none)))) else (none)))) else (some (t190, t191, t192, t193, 0, false))) = some (r1, r2, r3, r4, r5, r6) := H
 have A3 := uD A30
 clear A30
 by_cases c4 : t196 = true
 ·subst c4
  have H1 : (if t192 = true then (some (t190, t191, t192, t193, 0, false)) else (if (t193.length : Int) = 0 then (some (t190, t191, t192, t193, 0, false)) else (if 0 < (t193.length : Int) then (if ((rd_T53 t193 0).f1) < t190 then (some (t190, t191, t192, t193, 0, false)) else ((some (([] : List (S53)) : List (S53))).bind fun y199 => (if 1 ≤ (t193.length : Int) then ((some (t193.drop 1 : List (S53))).bind fun y202 => (if y199.length + y202.length < 5864062014805 then (some (t190, t191, t192, (y199 ++ y202), (rd_T53 t193 0).f0, true)) else (none))) else (none)))) else (none)))) = some (r1, r2, r3, r4, r5, r6) := by rw [if_pos rfl] at H; first | done | exact H
  clear H
  have H := H1
  clear H1
  by_cases c5 : t192 = true
  ·subst c5
   have H1 : (some (t190, t191, true, t193, 0, false)) = some (r1, r2, r3, r4, r5, r6) := by rw [if_pos rfl] at H; first | done | exact H
   clear H
   have H := H1
   clear H1
   simp only [Option.some.injEq, Prod.mk.injEq] at H
   obtain ⟨rfl, rfl, rfl, rfl, rfl, rfl⟩ := H
   go_enter Try.func26, Try.ntmps26
   try go_wp2_with (first | ((with_reducible refine gate_dst (N := 1) rfl ?_); (try (refine gate_guard (by rfl) ?_; dsimp only)); refine bx 1 #[.int .i64 a0_0, .int .i64 a0_1, .bool a0_2, .slice A0_3 l0_3.length c0_3] 29 ?_; intro gb188 hg w6 hbox hb; have BK188 := uD (hbox); have GW188 := uD ((by rw [hg]; exact (uN (pb HB)) : w.heap.size ≤ gb188)); have GE188 := uD ((by rw [hg]; exact (uN (pb HB)) : w.heap.size ≤ gb188)); replace HB := uD (uO (pb HB) hb); clear hb hbox hg) | ((with_reducible refine gate_dst (N := 2) rfl ?_); (try (refine gate_guard (by rfl) ?_; dsimp only)); refine bx 2 #[.int .i64 0, .int .i64 0, .bool false, .slice none 0 0] 29 ?_; intro gb189 hg w7 hbox hb; have BK189 := uD (hbox); have GW189 := uD ((by rw [hg]; exact (uN (pb HB)) : w.heap.size ≤ gb189)); have GE189 := uD ((by rw [hg]; exact (uN (pb HB)) : w.heap.size ≤ gb189)); replace HB := uD (uO (pb HB) hb); have NB188_189 := uD ((by rw [hg]; exact Nat.ne_of_lt (blk_lt (pk BK188)) : gb188 ≠ gb189)); have NB189_188 := uD ((by rw [hg]; exact Nat.ne_of_gt (blk_lt (pk BK188)) : gb189 ≠ gb188)); replace BK188 := uD (blk_below (pk BK188) hb); clear hb hbox hg; have hnb8 := NB188_189.out; have hnc8 := NB189_188.out; obtain ⟨hcz9_0, hcz9_1, hcz9_2, hcz9_3, hfz9_0, hfz9_1, hfz9_2, hfz9_3⟩ := cz4 BK188) | ((with_reducible refine gate_callee (f := 55) rfl ?_); refine gl (some 7) Try.func55 #[.agg #[.int .i64 a0_0, .int .i64 a0_1, .bool a0_2, .slice A0_3 l0_3.length c0_3]] ?_; (with_reducible refine (spec_l02Fresh.calls a0_0 a0_1 a0_2 _ _ l0_3 t190 t191 true t193 _ ?side1 ?side2 A2.out).mono ?_); (case side1 => exact pc (Kd.C_below HR0_3.out HB.out)); (case side2 => exact HC0_3.out); rintro e w10 ⟨v194, rfl, ho0, hb⟩; refine ⟨_, rfl, ?_⟩; have HO195 := uD (Kd.R_lower ho0 (uN (pb HB))); replace BK188 := uD (blk_below (pk BK188) hb); replace BK189 := uD (blk_below (pk BK189) hb); replace HB := uD (uO (pb HB) hb); (try clear hb); (try clear hb2); (try clear hk); (try clear hi); (try clear ho0); obtain ⟨hcz11_0, hcz11_1, hcz11_2, hcz11_3, hfz11_0, hfz11_1, hfz11_2, hfz11_3⟩ := cz4 BK188; obtain ⟨Ao12, co12, eo12⟩ := Kd.R_slice HO195.out; subst eo12))
   have n0_ : Aside0 (Kd.R k53 53 ((((w10.setCell ⟨gb188, 0, none⟩ (.int .i64 t190)).setCell ⟨gb188, 1, none⟩ (.int .i64 t191)).setCell ⟨gb188, 2, none⟩ (.bool true)).setCell ⟨gb188, 3, none⟩ (.slice Ao12 t193.length co12)) w.heap.size (fun _ => True) (.slice Ao12 t193.length co12) t193) := ⟨by (with_reducible repeat (first | apply uU | apply uS | apply uT)); exact uX (uV (p := ⟨gb188, 3, none⟩) (uV (p := ⟨gb188, 2, none⟩) (uV (p := ⟨gb188, 1, none⟩) (uV (p := ⟨gb188, 0, none⟩) (uW HO195.out BK188.out (by decide)) (fun _ hk => hk.2) (.int .i64 t190)) (fun _ hk => hk.2) (.int .i64 t191)) (fun _ hk => hk.2) (.bool true)) (fun _ hk => hk.2) (.slice Ao12 t193.length co12)) (fun _ hk => trivial)⟩
   have n1_ : Aside0 (((((w10.setCell ⟨gb188, 0, none⟩ (.int .i64 t190)).setCell ⟨gb188, 1, none⟩ (.int .i64 t191)).setCell ⟨gb188, 2, none⟩ (.bool true)).setCell ⟨gb188, 3, none⟩ (.slice Ao12 t193.length co12)).heap[gb188]? = some (.cells #[.int .i64 t190, .int .i64 t191, .bool true, .slice Ao12 t193.length co12] 29 (0, 0))) := ⟨by (with_reducible repeat first|apply uH|apply uJ|apply uG); refine uP (cs := #[.int .i64 t190, .int .i64 t191, .bool true, .slice A0_3 l0_3.length c0_3]) ?_ 3 _ rfl; (with_reducible repeat first|apply uH|apply uJ|apply uG); refine uP (cs := #[.int .i64 t190, .int .i64 t191, .bool a0_2, .slice A0_3 l0_3.length c0_3]) ?_ 2 _ rfl; (with_reducible repeat first|apply uH|apply uJ|apply uG); refine uP (cs := #[.int .i64 t190, .int .i64 a0_1, .bool a0_2, .slice A0_3 l0_3.length c0_3]) ?_ 1 _ rfl; (with_reducible repeat first|apply uH|apply uJ|apply uG); refine uP (cs := #[.int .i64 a0_0, .int .i64 a0_1, .bool a0_2, .slice A0_3 l0_3.length c0_3]) ?_ 0 _ rfl; (with_reducible repeat first|apply uH|apply uJ|apply uG); exact BK188.out⟩
   have n2_ : Aside0 (((((w10.setCell ⟨gb188, 0, none⟩ (.int .i64 t190)).setCell ⟨gb188, 1, none⟩ (.int .i64 t191)).setCell ⟨gb188, 2, none⟩ (.bool true)).setCell ⟨gb188, 3, none⟩ (.slice Ao12 t193.length co12)).heap[gb189]? = some (.cells #[.int .i64 0, .int .i64 0, .bool false, .slice none 0 0] 29 (0, 0))) := ⟨by exact ps BK189⟩
   have n3_ : Aside0 (Below w.heap.size w ((((w10.setCell ⟨gb188, 0, none⟩ (.int .i64 t190)).setCell ⟨gb188, 1, none⟩ (.int .i64 t191)).setCell ⟨gb188, 2, none⟩ (.bool true)).setCell ⟨gb188, 3, none⟩ (.slice Ao12 t193.length co12))) := ⟨pb HB⟩
   (try clear HO195)
   (try clear BK188)
   (try clear BK189)
   (try clear HB)
   generalize ((((w10.setCell ⟨gb188, 0, none⟩ (.int .i64 t190)).setCell ⟨gb188, 1, none⟩ (.int .i64 t191)).setCell ⟨gb188, 2, none⟩ (.bool true)).setCell ⟨gb188, 3, none⟩ (.slice Ao12 t193.length co12)) = w13 at n0_ n1_ n2_ n3_ ⊢
   have HO195 := n0_
   have BK188 := n1_
   have BK189 := n2_
   have HB := n3_
   clear n0_ n1_ n2_ n3_
   replace HO195 := uD (uT HO195.out)
   replace BK188 := uD (uJ BK188.out)
   replace BK189 := uD (uJ BK189.out)
   replace HB := uD (uK HB.out)
   refine start_ (n := 23) (S := fun w' => w'.cell? ⟨gb188, 0, none⟩ = some (.int .i64 t190) ∧ w'.cell? ⟨gb188, 1, none⟩ = some (.int .i64 t191) ∧ w'.cell? ⟨gb188, 2, none⟩ = some (.bool true) ∧ w'.cell? ⟨gb188, 3, none⟩ = some (.slice Ao12 t193.length co12)) (ds := []) #[F,F,F,F,F,F,F,F,F,F,F,F,F,F,F,F,F,F,F,F,F,F,F] (by kernel_rfl) rfl rfl ⟨(uF BK188.out 0).trans rfl, (uF BK188.out 1).trans rfl, (uF BK188.out 2).trans rfl, (uF BK188.out 3).trans rfl⟩ (fun hHeld => ?_); refine with_tabW spec_Leave.tab2 spec_Leave.bits2 (fun HT_ HW_ => ?_)
   generalize w13.drew = w14 at HO195 BK188 BK189 HB HO195 hHeld ⊢
   refine tk 0 (some 8) #[T,F,F,F,F,F,F,F,F,F,F,F,F,F,F,F,F,F,F,F,F,F,F] HT_ HW_ hHeld ?_
   refine one_ (i := 1) (N := some 9) #[T,T,F,F,F,F,F,F,F,F,F,F,F,F,F,F,F,F,F,F,F,F,F] rfl rfl (one_of HT_.out (by kernel_rfl)) (by decide) (fun K hK => ?_)
   refine goes_ Try.func16 (by kernel_rfl) rfl #[.agg #[.int .i64 t190, .int .i64 t191, .bool true, .slice Ao12 t193.length co12]] (by rfl) rfl rfl (by (try simp only [List.map_toArray, List.map_cons, List.map_nil]); first | done | rfl | (simp only [List.length_drop, List.length_take]; rfl)) ?_
   with_reducible refine (spec_BeltOk.calls k t190 t191 true _ _ t193 true _ ?side1 ?side2 A3.out).mono ?_
   (case side1 => exact pc ((Kd.R_reads' HO195.out).2.2))
   (case side2 => exact (Kd.R_reads' HO195.out).2.1)
   rintro e w15 ⟨rfl, hb⟩
   refine ⟨_, rfl, ?_⟩
   replace HO195 := uD (Kd.R_below (pr HO195) hb)
   replace BK188 := uD (blk_below (pk BK188) hb)
   replace BK189 := uD (blk_below (pk BK189) hb)
   replace HB := uD (uO (pb HB) hb)
   (try clear hb)
   (try clear hb2)
   (try clear hk)
   (try clear hi)
   refine hK.out _ _ ⟨(uF BK188.out 0).trans rfl, (uF BK188.out 1).trans rfl, (uF BK188.out 2).trans rfl, (uF BK188.out 3).trans rfl⟩ (fun hHeld => ?_)
   clear hK K
   refine norm_ (a' := ?_) ?_ ?_
   rotate_left
   ·show uc _ (some 9) _ = _
    simp only [uc, uA, uB, uC, uZ, ua]
    rfl
   refine pu 2 (some 10) #[T,T,T,F,F,F,F,F,F,F,F,F,F,F,F,F,F,F,F,F,F,F,F] HT_ ?_
   refine pu 3 (some 11) #[T,T,T,T,F,F,F,F,F,F,F,F,F,F,F,F,F,F,F,F,F,F,F] HT_ ?_
   refine pu 4 (some 12) #[T,T,T,T,T,F,F,F,F,F,F,F,F,F,F,F,F,F,F,F,F,F,F] HT_ ?_
   refine tk 5 (some 13) #[T,T,T,T,T,T,F,F,F,F,F,F,F,F,F,F,F,F,F,F,F,F,F] HT_ HW_ hHeld ?_
   refine pu 6 (some 14) #[T,T,T,T,T,T,T,F,F,F,F,F,F,F,F,F,F,F,F,F,F,F,F] HT_ ?_
   refine pu 7 (some 15) #[T,T,T,T,T,T,T,T,F,F,F,F,F,F,F,F,F,F,F,F,F,F,F] HT_ ?_
   refine ub (i := 8) (N := some 16) (v := undef) (a' := ?_) #[T,T,T,T,T,T,T,T,T,F,F,F,F,F,F,F,F,F,F,F,F,F,F] rfl rfl (uY HT_.out (by kernel_rfl)) (fun _ _ _ h => h) (Or.inr ⟨by rfl, rfl⟩) ?_ ?_
   rotate_left
   ·simp only [uc, uA, uB, uC, uZ, ua]
    rfl
   refine ub (i := 9) (N := some 17) (v := undef) (a' := ?_) #[T,T,T,T,T,T,T,T,T,T,F,F,F,F,F,F,F,F,F,F,F,F,F] rfl rfl (uY HT_.out (by kernel_rfl)) (fun _ _ _ h => h) (Or.inr ⟨by rfl, rfl⟩) ?_ ?_
   rotate_left
   ·simp only [uc, uA, uB, uC, uZ, ua]
    rfl
   refine ub (i := 10) (N := some 18) (v := undef) (a' := ?_) #[T,T,T,T,T,T,T,T,T,T,T,F,F,F,F,F,F,F,F,F,F,F,F] rfl rfl (uY HT_.out (by kernel_rfl)) (fun _ _ _ h => h) (Or.inr ⟨by rfl, rfl⟩) ?_ ?_
   rotate_left
   ·simp only [uc, uA, uB, uC, uZ, ua]
    rfl
   refine ub (i := 11) (N := some 19) (v := undef) (a' := ?_) #[T,T,T,T,T,T,T,T,T,T,T,T,F,F,F,F,F,F,F,F,F,F,F] rfl rfl (uY HT_.out (by kernel_rfl)) (fun _ _ _ h => h) (Or.inr ⟨by rfl, rfl⟩) ?_ ?_
   rotate_left
   ·simp only [uc, uA, uB, uC, uZ, ua]
    rfl
   refine pu 12 (some 20) #[T,T,T,T,T,T,T,T,T,T,T,T,T,F,F,F,F,F,F,F,F,F,F] HT_ ?_
   refine pu 13 (some 21) #[T,T,T,T,T,T,T,T,T,T,T,T,T,T,F,F,F,F,F,F,F,F,F] HT_ ?_
   refine ub (i := 14) (N := some 22) (v := undef) (a' := ?_) #[T,T,T,T,T,T,T,T,T,T,T,T,T,T,T,F,F,F,F,F,F,F,F] rfl rfl (uY HT_.out (by kernel_rfl)) (fun _ _ _ h => h) (Or.inr ⟨by rfl, rfl⟩) ?_ ?_
   rotate_left
   ·simp only [uc, uA, uB, uC, uZ, ua]
    rfl
   refine ub (i := 15) (N := some 23) (v := undef) (a' := ?_) #[T,T,T,T,T,T,T,T,T,T,T,T,T,T,T,T,F,F,F,F,F,F,F] rfl rfl (uY HT_.out (by kernel_rfl)) (fun _ _ _ h => h) (Or.inr ⟨by rfl, rfl⟩) ?_ ?_
   rotate_left
   ·simp only [uc, uA, uB, uC, uZ, ua]
    rfl
   refine ub (i := 16) (N := some 24) (v := undef) (a' := ?_) #[T,T,T,T,T,T,T,T,T,T,T,T,T,T,T,T,T,F,F,F,F,F,F] rfl rfl (uY HT_.out (by kernel_rfl)) (fun _ _ _ h => h) (Or.inr ⟨by rfl, rfl⟩) ?_ ?_
   rotate_left
   ·simp only [uc, uA, uB, uC, uZ, ua]
    rfl
   refine ub (i := 17) (N := some 25) (v := undef) (a' := ?_) #[T,T,T,T,T,T,T,T,T,T,T,T,T,T,T,T,T,T,F,F,F,F,F] rfl rfl (uY HT_.out (by kernel_rfl)) (fun _ _ _ h => h) (Or.inr ⟨by rfl, rfl⟩) ?_ ?_
   rotate_left
   ·simp only [uc, uA, uB, uC, uZ, ua]
    rfl
   refine ub (i := 18) (N := some 26) (v := undef) (a' := ?_) #[T,T,T,T,T,T,T,T,T,T,T,T,T,T,T,T,T,T,T,F,F,F,F] rfl rfl (uY HT_.out (by kernel_rfl)) (fun _ _ _ h => h) (Or.inr ⟨by rfl, rfl⟩) ?_ ?_
   rotate_left
   ·simp only [uc, uA, uB, uC, uZ, ua]
    rfl
   refine ub (i := 19) (N := some 27) (v := undef) (a' := ?_) #[T,T,T,T,T,T,T,T,T,T,T,T,T,T,T,T,T,T,T,T,F,F,F] rfl rfl (uY HT_.out (by kernel_rfl)) (fun _ _ _ h => h) (Or.inr ⟨by rfl, rfl⟩) ?_ ?_
   rotate_left
   ·simp only [uc, uA, uB, uC, uZ, ua]
    rfl
   refine ub (i := 20) (N := some 28) (v := undef) (a' := ?_) #[T,T,T,T,T,T,T,T,T,T,T,T,T,T,T,T,T,T,T,T,T,F,F] rfl rfl (uY HT_.out (by kernel_rfl)) (fun _ _ _ h => h) (Or.inr ⟨by rfl, rfl⟩) ?_ ?_
   rotate_left
   ·simp only [uc, uA, uB, uC, uZ, ua]
    rfl
   refine ub (i := 21) (N := some 29) (v := undef) (a' := ?_) #[T,T,T,T,T,T,T,T,T,T,T,T,T,T,T,T,T,T,T,T,T,T,F] rfl rfl (uY HT_.out (by kernel_rfl)) (fun _ _ _ h => h) (Or.inr ⟨by rfl, rfl⟩) ?_ ?_
   rotate_left
   ·simp only [uc, uA, uB, uC, uZ, ua]
    rfl
   refine pu 22 (some 30) #[T,T,T,T,T,T,T,T,T,T,T,T,T,T,T,T,T,T,T,T,T,T,T] HT_ ?_
   refine done_ (done_of HT_.out (by kernel_rfl)) ?_
   obtain ⟨hcz16_0, hcz16_1, hcz16_2, hcz16_3, hfz16_0, hfz16_1, hfz16_2, hfz16_3⟩ := cz4 BK188
   obtain ⟨hcz17_0, hcz17_1, hcz17_2, hcz17_3, hfz17_0, hfz17_1, hfz17_2, hfz17_3⟩ := cz4 BK189
   try go_wp2
   refine bodyPost_ret (results_ctt rfl _ _ gb189 29 #[.int .i64 t190, .int .i64 t191, .bool true, .slice Ao12 t193.length co12] (0, 0) _ rfl (by (with_reducible repeat first|apply uH|apply uJ|apply uG); refine uP (cs := #[.int .i64 t190, .int .i64 t191, .bool true, .slice none 0 0]) ?_ 3 _ rfl; (with_reducible repeat first|apply uH|apply uJ|apply uG); refine uP (cs := #[.int .i64 t190, .int .i64 t191, .bool false, .slice none 0 0]) ?_ 2 _ rfl; (with_reducible repeat first|apply uH|apply uJ|apply uG); refine uP (cs := #[.int .i64 t190, .int .i64 0, .bool false, .slice none 0 0]) ?_ 1 _ rfl; (with_reducible repeat first|apply uH|apply uJ|apply uG); refine uP (cs := #[.int .i64 0, .int .i64 0, .bool false, .slice none 0 0]) ?_ 0 _ rfl; (with_reducible repeat first|apply uH|apply uJ|apply uG); exact BK189.out) Try.underlying29 rfl (by kernel_rfl)) rfl ?_
   exact ⟨_, by first | rfl | (simp [errW_none, errW_some] <;> rfl) | (simp [*, errW_none, errW_some] <;> rfl), by (with_reducible repeat (first | apply uU | apply uS | apply uT)); exact uX (uV (p := ⟨gb189, 3, none⟩) (uV (p := ⟨gb189, 2, none⟩) (uV (p := ⟨gb189, 1, none⟩) (uV (p := ⟨gb189, 0, none⟩) (uW HO195.out BK189.out (by decide)) (fun _ hk => hk.2) (.int .i64 t190)) (fun _ hk => hk.2) (.int .i64 t191)) (fun _ hk => hk.2) (.bool true)) (fun _ hk => hk.2) (.slice Ao12 t193.length co12)) (fun _ hk => trivial), pb HB⟩
  ·replace c5 := Bool.eq_false_iff.mpr c5
   subst c5
   have H1 : (if (t193.length : Int) = 0 then (some (t190, t191, false, t193, 0, false)) else (if 0 < (t193.length : Int) then (if ((rd_T53 t193 0).f1) < t190 then (some (t190, t191, false, t193, 0, false)) else ((some (([] : List (S53)) : List (S53))).bind fun y199 => (if 1 ≤ (t193.length : Int) then ((some (t193.drop 1 : List (S53))).bind fun y202 => (if y199.length + y202.length < 5864062014805 then (some (t190, t191, false, (y199 ++ y202), (rd_T53 t193 0).f0, true)) else (none))) else (none)))) else (none))) = some (r1, r2, r3, r4, r5, r6) := by rw [if_neg (show ¬ (false = true) by decide)] at H; first | done | exact H
   clear H
   have H := H1
   clear H1
   by_cases c18 : (t193.length : Int) = 0
   ·rw [if_pos c18] at H
    have c18b0 : ((t193.length : Int) == 0) = true := beq_iff_eq.mpr c18
    have c18b1 : ((t193.length : Int) != 0) = false := bne_eq_false_iff_eq.mpr c18
    clear c18
    simp only [Option.some.injEq, Prod.mk.injEq] at H
    obtain ⟨rfl, rfl, rfl, rfl, rfl, rfl⟩ := H
    go_enter Try.func26, Try.ntmps26
    try go_wp2_with (first | ((with_reducible refine gate_dst (N := 1) rfl ?_); (try (refine gate_guard (by rfl) ?_; dsimp only)); refine bx 1 #[.int .i64 a0_0, .int .i64 a0_1, .bool a0_2, .slice A0_3 l0_3.length c0_3] 29 ?_; intro gb188 hg w19 hbox hb; have BK188 := uD (hbox); have GW188 := uD ((by rw [hg]; exact (uN (pb HB)) : w.heap.size ≤ gb188)); have GE188 := uD ((by rw [hg]; exact (uN (pb HB)) : w.heap.size ≤ gb188)); replace HB := uD (uO (pb HB) hb); clear hb hbox hg) | ((with_reducible refine gate_dst (N := 2) rfl ?_); (try (refine gate_guard (by rfl) ?_; dsimp only)); refine bx 2 #[.int .i64 0, .int .i64 0, .bool false, .slice none 0 0] 29 ?_; intro gb189 hg w20 hbox hb; have BK189 := uD (hbox); have GW189 := uD ((by rw [hg]; exact (uN (pb HB)) : w.heap.size ≤ gb189)); have GE189 := uD ((by rw [hg]; exact (uN (pb HB)) : w.heap.size ≤ gb189)); replace HB := uD (uO (pb HB) hb); have NB188_189 := uD ((by rw [hg]; exact Nat.ne_of_lt (blk_lt (pk BK188)) : gb188 ≠ gb189)); have NB189_188 := uD ((by rw [hg]; exact Nat.ne_of_gt (blk_lt (pk BK188)) : gb189 ≠ gb188)); replace BK188 := uD (blk_below (pk BK188) hb); clear hb hbox hg; have hnb21 := NB188_189.out; have hnc21 := NB189_188.out; obtain ⟨hcz22_0, hcz22_1, hcz22_2, hcz22_3, hfz22_0, hfz22_1, hfz22_2, hfz22_3⟩ := cz4 BK188) | ((with_reducible refine gate_callee (f := 55) rfl ?_); refine gl (some 7) Try.func55 #[.agg #[.int .i64 a0_0, .int .i64 a0_1, .bool a0_2, .slice A0_3 l0_3.length c0_3]] ?_; (with_reducible refine (spec_l02Fresh.calls a0_0 a0_1 a0_2 _ _ l0_3 t190 t191 false t193 _ ?side1 ?side2 A2.out).mono ?_); (case side1 => exact pc (Kd.C_below HR0_3.out HB.out)); (case side2 => exact HC0_3.out); rintro e w23 ⟨v194, rfl, ho0, hb⟩; refine ⟨_, rfl, ?_⟩; have HO195 := uD (Kd.R_lower ho0 (uN (pb HB))); replace BK188 := uD (blk_below (pk BK188) hb); replace BK189 := uD (blk_below (pk BK189) hb); replace HB := uD (uO (pb HB) hb); (try clear hb); (try clear hb2); (try clear hk); (try clear hi); (try clear ho0); obtain ⟨hcz24_0, hcz24_1, hcz24_2, hcz24_3, hfz24_0, hfz24_1, hfz24_2, hfz24_3⟩ := cz4 BK188; obtain ⟨Ao25, co25, eo25⟩ := Kd.R_slice HO195.out; subst eo25))
    have n0_ : Aside0 (Kd.R k53 53 ((((w23.setCell ⟨gb188, 0, none⟩ (.int .i64 t190)).setCell ⟨gb188, 1, none⟩ (.int .i64 t191)).setCell ⟨gb188, 2, none⟩ (.bool false)).setCell ⟨gb188, 3, none⟩ (.slice Ao25 t193.length co25)) w.heap.size (fun _ => True) (.slice Ao25 t193.length co25) t193) := ⟨by (with_reducible repeat (first | apply uU | apply uS | apply uT)); exact uX (uV (p := ⟨gb188, 3, none⟩) (uV (p := ⟨gb188, 2, none⟩) (uV (p := ⟨gb188, 1, none⟩) (uV (p := ⟨gb188, 0, none⟩) (uW HO195.out BK188.out (by decide)) (fun _ hk => hk.2) (.int .i64 t190)) (fun _ hk => hk.2) (.int .i64 t191)) (fun _ hk => hk.2) (.bool false)) (fun _ hk => hk.2) (.slice Ao25 t193.length co25)) (fun _ hk => trivial)⟩
    have n1_ : Aside0 (((((w23.setCell ⟨gb188, 0, none⟩ (.int .i64 t190)).setCell ⟨gb188, 1, none⟩ (.int .i64 t191)).setCell ⟨gb188, 2, none⟩ (.bool false)).setCell ⟨gb188, 3, none⟩ (.slice Ao25 t193.length co25)).heap[gb188]? = some (.cells #[.int .i64 t190, .int .i64 t191, .bool false, .slice Ao25 t193.length co25] 29 (0, 0))) := ⟨by (with_reducible repeat first|apply uH|apply uJ|apply uG); refine uP (cs := #[.int .i64 t190, .int .i64 t191, .bool false, .slice A0_3 l0_3.length c0_3]) ?_ 3 _ rfl; (with_reducible repeat first|apply uH|apply uJ|apply uG); refine uP (cs := #[.int .i64 t190, .int .i64 t191, .bool a0_2, .slice A0_3 l0_3.length c0_3]) ?_ 2 _ rfl; (with_reducible repeat first|apply uH|apply uJ|apply uG); refine uP (cs := #[.int .i64 t190, .int .i64 a0_1, .bool a0_2, .slice A0_3 l0_3.length c0_3]) ?_ 1 _ rfl; (with_reducible repeat first|apply uH|apply uJ|apply uG); refine uP (cs := #[.int .i64 a0_0, .int .i64 a0_1, .bool a0_2, .slice A0_3 l0_3.length c0_3]) ?_ 0 _ rfl; (with_reducible repeat first|apply uH|apply uJ|apply uG); exact BK188.out⟩
    have n2_ : Aside0 (((((w23.setCell ⟨gb188, 0, none⟩ (.int .i64 t190)).setCell ⟨gb188, 1, none⟩ (.int .i64 t191)).setCell ⟨gb188, 2, none⟩ (.bool false)).setCell ⟨gb188, 3, none⟩ (.slice Ao25 t193.length co25)).heap[gb189]? = some (.cells #[.int .i64 0, .int .i64 0, .bool false, .slice none 0 0] 29 (0, 0))) := ⟨by exact ps BK189⟩
    have n3_ : Aside0 (Below w.heap.size w ((((w23.setCell ⟨gb188, 0, none⟩ (.int .i64 t190)).setCell ⟨gb188, 1, none⟩ (.int .i64 t191)).setCell ⟨gb188, 2, none⟩ (.bool false)).setCell ⟨gb188, 3, none⟩ (.slice Ao25 t193.length co25))) := ⟨pb HB⟩
    (try clear HO195)
    (try clear BK188)
    (try clear BK189)
    (try clear HB)
    generalize ((((w23.setCell ⟨gb188, 0, none⟩ (.int .i64 t190)).setCell ⟨gb188, 1, none⟩ (.int .i64 t191)).setCell ⟨gb188, 2, none⟩ (.bool false)).setCell ⟨gb188, 3, none⟩ (.slice Ao25 t193.length co25)) = w26 at n0_ n1_ n2_ n3_ ⊢
    have HO195 := n0_
    have BK188 := n1_
    have BK189 := n2_
    have HB := n3_
    clear n0_ n1_ n2_ n3_
    replace HO195 := uD (uT HO195.out)
    replace BK188 := uD (uJ BK188.out)
    replace BK189 := uD (uJ BK189.out)
    replace HB := uD (uK HB.out)
    refine start_ (n := 23) (S := fun w' => w'.cell? ⟨gb188, 0, none⟩ = some (.int .i64 t190) ∧ w'.cell? ⟨gb188, 1, none⟩ = some (.int .i64 t191) ∧ w'.cell? ⟨gb188, 2, none⟩ = some (.bool false) ∧ w'.cell? ⟨gb188, 3, none⟩ = some (.slice Ao25 t193.length co25)) (ds := []) #[F,F,F,F,F,F,F,F,F,F,F,F,F,F,F,F,F,F,F,F,F,F,F] (by kernel_rfl) rfl rfl ⟨(uF BK188.out 0).trans rfl, (uF BK188.out 1).trans rfl, (uF BK188.out 2).trans rfl, (uF BK188.out 3).trans rfl⟩ (fun hHeld => ?_); refine with_tabW spec_Leave.tab2 spec_Leave.bits2 (fun HT_ HW_ => ?_)
    generalize w26.drew = w27 at HO195 BK188 BK189 HB HO195 hHeld ⊢
    refine tk 0 (some 8) #[T,F,F,F,F,F,F,F,F,F,F,F,F,F,F,F,F,F,F,F,F,F,F] HT_ HW_ hHeld ?_
    refine one_ (i := 1) (N := some 9) #[T,T,F,F,F,F,F,F,F,F,F,F,F,F,F,F,F,F,F,F,F,F,F] rfl rfl (one_of HT_.out (by kernel_rfl)) (by decide) (fun K hK => ?_)
    refine goes_ Try.func16 (by kernel_rfl) rfl #[.agg #[.int .i64 t190, .int .i64 t191, .bool false, .slice Ao25 t193.length co25]] (by rfl) rfl rfl (by (try simp only [List.map_toArray, List.map_cons, List.map_nil]); first | done | rfl | (simp only [List.length_drop, List.length_take]; rfl)) ?_
    with_reducible refine (spec_BeltOk.calls k t190 t191 false _ _ t193 true _ ?side1 ?side2 A3.out).mono ?_
    (case side1 => exact pc ((Kd.R_reads' HO195.out).2.2))
    (case side2 => exact (Kd.R_reads' HO195.out).2.1)
    rintro e w28 ⟨rfl, hb⟩
    refine ⟨_, rfl, ?_⟩
    replace HO195 := uD (Kd.R_below (pr HO195) hb)
    replace BK188 := uD (blk_below (pk BK188) hb)
    replace BK189 := uD (blk_below (pk BK189) hb)
    replace HB := uD (uO (pb HB) hb)
    (try clear hb)
    (try clear hb2)
    (try clear hk)
    (try clear hi)
    refine hK.out _ _ ⟨(uF BK188.out 0).trans rfl, (uF BK188.out 1).trans rfl, (uF BK188.out 2).trans rfl, (uF BK188.out 3).trans rfl⟩ (fun hHeld => ?_)
    clear hK K
    refine norm_ (a' := ?_) ?_ ?_
    rotate_left
    ·show uc _ (some 9) _ = _
     simp only [uc, uA, uB, uC, uZ, ua]
     rfl
    refine pu 2 (some 10) #[T,T,T,F,F,F,F,F,F,F,F,F,F,F,F,F,F,F,F,F,F,F,F] HT_ ?_
    refine pu 3 (some 11) #[T,T,T,T,F,F,F,F,F,F,F,F,F,F,F,F,F,F,F,F,F,F,F] HT_ ?_
    refine pu 4 (some 12) #[T,T,T,T,T,F,F,F,F,F,F,F,F,F,F,F,F,F,F,F,F,F,F] HT_ ?_
    refine tk 5 (some 13) #[T,T,T,T,T,T,F,F,F,F,F,F,F,F,F,F,F,F,F,F,F,F,F] HT_ HW_ hHeld ?_
    refine pu 6 (some 14) #[T,T,T,T,T,T,T,F,F,F,F,F,F,F,F,F,F,F,F,F,F,F,F] HT_ ?_
    refine pu 7 (some 15) #[T,T,T,T,T,T,T,T,F,F,F,F,F,F,F,F,F,F,F,F,F,F,F] HT_ ?_
    refine pu 8 (some 16) #[T,T,T,T,T,T,T,T,T,F,F,F,F,F,F,F,F,F,F,F,F,F,F] HT_ ?_
    refine tk 9 (some 17) #[T,T,T,T,T,T,T,T,T,T,F,F,F,F,F,F,F,F,F,F,F,F,F] HT_ HW_ hHeld ?_
    refine pu 10 (some 18) #[T,T,T,T,T,T,T,T,T,T,T,F,F,F,F,F,F,F,F,F,F,F,F] HT_ ?_
    refine pu 11 (some 19) #[T,T,T,T,T,T,T,T,T,T,T,T,F,F,F,F,F,F,F,F,F,F,F] HT_ ?_
    refine pu 12 (some 20) #[T,T,T,T,T,T,T,T,T,T,T,T,T,F,F,F,F,F,F,F,F,F,F] HT_ ?_
    refine pu 13 (some 21) #[T,T,T,T,T,T,T,T,T,T,T,T,T,T,F,F,F,F,F,F,F,F,F] HT_ ?_
    refine ub (i := 14) (N := some 22) (v := undef) (a' := ?_) #[T,T,T,T,T,T,T,T,T,T,T,T,T,T,T,F,F,F,F,F,F,F,F] rfl rfl (uY HT_.out (by kernel_rfl)) (fun _ _ _ h => h) (Or.inr ⟨by rfl, rfl⟩) ?_ ?_
    rotate_left
    ·simp only [uc, uA, uB, uC, uZ, ua]
     rfl
    refine ub (i := 15) (N := some 23) (v := undef) (a' := ?_) #[T,T,T,T,T,T,T,T,T,T,T,T,T,T,T,T,F,F,F,F,F,F,F] rfl rfl (uY HT_.out (by kernel_rfl)) (fun _ _ _ h => h) (Or.inr ⟨by rfl, rfl⟩) ?_ ?_
    rotate_left
    ·simp only [uc, uA, uB, uC, uZ, ua]
     rfl
    refine ub (i := 16) (N := some 24) (v := undef) (a' := ?_) #[T,T,T,T,T,T,T,T,T,T,T,T,T,T,T,T,T,F,F,F,F,F,F] rfl rfl (uY HT_.out (by kernel_rfl)) (fun _ _ _ h => h) (Or.inr ⟨by rfl, rfl⟩) ?_ ?_
    rotate_left
    ·simp only [uc, uA, uB, uC, uZ, ua]
     rfl
    refine ub (i := 17) (N := some 25) (v := undef) (a' := ?_) #[T,T,T,T,T,T,T,T,T,T,T,T,T,T,T,T,T,T,F,F,F,F,F] rfl rfl (uY HT_.out (by kernel_rfl)) (fun _ _ _ h => h) (Or.inr ⟨by rfl, rfl⟩) ?_ ?_
    rotate_left
    ·simp only [uc, uA, uB, uC, uZ, ua]
     rfl
    refine ub (i := 18) (N := some 26) (v := undef) (a' := ?_) #[T,T,T,T,T,T,T,T,T,T,T,T,T,T,T,T,T,T,T,F,F,F,F] rfl rfl (uY HT_.out (by kernel_rfl)) (fun _ _ _ h => h) (Or.inr ⟨by rfl, rfl⟩) ?_ ?_
    rotate_left
    ·simp only [uc, uA, uB, uC, uZ, ua]
     rfl
    refine ub (i := 19) (N := some 27) (v := undef) (a' := ?_) #[T,T,T,T,T,T,T,T,T,T,T,T,T,T,T,T,T,T,T,T,F,F,F] rfl rfl (uY HT_.out (by kernel_rfl)) (fun _ _ _ h => h) (Or.inr ⟨by rfl, rfl⟩) ?_ ?_
    rotate_left
    ·simp only [uc, uA, uB, uC, uZ, ua]
     rfl
    refine ub (i := 20) (N := some 28) (v := undef) (a' := ?_) #[T,T,T,T,T,T,T,T,T,T,T,T,T,T,T,T,T,T,T,T,T,F,F] rfl rfl (uY HT_.out (by kernel_rfl)) (fun _ _ _ h => h) (Or.inr ⟨by rfl, rfl⟩) ?_ ?_
    rotate_left
    ·simp only [uc, uA, uB, uC, uZ, ua]
     rfl
    refine ub (i := 21) (N := some 29) (v := undef) (a' := ?_) #[T,T,T,T,T,T,T,T,T,T,T,T,T,T,T,T,T,T,T,T,T,T,F] rfl rfl (uY HT_.out (by kernel_rfl)) (fun _ _ _ h => h) (Or.inr ⟨by rfl, rfl⟩) ?_ ?_
    rotate_left
    ·simp only [uc, uA, uB, uC, uZ, ua]
     rfl
    refine pu 22 (some 30) #[T,T,T,T,T,T,T,T,T,T,T,T,T,T,T,T,T,T,T,T,T,T,T] HT_ ?_
    refine done_ (done_of HT_.out (by kernel_rfl)) ?_
    obtain ⟨hcz29_0, hcz29_1, hcz29_2, hcz29_3, hfz29_0, hfz29_1, hfz29_2, hfz29_3⟩ := cz4 BK188
    obtain ⟨hcz30_0, hcz30_1, hcz30_2, hcz30_3, hfz30_0, hfz30_1, hfz30_2, hfz30_3⟩ := cz4 BK189
    try go_wp2
    refine bodyPost_ret (results_ctt rfl _ _ gb189 29 #[.int .i64 t190, .int .i64 t191, .bool false, .slice Ao25 t193.length co25] (0, 0) _ rfl (by (with_reducible repeat first|apply uH|apply uJ|apply uG); refine uP (cs := #[.int .i64 t190, .int .i64 t191, .bool false, .slice none 0 0]) ?_ 3 _ rfl; (with_reducible repeat first|apply uH|apply uJ|apply uG); refine uP (cs := #[.int .i64 t190, .int .i64 t191, .bool false, .slice none 0 0]) ?_ 2 _ rfl; (with_reducible repeat first|apply uH|apply uJ|apply uG); refine uP (cs := #[.int .i64 t190, .int .i64 0, .bool false, .slice none 0 0]) ?_ 1 _ rfl; (with_reducible repeat first|apply uH|apply uJ|apply uG); refine uP (cs := #[.int .i64 0, .int .i64 0, .bool false, .slice none 0 0]) ?_ 0 _ rfl; (with_reducible repeat first|apply uH|apply uJ|apply uG); exact BK189.out) Try.underlying29 rfl (by kernel_rfl)) rfl ?_
    exact ⟨_, by first | rfl | (simp [errW_none, errW_some] <;> rfl) | (simp [*, errW_none, errW_some] <;> rfl), by (with_reducible repeat (first | apply uU | apply uS | apply uT)); exact uX (uV (p := ⟨gb189, 3, none⟩) (uV (p := ⟨gb189, 2, none⟩) (uV (p := ⟨gb189, 1, none⟩) (uV (p := ⟨gb189, 0, none⟩) (uW HO195.out BK189.out (by decide)) (fun _ hk => hk.2) (.int .i64 t190)) (fun _ hk => hk.2) (.int .i64 t191)) (fun _ hk => hk.2) (.bool false)) (fun _ hk => hk.2) (.slice Ao25 t193.length co25)) (fun _ hk => trivial), pb HB⟩
   ·rw [if_neg c18] at H
    have c18b0 : ((t193.length : Int) == 0) = false := beq_eq_false_iff_ne.mpr c18
    have c18b1 : ((t193.length : Int) != 0) = true := bne_iff_ne.mpr c18
    have c18b2 : ¬ (t193 = []) := fun h_ => c18 (by rw [h_]; rfl)
    by_cases c31 : 0 < (t193.length : Int)
    ·rw [if_pos c31] at H
     have c31b0 : decide (0 < (t193.length : Int)) = true := decide_eq_true c31
     have c31b1 : decide (0 < t193.length) = true := decide_eq_true (by omega)
     clear c31
     by_cases c32 : ((rd_T53 t193 0).f1) < t190
     ·rw [if_pos c32] at H
      have c32b0 : decide (((rd_T53 t193 0).f1) < t190) = true := decide_eq_true c32
      clear c32
      simp only [Option.some.injEq, Prod.mk.injEq] at H
      obtain ⟨rfl, rfl, rfl, rfl, rfl, rfl⟩ := H
      go_enter Try.func26, Try.ntmps26
      try go_wp2_with (first | ((with_reducible refine gate_dst (N := 1) rfl ?_); (try (refine gate_guard (by rfl) ?_; dsimp only)); refine bx 1 #[.int .i64 a0_0, .int .i64 a0_1, .bool a0_2, .slice A0_3 l0_3.length c0_3] 29 ?_; intro gb188 hg w33 hbox hb; have BK188 := uD (hbox); have GW188 := uD ((by rw [hg]; exact (uN (pb HB)) : w.heap.size ≤ gb188)); have GE188 := uD ((by rw [hg]; exact (uN (pb HB)) : w.heap.size ≤ gb188)); replace HB := uD (uO (pb HB) hb); clear hb hbox hg) | ((with_reducible refine gate_dst (N := 2) rfl ?_); (try (refine gate_guard (by rfl) ?_; dsimp only)); refine bx 2 #[.int .i64 0, .int .i64 0, .bool false, .slice none 0 0] 29 ?_; intro gb189 hg w34 hbox hb; have BK189 := uD (hbox); have GW189 := uD ((by rw [hg]; exact (uN (pb HB)) : w.heap.size ≤ gb189)); have GE189 := uD ((by rw [hg]; exact (uN (pb HB)) : w.heap.size ≤ gb189)); replace HB := uD (uO (pb HB) hb); have NB188_189 := uD ((by rw [hg]; exact Nat.ne_of_lt (blk_lt (pk BK188)) : gb188 ≠ gb189)); have NB189_188 := uD ((by rw [hg]; exact Nat.ne_of_gt (blk_lt (pk BK188)) : gb189 ≠ gb188)); replace BK188 := uD (blk_below (pk BK188) hb); clear hb hbox hg; have hnb35 := NB188_189.out; have hnc35 := NB189_188.out; obtain ⟨hcz36_0, hcz36_1, hcz36_2, hcz36_3, hfz36_0, hfz36_1, hfz36_2, hfz36_3⟩ := cz4 BK188) | ((with_reducible refine gate_callee (f := 55) rfl ?_); refine gl (some 7) Try.func55 #[.agg #[.int .i64 a0_0, .int .i64 a0_1, .bool a0_2, .slice A0_3 l0_3.length c0_3]] ?_; (with_reducible refine (spec_l02Fresh.calls a0_0 a0_1 a0_2 _ _ l0_3 t190 t191 false t193 _ ?side1 ?side2 A2.out).mono ?_); (case side1 => exact pc (Kd.C_below HR0_3.out HB.out)); (case side2 => exact HC0_3.out); rintro e w37 ⟨v194, rfl, ho0, hb⟩; refine ⟨_, rfl, ?_⟩; have HO195 := uD (Kd.R_lower ho0 (uN (pb HB))); replace BK188 := uD (blk_below (pk BK188) hb); replace BK189 := uD (blk_below (pk BK189) hb); replace HB := uD (uO (pb HB) hb); (try clear hb); (try clear hb2); (try clear hk); (try clear hi); (try clear ho0); obtain ⟨hcz38_0, hcz38_1, hcz38_2, hcz38_3, hfz38_0, hfz38_1, hfz38_2, hfz38_3⟩ := cz4 BK188; obtain ⟨Ao39, co39, eo39⟩ := Kd.R_slice HO195.out; subst eo39))
      have n0_ : Aside0 (Kd.R k53 53 ((((w37.setCell ⟨gb188, 0, none⟩ (.int .i64 t190)).setCell ⟨gb188, 1, none⟩ (.int .i64 t191)).setCell ⟨gb188, 2, none⟩ (.bool false)).setCell ⟨gb188, 3, none⟩ (.slice Ao39 t193.length co39)) w.heap.size (fun _ => True) (.slice Ao39 t193.length co39) t193) := ⟨by (with_reducible repeat (first | apply uU | apply uS | apply uT)); exact uX (uV (p := ⟨gb188, 3, none⟩) (uV (p := ⟨gb188, 2, none⟩) (uV (p := ⟨gb188, 1, none⟩) (uV (p := ⟨gb188, 0, none⟩) (uW HO195.out BK188.out (by decide)) (fun _ hk => hk.2) (.int .i64 t190)) (fun _ hk => hk.2) (.int .i64 t191)) (fun _ hk => hk.2) (.bool false)) (fun _ hk => hk.2) (.slice Ao39 t193.length co39)) (fun _ hk => trivial)⟩
      have n1_ : Aside0 (((((w37.setCell ⟨gb188, 0, none⟩ (.int .i64 t190)).setCell ⟨gb188, 1, none⟩ (.int .i64 t191)).setCell ⟨gb188, 2, none⟩ (.bool false)).setCell ⟨gb188, 3, none⟩ (.slice Ao39 t193.length co39)).heap[gb188]? = some (.cells #[.int .i64 t190, .int .i64 t191, .bool false, .slice Ao39 t193.length co39] 29 (0, 0))) := ⟨by (with_reducible repeat first|apply uH|apply uJ|apply uG); refine uP (cs := #[.int .i64 t190, .int .i64 t191, .bool false, .slice A0_3 l0_3.length c0_3]) ?_ 3 _ rfl; (with_reducible repeat first|apply uH|apply uJ|apply uG); refine uP (cs := #[.int .i64 t190, .int .i64 t191, .bool a0_2, .slice A0_3 l0_3.length c0_3]) ?_ 2 _ rfl; (with_reducible repeat first|apply uH|apply uJ|apply uG); refine uP (cs := #[.int .i64 t190, .int .i64 a0_1, .bool a0_2, .slice A0_3 l0_3.length c0_3]) ?_ 1 _ rfl; (with_reducible repeat first|apply uH|apply uJ|apply uG); refine uP (cs := #[.int .i64 a0_0, .int .i64 a0_1, .bool a0_2, .slice A0_3 l0_3.length c0_3]) ?_ 0 _ rfl; (with_reducible repeat first|apply uH|apply uJ|apply uG); exact BK188.out⟩
      have n2_ : Aside0 (((((w37.setCell ⟨gb188, 0, none⟩ (.int .i64 t190)).setCell ⟨gb188, 1, none⟩ (.int .i64 t191)).setCell ⟨gb188, 2, none⟩ (.bool false)).setCell ⟨gb188, 3, none⟩ (.slice Ao39 t193.length co39)).heap[gb189]? = some (.cells #[.int .i64 0, .int .i64 0, .bool false, .slice none 0 0] 29 (0, 0))) := ⟨by exact ps BK189⟩
      have n3_ : Aside0 (Below w.heap.size w ((((w37.setCell ⟨gb188, 0, none⟩ (.int .i64 t190)).setCell ⟨gb188, 1, none⟩ (.int .i64 t191)).setCell ⟨gb188, 2, none⟩ (.bool false)).setCell ⟨gb188, 3, none⟩ (.slice Ao39 t193.length co39))) := ⟨pb HB⟩
      (try clear HO195)
      (try clear BK188)
      (try clear BK189)
      (try clear HB)
      generalize ((((w37.setCell ⟨gb188, 0, none⟩ (.int .i64 t190)).setCell ⟨gb188, 1, none⟩ (.int .i64 t191)).setCell ⟨gb188, 2, none⟩ (.bool false)).setCell ⟨gb188, 3, none⟩ (.slice Ao39 t193.length co39)) = w40 at n0_ n1_ n2_ n3_ ⊢
      have HO195 := n0_
      have BK188 := n1_
      have BK189 := n2_
      have HB := n3_
      clear n0_ n1_ n2_ n3_
      replace HO195 := uD (uT HO195.out)
      replace BK188 := uD (uJ BK188.out)
      replace BK189 := uD (uJ BK189.out)
      replace HB := uD (uK HB.out)
      have p197 : 0 ≤ (0 : Int) := (by omega)
      have q197 : 0 < (t193.length : Int) := of_decide_eq_true (by first | (with_reducible assumption) | assumption)
      obtain ⟨ad197, e197, hx197_0, hx197_1, hx197_2⟩ := at_T53 (Kd.R_reads' HO195.out).2.2 0 p197 q197
      cases e197
      have qi197 : (0 < t193.length) = True := eq_true (by omega)
      (try rw [show ((0 : Int)).toNat = 0 from rfl] at hx197_0)
      (try rw [show 0 * 3 = 0 from rfl] at hx197_0)
      (try rw [Addr.add_zero'] at hx197_0)
      (try rw [show ((0 : Int)).toNat = 0 from rfl] at hx197_1)
      (try rw [show 0 * 3 = 0 from rfl] at hx197_1)
      (try rw [Addr.add_zero'] at hx197_1)
      (try rw [show ((0 : Int)).toNat = 0 from rfl] at hx197_2)
      (try rw [show 0 * 3 = 0 from rfl] at hx197_2)
      (try rw [Addr.add_zero'] at hx197_2)
      replace p197 := eq_true p197
      replace q197 := eq_true q197
      refine start_ (n := 23) (S := fun w' => w'.cell? ⟨gb188, 0, none⟩ = some (.int .i64 t190) ∧ w'.cell? ⟨gb188, 1, none⟩ = some (.int .i64 t191) ∧ w'.cell? ⟨gb188, 2, none⟩ = some (.bool false) ∧ w'.cell? ⟨gb188, 3, none⟩ = some (.slice (some ad197) t193.length co39) ∧ w'.cell? ad197 = some (.int .i64 ((rd_T53 t193 0).f0)) ∧ w'.cell? ⟨ad197.block, ad197.off + 1, none⟩ = some (.int .i64 ((rd_T53 t193 0).f1)) ∧ w'.cell? ⟨ad197.block, ad197.off + 2, none⟩ = some (.int .i64 ((rd_T53 t193 0).f2))) (ds := []) #[F,F,F,F,F,F,F,F,F,F,F,F,F,F,F,F,F,F,F,F,F,F,F] (by kernel_rfl) rfl rfl ⟨(uF BK188.out 0).trans rfl, (uF BK188.out 1).trans rfl, (uF BK188.out 2).trans rfl, (uF BK188.out 3).trans rfl, hx197_0, hx197_1, hx197_2⟩ (fun hHeld => ?_); refine with_tabW spec_Leave.tab2 spec_Leave.bits2 (fun HT_ HW_ => ?_)
      generalize w40.drew = w41 at HO195 BK188 BK189 HB HO195 hx197_0 hx197_1 hx197_2 hHeld ⊢
      refine tk 0 (some 8) #[T,F,F,F,F,F,F,F,F,F,F,F,F,F,F,F,F,F,F,F,F,F,F] HT_ HW_ hHeld ?_
      refine one_ (i := 1) (N := some 9) #[T,T,F,F,F,F,F,F,F,F,F,F,F,F,F,F,F,F,F,F,F,F,F] rfl rfl (one_of HT_.out (by kernel_rfl)) (by decide) (fun K hK => ?_)
      refine goes_ Try.func16 (by kernel_rfl) rfl #[.agg #[.int .i64 t190, .int .i64 t191, .bool false, .slice (some ad197) t193.length co39]] (by rfl) rfl rfl (by (try simp only [List.map_toArray, List.map_cons, List.map_nil]); first | done | rfl | (simp only [List.length_drop, List.length_take]; rfl)) ?_
      with_reducible refine (spec_BeltOk.calls k t190 t191 false _ _ t193 true _ ?side1 ?side2 A3.out).mono ?_
      (case side1 => exact pc ((Kd.R_reads' HO195.out).2.2))
      (case side2 => exact (Kd.R_reads' HO195.out).2.1)
      rintro e w42 ⟨rfl, hb⟩
      have HS4_ := (hb.cell (World.block_lt_of_cell? _ _ (hHeld.2.2.2.2.1))).trans (hHeld.2.2.2.2.1)
      have HS5_ := (hb.cell (World.block_lt_of_cell? _ _ (hHeld.2.2.2.2.2.1))).trans (hHeld.2.2.2.2.2.1)
      have HS6_ := (hb.cell (World.block_lt_of_cell? _ _ (hHeld.2.2.2.2.2.2))).trans (hHeld.2.2.2.2.2.2)
      refine ⟨_, rfl, ?_⟩
      replace HO195 := uD (Kd.R_below (pr HO195) hb)
      replace BK188 := uD (blk_below (pk BK188) hb)
      replace BK189 := uD (blk_below (pk BK189) hb)
      replace HB := uD (uO (pb HB) hb)
      (try clear hb)
      (try clear hb2)
      (try clear hk)
      (try clear hi)
      refine hK.out _ _ ⟨(uF BK188.out 0).trans rfl, (uF BK188.out 1).trans rfl, (uF BK188.out 2).trans rfl, (uF BK188.out 3).trans rfl, HS4_, HS5_, HS6_⟩ (fun hHeld => ?_)
      clear hK K
      refine norm_ (a' := ?_) ?_ ?_
      rotate_left
      ·show uc _ (some 9) _ = _
       simp only [uc, uA, uB, uC, uZ, ua]
       rfl
      refine pu 2 (some 10) #[T,T,T,F,F,F,F,F,F,F,F,F,F,F,F,F,F,F,F,F,F,F,F] HT_ ?_
      refine pu 3 (some 11) #[T,T,T,T,F,F,F,F,F,F,F,F,F,F,F,F,F,F,F,F,F,F,F] HT_ ?_
      refine pu 4 (some 12) #[T,T,T,T,T,F,F,F,F,F,F,F,F,F,F,F,F,F,F,F,F,F,F] HT_ ?_
      refine tk 5 (some 13) #[T,T,T,T,T,T,F,F,F,F,F,F,F,F,F,F,F,F,F,F,F,F,F] HT_ HW_ hHeld ?_
      refine pu 6 (some 14) #[T,T,T,T,T,T,T,F,F,F,F,F,F,F,F,F,F,F,F,F,F,F,F] HT_ ?_
      refine pu 7 (some 15) #[T,T,T,T,T,T,T,T,F,F,F,F,F,F,F,F,F,F,F,F,F,F,F] HT_ ?_
      refine pu 8 (some 16) #[T,T,T,T,T,T,T,T,T,F,F,F,F,F,F,F,F,F,F,F,F,F,F] HT_ ?_
      refine tk 9 (some 17) #[T,T,T,T,T,T,T,T,T,T,F,F,F,F,F,F,F,F,F,F,F,F,F] HT_ HW_ hHeld ?_
      refine pu 10 (some 18) #[T,T,T,T,T,T,T,T,T,T,T,F,F,F,F,F,F,F,F,F,F,F,F] HT_ ?_
      refine pu 11 (some 19) #[T,T,T,T,T,T,T,T,T,T,T,T,F,F,F,F,F,F,F,F,F,F,F] HT_ ?_
      refine pu 12 (some 20) #[T,T,T,T,T,T,T,T,T,T,T,T,T,F,F,F,F,F,F,F,F,F,F] HT_ ?_
      refine pu 13 (some 21) #[T,T,T,T,T,T,T,T,T,T,T,T,T,T,F,F,F,F,F,F,F,F,F] HT_ ?_
      refine pu 14 (some 22) #[T,T,T,T,T,T,T,T,T,T,T,T,T,T,T,F,F,F,F,F,F,F,F] HT_ ?_
      refine pu 19 (some 27) #[T,T,T,T,T,T,T,T,T,T,T,T,T,T,T,F,F,F,F,T,F,F,F] HT_ ?_
      refine tk 15 (some 23) #[T,T,T,T,T,T,T,T,T,T,T,T,T,T,T,T,F,F,F,T,F,F,F] HT_ HW_ hHeld ?_
      refine pu 16 (some 24) #[T,T,T,T,T,T,T,T,T,T,T,T,T,T,T,T,T,F,F,T,F,F,F] HT_ ?_
      refine pu 17 (some 25) #[T,T,T,T,T,T,T,T,T,T,T,T,T,T,T,T,T,T,F,T,F,F,F] HT_ ?_
      refine tk 18 (some 26) #[T,T,T,T,T,T,T,T,T,T,T,T,T,T,T,T,T,T,T,T,F,F,F] HT_ HW_ hHeld ?_
      refine tk 20 (some 28) #[T,T,T,T,T,T,T,T,T,T,T,T,T,T,T,T,T,T,T,T,T,F,F] HT_ HW_ hHeld ?_
      refine pu 21 (some 29) #[T,T,T,T,T,T,T,T,T,T,T,T,T,T,T,T,T,T,T,T,T,T,F] HT_ ?_
      refine pu 22 (some 30) #[T,T,T,T,T,T,T,T,T,T,T,T,T,T,T,T,T,T,T,T,T,T,T] HT_ ?_
      refine done_ (done_of HT_.out (by kernel_rfl)) ?_
      obtain ⟨hcz43_0, hcz43_1, hcz43_2, hcz43_3, hfz43_0, hfz43_1, hfz43_2, hfz43_3⟩ := cz4 BK188
      obtain ⟨hcz44_0, hcz44_1, hcz44_2, hcz44_3, hfz44_0, hfz44_1, hfz44_2, hfz44_3⟩ := cz4 BK189
      try go_wp2
      refine bodyPost_ret (results_ctt rfl _ _ gb189 29 #[.int .i64 t190, .int .i64 t191, .bool false, .slice (some ad197) t193.length co39] (0, 0) _ rfl (by (with_reducible repeat first|apply uH|apply uJ|apply uG); refine uP (cs := #[.int .i64 t190, .int .i64 t191, .bool false, .slice none 0 0]) ?_ 3 _ rfl; (with_reducible repeat first|apply uH|apply uJ|apply uG); refine uP (cs := #[.int .i64 t190, .int .i64 t191, .bool false, .slice none 0 0]) ?_ 2 _ rfl; (with_reducible repeat first|apply uH|apply uJ|apply uG); refine uP (cs := #[.int .i64 t190, .int .i64 0, .bool false, .slice none 0 0]) ?_ 1 _ rfl; (with_reducible repeat first|apply uH|apply uJ|apply uG); refine uP (cs := #[.int .i64 0, .int .i64 0, .bool false, .slice none 0 0]) ?_ 0 _ rfl; (with_reducible repeat first|apply uH|apply uJ|apply uG); exact BK189.out) Try.underlying29 rfl (by kernel_rfl)) rfl ?_
      exact ⟨_, by first | rfl | (simp [errW_none, errW_some] <;> rfl) | (simp [*, errW_none, errW_some] <;> rfl), by (with_reducible repeat (first | apply uU | apply uS | apply uT)); exact uX (uV (p := ⟨gb189, 3, none⟩) (uV (p := ⟨gb189, 2, none⟩) (uV (p := ⟨gb189, 1, none⟩) (uV (p := ⟨gb189, 0, none⟩) (uW HO195.out BK189.out (by decide)) (fun _ hk => hk.2) (.int .i64 t190)) (fun _ hk => hk.2) (.int .i64 t191)) (fun _ hk => hk.2) (.bool false)) (fun _ hk => hk.2) (.slice (some ad197) t193.length co39)) (fun _ hk => trivial), pb HB⟩
     ·rw [if_neg c32] at H
      have c32b0 : decide (((rd_T53 t193 0).f1) < t190) = false := decide_eq_false c32
      clear c32
      obtain ⟨y199, hy199⟩ : ∃ y_ : List (S53), y_ = (([] : List (S53))) := ⟨_, rfl⟩
      replace H : (if 1 ≤ (t193.length : Int) then ((some (t193.drop 1 : List (S53))).bind fun y202 => (if y199.length + y202.length < 5864062014805 then (some (t190, t191, false, (y199 ++ y202), (rd_T53 t193 0).f0, true)) else (none))) else (none)) = some (r1, r2, r3, r4, r5, r6) := by first | (rw [hy199]; with_reducible exact H) | (have H2_ := (Option.bind_some _ _).symm.trans H; rw [hy199]; with_reducible exact H2_) | (have H2_ := (Option.bind_some _ _).symm.trans H; with_reducible exact H2_) | with_reducible exact H | (rw [hy199]; exact H) | exact H
      have Ny199 := uD hy199
      clear hy199
      by_cases c45 : 1 ≤ (t193.length : Int)
      ·rw [if_pos c45] at H
       have c45b0 := eq_true c45
       have c45b1 : decide (1 ≤ (t193.length : Int)) = true := decide_eq_true c45
       clear c45
       obtain ⟨y202, hy202⟩ : ∃ y_ : List (S53), y_ = (t193.drop 1) := ⟨_, rfl⟩
       replace H : (if y199.length + y202.length < 5864062014805 then (some (t190, t191, false, (y199 ++ y202), (rd_T53 t193 0).f0, true)) else (none)) = some (r1, r2, r3, r4, r5, r6) := by first | (rw [hy202]; with_reducible exact H) | (have H2_ := (Option.bind_some _ _).symm.trans H; rw [hy202]; with_reducible exact H2_) | (have H2_ := (Option.bind_some _ _).symm.trans H; with_reducible exact H2_) | with_reducible exact H | (rw [hy202]; exact H) | exact H
       have Ny202 := uD hy202
       clear hy202
       by_cases c46 : y199.length + y202.length < 5864062014805
       ·rw [if_pos c46] at H
        have LMc46 := uD c46
        clear c46
        obtain ⟨y206, hy206⟩ : ∃ y_ : List (S53), y_ = (y199 ++ y202) := ⟨_, rfl⟩
        replace H : (some (t190, t191, false, y206, (rd_T53 t193 0).f0, true)) = some (r1, r2, r3, r4, r5, r6) := by first | (rw [hy206]; with_reducible exact H) | (have H2_ := (Option.bind_some _ _).symm.trans H; rw [hy206]; with_reducible exact H2_) | (have H2_ := (Option.bind_some _ _).symm.trans H; with_reducible exact H2_) | with_reducible exact H | (rw [hy206]; exact H) | exact H
        have Ny206 := uD hy206
        clear hy206
        simp only [Option.some.injEq, Prod.mk.injEq] at H
        obtain ⟨rfl, rfl, rfl, rfl, rfl, rfl⟩ := H
        go_enter Try.func26, Try.ntmps26
        try go_wp2_with (first | ((with_reducible refine gate_dst (N := 1) rfl ?_); (try (refine gate_guard (by rfl) ?_; dsimp only)); refine bx 1 #[.int .i64 a0_0, .int .i64 a0_1, .bool a0_2, .slice A0_3 l0_3.length c0_3] 29 ?_; intro gb188 hg w47 hbox hb; have BK188 := uD (hbox); have GW188 := uD ((by rw [hg]; exact (uN (pb HB)) : w.heap.size ≤ gb188)); have GE188 := uD ((by rw [hg]; exact (uN (pb HB)) : w.heap.size ≤ gb188)); replace HB := uD (uO (pb HB) hb); clear hb hbox hg) | ((with_reducible refine gate_dst (N := 2) rfl ?_); (try (refine gate_guard (by rfl) ?_; dsimp only)); refine bx 2 #[.int .i64 0, .int .i64 0, .bool false, .slice none 0 0] 29 ?_; intro gb189 hg w48 hbox hb; have BK189 := uD (hbox); have GW189 := uD ((by rw [hg]; exact (uN (pb HB)) : w.heap.size ≤ gb189)); have GE189 := uD ((by rw [hg]; exact (uN (pb HB)) : w.heap.size ≤ gb189)); replace HB := uD (uO (pb HB) hb); have NB188_189 := uD ((by rw [hg]; exact Nat.ne_of_lt (blk_lt (pk BK188)) : gb188 ≠ gb189)); have NB189_188 := uD ((by rw [hg]; exact Nat.ne_of_gt (blk_lt (pk BK188)) : gb189 ≠ gb188)); replace BK188 := uD (blk_below (pk BK188) hb); clear hb hbox hg; have hnb49 := NB188_189.out; have hnc49 := NB189_188.out; obtain ⟨hcz50_0, hcz50_1, hcz50_2, hcz50_3, hfz50_0, hfz50_1, hfz50_2, hfz50_3⟩ := cz4 BK188) | ((with_reducible refine gate_callee (f := 55) rfl ?_); refine gl (some 7) Try.func55 #[.agg #[.int .i64 a0_0, .int .i64 a0_1, .bool a0_2, .slice A0_3 l0_3.length c0_3]] ?_; (with_reducible refine (spec_l02Fresh.calls a0_0 a0_1 a0_2 _ _ l0_3 t190 t191 false t193 _ ?side1 ?side2 A2.out).mono ?_); (case side1 => exact pc (Kd.C_below HR0_3.out HB.out)); (case side2 => exact HC0_3.out); rintro e w51 ⟨v194, rfl, ho0, hb⟩; refine ⟨_, rfl, ?_⟩; have HO195 := uD (Kd.R_lower ho0 (uN (pb HB))); replace BK188 := uD (blk_below (pk BK188) hb); replace BK189 := uD (blk_below (pk BK189) hb); replace HB := uD (uO (pb HB) hb); (try clear hb); (try clear hb2); (try clear hk); (try clear hi); (try clear ho0); obtain ⟨hcz52_0, hcz52_1, hcz52_2, hcz52_3, hfz52_0, hfz52_1, hfz52_2, hfz52_3⟩ := cz4 BK188; obtain ⟨Ao53, co53, eo53⟩ := Kd.R_slice HO195.out; subst eo53))
        have n0_ : Aside0 (Kd.R k53 53 ((((w51.setCell ⟨gb188, 0, none⟩ (.int .i64 t190)).setCell ⟨gb188, 1, none⟩ (.int .i64 t191)).setCell ⟨gb188, 2, none⟩ (.bool false)).setCell ⟨gb188, 3, none⟩ (.slice Ao53 t193.length co53)) w.heap.size (fun _ => True) (.slice Ao53 t193.length co53) t193) := ⟨by (with_reducible repeat (first | apply uU | apply uS | apply uT)); exact uX (uV (p := ⟨gb188, 3, none⟩) (uV (p := ⟨gb188, 2, none⟩) (uV (p := ⟨gb188, 1, none⟩) (uV (p := ⟨gb188, 0, none⟩) (uW HO195.out BK188.out (by decide)) (fun _ hk => hk.2) (.int .i64 t190)) (fun _ hk => hk.2) (.int .i64 t191)) (fun _ hk => hk.2) (.bool false)) (fun _ hk => hk.2) (.slice Ao53 t193.length co53)) (fun _ hk => trivial)⟩
        have n1_ : Aside0 (((((w51.setCell ⟨gb188, 0, none⟩ (.int .i64 t190)).setCell ⟨gb188, 1, none⟩ (.int .i64 t191)).setCell ⟨gb188, 2, none⟩ (.bool false)).setCell ⟨gb188, 3, none⟩ (.slice Ao53 t193.length co53)).heap[gb188]? = some (.cells #[.int .i64 t190, .int .i64 t191, .bool false, .slice Ao53 t193.length co53] 29 (0, 0))) := ⟨by (with_reducible repeat first|apply uH|apply uJ|apply uG); refine uP (cs := #[.int .i64 t190, .int .i64 t191, .bool false, .slice A0_3 l0_3.length c0_3]) ?_ 3 _ rfl; (with_reducible repeat first|apply uH|apply uJ|apply uG); refine uP (cs := #[.int .i64 t190, .int .i64 t191, .bool a0_2, .slice A0_3 l0_3.length c0_3]) ?_ 2 _ rfl; (with_reducible repeat first|apply uH|apply uJ|apply uG); refine uP (cs := #[.int .i64 t190, .int .i64 a0_1, .bool a0_2, .slice A0_3 l0_3.length c0_3]) ?_ 1 _ rfl; (with_reducible repeat first|apply uH|apply uJ|apply uG); refine uP (cs := #[.int .i64 a0_0, .int .i64 a0_1, .bool a0_2, .slice A0_3 l0_3.length c0_3]) ?_ 0 _ rfl; (with_reducible repeat first|apply uH|apply uJ|apply uG); exact BK188.out⟩
        have n2_ : Aside0 (((((w51.setCell ⟨gb188, 0, none⟩ (.int .i64 t190)).setCell ⟨gb188, 1, none⟩ (.int .i64 t191)).setCell ⟨gb188, 2, none⟩ (.bool false)).setCell ⟨gb188, 3, none⟩ (.slice Ao53 t193.length co53)).heap[gb189]? = some (.cells #[.int .i64 0, .int .i64 0, .bool false, .slice none 0 0] 29 (0, 0))) := ⟨by exact ps BK189⟩
        have n3_ : Aside0 (Below w.heap.size w ((((w51.setCell ⟨gb188, 0, none⟩ (.int .i64 t190)).setCell ⟨gb188, 1, none⟩ (.int .i64 t191)).setCell ⟨gb188, 2, none⟩ (.bool false)).setCell ⟨gb188, 3, none⟩ (.slice Ao53 t193.length co53))) := ⟨pb HB⟩
        (try clear HO195)
        (try clear BK188)
        (try clear BK189)
        (try clear HB)
        generalize ((((w51.setCell ⟨gb188, 0, none⟩ (.int .i64 t190)).setCell ⟨gb188, 1, none⟩ (.int .i64 t191)).setCell ⟨gb188, 2, none⟩ (.bool false)).setCell ⟨gb188, 3, none⟩ (.slice Ao53 t193.length co53)) = w54 at n0_ n1_ n2_ n3_ ⊢
        have HO195 := n0_
        have BK188 := n1_
        have BK189 := n2_
        have HB := n3_
        clear n0_ n1_ n2_ n3_
        replace HO195 := uD (uT HO195.out)
        replace BK188 := uD (uJ BK188.out)
        replace BK189 := uD (uJ BK189.out)
        replace HB := uD (uK HB.out)
        have p197 : 0 ≤ (0 : Int) := (by omega)
        have q197 : 0 < (t193.length : Int) := of_decide_eq_true (by first | (with_reducible assumption) | assumption)
        obtain ⟨ad197, e197, hx197_0, hx197_1, hx197_2⟩ := at_T53 (Kd.R_reads' HO195.out).2.2 0 p197 q197
        cases e197
        have qi197 : (0 < t193.length) = True := eq_true (by omega)
        (try rw [show ((0 : Int)).toNat = 0 from rfl] at hx197_0)
        (try rw [show 0 * 3 = 0 from rfl] at hx197_0)
        (try rw [Addr.add_zero'] at hx197_0)
        (try rw [show ((0 : Int)).toNat = 0 from rfl] at hx197_1)
        (try rw [show 0 * 3 = 0 from rfl] at hx197_1)
        (try rw [Addr.add_zero'] at hx197_1)
        (try rw [show ((0 : Int)).toNat = 0 from rfl] at hx197_2)
        (try rw [show 0 * 3 = 0 from rfl] at hx197_2)
        (try rw [Addr.add_zero'] at hx197_2)
        replace p197 := eq_true p197
        replace q197 := eq_true q197
        refine start_ (n := 23) (S := fun w' => w'.cell? ⟨gb188, 0, none⟩ = some (.int .i64 t190) ∧ w'.cell? ⟨gb188, 1, none⟩ = some (.int .i64 t191) ∧ w'.cell? ⟨gb188, 2, none⟩ = some (.bool false) ∧ w'.cell? ⟨gb188, 3, none⟩ = some (.slice (some ad197) t193.length co53) ∧ w'.cell? ad197 = some (.int .i64 ((rd_T53 t193 0).f0)) ∧ w'.cell? ⟨ad197.block, ad197.off + 1, none⟩ = some (.int .i64 ((rd_T53 t193 0).f1)) ∧ w'.cell? ⟨ad197.block, ad197.off + 2, none⟩ = some (.int .i64 ((rd_T53 t193 0).f2))) (ds := []) #[F,F,F,F,F,F,F,F,F,F,F,F,F,F,F,F,F,F,F,F,F,F,F] (by kernel_rfl) rfl rfl ⟨(uF BK188.out 0).trans rfl, (uF BK188.out 1).trans rfl, (uF BK188.out 2).trans rfl, (uF BK188.out 3).trans rfl, hx197_0, hx197_1, hx197_2⟩ (fun hHeld => ?_); refine with_tabW spec_Leave.tab2 spec_Leave.bits2 (fun HT_ HW_ => ?_)
        generalize w54.drew = w55 at HO195 BK188 BK189 HB HO195 hx197_0 hx197_1 hx197_2 hHeld ⊢
        refine tk 0 (some 8) #[T,F,F,F,F,F,F,F,F,F,F,F,F,F,F,F,F,F,F,F,F,F,F] HT_ HW_ hHeld ?_
        refine one_ (i := 1) (N := some 9) #[T,T,F,F,F,F,F,F,F,F,F,F,F,F,F,F,F,F,F,F,F,F,F] rfl rfl (one_of HT_.out (by kernel_rfl)) (by decide) (fun K hK => ?_)
        refine goes_ Try.func16 (by kernel_rfl) rfl #[.agg #[.int .i64 t190, .int .i64 t191, .bool false, .slice (some ad197) t193.length co53]] (by rfl) rfl rfl (by (try simp only [List.map_toArray, List.map_cons, List.map_nil]); first | done | rfl | (simp only [List.length_drop, List.length_take]; rfl)) ?_
        with_reducible refine (spec_BeltOk.calls k t190 t191 false _ _ t193 true _ ?side1 ?side2 A3.out).mono ?_
        (case side1 => exact pc ((Kd.R_reads' HO195.out).2.2))
        (case side2 => exact (Kd.R_reads' HO195.out).2.1)
        rintro e w56 ⟨rfl, hb⟩
        have HS4_ := (hb.cell (World.block_lt_of_cell? _ _ (hHeld.2.2.2.2.1))).trans (hHeld.2.2.2.2.1)
        have HS5_ := (hb.cell (World.block_lt_of_cell? _ _ (hHeld.2.2.2.2.2.1))).trans (hHeld.2.2.2.2.2.1)
        have HS6_ := (hb.cell (World.block_lt_of_cell? _ _ (hHeld.2.2.2.2.2.2))).trans (hHeld.2.2.2.2.2.2)
        refine ⟨_, rfl, ?_⟩
        replace HO195 := uD (Kd.R_below (pr HO195) hb)
        replace BK188 := uD (blk_below (pk BK188) hb)
        replace BK189 := uD (blk_below (pk BK189) hb)
        replace HB := uD (uO (pb HB) hb)
        (try clear hb)
        (try clear hb2)
        (try clear hk)
        (try clear hi)
        refine hK.out _ _ ⟨(uF BK188.out 0).trans rfl, (uF BK188.out 1).trans rfl, (uF BK188.out 2).trans rfl, (uF BK188.out 3).trans rfl, HS4_, HS5_, HS6_⟩ (fun hHeld => ?_)
        clear hK K
        refine norm_ (a' := ?_) ?_ ?_
        rotate_left
        ·show uc _ (some 9) _ = _
         simp only [uc, uA, uB, uC, uZ, ua]
         rfl
        refine pu 2 (some 10) #[T,T,T,F,F,F,F,F,F,F,F,F,F,F,F,F,F,F,F,F,F,F,F] HT_ ?_
        refine pu 3 (some 11) #[T,T,T,T,F,F,F,F,F,F,F,F,F,F,F,F,F,F,F,F,F,F,F] HT_ ?_
        refine pu 4 (some 12) #[T,T,T,T,T,F,F,F,F,F,F,F,F,F,F,F,F,F,F,F,F,F,F] HT_ ?_
        refine tk 5 (some 13) #[T,T,T,T,T,T,F,F,F,F,F,F,F,F,F,F,F,F,F,F,F,F,F] HT_ HW_ hHeld ?_
        refine pu 6 (some 14) #[T,T,T,T,T,T,T,F,F,F,F,F,F,F,F,F,F,F,F,F,F,F,F] HT_ ?_
        refine pu 7 (some 15) #[T,T,T,T,T,T,T,T,F,F,F,F,F,F,F,F,F,F,F,F,F,F,F] HT_ ?_
        refine pu 8 (some 16) #[T,T,T,T,T,T,T,T,T,F,F,F,F,F,F,F,F,F,F,F,F,F,F] HT_ ?_
        refine tk 9 (some 17) #[T,T,T,T,T,T,T,T,T,T,F,F,F,F,F,F,F,F,F,F,F,F,F] HT_ HW_ hHeld ?_
        refine pu 10 (some 18) #[T,T,T,T,T,T,T,T,T,T,T,F,F,F,F,F,F,F,F,F,F,F,F] HT_ ?_
        refine pu 11 (some 19) #[T,T,T,T,T,T,T,T,T,T,T,T,F,F,F,F,F,F,F,F,F,F,F] HT_ ?_
        refine pu 12 (some 20) #[T,T,T,T,T,T,T,T,T,T,T,T,T,F,F,F,F,F,F,F,F,F,F] HT_ ?_
        refine pu 13 (some 21) #[T,T,T,T,T,T,T,T,T,T,T,T,T,T,F,F,F,F,F,F,F,F,F] HT_ ?_
        refine pu 14 (some 22) #[T,T,T,T,T,T,T,T,T,T,T,T,T,T,T,F,F,F,F,F,F,F,F] HT_ ?_
        refine pu 19 (some 27) #[T,T,T,T,T,T,T,T,T,T,T,T,T,T,T,F,F,F,F,T,F,F,F] HT_ ?_
        refine tk 15 (some 23) #[T,T,T,T,T,T,T,T,T,T,T,T,T,T,T,T,F,F,F,T,F,F,F] HT_ HW_ hHeld ?_
        refine pu 16 (some 24) #[T,T,T,T,T,T,T,T,T,T,T,T,T,T,T,T,T,F,F,T,F,F,F] HT_ ?_
        refine pu 17 (some 25) #[T,T,T,T,T,T,T,T,T,T,T,T,T,T,T,T,T,T,F,T,F,F,F] HT_ ?_
        refine tk 18 (some 26) #[T,T,T,T,T,T,T,T,T,T,T,T,T,T,T,T,T,T,T,T,F,F,F] HT_ HW_ hHeld ?_
        refine tk 20 (some 28) #[T,T,T,T,T,T,T,T,T,T,T,T,T,T,T,T,T,T,T,T,T,F,F] HT_ HW_ hHeld ?_
        refine pu 21 (some 29) #[T,T,T,T,T,T,T,T,T,T,T,T,T,T,T,T,T,T,T,T,T,T,F] HT_ ?_
        refine pu 22 (some 30) #[T,T,T,T,T,T,T,T,T,T,T,T,T,T,T,T,T,T,T,T,T,T,T] HT_ ?_
        refine done_ (done_of HT_.out (by kernel_rfl)) ?_
        obtain ⟨hcz57_0, hcz57_1, hcz57_2, hcz57_3, hfz57_0, hfz57_1, hfz57_2, hfz57_3⟩ := cz4 BK188
        have p198 : 0 ≤ (0 : Int) := (by omega)
        have q198 : 0 < (t193.length : Int) := of_decide_eq_true (by first | (with_reducible assumption) | assumption)
        obtain ⟨ad198, e198, hx198_0, hx198_1, hx198_2⟩ := at_T53 (Kd.R_reads' HO195.out).2.2 0 p198 q198
        obtain rfl : ad197 = ad198 := (by injection e198)
        have qi198 : (0 < t193.length) = True := eq_true (by omega)
        (try rw [show ((0 : Int)).toNat = 0 from rfl] at hx198_0)
        (try rw [show 0 * 3 = 0 from rfl] at hx198_0)
        (try rw [Addr.add_zero'] at hx198_0)
        (try rw [show ((0 : Int)).toNat = 0 from rfl] at hx198_1)
        (try rw [show 0 * 3 = 0 from rfl] at hx198_1)
        (try rw [Addr.add_zero'] at hx198_1)
        (try rw [show ((0 : Int)).toNat = 0 from rfl] at hx198_2)
        (try rw [show 0 * 3 = 0 from rfl] at hx198_2)
        (try rw [Addr.add_zero'] at hx198_2)
        replace p198 := eq_true p198
        replace q198 := eq_true q198
        try go_wp2_with (first | ((with_reducible refine gate_dst (N := 37) rfl ?_); (try (refine gate_guard (by rfl) ?_; dsimp only)); refine Kd.R_lit k53 _ 53 ?hg (N := 37) ?hd (xs := ([] : List (S53))) (inner := []) (ok := fun _ => True) (okp := fun _ => True) ?hr ?hp (fun _ hk => hk) trivial (Below.refl _ _) (Nat.le_refl _) (by simp) ?_; (case hd => rfl); (case hg => rfl); (case hr => first | (go_simp; done) | (go_simp; rfl)); (case hp => exact (Reps.none _ _)); intro v200 w58 ho59 hb hg_ hnew_; clear hg_ hnew_; (first | rw [← Ny199.out] at ho59 | (simp only [Int.reduceToNat] at ho59; rw [← Ny199.out] at ho59)); have HO201 := uD (Kd.R_lower (Kd.R_new' ho59 (Kd.R_lt (pr HO195))) (uN (pb HB))); replace HO195 := uD (Kd.R_elder' (pr HO195) (Kd.R_base ho59) hb); replace BK188 := uD (blk_below (pk BK188) hb); replace BK189 := uD (blk_below (pk BK189) hb); replace HB := uD (uO (pb HB) hb); clear hb ho59; obtain ⟨hcz60_0, hcz60_1, hcz60_2, hcz60_3, hfz60_0, hfz60_1, hfz60_2, hfz60_3⟩ := cz4 BK188; have q61 : (1 : Int) ≤ ((t193.length : Int) : Int) := of_decide_eq_true (by first | (with_reducible assumption) | assumption); obtain ⟨i061, hi061, _, hsz61, _⟩ := info_parts info53; have hroom61 : t193.length ≤ co53 := (Kd.R_reads' HO195.out).2.1; have hC61 : Kd.C k53 _ (some ad197) t193.length t193 := (Kd.R_reads' HO195.out).2.2; have hcut61 := cut_from (P := Try.prog) 27 53 .i64 Try.underlying27 hi061 3 hsz61 (some ad197) t193.length co53 1 (by omega) q61; have hr61 := Kd.C_drop (m := (1 : Int).toNat) (c := co53) hC61 (by omega) hroom61; obtain ⟨A61, hA61⟩ : ∃ A1, A1 = (if co53 = (1 : Int).toNat then (some ad197) else ((some ad197) : Option Addr).map (·.add ((1 : Int).toNat * 3))) := ⟨_, rfl⟩; obtain ⟨c61, hc61⟩ : ∃ c1, c1 = co53 - (1 : Int).toNat := ⟨_, rfl⟩; have hy61 : y202.length = t193.length - (1 : Int).toNat := (by rw [Ny202.out, List.length_drop] <;> omega); rw [show (t193).drop (1 : Int).toNat = y202 from Ny202.out.symm] at hr61; replace hr61 : Kd.C k53 _ A61 y202.length y202 := (by rw [hA61]; exact hr61); rw [← hy61, ← hA61, ← hc61] at hcut61; have HR205 := uD hr61; have HC205 := uD (show y202.length ≤ c61 from by rw [hy61, hc61]; exact Nat.sub_le_sub_right hroom61 _); clear hr61 hC61 hroom61 hi061 hsz61 hc61; have KY61 := uD hy61; have KA61 := uD hA61; clear hy61 hA61; have KL61 := uD (show 1 ≤ t193.length from by omega); replace q61 := eq_true q61) | ((with_reducible refine gate_builtin (b := .append) (xs := #[.tmp 37, .tmp 40]) rfl ?_); (try (refine gate_guard (by rfl) ?_; dsimp only)); at_builtin; refine Kd.R_append_rows k53 (w0 := w) w.heap.size rfl (.tmp 37) (.tmp 40) 27 53 (.agg #[(.int .i64 0), (.int .i64 0), (.int .i64 0)]) 24 rfl Try.underlying27 info53 rfl (by decide) (by omega) v200 y199 y202 _ _ _ (fun k_ => some k_ ≠ (.slice (some ad197) t193.length co53 : Value).ownBlock) (fun _ => False) rfl rfl ?aO ?aR (fun _ _ h => h) (fun _ h => h.elim) ?aF ?aB ?aS ?aL ?_; (case aR => repeat (first | exact (by repeat (first | (with_reducible exact HR205.out) | (with_reducible refine Kd.C_alloc ?_ _) | (with_reducible refine Kd.C_drewN ?_ _) | (with_reducible refine Kd.C_drew ?_) | exact HR205.out)) | (with_reducible refine Kd.C_alloc ?_ _) | (with_reducible refine Kd.C_drewN ?_ _) | (with_reducible refine Kd.C_drew ?_))); (case aB => exact (pb HB)); (case aF => exact (fun k_ hk => Kd.fresh' (Kd.R_lt (pr HO195)) k_ hk)); (case aO => exact (by (with_reducible repeat (first | apply uU | apply uS | apply uT)); exact uX HO201.out (fun _ hk => hk.2))); (case aS => exact (uN (pb HB))); (case aL => have := LMc46.out; omega); intro v207 w62 ho hb hg hat; rw [← Ny206.out] at ho; replace BK188 := uD (blk_grown (pk BK188) hg (Kd.R_ne HO201.out BK188.out (by decide))); replace BK189 := uD (blk_grown (pk BK189) hg (Kd.R_ne HO201.out BK189.out (by decide))); replace HB := uD (hb); replace HR205 := uD ((show Kd.C k53 w62 A61 y202.length y202 from by rw [Ny202.out, KA61.out]; exact Kd.C_drop (m := 1) (c := co53) ((Kd.R_reads' (Kd.R_after (ok := (fun _ => True)) (pr HO195) hg hat)).2.2) KL61.out ((Kd.R_reads' (Kd.R_after (ok := (fun _ => True)) (pr HO195) hg hat)).2.1))); replace HO195 := uD (Kd.R_after (ok := (fun _ => True)) (pr HO195) hg hat); have HO208 := uD (ho); clear HO201; clear ho hb hg hat; obtain ⟨Ao63, co63, eo63⟩ := Kd.R_slice HO208.out; subst eo63; obtain ⟨hcz64_0, hcz64_1, hcz64_2, hcz64_3, hfz64_0, hfz64_1, hfz64_2, hfz64_3⟩ := cz4 BK188; obtain ⟨hcz65_0, hcz65_1, hcz65_2, hcz65_3, hfz65_0, hfz65_1, hfz65_2, hfz65_3⟩ := cz4 BK189))
        refine bodyPost_ret (results_ctt rfl _ _ gb189 29 #[.int .i64 t190, .int .i64 t191, .bool false, .slice Ao63 y206.length co63] (0, 0) _ rfl (by (with_reducible repeat first|apply uH|apply uJ|apply uG); refine uP (cs := #[.int .i64 t190, .int .i64 t191, .bool false, .slice none 0 0]) ?_ 3 _ rfl; (with_reducible repeat first|apply uH|apply uJ|apply uG); refine uP (cs := #[.int .i64 t190, .int .i64 t191, .bool false, .slice none 0 0]) ?_ 2 _ rfl; (with_reducible repeat first|apply uH|apply uJ|apply uG); refine uP (cs := #[.int .i64 t190, .int .i64 0, .bool false, .slice none 0 0]) ?_ 1 _ rfl; (with_reducible repeat first|apply uH|apply uJ|apply uG); refine uP (cs := #[.int .i64 0, .int .i64 0, .bool false, .slice none 0 0]) ?_ 0 _ rfl; exact ps BK189) Try.underlying29 rfl (by kernel_rfl)) rfl ?_
        exact ⟨_, by first | rfl | (simp [errW_none, errW_some] <;> rfl) | (simp [*, errW_none, errW_some] <;> rfl), by (with_reducible repeat (first | apply uU | apply uS | apply uT)); exact uX (uV (p := ⟨gb189, 3, none⟩) (uV (p := ⟨gb189, 2, none⟩) (uV (p := ⟨gb189, 1, none⟩) (uV (p := ⟨gb189, 0, none⟩) (uV (p := ⟨gb188, 3, none⟩) (uW (uW HO208.out BK188.out (by decide)) BK189.out (by decide)) (fun _ hk => hk.1.2) (.slice Ao63 y206.length co63)) (fun _ hk => hk.2) (.int .i64 t190)) (fun _ hk => hk.2) (.int .i64 t191)) (fun _ hk => hk.2) (.bool false)) (fun _ hk => hk.2) (.slice Ao63 y206.length co63)) (fun _ hk => trivial), pb HB⟩
       ·rw [if_neg c46] at H
        exact absurd H (by simp)
      ·rw [if_neg c45] at H
       exact absurd H (by simp)
    ·rw [if_neg c31] at H
     exact absurd H (by simp)
 ·replace c4 := Bool.eq_false_iff.mpr c4
  subst c4
  have H1 : (some (t190, t191, t192, t193, 0, false)) = some (r1, r2, r3, r4, r5, r6) := by rw [if_neg (show ¬ (false = true) by decide)] at H; first | done | exact H
  clear H
  have H := H1
  clear H1
  simp only [Option.some.injEq, Prod.mk.injEq] at H
  obtain ⟨rfl, rfl, rfl, rfl, rfl, rfl⟩ := H
  go_enter Try.func26, Try.ntmps26
  try go_wp2_with (first | ((with_reducible refine gate_dst (N := 1) rfl ?_); (try (refine gate_guard (by rfl) ?_; dsimp only)); refine bx 1 #[.int .i64 a0_0, .int .i64 a0_1, .bool a0_2, .slice A0_3 l0_3.length c0_3] 29 ?_; intro gb188 hg w66 hbox hb; have BK188 := uD (hbox); have GW188 := uD ((by rw [hg]; exact (uN (pb HB)) : w.heap.size ≤ gb188)); have GE188 := uD ((by rw [hg]; exact (uN (pb HB)) : w.heap.size ≤ gb188)); replace HB := uD (uO (pb HB) hb); clear hb hbox hg) | ((with_reducible refine gate_dst (N := 2) rfl ?_); (try (refine gate_guard (by rfl) ?_; dsimp only)); refine bx 2 #[.int .i64 0, .int .i64 0, .bool false, .slice none 0 0] 29 ?_; intro gb189 hg w67 hbox hb; have BK189 := uD (hbox); have GW189 := uD ((by rw [hg]; exact (uN (pb HB)) : w.heap.size ≤ gb189)); have GE189 := uD ((by rw [hg]; exact (uN (pb HB)) : w.heap.size ≤ gb189)); replace HB := uD (uO (pb HB) hb); have NB188_189 := uD ((by rw [hg]; exact Nat.ne_of_lt (blk_lt (pk BK188)) : gb188 ≠ gb189)); have NB189_188 := uD ((by rw [hg]; exact Nat.ne_of_gt (blk_lt (pk BK188)) : gb189 ≠ gb188)); replace BK188 := uD (blk_below (pk BK188) hb); clear hb hbox hg; have hnb68 := NB188_189.out; have hnc68 := NB189_188.out; obtain ⟨hcz69_0, hcz69_1, hcz69_2, hcz69_3, hfz69_0, hfz69_1, hfz69_2, hfz69_3⟩ := cz4 BK188) | ((with_reducible refine gate_callee (f := 55) rfl ?_); refine gl (some 7) Try.func55 #[.agg #[.int .i64 a0_0, .int .i64 a0_1, .bool a0_2, .slice A0_3 l0_3.length c0_3]] ?_; (with_reducible refine (spec_l02Fresh.calls a0_0 a0_1 a0_2 _ _ l0_3 t190 t191 t192 t193 _ ?side1 ?side2 A2.out).mono ?_); (case side1 => exact pc (Kd.C_below HR0_3.out HB.out)); (case side2 => exact HC0_3.out); rintro e w70 ⟨v194, rfl, ho0, hb⟩; refine ⟨_, rfl, ?_⟩; have HO195 := uD (Kd.R_lower ho0 (uN (pb HB))); replace BK188 := uD (blk_below (pk BK188) hb); replace BK189 := uD (blk_below (pk BK189) hb); replace HB := uD (uO (pb HB) hb); (try clear hb); (try clear hb2); (try clear hk); (try clear hi); (try clear ho0); obtain ⟨hcz71_0, hcz71_1, hcz71_2, hcz71_3, hfz71_0, hfz71_1, hfz71_2, hfz71_3⟩ := cz4 BK188; obtain ⟨Ao72, co72, eo72⟩ := Kd.R_slice HO195.out; subst eo72))
  have n0_ : Aside0 (Kd.R k53 53 ((((w70.setCell ⟨gb188, 0, none⟩ (.int .i64 t190)).setCell ⟨gb188, 1, none⟩ (.int .i64 t191)).setCell ⟨gb188, 2, none⟩ (.bool t192)).setCell ⟨gb188, 3, none⟩ (.slice Ao72 t193.length co72)) w.heap.size (fun _ => True) (.slice Ao72 t193.length co72) t193) := ⟨by (with_reducible repeat (first | apply uU | apply uS | apply uT)); exact uX (uV (p := ⟨gb188, 3, none⟩) (uV (p := ⟨gb188, 2, none⟩) (uV (p := ⟨gb188, 1, none⟩) (uV (p := ⟨gb188, 0, none⟩) (uW HO195.out BK188.out (by decide)) (fun _ hk => hk.2) (.int .i64 t190)) (fun _ hk => hk.2) (.int .i64 t191)) (fun _ hk => hk.2) (.bool t192)) (fun _ hk => hk.2) (.slice Ao72 t193.length co72)) (fun _ hk => trivial)⟩
  have n1_ : Aside0 (((((w70.setCell ⟨gb188, 0, none⟩ (.int .i64 t190)).setCell ⟨gb188, 1, none⟩ (.int .i64 t191)).setCell ⟨gb188, 2, none⟩ (.bool t192)).setCell ⟨gb188, 3, none⟩ (.slice Ao72 t193.length co72)).heap[gb188]? = some (.cells #[.int .i64 t190, .int .i64 t191, .bool t192, .slice Ao72 t193.length co72] 29 (0, 0))) := ⟨by (with_reducible repeat first|apply uH|apply uJ|apply uG); refine uP (cs := #[.int .i64 t190, .int .i64 t191, .bool t192, .slice A0_3 l0_3.length c0_3]) ?_ 3 _ rfl; (with_reducible repeat first|apply uH|apply uJ|apply uG); refine uP (cs := #[.int .i64 t190, .int .i64 t191, .bool a0_2, .slice A0_3 l0_3.length c0_3]) ?_ 2 _ rfl; (with_reducible repeat first|apply uH|apply uJ|apply uG); refine uP (cs := #[.int .i64 t190, .int .i64 a0_1, .bool a0_2, .slice A0_3 l0_3.length c0_3]) ?_ 1 _ rfl; (with_reducible repeat first|apply uH|apply uJ|apply uG); refine uP (cs := #[.int .i64 a0_0, .int .i64 a0_1, .bool a0_2, .slice A0_3 l0_3.length c0_3]) ?_ 0 _ rfl; (with_reducible repeat first|apply uH|apply uJ|apply uG); exact BK188.out⟩
  have n2_ : Aside0 (((((w70.setCell ⟨gb188, 0, none⟩ (.int .i64 t190)).setCell ⟨gb188, 1, none⟩ (.int .i64 t191)).setCell ⟨gb188, 2, none⟩ (.bool t192)).setCell ⟨gb188, 3, none⟩ (.slice Ao72 t193.length co72)).heap[gb189]? = some (.cells #[.int .i64 0, .int .i64 0, .bool false, .slice none 0 0] 29 (0, 0))) := ⟨by exact ps BK189⟩
  have n3_ : Aside0 (Below w.heap.size w ((((w70.setCell ⟨gb188, 0, none⟩ (.int .i64 t190)).setCell ⟨gb188, 1, none⟩ (.int .i64 t191)).setCell ⟨gb188, 2, none⟩ (.bool t192)).setCell ⟨gb188, 3, none⟩ (.slice Ao72 t193.length co72))) := ⟨pb HB⟩
  (try clear HO195)
  (try clear BK188)
  (try clear BK189)
  (try clear HB)
  generalize ((((w70.setCell ⟨gb188, 0, none⟩ (.int .i64 t190)).setCell ⟨gb188, 1, none⟩ (.int .i64 t191)).setCell ⟨gb188, 2, none⟩ (.bool t192)).setCell ⟨gb188, 3, none⟩ (.slice Ao72 t193.length co72)) = w73 at n0_ n1_ n2_ n3_ ⊢
  have HO195 := n0_
  have BK188 := n1_
  have BK189 := n2_
  have HB := n3_
  clear n0_ n1_ n2_ n3_
  replace HO195 := uD (uT HO195.out)
  replace BK188 := uD (uJ BK188.out)
  replace BK189 := uD (uJ BK189.out)
  replace HB := uD (uK HB.out)
  refine start_ (n := 23) (S := fun w' => w'.cell? ⟨gb188, 0, none⟩ = some (.int .i64 t190) ∧ w'.cell? ⟨gb188, 1, none⟩ = some (.int .i64 t191) ∧ w'.cell? ⟨gb188, 2, none⟩ = some (.bool t192) ∧ w'.cell? ⟨gb188, 3, none⟩ = some (.slice Ao72 t193.length co72)) (ds := []) #[F,F,F,F,F,F,F,F,F,F,F,F,F,F,F,F,F,F,F,F,F,F,F] (by kernel_rfl) rfl rfl ⟨(uF BK188.out 0).trans rfl, (uF BK188.out 1).trans rfl, (uF BK188.out 2).trans rfl, (uF BK188.out 3).trans rfl⟩ (fun hHeld => ?_); refine with_tabW spec_Leave.tab2 spec_Leave.bits2 (fun HT_ HW_ => ?_)
  generalize w73.drew = w74 at HO195 BK188 BK189 HB HO195 hHeld ⊢
  refine tk 0 (some 8) #[T,F,F,F,F,F,F,F,F,F,F,F,F,F,F,F,F,F,F,F,F,F,F] HT_ HW_ hHeld ?_
  refine one_ (i := 1) (N := some 9) #[T,T,F,F,F,F,F,F,F,F,F,F,F,F,F,F,F,F,F,F,F,F,F] rfl rfl (one_of HT_.out (by kernel_rfl)) (by decide) (fun K hK => ?_)
  refine goes_ Try.func16 (by kernel_rfl) rfl #[.agg #[.int .i64 t190, .int .i64 t191, .bool t192, .slice Ao72 t193.length co72]] (by rfl) rfl rfl (by (try simp only [List.map_toArray, List.map_cons, List.map_nil]); first | done | rfl | (simp only [List.length_drop, List.length_take]; rfl)) ?_
  with_reducible refine (spec_BeltOk.calls k t190 t191 t192 _ _ t193 false _ ?side1 ?side2 A3.out).mono ?_
  (case side1 => exact pc ((Kd.R_reads' HO195.out).2.2))
  (case side2 => exact (Kd.R_reads' HO195.out).2.1)
  rintro e w75 ⟨rfl, hb⟩
  refine ⟨_, rfl, ?_⟩
  replace HO195 := uD (Kd.R_below (pr HO195) hb)
  replace BK188 := uD (blk_below (pk BK188) hb)
  replace BK189 := uD (blk_below (pk BK189) hb)
  replace HB := uD (uO (pb HB) hb)
  (try clear hb)
  (try clear hb2)
  (try clear hk)
  (try clear hi)
  refine hK.out _ _ ⟨(uF BK188.out 0).trans rfl, (uF BK188.out 1).trans rfl, (uF BK188.out 2).trans rfl, (uF BK188.out 3).trans rfl⟩ (fun hHeld => ?_)
  clear hK K
  refine norm_ (a' := ?_) ?_ ?_
  rotate_left
  ·show uc _ (some 9) _ = _
   simp only [uc, uA, uB, uC, uZ, ua]
   rfl
  refine pu 2 (some 10) #[T,T,T,F,F,F,F,F,F,F,F,F,F,F,F,F,F,F,F,F,F,F,F] HT_ ?_
  refine pu 3 (some 11) #[T,T,T,T,F,F,F,F,F,F,F,F,F,F,F,F,F,F,F,F,F,F,F] HT_ ?_
  refine ub (i := 4) (N := some 12) (v := undef) (a' := ?_) #[T,T,T,T,T,F,F,F,F,F,F,F,F,F,F,F,F,F,F,F,F,F,F] rfl rfl (uY HT_.out (by kernel_rfl)) (fun _ _ _ h => h) (Or.inr ⟨by rfl, rfl⟩) ?_ ?_
  rotate_left
  ·simp only [uc, uA, uB, uC, uZ, ua]
   rfl
  refine ub (i := 5) (N := some 13) (v := undef) (a' := ?_) #[T,T,T,T,T,T,F,F,F,F,F,F,F,F,F,F,F,F,F,F,F,F,F] rfl rfl (uY HT_.out (by kernel_rfl)) (fun _ _ _ h => h) (Or.inr ⟨by rfl, rfl⟩) ?_ ?_
  rotate_left
  ·simp only [uc, uA, uB, uC, uZ, ua]
   rfl
  refine pu 6 (some 14) #[T,T,T,T,T,T,T,F,F,F,F,F,F,F,F,F,F,F,F,F,F,F,F] HT_ ?_
  refine pu 7 (some 15) #[T,T,T,T,T,T,T,T,F,F,F,F,F,F,F,F,F,F,F,F,F,F,F] HT_ ?_
  refine ub (i := 8) (N := some 16) (v := undef) (a' := ?_) #[T,T,T,T,T,T,T,T,T,F,F,F,F,F,F,F,F,F,F,F,F,F,F] rfl rfl (uY HT_.out (by kernel_rfl)) (fun _ _ _ h => h) (Or.inr ⟨by rfl, rfl⟩) ?_ ?_
  rotate_left
  ·simp only [uc, uA, uB, uC, uZ, ua]
   rfl
  refine ub (i := 9) (N := some 17) (v := undef) (a' := ?_) #[T,T,T,T,T,T,T,T,T,T,F,F,F,F,F,F,F,F,F,F,F,F,F] rfl rfl (uY HT_.out (by kernel_rfl)) (fun _ _ _ h => h) (Or.inr ⟨by rfl, rfl⟩) ?_ ?_
  rotate_left
  ·simp only [uc, uA, uB, uC, uZ, ua]
   rfl
  refine ub (i := 10) (N := some 18) (v := undef) (a' := ?_) #[T,T,T,T,T,T,T,T,T,T,T,F,F,F,F,F,F,F,F,F,F,F,F] rfl rfl (uY HT_.out (by kernel_rfl)) (fun _ _ _ h => h) (Or.inr ⟨by rfl, rfl⟩) ?_ ?_
  rotate_left
  ·simp only [uc, uA, uB, uC, uZ, ua]
   rfl
  refine ub (i := 11) (N := some 19) (v := undef) (a' := ?_) #[T,T,T,T,T,T,T,T,T,T,T,T,F,F,F,F,F,F,F,F,F,F,F] rfl rfl (uY HT_.out (by kernel_rfl)) (fun _ _ _ h => h) (Or.inr ⟨by rfl, rfl⟩) ?_ ?_
  rotate_left
  ·simp only [uc, uA, uB, uC, uZ, ua]
   rfl
  refine pu 12 (some 20) #[T,T,T,T,T,T,T,T,T,T,T,T,T,F,F,F,F,F,F,F,F,F,F] HT_ ?_
  refine pu 13 (some 21) #[T,T,T,T,T,T,T,T,T,T,T,T,T,T,F,F,F,F,F,F,F,F,F] HT_ ?_
  refine ub (i := 14) (N := some 22) (v := undef) (a' := ?_) #[T,T,T,T,T,T,T,T,T,T,T,T,T,T,T,F,F,F,F,F,F,F,F] rfl rfl (uY HT_.out (by kernel_rfl)) (fun _ _ _ h => h) (Or.inr ⟨by rfl, rfl⟩) ?_ ?_
  rotate_left
  ·simp only [uc, uA, uB, uC, uZ, ua]
   rfl
  refine ub (i := 15) (N := some 23) (v := undef) (a' := ?_) #[T,T,T,T,T,T,T,T,T,T,T,T,T,T,T,T,F,F,F,F,F,F,F] rfl rfl (uY HT_.out (by kernel_rfl)) (fun _ _ _ h => h) (Or.inr ⟨by rfl, rfl⟩) ?_ ?_
  rotate_left
  ·simp only [uc, uA, uB, uC, uZ, ua]
   rfl
  refine ub (i := 16) (N := some 24) (v := undef) (a' := ?_) #[T,T,T,T,T,T,T,T,T,T,T,T,T,T,T,T,T,F,F,F,F,F,F] rfl rfl (uY HT_.out (by kernel_rfl)) (fun _ _ _ h => h) (Or.inr ⟨by rfl, rfl⟩) ?_ ?_
  rotate_left
  ·simp only [uc, uA, uB, uC, uZ, ua]
   rfl
  refine ub (i := 17) (N := some 25) (v := undef) (a' := ?_) #[T,T,T,T,T,T,T,T,T,T,T,T,T,T,T,T,T,T,F,F,F,F,F] rfl rfl (uY HT_.out (by kernel_rfl)) (fun _ _ _ h => h) (Or.inr ⟨by rfl, rfl⟩) ?_ ?_
  rotate_left
  ·simp only [uc, uA, uB, uC, uZ, ua]
   rfl
  refine ub (i := 18) (N := some 26) (v := undef) (a' := ?_) #[T,T,T,T,T,T,T,T,T,T,T,T,T,T,T,T,T,T,T,F,F,F,F] rfl rfl (uY HT_.out (by kernel_rfl)) (fun _ _ _ h => h) (Or.inr ⟨by rfl, rfl⟩) ?_ ?_
  rotate_left
  ·simp only [uc, uA, uB, uC, uZ, ua]
   rfl
  refine ub (i := 19) (N := some 27) (v := undef) (a' := ?_) #[T,T,T,T,T,T,T,T,T,T,T,T,T,T,T,T,T,T,T,T,F,F,F] rfl rfl (uY HT_.out (by kernel_rfl)) (fun _ _ _ h => h) (Or.inr ⟨by rfl, rfl⟩) ?_ ?_
  rotate_left
  ·simp only [uc, uA, uB, uC, uZ, ua]
   rfl
  refine ub (i := 20) (N := some 28) (v := undef) (a' := ?_) #[T,T,T,T,T,T,T,T,T,T,T,T,T,T,T,T,T,T,T,T,T,F,F] rfl rfl (uY HT_.out (by kernel_rfl)) (fun _ _ _ h => h) (Or.inr ⟨by rfl, rfl⟩) ?_ ?_
  rotate_left
  ·simp only [uc, uA, uB, uC, uZ, ua]
   rfl
  refine ub (i := 21) (N := some 29) (v := undef) (a' := ?_) #[T,T,T,T,T,T,T,T,T,T,T,T,T,T,T,T,T,T,T,T,T,T,F] rfl rfl (uY HT_.out (by kernel_rfl)) (fun _ _ _ h => h) (Or.inr ⟨by rfl, rfl⟩) ?_ ?_
  rotate_left
  ·simp only [uc, uA, uB, uC, uZ, ua]
   rfl
  refine pu 22 (some 30) #[T,T,T,T,T,T,T,T,T,T,T,T,T,T,T,T,T,T,T,T,T,T,T] HT_ ?_
  refine done_ (done_of HT_.out (by kernel_rfl)) ?_
  obtain ⟨hcz76_0, hcz76_1, hcz76_2, hcz76_3, hfz76_0, hfz76_1, hfz76_2, hfz76_3⟩ := cz4 BK188
  obtain ⟨hcz77_0, hcz77_1, hcz77_2, hcz77_3, hfz77_0, hfz77_1, hfz77_2, hfz77_3⟩ := cz4 BK189
  try go_wp2
  refine bodyPost_ret (results_ctt rfl _ _ gb189 29 #[.int .i64 t190, .int .i64 t191, .bool t192, .slice Ao72 t193.length co72] (0, 0) _ rfl (by (with_reducible repeat first|apply uH|apply uJ|apply uG); refine uP (cs := #[.int .i64 t190, .int .i64 t191, .bool t192, .slice none 0 0]) ?_ 3 _ rfl; (with_reducible repeat first|apply uH|apply uJ|apply uG); refine uP (cs := #[.int .i64 t190, .int .i64 t191, .bool false, .slice none 0 0]) ?_ 2 _ rfl; (with_reducible repeat first|apply uH|apply uJ|apply uG); refine uP (cs := #[.int .i64 t190, .int .i64 0, .bool false, .slice none 0 0]) ?_ 1 _ rfl; (with_reducible repeat first|apply uH|apply uJ|apply uG); refine uP (cs := #[.int .i64 0, .int .i64 0, .bool false, .slice none 0 0]) ?_ 0 _ rfl; (with_reducible repeat first|apply uH|apply uJ|apply uG); exact BK189.out) Try.underlying29 rfl (by kernel_rfl)) rfl ?_
  exact ⟨_, by first | rfl | (simp [errW_none, errW_some] <;> rfl) | (simp [*, errW_none, errW_some] <;> rfl), by (with_reducible repeat (first | apply uU | apply uS | apply uT)); exact uX (uV (p := ⟨gb189, 3, none⟩) (uV (p := ⟨gb189, 2, none⟩) (uV (p := ⟨gb189, 1, none⟩) (uV (p := ⟨gb189, 0, none⟩) (uW HO195.out BK189.out (by decide)) (fun _ hk => hk.2) (.int .i64 t190)) (fun _ hk => hk.2) (.int .i64 t191)) (fun _ hk => hk.2) (.bool t192)) (fun _ hk => hk.2) (.slice Ao72 t193.length co72)) (fun _ hk => trivial), pb HB⟩

end Go.Proofs.Ytbdjbdoelbmjcaa.PFnBeltEnters
