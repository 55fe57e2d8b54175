-- Written by a program of this session (wip/myprint.py: the kit's print with changes): not by print.sh itself.
import Derived.Test.YtnkaimdcdedekaaDoorPFnCandidatesx0
import Derived.Test.YtnkaimdcdedekaaDoorPFnCandidatesx3
namespace Go.Proofs.YtnkaimdcdedekaaDoor.PFnCandidates
open Go.RowKit Go.Proofs.YtnkaimdcdedekaaDoorW.PrintWords Go.Proofs.YtnkaimdcdedekaaDoorW.PrintLast Go.Proofs.YtnkaimdcdedekaaDoorW.PrintMore
open Go renaming Act.put → uc
open Go.Proofs.YtnkaimdcdedekaaDoorW.PrintLast renaming i64_w → uZ, i32_w → ua
open Go.Proofs.YtnkaimdcdedekaaDoorW.PrintWords renaming Aside0.mk → uD, blk_cell → uF, blk_alloc → uG, blk_drewN → uH, blk_drew → uJ, below_drew1 → uK, below_size → uN, below_step → uO, blk_put → uP
open List renaming setIfInBounds_toArray → uA, set_cons_zero → uB, set_cons_succ → uC
open Bool renaming true → T, false → F
attribute [local go_sem] max2_int min2_int max_two min_two max_three min_three max_four min_four   -- for this text's walks alone
set_option linter.unusedVariables false
set_option linter.unusedSimpArgs false

/-! ### spec_TagCheck: function 44 -/
def spec_TagCheck.f (a0_0 : Int) (a0_1 : Int) (a0_2 : Int) : Option (Int) := (spec_TagOk.f a0_0 a0_1 a0_2).bind fun t132 => (if t132 = true then ((spec_TagNumber.f a0_0 a0_1 a0_2).bind fun t133 => (some (Int.tmod t133 7))) else (some (-1)))
set_option maxHeartbeats 8000000 in
set_option maxRecDepth 100000 in
theorem spec_TagCheck.calls (a0_0 : Int) (a0_1 : Int) (a0_2 : Int) (r : Int) (w : World) (h : spec_TagCheck.f a0_0 a0_1 a0_2 = some r) :
  Calls Tryd.prog 44 #[.agg #[.int .i64 a0_0, .int .i64 a0_1, .int .i64 a0_2]] w fun e w' => e = .returned (.int .i64 r) ∧ Below w.heap.size w w' := by
 have hu25 := Tryd.underlying25
 have HB := uD (Below.refl w.heap.size w)
 have H : ((spec_TagOk.f a0_0 a0_1 a0_2).bind fun t132 => (if t132 = true then ((spec_TagNumber.f a0_0 a0_1 a0_2).bind fun t133 => (some (Int.tmod t133 7))) else (some (-1)))) = some r := h
 clear h
 replace H := Option.bind_eq_some_iff.mp H
 obtain ⟨t132, A20, H⟩ := H
 replace H : (if t132 = true then ((spec_TagNumber.f a0_0 a0_1 a0_2).bind fun t133 => (some (Int.tmod t133 7))) else (some (-1))) = some r := H
 have A2 := uD A20
 clear A20
 by_cases c3 : t132 = true
 ·subst c3
  have H1 : ((spec_TagNumber.f a0_0 a0_1 a0_2).bind fun t133 => (some (Int.tmod t133 7))) = some r := by rw [if_pos rfl] at H; first | done | exact H
  clear H
  have H := H1
  clear H1
  replace H := Option.bind_eq_some_iff.mp H
  obtain ⟨t133, A40, H⟩ := H
  replace H : (some (Int.tmod t133 7)) = some r := H
  have A4 := uD A40
  clear A40
  obtain rfl := Option.some.inj H
  go_enter Tryd.func44, Tryd.ntmps44
  go_wp2_with (first | ((with_reducible refine gate_dst (N := 1) rfl ?_); refine bx 1 #[.int .i64 a0_0, .int .i64 a0_1, .int .i64 a0_2] 25 ?_; intro gb131 hg w5 hbox hb; have BK131 := uD (hbox); have GW131 := uD ((by rw [hg]; exact (uN (pb HB)) : w.heap.size ≤ gb131)); have GE131 := uD ((by rw [hg]; exact (uN (pb HB)) : w.heap.size ≤ gb131)); replace HB := uD (uO (pb HB) hb); clear hb hbox hg; obtain ⟨hcz6_0, hcz6_1, hcz6_2, hfz6_0, hfz6_1, hfz6_2⟩ := cz3 BK131) | ((with_reducible refine gate_callee (f := 42) rfl ?_); refine gl (some 4) Tryd.func42 #[.agg #[.int .i64 a0_0, .int .i64 a0_1, .int .i64 a0_2]] ?_; (with_reducible refine (spec_TagOk.calls a0_0 a0_1 a0_2 true _ A2.out).mono ?_); rintro e w7 ⟨rfl, hb⟩; refine ⟨_, rfl, ?_⟩; replace BK131 := uD (blk_below (pk BK131) hb); replace HB := uD (uO (pb HB) hb); (try clear hb); (try clear hb2); (try clear hk); (try clear hi); obtain ⟨hcz8_0, hcz8_1, hcz8_2, hfz8_0, hfz8_1, hfz8_2⟩ := cz3 BK131) | ((with_reducible refine gate_callee (f := 35) rfl ?_); refine gl (some 7) Tryd.func35 #[.agg #[.int .i64 a0_0, .int .i64 a0_1, .int .i64 a0_2]] ?_; (with_reducible refine (spec_TagNumber.calls a0_0 a0_1 a0_2 t133 _ A4.out).mono ?_); rintro e w9 ⟨rfl, hb⟩; refine ⟨_, rfl, ?_⟩; replace BK131 := uD (blk_below (pk BK131) hb); replace HB := uD (uO (pb HB) hb); (try clear hb); (try clear hb2); (try clear hk); (try clear hi)))
  go_ret
  exact ⟨by first | rfl | (simp [errW_none, errW_some] <;> rfl) | (simp [*, errW_none, errW_some] <;> rfl), pb HB⟩
 ·replace c3 := Bool.eq_false_iff.mpr c3
  subst c3
  have H1 : (some (-1)) = some r := by rw [if_neg (show ¬ (false = true) by decide)] at H; first | done | exact H
  clear H
  have H := H1
  clear H1
  obtain rfl := Option.some.inj H
  go_enter Tryd.func44, Tryd.ntmps44
  go_wp2_with (first | ((with_reducible refine gate_dst (N := 1) rfl ?_); refine bx 1 #[.int .i64 a0_0, .int .i64 a0_1, .int .i64 a0_2] 25 ?_; intro gb131 hg w10 hbox hb; have BK131 := uD (hbox); have GW131 := uD ((by rw [hg]; exact (uN (pb HB)) : w.heap.size ≤ gb131)); have GE131 := uD ((by rw [hg]; exact (uN (pb HB)) : w.heap.size ≤ gb131)); replace HB := uD (uO (pb HB) hb); clear hb hbox hg; obtain ⟨hcz11_0, hcz11_1, hcz11_2, hfz11_0, hfz11_1, hfz11_2⟩ := cz3 BK131) | ((with_reducible refine gate_callee (f := 42) rfl ?_); refine gl (some 4) Tryd.func42 #[.agg #[.int .i64 a0_0, .int .i64 a0_1, .int .i64 a0_2]] ?_; (with_reducible refine (spec_TagOk.calls a0_0 a0_1 a0_2 false _ A2.out).mono ?_); rintro e w12 ⟨rfl, hb⟩; refine ⟨_, rfl, ?_⟩; replace BK131 := uD (blk_below (pk BK131) hb); replace HB := uD (uO (pb HB) hb); (try clear hb); (try clear hb2); (try clear hk); (try clear hi)))
  go_ret
  exact ⟨by first | rfl | (simp [errW_none, errW_some] <;> rfl) | (simp [*, errW_none, errW_some] <;> rfl), pb HB⟩

/-! ### spec_FormatTag: function 12 -/
def spec_FormatTag.f (k : Nat) (a0_0 : Int) (a0_1 : Int) (a0_2 : Int) : Option (ByteArray) := (spec_TagOk.f a0_0 a0_1 a0_2).bind fun t135 => (if t135 = true then ((spec_TagNumber.f a0_0 a0_1 a0_2).bind fun t136 => ((spec_l01Ten.f k t136).bind fun t137 => (if t137.size + 1 ≤ 9223372036854775807 then ((spec_TagCheck.f a0_0 a0_1 a0_2).bind fun t138 => ((some (([(wrap64 (48 + t138)) % 256] : List Int) : List Int)).bind fun y139 => (if (t137 ++ (⟨#[45]⟩ : ByteArray)).size + (strOfNums y139).size ≤ 9223372036854775807 then (some ((t137 ++ (⟨#[45]⟩ : ByteArray)) ++ (strOfNums y139))) else (none)))) else (none)))) else (some (⟨#[]⟩ : ByteArray)))
theorem spec_FormatTag.mono : ∀ a0 a1 a2 k, LeO (spec_FormatTag.f k a0 a1 a2) (spec_FormatTag.f (k + 1) a0 a1 a2) := by
 intro a0 a1 a2 k
 unfold spec_FormatTag.f
 repeat' first
   | (with_reducible exact spec_l01Ten.mono _ _)
   | (with_reducible exact LeO.refl _)
   | (with_reducible exact LeO.none _)
   | (with_reducible refine LeO.ite ?_ ?_)
   | (with_reducible refine LeO.bind ?_ (fun _ => ?_))
   | exact spec_l01Ten.mono _ _
   | exact LeO.none _
   | refine LeO.ite ?_ ?_
   | refine LeO.bind ?_ (fun _ => ?_)
def spec_FormatTag.T3 : Bool × List (List Nat × List Nat) := (true, [([], []), ([0], [0]), ([1, 1], [1]), ([2], [2]), ([], []), ([4, 2], [4]), ([5], [5]), ([6], [6]), ([7], [7]), ([8], [8]), ([3, 9], [3, 9]), ([10, 5, 0, 1, 2, 3, 4, 5, 6, 7, 8, 9, 10], [10])])
def spec_FormatTag.B3 : List Nat := [0, 1, 3, 7, 0, 23, 55, 119, 247, 503, 1023, 2047]
theorem spec_FormatTag.tab3 : rtab .any (opsOf Tryd.f12 3) = spec_FormatTag.T3 := by kernel_rfl
theorem spec_FormatTag.bits3 : waitsOk spec_FormatTag.T3.2 spec_FormatTag.B3 = true := by kernel_rfl
set_option maxHeartbeats 8000000 in
set_option maxRecDepth 100000 in
theorem spec_FormatTag.calls (k : Nat) (a0_0 : Int) (a0_1 : Int) (a0_2 : Int) (r : ByteArray) (w : World) (h : spec_FormatTag.f k a0_0 a0_1 a0_2 = some r) :
  Calls Tryd.prog 12 #[.agg #[.int .i64 a0_0, .int .i64 a0_1, .int .i64 a0_2]] w fun e w' => e = .returned (.string r) ∧ Below w.heap.size w w' := by
 have hu25 := Tryd.underlying25
 have HB := uD (Below.refl w.heap.size w)
 have H : ((spec_TagOk.f a0_0 a0_1 a0_2).bind fun t135 => (if t135 = true then ((spec_TagNumber.f a0_0 a0_1 a0_2).bind fun t136 => ((spec_l01Ten.f k t136).bind fun t137 => (if t137.size + 1 ≤ 9223372036854775807 then ((spec_TagCheck.f a0_0 a0_1 a0_2).bind fun t138 => ((some (([(wrap64 (48 + t138)) % 256] : List Int) : List Int)).bind fun y139 => (if (t137 ++ (⟨#[45]⟩ : ByteArray)).size + (strOfNums y139).size ≤ 9223372036854775807 then (some ((t137 ++ (⟨#[45]⟩ : ByteArray)) ++ (strOfNums y139))) else (none)))) else (none)))) else (some (⟨#[]⟩ : ByteArray)))) = some r := h
 clear h
 replace H := Option.bind_eq_some_iff.mp H
 obtain ⟨t135, A20, H⟩ := H
 replace H : (if t135 = true then ((spec_TagNumber.f a0_0 a0_1 a0_2).bind fun t136 => ((spec_l01Ten.f k t136).bind fun t137 => (if t137.size + 1 ≤ 9223372036854775807 then ((spec_TagCheck.f a0_0 a0_1 a0_2).bind fun t138 => ((some (([(wrap64 (48 + t138)) % 256] : List Int) : List Int)).bind fun y139 => (if (t137 ++ (⟨#[45]⟩ : ByteArray)).size + (strOfNums y139).size ≤ 9223372036854775807 then (some ((t137 ++ (⟨#[45]⟩ : ByteArray)) ++ (strOfNums y139))) else (none)))) else (none)))) else (some (⟨#[]⟩ : ByteArray))) = some r := H
 have A2 := uD A20
 clear A20
 by_cases c3 : t135 = true
 ·subst c3
  have H1 : ((spec_TagNumber.f a0_0 a0_1 a0_2).bind fun t136 => ((spec_l01Ten.f k t136).bind fun t137 => (if t137.size + 1 ≤ 9223372036854775807 then ((spec_TagCheck.f a0_0 a0_1 a0_2).bind fun t138 => ((some (([(wrap64 (48 + t138)) % 256] : List Int) : List Int)).bind fun y139 => (if (t137 ++ (⟨#[45]⟩ : ByteArray)).size + (strOfNums y139).size ≤ 9223372036854775807 then (some ((t137 ++ (⟨#[45]⟩ : ByteArray)) ++ (strOfNums y139))) else (none)))) else (none)))) = some r := by rw [if_pos rfl] at H; first | done | exact H
  clear H
  have H := H1
  clear H1
  replace H := Option.bind_eq_some_iff.mp H
  obtain ⟨t136, A40, H⟩ := H
  replace H : ((spec_l01Ten.f k t136).bind fun t137 => (if t137.size + 1 ≤ 9223372036854775807 then ((spec_TagCheck.f a0_0 a0_1 a0_2).bind fun t138 => ((some (([(wrap64 (48 + t138)) % 256] : List Int) : List Int)).bind fun y139 => (if (t137 ++ (⟨#[45]⟩ : ByteArray)).size + (strOfNums y139).size ≤ 9223372036854775807 then (some ((t137 ++ (⟨#[45]⟩ : ByteArray)) ++ (strOfNums y139))) else (none)))) else (none))) = some r := H
  have A4 := uD A40
  clear A40
  replace H := Option.bind_eq_some_iff.mp H
  obtain ⟨t137, A50, H⟩ := H
  replace H : (if t137.size + 1 ≤ 9223372036854775807 then ((spec_TagCheck.f a0_0 a0_1 a0_2).bind fun t138 => ((some (([(wrap64 (48 + t138)) % 256] : List Int) : List Int)).bind fun y139 => (if (t137 ++ (⟨#[45]⟩ : ByteArray)).size + (strOfNums y139).size ≤ 9223372036854775807 then (some ((t137 ++ (⟨#[45]⟩ : ByteArray)) ++ (strOfNums y139))) else (none)))) else (none)) = some r := H
  have A5 := uD A50
  clear A50
  by_cases c6 : t137.size + 1 ≤ 9223372036854775807
  ·rw [if_pos c6] at H
   have c6b0 := eq_true c6
   have c6b1 : decide (t137.size + 1 ≤ 9223372036854775807) = true := decide_eq_true c6
   try have c6b2 : (9223372036854775807 < t137.size + 1) = False := eq_false (Nat.not_lt.2 c6)
   replace H := Option.bind_eq_some_iff.mp H
   obtain ⟨t138, A70, H⟩ := H
   replace H : ((some (([(wrap64 (48 + t138)) % 256] : List Int) : List Int)).bind fun y139 => (if (t137 ++ (⟨#[45]⟩ : ByteArray)).size + (strOfNums y139).size ≤ 9223372036854775807 then (some ((t137 ++ (⟨#[45]⟩ : ByteArray)) ++ (strOfNums y139))) else (none))) = some r := H
   have A7 := uD A70
   clear A70
   obtain ⟨y139, hy139⟩ : ∃ y_ : List Int, y_ = (([(wrap64 (48 + t138)) % 256] : List Int)) := ⟨_, rfl⟩
   replace H : (if (t137 ++ (⟨#[45]⟩ : ByteArray)).size + (strOfNums y139).size ≤ 9223372036854775807 then (some ((t137 ++ (⟨#[45]⟩ : ByteArray)) ++ (strOfNums y139))) else (none)) = some r := by first | (rw [hy139]; with_reducible exact H) | (have H2_ := (Option.bind_some _ _).symm.trans H; rw [hy139]; with_reducible exact H2_) | (have H2_ := (Option.bind_some _ _).symm.trans H; with_reducible exact H2_) | with_reducible exact H | (rw [hy139]; exact H) | exact H
   have Ny139 := uD hy139
   clear hy139
   by_cases c8 : (t137 ++ (⟨#[45]⟩ : ByteArray)).size + (strOfNums y139).size ≤ 9223372036854775807
   ·rw [if_pos c8] at H
    have c8b0 := eq_true c8
    have c8b1 : decide ((t137 ++ (⟨#[45]⟩ : ByteArray)).size + (strOfNums y139).size ≤ 9223372036854775807) = true := decide_eq_true c8
    try have c8b2 : (9223372036854775807 < (t137 ++ (⟨#[45]⟩ : ByteArray)).size + (strOfNums y139).size) = False := eq_false (Nat.not_lt.2 c8)
    (try simp only [ByteArray.size_append, one_sz] at c8b0 c8b1 c8b2)
    obtain rfl := Option.some.inj H
    go_enter Tryd.func12, Tryd.ntmps12
    try go_wp2_with (first | ((with_reducible refine gate_dst (N := 1) rfl ?_); refine bx 1 #[.int .i64 a0_0, .int .i64 a0_1, .int .i64 a0_2] 25 ?_; intro gb134 hg w9 hbox hb; have BK134 := uD (hbox); have GW134 := uD ((by rw [hg]; exact (uN (pb HB)) : w.heap.size ≤ gb134)); have GE134 := uD ((by rw [hg]; exact (uN (pb HB)) : w.heap.size ≤ gb134)); replace HB := uD (uO (pb HB) hb); clear hb hbox hg; obtain ⟨hcz10_0, hcz10_1, hcz10_2, hfz10_0, hfz10_1, hfz10_2⟩ := cz3 BK134) | ((with_reducible refine gate_callee (f := 42) rfl ?_); refine gl (some 4) Tryd.func42 #[.agg #[.int .i64 a0_0, .int .i64 a0_1, .int .i64 a0_2]] ?_; (with_reducible refine (spec_TagOk.calls a0_0 a0_1 a0_2 true _ A2.out).mono ?_); rintro e w11 ⟨rfl, hb⟩; refine ⟨_, rfl, ?_⟩; replace BK134 := uD (blk_below (pk BK134) hb); replace HB := uD (uO (pb HB) hb); (try clear hb); (try clear hb2); (try clear hk); (try clear hi)))
    replace BK134 := uD (uJ BK134.out)
    replace HB := uD (uK HB.out)
    refine start_ (n := 12) (S := fun w' => w'.cell? ⟨gb134, 0, none⟩ = some (.int .i64 a0_0) ∧ w'.cell? ⟨gb134, 1, none⟩ = some (.int .i64 a0_1) ∧ w'.cell? ⟨gb134, 2, none⟩ = some (.int .i64 a0_2)) (ds := []) #[F,F,F,F,F,F,F,F,F,F,F,F] (by kernel_rfl) rfl rfl ⟨(uF BK134.out 0).trans rfl, (uF BK134.out 1).trans rfl, (uF BK134.out 2).trans rfl⟩ (fun hHeld => ?_); refine with_tabW spec_FormatTag.tab3 spec_FormatTag.bits3 (fun HT_ HW_ => ?_)
    generalize w11.drew = w12 at BK134 HB hHeld ⊢
    refine tk 0 (some 6) #[T,F,F,F,F,F,F,F,F,F,F,F] HT_ HW_ hHeld ?_
    refine tk 4 (some 10) #[T,F,F,F,T,F,F,F,F,F,F,F] HT_ HW_ hHeld ?_
    refine one_ (i := 1) (N := some 7) #[T,T,F,F,T,F,F,F,F,F,F,F] rfl rfl (one_of HT_.out (by kernel_rfl)) (by decide) (fun K hK => ?_)
    refine goes_ Tryd.func35 (by kernel_rfl) rfl #[.agg #[.int .i64 a0_0, .int .i64 a0_1, .int .i64 a0_2]] (by rfl) rfl rfl (by (try simp only [List.map_toArray, List.map_cons, List.map_nil]); first | done | rfl | (simp only [List.length_drop, List.length_take]; rfl)) ?_
    with_reducible refine (spec_TagNumber.calls a0_0 a0_1 a0_2 t136 _ A4.out).mono ?_
    rintro e w13 ⟨rfl, hb⟩
    refine ⟨_, rfl, ?_⟩
    replace BK134 := uD (blk_below (pk BK134) hb)
    replace HB := uD (uO (pb HB) hb)
    (try clear hb)
    (try clear hb2)
    (try clear hk)
    (try clear hi)
    refine hK.out _ _ ⟨(uF BK134.out 0).trans rfl, (uF BK134.out 1).trans rfl, (uF BK134.out 2).trans rfl⟩ (fun hHeld => ?_)
    clear hK K
    refine norm_ (a' := ?_) ?_ ?_
    rotate_left
    ·show uc _ (some 7) _ = _
     simp only [uc, uA, uB, uC, uZ, ua]
     rfl
    refine one_ (i := 2) (N := some 8) #[T,T,T,F,T,F,F,F,F,F,F,F] rfl rfl (one_of HT_.out (by kernel_rfl)) (by decide) (fun K hK => ?_)
    refine goes_ Tryd.func43 (by kernel_rfl) rfl #[.int .i64 t136] (by rfl) rfl rfl (by (try simp only [List.map_toArray, List.map_cons, List.map_nil]); first | done | rfl | (simp only [List.length_drop, List.length_take]; rfl)) ?_
    with_reducible refine (spec_l01Ten.calls k t136 t137 _ A5.out).mono ?_
    rintro e w14 ⟨rfl, hb⟩
    refine ⟨_, rfl, ?_⟩
    replace BK134 := uD (blk_below (pk BK134) hb)
    replace HB := uD (uO (pb HB) hb)
    (try clear hb)
    (try clear hb2)
    (try clear hk)
    (try clear hi)
    refine hK.out _ _ ⟨(uF BK134.out 0).trans rfl, (uF BK134.out 1).trans rfl, (uF BK134.out 2).trans rfl⟩ (fun hHeld => ?_)
    clear hK K
    refine norm_ (a' := ?_) ?_ ?_
    rotate_left
    ·show uc _ (some 8) _ = _
     simp only [uc, uA, uB, uC, uZ, ua]
     rfl
    refine pu 3 (some 9) #[T,T,T,T,T,F,F,F,F,F,F,F] HT_ ?_
    refine one_ (i := 5) (N := some 11) #[T,T,T,T,T,T,F,F,F,F,F,F] rfl rfl (one_of HT_.out (by kernel_rfl)) (by decide) (fun K hK => ?_)
    refine goes_ Tryd.func44 (by kernel_rfl) rfl #[.agg #[.int .i64 a0_0, .int .i64 a0_1, .int .i64 a0_2]] (by rfl) rfl rfl (by (try simp only [List.map_toArray, List.map_cons, List.map_nil]); first | done | rfl | (simp only [List.length_drop, List.length_take]; rfl)) ?_
    with_reducible refine (spec_TagCheck.calls a0_0 a0_1 a0_2 t138 _ A7.out).mono ?_
    rintro e w15 ⟨rfl, hb⟩
    refine ⟨_, rfl, ?_⟩
    replace BK134 := uD (blk_below (pk BK134) hb)
    replace HB := uD (uO (pb HB) hb)
    (try clear hb)
    (try clear hb2)
    (try clear hk)
    (try clear hi)
    refine hK.out _ _ ⟨(uF BK134.out 0).trans rfl, (uF BK134.out 1).trans rfl, (uF BK134.out 2).trans rfl⟩ (fun hHeld => ?_)
    clear hK K
    refine norm_ (a' := ?_) ?_ ?_
    rotate_left
    ·show uc _ (some 11) _ = _
     simp only [uc, uA, uB, uC, uZ, ua]
     rfl
    refine pu 6 (some 12) #[T,T,T,T,T,T,T,F,F,F,F,F] HT_ ?_
    refine pu 7 (some 13) #[T,T,T,T,T,T,T,T,F,F,F,F] HT_ ?_
    refine one_ (i := 8) (N := some 14) #[T,T,T,T,T,T,T,T,T,F,F,F] rfl rfl (one_of HT_.out (by kernel_rfl)) (by decide) (fun K hK => ?_)
    refine Kd.R_lit_step (Kd.int .u8) _ 5 ?hg (N := 14) ?hd (xs := ([(wrap64 (48 + t138)) % 256] : List Int)) (inner := [.int .u8 ((wrap64 (48 + t138)) % 256)]) (ok := fun _ => True) (okp := fun _ => True) ?hr ?hp (fun _ hk => hk) trivial (Below.refl _ _) (Nat.le_refl _) (by simp) ?_; (case hd => rfl); (case hg => rfl); (case hr => first | (go_simp; done) | (go_simp; rfl)); (case hp => exact (Reps.one (show Kd.M (Kd.int .u8) _ _ _ ((wrap64 (48 + t138)) % 256) [.int .u8 ((wrap64 (48 + t138)) % 256)] from rfl) (Reps.none _ _)))
    intro v140 w16 ho17 hb hg_ hnew_
    clear hg_ hnew_
    (first | rw [← Ny139.out] at ho17 | (simp only [Int.reduceToNat] at ho17; rw [← Ny139.out] at ho17))
    have HO141 := uD (Kd.R_lower ho17 (uN (pb HB)))
    replace BK134 := uD (blk_below (pk BK134) hb)
    replace HB := uD (uO (pb HB) hb)
    clear hb ho17
    refine hK.out _ _ ⟨(uF BK134.out 0).trans rfl, (uF BK134.out 1).trans rfl, (uF BK134.out 2).trans rfl⟩ (fun hHeld => ?_)
    clear hK K
    refine norm_ (a' := ?_) ?_ ?_
    rotate_left
    ·show uc _ (some 14) _ = _
     simp only [uc, uA, uB, uC, uZ, ua]
     rfl
    refine one_ (i := 9) (N := some 15) #[T,T,T,T,T,T,T,T,T,T,F,F] rfl rfl (one_of HT_.out (by kernel_rfl)) (by decide) (fun K hK => ?_)
    have hcv18 := own_string (P := Tryd.prog) Tryd.underlying37 Tryd.underlying5 Tryd.underlying9 (Kd.own_of_R HO141.out)
    refine value_ (w1 := ?_) (v := ?_) (by rfl) rfl ?_ ?_
    rotate_left 2
    ·go_simp
     constructor
     ·rfl
     ·rfl
    clear hcv18
    refine hK.out _ _ ⟨(uF BK134.out 0).trans rfl, (uF BK134.out 1).trans rfl, (uF BK134.out 2).trans rfl⟩ (fun hHeld => ?_)
    clear hK K
    refine norm_ (a' := ?_) ?_ ?_
    rotate_left
    ·show uc _ (some 15) _ = _
     simp only [uc, uA, uB, uC, uZ, ua]
     rfl
    refine pu 10 (some 16) #[T,T,T,T,T,T,T,T,T,T,T,F] HT_ ?_
    refine pu 11 (some 2) #[T,T,T,T,T,T,T,T,T,T,T,T] HT_ ?_
    refine done_ (done_of HT_.out (by kernel_rfl)) ?_
    try go_wp2
    go_ret
    exact ⟨by first | rfl | (simp [errW_none, errW_some] <;> rfl) | (simp [*, errW_none, errW_some] <;> rfl), pb HB⟩
   ·rw [if_neg c8] at H
    exact absurd H (by simp)
  ·rw [if_neg c6] at H
   exact absurd H (by simp)
 ·replace c3 := Bool.eq_false_iff.mpr c3
  subst c3
  have H1 : (some (⟨#[]⟩ : ByteArray)) = some r := by rw [if_neg (show ¬ (false = true) by decide)] at H; first | done | exact H
  clear H
  have H := H1
  clear H1
  obtain rfl := Option.some.inj H
  go_enter Tryd.func12, Tryd.ntmps12
  go_wp2_with (first | ((with_reducible refine gate_dst (N := 1) rfl ?_); refine bx 1 #[.int .i64 a0_0, .int .i64 a0_1, .int .i64 a0_2] 25 ?_; intro gb134 hg w19 hbox hb; have BK134 := uD (hbox); have GW134 := uD ((by rw [hg]; exact (uN (pb HB)) : w.heap.size ≤ gb134)); have GE134 := uD ((by rw [hg]; exact (uN (pb HB)) : w.heap.size ≤ gb134)); replace HB := uD (uO (pb HB) hb); clear hb hbox hg; obtain ⟨hcz20_0, hcz20_1, hcz20_2, hfz20_0, hfz20_1, hfz20_2⟩ := cz3 BK134) | ((with_reducible refine gate_callee (f := 42) rfl ?_); refine gl (some 4) Tryd.func42 #[.agg #[.int .i64 a0_0, .int .i64 a0_1, .int .i64 a0_2]] ?_; (with_reducible refine (spec_TagOk.calls a0_0 a0_1 a0_2 false _ A2.out).mono ?_); rintro e w21 ⟨rfl, hb⟩; refine ⟨_, rfl, ?_⟩; replace BK134 := uD (blk_below (pk BK134) hb); replace HB := uD (uO (pb HB) hb); (try clear hb); (try clear hb2); (try clear hk); (try clear hi)))
  go_ret
  exact ⟨by first | rfl | (simp [errW_none, errW_some] <;> rfl) | (simp [*, errW_none, errW_some] <;> rfl), pb HB⟩

/-! ### spec_l01OfNumber: function 45 -/
def spec_l01OfNumber.f (a0 : Int) : Option (Int × Int × Int) := some (wrap64 (Int.tdiv a0 1000000000), Int.tmod (wrap64 (Int.tdiv a0 1000000)) 1000, Int.tmod a0 1000000)
set_option maxHeartbeats 8000000 in
set_option maxRecDepth 100000 in
theorem spec_l01OfNumber.calls (a0 : Int) (r1 : Int) (r2 : Int) (r3 : Int) (w : World) (h : spec_l01OfNumber.f a0 = some (r1, r2, r3)) :
  Calls Tryd.prog 45 #[.int .i64 a0] w fun e w' => e = .returned (.agg #[.int .i64 r1, .int .i64 r2, .int .i64 r3]) ∧ Below w.heap.size w w' := by
 have hu25 := Tryd.underlying25
 have HB := uD (Below.refl w.heap.size w)
 have H : (some (wrap64 (Int.tdiv a0 1000000000), Int.tmod (wrap64 (Int.tdiv a0 1000000)) 1000, Int.tmod a0 1000000)) = some (r1, r2, r3) := h
 clear h
 simp only [Option.some.injEq, Prod.mk.injEq] at H
 obtain ⟨rfl, rfl, rfl⟩ := H
 go_enter Tryd.func45, Tryd.ntmps45
 go_wp2_with (first | ((with_reducible refine gate_dst (N := 2) rfl ?_); refine bx 2 #[.int .i64 0, .int .i64 0, .int .i64 0] 25 ?_; intro gb142 hg w2 hbox hb; have BK142 := uD (hbox); have GW142 := uD ((by rw [hg]; exact (uN (pb HB)) : w.heap.size ≤ gb142)); have GE142 := uD ((by rw [hg]; exact (uN (pb HB)) : w.heap.size ≤ gb142)); replace HB := uD (uO (pb HB) hb); clear hb hbox hg; obtain ⟨hcz3_0, hcz3_1, hcz3_2, hfz3_0, hfz3_1, hfz3_2⟩ := cz3 BK142))
 refine bodyPost_ret (results_cell_row rfl _ _ gb142 25 #[.int .i64 (wrap64 (Int.tdiv a0 1000000000)), .int .i64 (Int.tmod (wrap64 (Int.tdiv a0 1000000)) 1000), .int .i64 (Int.tmod a0 1000000)] (0, 0) _ rfl (by (with_reducible repeat first|apply uH|apply uJ|apply uG); refine uP (cs := #[.int .i64 (wrap64 (Int.tdiv a0 1000000000)), .int .i64 (Int.tmod (wrap64 (Int.tdiv a0 1000000)) 1000), .int .i64 0]) ?_ 2 _ rfl; (with_reducible repeat first|apply uH|apply uJ|apply uG); refine uP (cs := #[.int .i64 (wrap64 (Int.tdiv a0 1000000000)), .int .i64 0, .int .i64 0]) ?_ 1 _ rfl; (with_reducible repeat first|apply uH|apply uJ|apply uG); refine uP (cs := #[.int .i64 0, .int .i64 0, .int .i64 0]) ?_ 0 _ rfl; (with_reducible repeat first|apply uH|apply uJ|apply uG); exact BK142.out) Tryd.underlying25 rfl (by kernel_rfl)) rfl ?_
 exact ⟨by first | rfl | (simp [errW_none, errW_some] <;> rfl) | (simp [*, errW_none, errW_some] <;> rfl), pb HB⟩

end Go.Proofs.YtnkaimdcdedekaaDoor.PFnCandidates
