-- Written by a program of this session (wip/myprint.py: the kit's print with changes): not by print.sh itself.
import Derived.Test.YtnkaimdcdedekaaDoorPFnTagsx0
namespace Go.Proofs.YtnkaimdcdedekaaDoor.PFnTags
open Go.RowKit Go.Proofs.YtnkaimdcdedekaaDoorW.PrintWords Go.Proofs.YtnkaimdcdedekaaDoorW.PrintLast Go.Proofs.YtnkaimdcdedekaaDoorW.PrintMore
open Go renaming Act.put → uc
open Go.Proofs.YtnkaimdcdedekaaDoorW.PrintLast renaming i64_w → uZ, i32_w → ua
open Go.Proofs.YtnkaimdcdedekaaDoorW.PrintWords renaming Aside0.mk → uD, blk_cell → uF, blk_alloc → uG, blk_drewN → uH, blk_drew → uJ, below_drew1 → uK, below_set → uM, below_size → uN, below_step → uO, blk_put → uP, Kd.R_drewN → uS, Kd.R_drew → uT, Kd.R_alloc → uU
open List renaming setIfInBounds_toArray → uA, set_cons_zero → uB, set_cons_succ → uC
open Bool renaming true → T, false → F
attribute [local go_sem] max2_int min2_int max_two min_two max_three min_three max_four min_four   -- for this text's walks alone
set_option linter.unusedVariables false
set_option linter.unusedSimpArgs false

/-! ### spec_l01In: function 60 -/
def spec_l01In.f (a0 : Int) (a1 : Int) (a2 : Int) : Option (Bool) := if a0 ≥ a1 then (some (decide (a0 ≤ a2))) else (some false)
set_option maxHeartbeats 8000000 in
set_option maxRecDepth 100000 in
theorem spec_l01In.calls (a0 : Int) (a1 : Int) (a2 : Int) (r : Bool) (w : World) (h : spec_l01In.f a0 a1 a2 = some r) :
  Calls Tryd.prog 60 #[.int .i64 a0, .int .i64 a1, .int .i64 a2] w fun e w' => e = .returned (.bool r) ∧ Drawn0 w w' := by
 have H : (if a0 ≥ a1 then (some (decide (a0 ≤ a2))) else (some false)) = some r := h
 clear h
 by_cases c4 : a0 ≥ a1
 ·rw [if_pos c4] at H
  have c4b0 : decide (a1 ≤ a0) = true := decide_eq_true c4
  clear c4
  obtain rfl := Option.some.inj H
  go_enter Tryd.func60, Tryd.ntmps60
  go_wp2
  go_ret
  exact ⟨by first | rfl | (simp; done) | (simp [*]; done), by repeat (first | exact Drawn0.refl _ | apply Drawn0.step)⟩
 ·rw [if_neg c4] at H
  have c4b0 : decide (a1 ≤ a0) = false := decide_eq_false c4
  clear c4
  obtain rfl := Option.some.inj H
  go_enter Tryd.func60, Tryd.ntmps60
  go_wp2
  go_ret
  exact ⟨by first | rfl | (simp; done) | (simp [*]; done), by repeat (first | exact Drawn0.refl _ | apply Drawn0.step)⟩

/-! ### spec_TagOk: function 42 -/
def spec_TagOk.f (a0_0 : Int) (a0_1 : Int) (a0_2 : Int) : Option (Bool) := (spec_l01In.f a0_0 0 9).bind fun t102 => (if t102 = true then ((spec_l01In.f a0_1 1 999).bind fun t103 => (if t103 = true then ((spec_l01In.f a0_2 0 999999).bind fun t104 => (some t104)) else (some false))) else (some false))
set_option maxHeartbeats 8000000 in
set_option maxRecDepth 100000 in
theorem spec_TagOk.calls (a0_0 : Int) (a0_1 : Int) (a0_2 : Int) (r : Bool) (w : World) (h : spec_TagOk.f a0_0 a0_1 a0_2 = some r) :
  Calls Tryd.prog 42 #[.agg #[.int .i64 a0_0, .int .i64 a0_1, .int .i64 a0_2]] w fun e w' => e = .returned (.bool r) ∧ Below w.heap.size w w' := by
 have hu25 := Tryd.underlying25
 have HB := uD (Below.refl w.heap.size w)
 have H : ((spec_l01In.f a0_0 0 9).bind fun t102 => (if t102 = true then ((spec_l01In.f a0_1 1 999).bind fun t103 => (if t103 = true then ((spec_l01In.f a0_2 0 999999).bind fun t104 => (some t104)) else (some false))) else (some false))) = some r := h
 clear h
 replace H := Option.bind_eq_some_iff.mp H
 obtain ⟨t102, A20, H⟩ := H
 replace H : (if t102 = true then ((spec_l01In.f a0_1 1 999).bind fun t103 => (if t103 = true then ((spec_l01In.f a0_2 0 999999).bind fun t104 => (some t104)) else (some false))) else (some false)) = some r := H
 have A2 := uD A20
 clear A20
 by_cases c3 : t102 = true
 ·subst c3
  have H1 : ((spec_l01In.f a0_1 1 999).bind fun t103 => (if t103 = true then ((spec_l01In.f a0_2 0 999999).bind fun t104 => (some t104)) else (some false))) = some r := by rw [if_pos rfl] at H; first | done | exact H
  clear H
  have H := H1
  clear H1
  replace H := Option.bind_eq_some_iff.mp H
  obtain ⟨t103, A40, H⟩ := H
  replace H : (if t103 = true then ((spec_l01In.f a0_2 0 999999).bind fun t104 => (some t104)) else (some false)) = some r := H
  have A4 := uD A40
  clear A40
  by_cases c5 : t103 = true
  ·subst c5
   have H1 : ((spec_l01In.f a0_2 0 999999).bind fun t104 => (some t104)) = some r := by rw [if_pos rfl] at H; first | done | exact H
   clear H
   have H := H1
   clear H1
   replace H := Option.bind_eq_some_iff.mp H
   obtain ⟨t104, A60, H⟩ := H
   replace H : (some t104) = some r := H
   have A6 := uD A60
   clear A60
   obtain rfl := Option.some.inj H
   go_enter Tryd.func42, Tryd.ntmps42
   go_wp2_with (first | ((with_reducible refine gate_dst (N := 1) rfl ?_); refine bx 1 #[.int .i64 a0_0, .int .i64 a0_1, .int .i64 a0_2] 25 ?_; intro gb101 hg w7 hbox hb; have BK101 := uD (hbox); have GW101 := uD ((by rw [hg]; exact (uN (pb HB)) : w.heap.size ≤ gb101)); have GE101 := uD ((by rw [hg]; exact (uN (pb HB)) : w.heap.size ≤ gb101)); replace HB := uD (uO (pb HB) hb); clear hb hbox hg; obtain ⟨hcz8_0, hcz8_1, hcz8_2, hfz8_0, hfz8_1, hfz8_2⟩ := cz3 BK101) | ((with_reducible refine gate_callee (f := 60) rfl ?_); refine gl (some 5) Tryd.func60 #[.int .i64 a0_0, .int .i64 0, .int .i64 9] ?_; (with_reducible refine (spec_l01In.calls a0_0 0 9 true _ A2.out).mono ?_); rintro e w' ⟨rfl, ⟨nd, rfl⟩⟩; refine ⟨_, rfl, ?_⟩) | (go_at_call 60; (with_reducible refine (spec_l01In.calls a0_1 1 999 true _ A4.out).mono ?_); rintro e w' ⟨rfl, ⟨nd, rfl⟩⟩) | (go_at_call 60; (with_reducible refine (spec_l01In.calls a0_2 0 999999 t104 _ A6.out).mono ?_); rintro e w' ⟨rfl, ⟨nd, rfl⟩⟩))
   go_ret
   exact ⟨by first | rfl | (simp [errW_none, errW_some] <;> rfl) | (simp [*, errW_none, errW_some] <;> rfl), pb HB⟩
  ·replace c5 := Bool.eq_false_iff.mpr c5
   subst c5
   have H1 : (some false) = some r := by rw [if_neg (show ¬ (false = true) by decide)] at H; first | done | exact H
   clear H
   have H := H1
   clear H1
   obtain rfl := Option.some.inj H
   go_enter Tryd.func42, Tryd.ntmps42
   go_wp2_with (first | ((with_reducible refine gate_dst (N := 1) rfl ?_); refine bx 1 #[.int .i64 a0_0, .int .i64 a0_1, .int .i64 a0_2] 25 ?_; intro gb101 hg w9 hbox hb; have BK101 := uD (hbox); have GW101 := uD ((by rw [hg]; exact (uN (pb HB)) : w.heap.size ≤ gb101)); have GE101 := uD ((by rw [hg]; exact (uN (pb HB)) : w.heap.size ≤ gb101)); replace HB := uD (uO (pb HB) hb); clear hb hbox hg; obtain ⟨hcz10_0, hcz10_1, hcz10_2, hfz10_0, hfz10_1, hfz10_2⟩ := cz3 BK101) | ((with_reducible refine gate_callee (f := 60) rfl ?_); refine gl (some 5) Tryd.func60 #[.int .i64 a0_0, .int .i64 0, .int .i64 9] ?_; (with_reducible refine (spec_l01In.calls a0_0 0 9 true _ A2.out).mono ?_); rintro e w' ⟨rfl, ⟨nd, rfl⟩⟩; refine ⟨_, rfl, ?_⟩) | (go_at_call 60; (with_reducible refine (spec_l01In.calls a0_1 1 999 false _ A4.out).mono ?_); rintro e w' ⟨rfl, ⟨nd, rfl⟩⟩))
   go_ret
   exact ⟨by first | rfl | (simp [errW_none, errW_some] <;> rfl) | (simp [*, errW_none, errW_some] <;> rfl), pb HB⟩
 ·replace c3 := Bool.eq_false_iff.mpr c3
  subst c3
  have H1 : (some false) = some r := by rw [if_neg (show ¬ (false = true) by decide)] at H; first | done | exact H
  clear H
  have H := H1
  clear H1
  obtain rfl := Option.some.inj H
  go_enter Tryd.func42, Tryd.ntmps42
  go_wp2_with (first | ((with_reducible refine gate_dst (N := 1) rfl ?_); refine bx 1 #[.int .i64 a0_0, .int .i64 a0_1, .int .i64 a0_2] 25 ?_; intro gb101 hg w11 hbox hb; have BK101 := uD (hbox); have GW101 := uD ((by rw [hg]; exact (uN (pb HB)) : w.heap.size ≤ gb101)); have GE101 := uD ((by rw [hg]; exact (uN (pb HB)) : w.heap.size ≤ gb101)); replace HB := uD (uO (pb HB) hb); clear hb hbox hg; obtain ⟨hcz12_0, hcz12_1, hcz12_2, hfz12_0, hfz12_1, hfz12_2⟩ := cz3 BK101) | ((with_reducible refine gate_callee (f := 60) rfl ?_); refine gl (some 5) Tryd.func60 #[.int .i64 a0_0, .int .i64 0, .int .i64 9] ?_; (with_reducible refine (spec_l01In.calls a0_0 0 9 false _ A2.out).mono ?_); rintro e w' ⟨rfl, ⟨nd, rfl⟩⟩; refine ⟨_, rfl, ?_⟩))
  go_ret
  exact ⟨by first | rfl | (simp [errW_none, errW_some] <;> rfl) | (simp [*, errW_none, errW_some] <;> rfl), pb HB⟩

/-! ### spec_TagNumber: function 35 -/
def spec_TagNumber.f (a0_0 : Int) (a0_1 : Int) (a0_2 : Int) : Option (Int) := (spec_TagOk.f a0_0 a0_1 a0_2).bind fun t106 => (if t106 = true then (some (wrap64 ((wrap64 ((wrap64 ((wrap64 (a0_0 * 1000)) + a0_1)) * 1000000)) + a0_2))) else (some (-1)))
set_option maxHeartbeats 8000000 in
set_option maxRecDepth 100000 in
theorem spec_TagNumber.calls (a0_0 : Int) (a0_1 : Int) (a0_2 : Int) (r : Int) (w : World) (h : spec_TagNumber.f a0_0 a0_1 a0_2 = some r) :
  Calls Tryd.prog 35 #[.agg #[.int .i64 a0_0, .int .i64 a0_1, .int .i64 a0_2]] w fun e w' => e = .returned (.int .i64 r) ∧ Below w.heap.size w w' := by
 have hu25 := Tryd.underlying25
 have HB := uD (Below.refl w.heap.size w)
 have H : ((spec_TagOk.f a0_0 a0_1 a0_2).bind fun t106 => (if t106 = true then (some (wrap64 ((wrap64 ((wrap64 ((wrap64 (a0_0 * 1000)) + a0_1)) * 1000000)) + a0_2))) else (some (-1)))) = some r := h
 clear h
 replace H := Option.bind_eq_some_iff.mp H
 obtain ⟨t106, A20, H⟩ := H
 replace H : (if t106 = true then (some (wrap64 ((wrap64 ((wrap64 ((wrap64 (a0_0 * 1000)) + a0_1)) * 1000000)) + a0_2))) else (some (-1))) = some r := H
 have A2 := uD A20
 clear A20
 by_cases c3 : t106 = true
 ·subst c3
  have H1 : (some (wrap64 ((wrap64 ((wrap64 ((wrap64 (a0_0 * 1000)) + a0_1)) * 1000000)) + a0_2))) = some r := by rw [if_pos rfl] at H; first | done | exact H
  clear H
  have H := H1
  clear H1
  obtain rfl := Option.some.inj H
  go_enter Tryd.func35, Tryd.ntmps35
  go_wp2_with (first | ((with_reducible refine gate_dst (N := 1) rfl ?_); refine bx 1 #[.int .i64 a0_0, .int .i64 a0_1, .int .i64 a0_2] 25 ?_; intro gb105 hg w4 hbox hb; have BK105 := uD (hbox); have GW105 := uD ((by rw [hg]; exact (uN (pb HB)) : w.heap.size ≤ gb105)); have GE105 := uD ((by rw [hg]; exact (uN (pb HB)) : w.heap.size ≤ gb105)); replace HB := uD (uO (pb HB) hb); clear hb hbox hg; obtain ⟨hcz5_0, hcz5_1, hcz5_2, hfz5_0, hfz5_1, hfz5_2⟩ := cz3 BK105) | ((with_reducible refine gate_callee (f := 42) rfl ?_); refine gl (some 4) Tryd.func42 #[.agg #[.int .i64 a0_0, .int .i64 a0_1, .int .i64 a0_2]] ?_; (with_reducible refine (spec_TagOk.calls a0_0 a0_1 a0_2 true _ A2.out).mono ?_); rintro e w6 ⟨rfl, hb⟩; refine ⟨_, rfl, ?_⟩; replace BK105 := uD (blk_below (pk BK105) hb); replace HB := uD (uO (pb HB) hb); (try clear hb); (try clear hb2); (try clear hk); (try clear hi); obtain ⟨hcz7_0, hcz7_1, hcz7_2, hfz7_0, hfz7_1, hfz7_2⟩ := cz3 BK105))
  go_ret
  exact ⟨by first | rfl | (simp [errW_none, errW_some] <;> rfl) | (simp [*, errW_none, errW_some] <;> rfl), pb HB⟩
 ·replace c3 := Bool.eq_false_iff.mpr c3
  subst c3
  have H1 : (some (-1)) = some r := by rw [if_neg (show ¬ (false = true) by decide)] at H; first | done | exact H
  clear H
  have H := H1
  clear H1
  obtain rfl := Option.some.inj H
  go_enter Tryd.func35, Tryd.ntmps35
  go_wp2_with (first | ((with_reducible refine gate_dst (N := 1) rfl ?_); refine bx 1 #[.int .i64 a0_0, .int .i64 a0_1, .int .i64 a0_2] 25 ?_; intro gb105 hg w8 hbox hb; have BK105 := uD (hbox); have GW105 := uD ((by rw [hg]; exact (uN (pb HB)) : w.heap.size ≤ gb105)); have GE105 := uD ((by rw [hg]; exact (uN (pb HB)) : w.heap.size ≤ gb105)); replace HB := uD (uO (pb HB) hb); clear hb hbox hg; obtain ⟨hcz9_0, hcz9_1, hcz9_2, hfz9_0, hfz9_1, hfz9_2⟩ := cz3 BK105) | ((with_reducible refine gate_callee (f := 42) rfl ?_); refine gl (some 4) Tryd.func42 #[.agg #[.int .i64 a0_0, .int .i64 a0_1, .int .i64 a0_2]] ?_; (with_reducible refine (spec_TagOk.calls a0_0 a0_1 a0_2 false _ A2.out).mono ?_); rintro e w10 ⟨rfl, hb⟩; refine ⟨_, rfl, ?_⟩; replace BK105 := uD (blk_below (pk BK105) hb); replace HB := uD (uO (pb HB) hb); (try clear hb); (try clear hb2); (try clear hk); (try clear hi)))
  go_ret
  exact ⟨by first | rfl | (simp [errW_none, errW_some] <;> rfl) | (simp [*, errW_none, errW_some] <;> rfl), pb HB⟩

/-! ### spec_l01Ten: function 43 -/
def spec_l01Ten.l0 : Nat → Int → List Int → Int → Option (ByteArray)
 | 0, _, _, _ => none
 | k + 1, x0, x3, x4 => if x4 ≥ 0 then (if 0 ≤ x4 then (if x4 < (x3.length : Int) then (spec_l01Ten.l0 k (wrap64 (Int.tdiv x0 10)) (x3.set (x4 : Int).toNat ((wrap64 (48 + (Int.tmod x0 10))) % 256)) (wrap64 (x4 - 1))) else (none)) else (none)) else (some (strOfNums x3))
def spec_l01Ten.f (k : Nat) (a0 : Int) : Option (ByteArray) := if 10 ≤ 281474976710656 then (spec_l01Ten.l0 k a0 (List.replicate 10 0) 9) else (none)
theorem spec_l01Ten.mono_l : ∀ k, (∀ y0 y1 y2, LeO (spec_l01Ten.l0 k y0 y1 y2) (spec_l01Ten.l0 (k + 1) y0 y1 y2))
 | 0 => fun _ _ _ r h => by simp [spec_l01Ten.l0] at h
 | k + 1 => by
  have ih0 := spec_l01Ten.mono_l k
  ·intro y0 y1 y2
   unfold spec_l01Ten.l0
   repeat' first
   | (with_reducible exact ih0 _ _ _)
   | (with_reducible exact LeO.refl _)
   | (with_reducible exact LeO.none _)
   | (with_reducible refine LeO.ite ?_ ?_)
   | (with_reducible refine LeO.bind ?_ (fun _ => ?_))
   | exact ih0 _ _ _
   | exact LeO.none _
   | refine LeO.ite ?_ ?_
   | refine LeO.bind ?_ (fun _ => ?_)
theorem spec_l01Ten.mono : ∀ a0 k, LeO (spec_l01Ten.f k a0) (spec_l01Ten.f (k + 1) a0) := by
 intro a0 k
 have ih0 := spec_l01Ten.mono_l k
 unfold spec_l01Ten.f
 repeat' first
   | (with_reducible exact ih0 _ _ _)
   | (with_reducible exact LeO.refl _)
   | (with_reducible exact LeO.none _)
   | (with_reducible refine LeO.ite ?_ ?_)
   | (with_reducible refine LeO.bind ?_ (fun _ => ?_))
   | exact ih0 _ _ _
   | exact LeO.none _
   | refine LeO.ite ?_ ?_
   | refine LeO.bind ?_ (fun _ => ?_)
set_option maxHeartbeats 8000000 in
set_option maxRecDepth 100000 in
theorem spec_l01Ten.calls (k : Nat) (a0 : Int) (r : ByteArray) (w : World) (h : spec_l01Ten.f k a0 = some r) :
  Calls Tryd.prog 43 #[.int .i64 a0] w fun e w' => e = .returned (.string r) ∧ Below w.heap.size w w' := by
 have HB := uD (Below.refl w.heap.size w)
 have H : (if 10 ≤ 281474976710656 then (spec_l01Ten.l0 k a0 (List.replicate 10 0) 9) else (none)) = some r := h
 clear h
 by_cases c2 : 10 ≤ 281474976710656
 ·rw [if_pos c2] at H
  have c2b0 := eq_true c2
  have c2b1 : decide (10 ≤ 281474976710656) = true := decide_eq_true c2
  clear c2
  obtain ⟨y107, hy107⟩ : ∃ y_ : List Int, y_ = (List.replicate 10 0) := ⟨_, rfl⟩
  replace H : (spec_l01Ten.l0 k a0 y107 9) = some r := by first | (rw [hy107]; with_reducible exact H) | (have H2_ := (Option.bind_some _ _).symm.trans H; rw [hy107]; with_reducible exact H2_) | (have H2_ := (Option.bind_some _ _).symm.trans H; with_reducible exact H2_) | with_reducible exact H | (rw [hy107]; exact H) | exact H
  have Ny107 := uD hy107
  clear hy107
  have H' := uD H
  clear H
  go_enter Tryd.func43, Tryd.ntmps43
  go_wp2_with (first | ((with_reducible refine gate_dst (N := 5) rfl ?_); refine Kd.R_make (Kd.int .u8) _ 5 rfl (N := 5) rfl 37 _ _ rfl 10 rfl rfl Tryd.underlying37 (.int .u8 0) 1 info5 rfl (by decide) (by omega) 0 (ok := fun _ => True) (okp := fun _ => True) rfl (fun _ hk => hk) trivial (by omega) (by omega) (Below.refl _ _) (Nat.le_refl _) ?_; intro v108 w3 ho4 hb hg_ hnew_; clear hg_ hnew_; (first | rw [← Ny107.out] at ho4 | (simp only [Int.reduceToNat] at ho4; rw [← Ny107.out] at ho4)); have HO109 := uD (Kd.R_lower ho4 (uN (pb HB))); replace HB := uD (uO (pb HB) hb); clear hb ho4))
  go_loopg [0, 4] k (fun kq v0 v4 w' => ∃ (x0_1 : Int) (x3_1 : List Int) (x4_1 : Int), v0 = .int .i64 x0_1 ∧ v4 = .int .i64 x4_1 ∧ Aside0 (spec_l01Ten.l0 kq x0_1 x3_1 x4_1 = some r) ∧ Aside0 (kq ≤ k) ∧ Aside0 (Kd.R (Kd.int .u8) 5 w' w.heap.size (fun _ => True) v108 x3_1) ∧ Aside0 (Below w.heap.size w w'))
  case atStart => exact ⟨(a0), (y107), (9), (by first | rfl | (simp; done) | (simp [*]; done)), (by first | rfl | (simp; done) | (simp [*]; done)), H', ⟨Nat.le_refl _⟩, ⟨by (with_reducible repeat (first | apply uU | apply uS | apply uT)); exact HO109.out⟩, ⟨pb HB⟩⟩
  case round =>
   clear H'
   try clear c2
   try clear c2b0
   try clear c2b1
   try clear p2
   try clear c4
   obtain ⟨x0_1, x3_1, x4_1, rfl, rfl, HA, HK1, HO_3, HB⟩ := hrel
   cases gk with
   | zero => exact absurd HA.out (by simp [spec_l01Ten.l0])
   | succ k1 =>
    have H := HA.out
    clear HA
    simp only [spec_l01Ten.l0] at H
    by_cases c5 : x4_1 ≥ 0
    ·rw [if_pos c5] at H
     have c5b0 : decide (0 ≤ x4_1) = true := decide_eq_true c5
     clear c5
     by_cases c6 : 0 ≤ x4_1
     ·rw [if_pos c6] at H
      have c6b0 : decide (0 ≤ x4_1) = true := decide_eq_true c6
      clear c6
      (try simp [c6b0] at c5b0)
      by_cases c7 : x4_1 < (x3_1.length : Int)
      ·rw [if_pos c7] at H
       have c7b0 : decide (x4_1 < (x3_1.length : Int)) = true := decide_eq_true c7
       clear c7
       obtain ⟨y110, hy110⟩ : ∃ y_ : List Int, y_ = (x3_1.set (x4_1 : Int).toNat ((wrap64 (48 + (Int.tmod x0_1 10))) % 256)) := ⟨_, rfl⟩
       replace H : (spec_l01Ten.l0 k1 (wrap64 (Int.tdiv x0_1 10)) y110 (wrap64 (x4_1 - 1))) = some r := by first | (rw [hy110]; with_reducible exact H) | (have H2_ := (Option.bind_some _ _).symm.trans H; rw [hy110]; with_reducible exact H2_) | (have H2_ := (Option.bind_some _ _).symm.trans H; with_reducible exact H2_) | with_reducible exact H | (rw [hy110]; exact H) | exact H
       have Ny110 := uD hy110
       clear hy110
       have H' := uD H
       clear H
       have p8 : 0 ≤ (x4_1 : Int) := of_decide_eq_true (by first | (with_reducible assumption) | assumption)
       have q8 : (x4_1 : Int) < ((x3_1.length : Int) : Int) := of_decide_eq_true (by first | (with_reducible assumption) | assumption)
       obtain ⟨go8, co8, eo8, gb8, gl8, cl8, HG8⟩ := Kd.R_form HO_3.out (by omega)
       (first | cases eo8 | (injection eo8 with ea_ en_ ec_; (first | subst ea_ | (injection ea_ with ea_; subst ea_)); subst ec_; clear en_))
       have GB8 := uD gb8
       have GG8 := uD HG8
       clear gb8 gl8 HG8
       obtain ⟨hx8_0, hf8_0⟩ := Kd.R_celln 0 HO_3.out (x4_1 : Int) p8 q8
       replace p8 := eq_true p8
       replace q8 := eq_true q8
       have HP9 := Kd.R_putg HO_3.out (x4_1 : Int) ((wrap64 (48 + (Int.tmod x0_1 10))) % 256)
       go_wp2_with (first | ((with_reducible refine gate_store (t := 5) (p := 16) rfl ?_); refine store_event (t := 5) (p := 16) (v := ?vo_w10) (w1 := (wr.setCell ⟨go8, (x4_1 : Int).toNat, none⟩ (.int .u8 ((wrap64 (48 + (Int.tmod x0_1 10))) % 256)))) ?hg ?ho ?hn ?hr ?_; (case ho => rfl); (case hg => rfl); (case hn => rfl); (case hr => first | (go_simp; done) | (go_simp; rfl)); intro w10 hw; have hg : wr.grownBy w10 (some go8) := (by rw [hw]; exact HP9.2); have hp_ : Kd.R (Kd.int .u8) 5 w10 w.heap.size (fun _ => True) (.slice (some ⟨go8, 0, none⟩) x3_1.length co8) y110 := (by rw [hw, Ny110.out]; exact HP9.1); clear HP9; replace HO_3 := uD (hp_); replace HB := uD ((by rw [hw]; exact uM (HB.out) GB8.out : Below w.heap.size w w10)); clear hg hw hp_))
       go_roundg k1
       case measure => have := HK1.out; omega
       case rel => exact ⟨(wrap64 (Int.tdiv x0_1 10)), (y110), (wrap64 (x4_1 - 1)), (by first | rfl | (simp; done) | (simp [*]; done)), (by first | rfl | (simp; done) | (simp [*]; done)), H', ⟨by have := HK1.out; omega⟩, ⟨by (with_reducible repeat (first | apply uU | apply uS | apply uT)); exact HO_3.out⟩, ⟨pb HB⟩⟩
      ·rw [if_neg c7] at H
       exact absurd H (by simp)
     ·rw [if_neg c6] at H
      exact absurd H (by simp)
    ·rw [if_neg c5] at H
     have c5b0 : decide (0 ≤ x4_1) = false := decide_eq_false c5
     clear c5
     obtain rfl := Option.some.inj H
     have hcv11 := own_string (P := Tryd.prog) Tryd.underlying37 Tryd.underlying5 Tryd.underlying9 (Kd.own_of_R HO_3.out)
     go_wp2
     go_ret
     exact ⟨by first | rfl | (simp [errW_none, errW_some] <;> rfl) | (simp [*, errW_none, errW_some] <;> rfl), pb HB⟩
 ·rw [if_neg c2] at H
  exact absurd H (by simp)

/-! ### spec_TagCheck: function 44 -/
def spec_TagCheck.f (a0_0 : Int) (a0_1 : Int) (a0_2 : Int) : Option (Int) := (spec_TagOk.f a0_0 a0_1 a0_2).bind fun t112 => (if t112 = true then ((spec_TagNumber.f a0_0 a0_1 a0_2).bind fun t113 => (some (Int.tmod t113 7))) else (some (-1)))
set_option maxHeartbeats 8000000 in
set_option maxRecDepth 100000 in
theorem spec_TagCheck.calls (a0_0 : Int) (a0_1 : Int) (a0_2 : Int) (r : Int) (w : World) (h : spec_TagCheck.f a0_0 a0_1 a0_2 = some r) :
  Calls Tryd.prog 44 #[.agg #[.int .i64 a0_0, .int .i64 a0_1, .int .i64 a0_2]] w fun e w' => e = .returned (.int .i64 r) ∧ Below w.heap.size w w' := by
 have hu25 := Tryd.underlying25
 have HB := uD (Below.refl w.heap.size w)
 have H : ((spec_TagOk.f a0_0 a0_1 a0_2).bind fun t112 => (if t112 = true then ((spec_TagNumber.f a0_0 a0_1 a0_2).bind fun t113 => (some (Int.tmod t113 7))) else (some (-1)))) = some r := h
 clear h
 replace H := Option.bind_eq_some_iff.mp H
 obtain ⟨t112, A20, H⟩ := H
 replace H : (if t112 = true then ((spec_TagNumber.f a0_0 a0_1 a0_2).bind fun t113 => (some (Int.tmod t113 7))) else (some (-1))) = some r := H
 have A2 := uD A20
 clear A20
 by_cases c3 : t112 = true
 ·subst c3
  have H1 : ((spec_TagNumber.f a0_0 a0_1 a0_2).bind fun t113 => (some (Int.tmod t113 7))) = some r := by rw [if_pos rfl] at H; first | done | exact H
  clear H
  have H := H1
  clear H1
  replace H := Option.bind_eq_some_iff.mp H
  obtain ⟨t113, A40, H⟩ := H
  replace H : (some (Int.tmod t113 7)) = some r := H
  have A4 := uD A40
  clear A40
  obtain rfl := Option.some.inj H
  go_enter Tryd.func44, Tryd.ntmps44
  go_wp2_with (first | ((with_reducible refine gate_dst (N := 1) rfl ?_); refine bx 1 #[.int .i64 a0_0, .int .i64 a0_1, .int .i64 a0_2] 25 ?_; intro gb111 hg w5 hbox hb; have BK111 := uD (hbox); have GW111 := uD ((by rw [hg]; exact (uN (pb HB)) : w.heap.size ≤ gb111)); have GE111 := uD ((by rw [hg]; exact (uN (pb HB)) : w.heap.size ≤ gb111)); replace HB := uD (uO (pb HB) hb); clear hb hbox hg; obtain ⟨hcz6_0, hcz6_1, hcz6_2, hfz6_0, hfz6_1, hfz6_2⟩ := cz3 BK111) | ((with_reducible refine gate_callee (f := 42) rfl ?_); refine gl (some 4) Tryd.func42 #[.agg #[.int .i64 a0_0, .int .i64 a0_1, .int .i64 a0_2]] ?_; (with_reducible refine (spec_TagOk.calls a0_0 a0_1 a0_2 true _ A2.out).mono ?_); rintro e w7 ⟨rfl, hb⟩; refine ⟨_, rfl, ?_⟩; replace BK111 := uD (blk_below (pk BK111) hb); replace HB := uD (uO (pb HB) hb); (try clear hb); (try clear hb2); (try clear hk); (try clear hi); obtain ⟨hcz8_0, hcz8_1, hcz8_2, hfz8_0, hfz8_1, hfz8_2⟩ := cz3 BK111) | ((with_reducible refine gate_callee (f := 35) rfl ?_); refine gl (some 7) Tryd.func35 #[.agg #[.int .i64 a0_0, .int .i64 a0_1, .int .i64 a0_2]] ?_; (with_reducible refine (spec_TagNumber.calls a0_0 a0_1 a0_2 t113 _ A4.out).mono ?_); rintro e w9 ⟨rfl, hb⟩; refine ⟨_, rfl, ?_⟩; replace BK111 := uD (blk_below (pk BK111) hb); replace HB := uD (uO (pb HB) hb); (try clear hb); (try clear hb2); (try clear hk); (try clear hi)))
  go_ret
  exact ⟨by first | rfl | (simp [errW_none, errW_some] <;> rfl) | (simp [*, errW_none, errW_some] <;> rfl), pb HB⟩
 ·replace c3 := Bool.eq_false_iff.mpr c3
  subst c3
  have H1 : (some (-1)) = some r := by rw [if_neg (show ¬ (false = true) by decide)] at H; first | done | exact H
  clear H
  have H := H1
  clear H1
  obtain rfl := Option.some.inj H
  go_enter Tryd.func44, Tryd.ntmps44
  go_wp2_with (first | ((with_reducible refine gate_dst (N := 1) rfl ?_); refine bx 1 #[.int .i64 a0_0, .int .i64 a0_1, .int .i64 a0_2] 25 ?_; intro gb111 hg w10 hbox hb; have BK111 := uD (hbox); have GW111 := uD ((by rw [hg]; exact (uN (pb HB)) : w.heap.size ≤ gb111)); have GE111 := uD ((by rw [hg]; exact (uN (pb HB)) : w.heap.size ≤ gb111)); replace HB := uD (uO (pb HB) hb); clear hb hbox hg; obtain ⟨hcz11_0, hcz11_1, hcz11_2, hfz11_0, hfz11_1, hfz11_2⟩ := cz3 BK111) | ((with_reducible refine gate_callee (f := 42) rfl ?_); refine gl (some 4) Tryd.func42 #[.agg #[.int .i64 a0_0, .int .i64 a0_1, .int .i64 a0_2]] ?_; (with_reducible refine (spec_TagOk.calls a0_0 a0_1 a0_2 false _ A2.out).mono ?_); rintro e w12 ⟨rfl, hb⟩; refine ⟨_, rfl, ?_⟩; replace BK111 := uD (blk_below (pk BK111) hb); replace HB := uD (uO (pb HB) hb); (try clear hb); (try clear hb2); (try clear hk); (try clear hi)))
  go_ret
  exact ⟨by first | rfl | (simp [errW_none, errW_some] <;> rfl) | (simp [*, errW_none, errW_some] <;> rfl), pb HB⟩

/-! ### spec_FormatTag: function 12 -/
def spec_FormatTag.f (k : Nat) (a0_0 : Int) (a0_1 : Int) (a0_2 : Int) : Option (ByteArray) := (spec_TagOk.f a0_0 a0_1 a0_2).bind fun t115 => (if t115 = true then ((spec_TagNumber.f a0_0 a0_1 a0_2).bind fun t116 => ((spec_l01Ten.f k t116).bind fun t117 => (if t117.size + 1 ≤ 9223372036854775807 then ((spec_TagCheck.f a0_0 a0_1 a0_2).bind fun t118 => ((some (([(wrap64 (48 + t118)) % 256] : List Int) : List Int)).bind fun y119 => (if (t117 ++ (⟨#[45]⟩ : ByteArray)).size + (strOfNums y119).size ≤ 9223372036854775807 then (some ((t117 ++ (⟨#[45]⟩ : ByteArray)) ++ (strOfNums y119))) else (none)))) else (none)))) else (some (⟨#[]⟩ : ByteArray)))
theorem spec_FormatTag.mono : ∀ a0 a1 a2 k, LeO (spec_FormatTag.f k a0 a1 a2) (spec_FormatTag.f (k + 1) a0 a1 a2) := by
 intro a0 a1 a2 k
 unfold spec_FormatTag.f
 repeat' first
   | (with_reducible exact spec_l01Ten.mono _ _)
   | (with_reducible exact LeO.refl _)
   | (with_reducible exact LeO.none _)
   | (with_reducible refine LeO.ite ?_ ?_)
   | (with_reducible refine LeO.bind ?_ (fun _ => ?_))
   | exact spec_l01Ten.mono _ _
   | exact LeO.none _
   | refine LeO.ite ?_ ?_
   | refine LeO.bind ?_ (fun _ => ?_)
def spec_FormatTag.T3 : Bool × List (List Nat × List Nat) := (true, [([], []), ([0], [0]), ([1, 1], [1]), ([2], [2]), ([], []), ([4, 2], [4]), ([5], [5]), ([6], [6]), ([7], [7]), ([8], [8]), ([3, 9], [3, 9]), ([10, 5, 0, 1, 2, 3, 4, 5, 6, 7, 8, 9, 10], [10])])
def spec_FormatTag.B3 : List Nat := [0, 1, 3, 7, 0, 23, 55, 119, 247, 503, 1023, 2047]
theorem spec_FormatTag.tab3 : rtab .any (opsOf Tryd.f12 3) = spec_FormatTag.T3 := by kernel_rfl
theorem spec_FormatTag.bits3 : waitsOk spec_FormatTag.T3.2 spec_FormatTag.B3 = true := by kernel_rfl
set_option maxHeartbeats 8000000 in
set_option maxRecDepth 100000 in
theorem spec_FormatTag.calls (k : Nat) (a0_0 : Int) (a0_1 : Int) (a0_2 : Int) (r : ByteArray) (w : World) (h : spec_FormatTag.f k a0_0 a0_1 a0_2 = some r) :
  Calls Tryd.prog 12 #[.agg #[.int .i64 a0_0, .int .i64 a0_1, .int .i64 a0_2]] w fun e w' => e = .returned (.string r) ∧ Below w.heap.size w w' := by
 have hu25 := Tryd.underlying25
 have HB := uD (Below.refl w.heap.size w)
 have H : ((spec_TagOk.f a0_0 a0_1 a0_2).bind fun t115 => (if t115 = true then ((spec_TagNumber.f a0_0 a0_1 a0_2).bind fun t116 => ((spec_l01Ten.f k t116).bind fun t117 => (if t117.size + 1 ≤ 9223372036854775807 then ((spec_TagCheck.f a0_0 a0_1 a0_2).bind fun t118 => ((some (([(wrap64 (48 + t118)) % 256] : List Int) : List Int)).bind fun y119 => (if (t117 ++ (⟨#[45]⟩ : ByteArray)).size + (strOfNums y119).size ≤ 9223372036854775807 then (some ((t117 ++ (⟨#[45]⟩ : ByteArray)) ++ (strOfNums y119))) else (none)))) else (none)))) else (some (⟨#[]⟩ : ByteArray)))) = some r := h
 clear h
 replace H := Option.bind_eq_some_iff.mp H
 obtain ⟨t115, A20, H⟩ := H
 replace H : (if t115 = true then ((spec_TagNumber.f a0_0 a0_1 a0_2).bind fun t116 => ((spec_l01Ten.f k t116).bind fun t117 => (if t117.size + 1 ≤ 9223372036854775807 then ((spec_TagCheck.f a0_0 a0_1 a0_2).bind fun t118 => ((some (([(wrap64 (48 + t118)) % 256] : List Int) : List Int)).bind fun y119 => (if (t117 ++ (⟨#[45]⟩ : ByteArray)).size + (strOfNums y119).size ≤ 9223372036854775807 then (some ((t117 ++ (⟨#[45]⟩ : ByteArray)) ++ (strOfNums y119))) else (none)))) else (none)))) else (some (⟨#[]⟩ : ByteArray))) = some r := H
 have A2 := uD A20
 clear A20
 by_cases c3 : t115 = true
 ·subst c3
  have H1 : ((spec_TagNumber.f a0_0 a0_1 a0_2).bind fun t116 => ((spec_l01Ten.f k t116).bind fun t117 => (if t117.size + 1 ≤ 9223372036854775807 then ((spec_TagCheck.f a0_0 a0_1 a0_2).bind fun t118 => ((some (([(wrap64 (48 + t118)) % 256] : List Int) : List Int)).bind fun y119 => (if (t117 ++ (⟨#[45]⟩ : ByteArray)).size + (strOfNums y119).size ≤ 9223372036854775807 then (some ((t117 ++ (⟨#[45]⟩ : ByteArray)) ++ (strOfNums y119))) else (none)))) else (none)))) = some r := by rw [if_pos rfl] at H; first | done | exact H
  clear H
  have H := H1
  clear H1
  replace H := Option.bind_eq_some_iff.mp H
  obtain ⟨t116, A40, H⟩ := H
  replace H : ((spec_l01Ten.f k t116).bind fun t117 => (if t117.size + 1 ≤ 9223372036854775807 then ((spec_TagCheck.f a0_0 a0_1 a0_2).bind fun t118 => ((some (([(wrap64 (48 + t118)) % 256] : List Int) : List Int)).bind fun y119 => (if (t117 ++ (⟨#[45]⟩ : ByteArray)).size + (strOfNums y119).size ≤ 9223372036854775807 then (some ((t117 ++ (⟨#[45]⟩ : ByteArray)) ++ (strOfNums y119))) else (none)))) else (none))) = some r := H
  have A4 := uD A40
  clear A40
  replace H := Option.bind_eq_some_iff.mp H
  obtain ⟨t117, A50, H⟩ := H
  replace H : (if t117.size + 1 ≤ 9223372036854775807 then ((spec_TagCheck.f a0_0 a0_1 a0_2).bind fun t118 => ((some (([(wrap64 (48 + t118)) % 256] : List Int) : List Int)).bind fun y119 => (if (t117 ++ (⟨#[45]⟩ : ByteArray)).size + (strOfNums y119).size ≤ 9223372036854775807 then (some ((t117 ++ (⟨#[45]⟩ : ByteArray)) ++ (strOfNums y119))) else (none)))) else (none)) = some r := H
  have A5 := uD A50
  clear A50
  by_cases c6 : t117.size + 1 ≤ 9223372036854775807
  ·rw [if_pos c6] at H
   have c6b0 := eq_true c6
   have c6b1 : decide (t117.size + 1 ≤ 9223372036854775807) = true := decide_eq_true c6
   try have c6b2 : (9223372036854775807 < t117.size + 1) = False := eq_false (Nat.not_lt.2 c6)
   replace H := Option.bind_eq_some_iff.mp H
   obtain ⟨t118, A70, H⟩ := H
   replace H : ((some (([(wrap64 (48 + t118)) % 256] : List Int) : List Int)).bind fun y119 => (if (t117 ++ (⟨#[45]⟩ : ByteArray)).size + (strOfNums y119).size ≤ 9223372036854775807 then (some ((t117 ++ (⟨#[45]⟩ : ByteArray)) ++ (strOfNums y119))) else (none))) = some r := H
   have A7 := uD A70
   clear A70
   obtain ⟨y119, hy119⟩ : ∃ y_ : List Int, y_ = (([(wrap64 (48 + t118)) % 256] : List Int)) := ⟨_, rfl⟩
   replace H : (if (t117 ++ (⟨#[45]⟩ : ByteArray)).size + (strOfNums y119).size ≤ 9223372036854775807 then (some ((t117 ++ (⟨#[45]⟩ : ByteArray)) ++ (strOfNums y119))) else (none)) = some r := by first | (rw [hy119]; with_reducible exact H) | (have H2_ := (Option.bind_some _ _).symm.trans H; rw [hy119]; with_reducible exact H2_) | (have H2_ := (Option.bind_some _ _).symm.trans H; with_reducible exact H2_) | with_reducible exact H | (rw [hy119]; exact H) | exact H
   have Ny119 := uD hy119
   clear hy119
   by_cases c8 : (t117 ++ (⟨#[45]⟩ : ByteArray)).size + (strOfNums y119).size ≤ 9223372036854775807
   ·rw [if_pos c8] at H
    have c8b0 := eq_true c8
    have c8b1 : decide ((t117 ++ (⟨#[45]⟩ : ByteArray)).size + (strOfNums y119).size ≤ 9223372036854775807) = true := decide_eq_true c8
    try have c8b2 : (9223372036854775807 < (t117 ++ (⟨#[45]⟩ : ByteArray)).size + (strOfNums y119).size) = False := eq_false (Nat.not_lt.2 c8)
    (try simp only [ByteArray.size_append, one_sz] at c8b0 c8b1 c8b2)
    obtain rfl := Option.some.inj H
    go_enter Tryd.func12, Tryd.ntmps12
    try go_wp2_with (first | ((with_reducible refine gate_dst (N := 1) rfl ?_); refine bx 1 #[.int .i64 a0_0, .int .i64 a0_1, .int .i64 a0_2] 25 ?_; intro gb114 hg w9 hbox hb; have BK114 := uD (hbox); have GW114 := uD ((by rw [hg]; exact (uN (pb HB)) : w.heap.size ≤ gb114)); have GE114 := uD ((by rw [hg]; exact (uN (pb HB)) : w.heap.size ≤ gb114)); replace HB := uD (uO (pb HB) hb); clear hb hbox hg; obtain ⟨hcz10_0, hcz10_1, hcz10_2, hfz10_0, hfz10_1, hfz10_2⟩ := cz3 BK114) | ((with_reducible refine gate_callee (f := 42) rfl ?_); refine gl (some 4) Tryd.func42 #[.agg #[.int .i64 a0_0, .int .i64 a0_1, .int .i64 a0_2]] ?_; (with_reducible refine (spec_TagOk.calls a0_0 a0_1 a0_2 true _ A2.out).mono ?_); rintro e w11 ⟨rfl, hb⟩; refine ⟨_, rfl, ?_⟩; replace BK114 := uD (blk_below (pk BK114) hb); replace HB := uD (uO (pb HB) hb); (try clear hb); (try clear hb2); (try clear hk); (try clear hi)))
    replace BK114 := uD (uJ BK114.out)
    replace HB := uD (uK HB.out)
    refine start_ (n := 12) (S := fun w' => w'.cell? ⟨gb114, 0, none⟩ = some (.int .i64 a0_0) ∧ w'.cell? ⟨gb114, 1, none⟩ = some (.int .i64 a0_1) ∧ w'.cell? ⟨gb114, 2, none⟩ = some (.int .i64 a0_2)) (ds := []) #[F,F,F,F,F,F,F,F,F,F,F,F] (by kernel_rfl) rfl rfl ⟨(uF BK114.out 0).trans rfl, (uF BK114.out 1).trans rfl, (uF BK114.out 2).trans rfl⟩ (fun hHeld => ?_); refine with_tabW spec_FormatTag.tab3 spec_FormatTag.bits3 (fun HT_ HW_ => ?_)
    generalize w11.drew = w12 at BK114 HB hHeld ⊢
    refine tk 0 (some 6) #[T,F,F,F,F,F,F,F,F,F,F,F] HT_ HW_ hHeld ?_
    refine tk 4 (some 10) #[T,F,F,F,T,F,F,F,F,F,F,F] HT_ HW_ hHeld ?_
    refine one_ (i := 1) (N := some 7) #[T,T,F,F,T,F,F,F,F,F,F,F] rfl rfl (one_of HT_.out (by kernel_rfl)) (by decide) (fun K hK => ?_)
    refine goes_ Tryd.func35 (by kernel_rfl) rfl #[.agg #[.int .i64 a0_0, .int .i64 a0_1, .int .i64 a0_2]] (by rfl) rfl rfl (by (try simp only [List.map_toArray, List.map_cons, List.map_nil]); first | done | rfl | (simp only [List.length_drop, List.length_take]; rfl)) ?_
    with_reducible refine (spec_TagNumber.calls a0_0 a0_1 a0_2 t116 _ A4.out).mono ?_
    rintro e w13 ⟨rfl, hb⟩
    refine ⟨_, rfl, ?_⟩
    replace BK114 := uD (blk_below (pk BK114) hb)
    replace HB := uD (uO (pb HB) hb)
    (try clear hb)
    (try clear hb2)
    (try clear hk)
    (try clear hi)
    refine hK.out _ _ ⟨(uF BK114.out 0).trans rfl, (uF BK114.out 1).trans rfl, (uF BK114.out 2).trans rfl⟩ (fun hHeld => ?_)
    clear hK K
    refine norm_ (a' := ?_) ?_ ?_
    rotate_left
    ·show uc _ (some 7) _ = _
     simp only [uc, uA, uB, uC, uZ, ua]
     rfl
    refine one_ (i := 2) (N := some 8) #[T,T,T,F,T,F,F,F,F,F,F,F] rfl rfl (one_of HT_.out (by kernel_rfl)) (by decide) (fun K hK => ?_)
    refine goes_ Tryd.func43 (by kernel_rfl) rfl #[.int .i64 t116] (by rfl) rfl rfl (by (try simp only [List.map_toArray, List.map_cons, List.map_nil]); first | done | rfl | (simp only [List.length_drop, List.length_take]; rfl)) ?_
    with_reducible refine (spec_l01Ten.calls k t116 t117 _ A5.out).mono ?_
    rintro e w14 ⟨rfl, hb⟩
    refine ⟨_, rfl, ?_⟩
    replace BK114 := uD (blk_below (pk BK114) hb)
    replace HB := uD (uO (pb HB) hb)
    (try clear hb)
    (try clear hb2)
    (try clear hk)
    (try clear hi)
    refine hK.out _ _ ⟨(uF BK114.out 0).trans rfl, (uF BK114.out 1).trans rfl, (uF BK114.out 2).trans rfl⟩ (fun hHeld => ?_)
    clear hK K
    refine norm_ (a' := ?_) ?_ ?_
    rotate_left
    ·show uc _ (some 8) _ = _
     simp only [uc, uA, uB, uC, uZ, ua]
     rfl
    refine pu 3 (some 9) #[T,T,T,T,T,F,F,F,F,F,F,F] HT_ ?_
    refine one_ (i := 5) (N := some 11) #[T,T,T,T,T,T,F,F,F,F,F,F] rfl rfl (one_of HT_.out (by kernel_rfl)) (by decide) (fun K hK => ?_)
    refine goes_ Tryd.func44 (by kernel_rfl) rfl #[.agg #[.int .i64 a0_0, .int .i64 a0_1, .int .i64 a0_2]] (by rfl) rfl rfl (by (try simp only [List.map_toArray, List.map_cons, List.map_nil]); first | done | rfl | (simp only [List.length_drop, List.length_take]; rfl)) ?_
    with_reducible refine (spec_TagCheck.calls a0_0 a0_1 a0_2 t118 _ A7.out).mono ?_
    rintro e w15 ⟨rfl, hb⟩
    refine ⟨_, rfl, ?_⟩
    replace BK114 := uD (blk_below (pk BK114) hb)
    replace HB := uD (uO (pb HB) hb)
    (try clear hb)
    (try clear hb2)
    (try clear hk)
    (try clear hi)
    refine hK.out _ _ ⟨(uF BK114.out 0).trans rfl, (uF BK114.out 1).trans rfl, (uF BK114.out 2).trans rfl⟩ (fun hHeld => ?_)
    clear hK K
    refine norm_ (a' := ?_) ?_ ?_
    rotate_left
    ·show uc _ (some 11) _ = _
     simp only [uc, uA, uB, uC, uZ, ua]
     rfl
    refine pu 6 (some 12) #[T,T,T,T,T,T,T,F,F,F,F,F] HT_ ?_
    refine pu 7 (some 13) #[T,T,T,T,T,T,T,T,F,F,F,F] HT_ ?_
    refine one_ (i := 8) (N := some 14) #[T,T,T,T,T,T,T,T,T,F,F,F] rfl rfl (one_of HT_.out (by kernel_rfl)) (by decide) (fun K hK => ?_)
    refine Kd.R_lit_step (Kd.int .u8) _ 5 ?hg (N := 14) ?hd (xs := ([(wrap64 (48 + t118)) % 256] : List Int)) (inner := [.int .u8 ((wrap64 (48 + t118)) % 256)]) (ok := fun _ => True) (okp := fun _ => True) ?hr ?hp (fun _ hk => hk) trivial (Below.refl _ _) (Nat.le_refl _) (by simp) ?_; (case hd => rfl); (case hg => rfl); (case hr => first | (go_simp; done) | (go_simp; rfl)); (case hp => exact (Reps.one (show Kd.M (Kd.int .u8) _ _ _ ((wrap64 (48 + t118)) % 256) [.int .u8 ((wrap64 (48 + t118)) % 256)] from rfl) (Reps.none _ _)))
    intro v120 w16 ho17 hb hg_ hnew_
    clear hg_ hnew_
    (first | rw [← Ny119.out] at ho17 | (simp only [Int.reduceToNat] at ho17; rw [← Ny119.out] at ho17))
    have HO121 := uD (Kd.R_lower ho17 (uN (pb HB)))
    replace BK114 := uD (blk_below (pk BK114) hb)
    replace HB := uD (uO (pb HB) hb)
    clear hb ho17
    refine hK.out _ _ ⟨(uF BK114.out 0).trans rfl, (uF BK114.out 1).trans rfl, (uF BK114.out 2).trans rfl⟩ (fun hHeld => ?_)
    clear hK K
    refine norm_ (a' := ?_) ?_ ?_
    rotate_left
    ·show uc _ (some 14) _ = _
     simp only [uc, uA, uB, uC, uZ, ua]
     rfl
    refine one_ (i := 9) (N := some 15) #[T,T,T,T,T,T,T,T,T,T,F,F] rfl rfl (one_of HT_.out (by kernel_rfl)) (by decide) (fun K hK => ?_)
    have hcv18 := own_string (P := Tryd.prog) Tryd.underlying37 Tryd.underlying5 Tryd.underlying9 (Kd.own_of_R HO121.out)
    refine value_ (w1 := ?_) (v := ?_) (by rfl) rfl ?_ ?_
    rotate_left 2
    ·go_simp
     constructor
     ·rfl
     ·rfl
    clear hcv18
    refine hK.out _ _ ⟨(uF BK114.out 0).trans rfl, (uF BK114.out 1).trans rfl, (uF BK114.out 2).trans rfl⟩ (fun hHeld => ?_)
    clear hK K
    refine norm_ (a' := ?_) ?_ ?_
    rotate_left
    ·show uc _ (some 15) _ = _
     simp only [uc, uA, uB, uC, uZ, ua]
     rfl
    refine pu 10 (some 16) #[T,T,T,T,T,T,T,T,T,T,T,F] HT_ ?_
    refine pu 11 (some 2) #[T,T,T,T,T,T,T,T,T,T,T,T] HT_ ?_
    refine done_ (done_of HT_.out (by kernel_rfl)) ?_
    try go_wp2
    go_ret
    exact ⟨by first | rfl | (simp [errW_none, errW_some] <;> rfl) | (simp [*, errW_none, errW_some] <;> rfl), pb HB⟩
   ·rw [if_neg c8] at H
    exact absurd H (by simp)
  ·rw [if_neg c6] at H
   exact absurd H (by simp)
 ·replace c3 := Bool.eq_false_iff.mpr c3
  subst c3
  have H1 : (some (⟨#[]⟩ : ByteArray)) = some r := by rw [if_neg (show ¬ (false = true) by decide)] at H; first | done | exact H
  clear H
  have H := H1
  clear H1
  obtain rfl := Option.some.inj H
  go_enter Tryd.func12, Tryd.ntmps12
  go_wp2_with (first | ((with_reducible refine gate_dst (N := 1) rfl ?_); refine bx 1 #[.int .i64 a0_0, .int .i64 a0_1, .int .i64 a0_2] 25 ?_; intro gb114 hg w19 hbox hb; have BK114 := uD (hbox); have GW114 := uD ((by rw [hg]; exact (uN (pb HB)) : w.heap.size ≤ gb114)); have GE114 := uD ((by rw [hg]; exact (uN (pb HB)) : w.heap.size ≤ gb114)); replace HB := uD (uO (pb HB) hb); clear hb hbox hg; obtain ⟨hcz20_0, hcz20_1, hcz20_2, hfz20_0, hfz20_1, hfz20_2⟩ := cz3 BK114) | ((with_reducible refine gate_callee (f := 42) rfl ?_); refine gl (some 4) Tryd.func42 #[.agg #[.int .i64 a0_0, .int .i64 a0_1, .int .i64 a0_2]] ?_; (with_reducible refine (spec_TagOk.calls a0_0 a0_1 a0_2 false _ A2.out).mono ?_); rintro e w21 ⟨rfl, hb⟩; refine ⟨_, rfl, ?_⟩; replace BK114 := uD (blk_below (pk BK114) hb); replace HB := uD (uO (pb HB) hb); (try clear hb); (try clear hb2); (try clear hk); (try clear hi)))
  go_ret
  exact ⟨by first | rfl | (simp [errW_none, errW_some] <;> rfl) | (simp [*, errW_none, errW_some] <;> rfl), pb HB⟩

/-! ### impl_TagOk: function 33 -/
def impl_TagOk.f (a0_0 : Int) (a0_1 : Int) (a0_2 : Int) : Option (Bool) := if a0_0 ≥ 0 then (if a0_0 ≤ 9 then (if a0_1 ≥ 1 then (if a0_1 ≤ 999 then (if a0_2 ≥ 0 then (some (decide (a0_2 ≤ 999999))) else (some false)) else (some false)) else (some false)) else (some false)) else (some false)
set_option maxHeartbeats 8000000 in
set_option maxRecDepth 100000 in
theorem impl_TagOk.calls (a0_0 : Int) (a0_1 : Int) (a0_2 : Int) (r : Bool) (w : World) (h : impl_TagOk.f a0_0 a0_1 a0_2 = some r) :
  Calls Tryd.prog 33 #[.agg #[.int .i64 a0_0, .int .i64 a0_1, .int .i64 a0_2]] w fun e w' => e = .returned (.bool r) ∧ Below w.heap.size w w' := by
 have hu25 := Tryd.underlying25
 have HB := uD (Below.refl w.heap.size w)
 have H : (if a0_0 ≥ 0 then (if a0_0 ≤ 9 then (if a0_1 ≥ 1 then (if a0_1 ≤ 999 then (if a0_2 ≥ 0 then (some (decide (a0_2 ≤ 999999))) else (some false)) else (some false)) else (some false)) else (some false)) else (some false)) = some r := h
 clear h
 by_cases c2 : a0_0 ≥ 0
 ·rw [if_pos c2] at H
  have c2b0 : decide (0 ≤ a0_0) = true := decide_eq_true c2
  clear c2
  by_cases c3 : a0_0 ≤ 9
  ·rw [if_pos c3] at H
   have c3b0 : decide (a0_0 ≤ 9) = true := decide_eq_true c3
   clear c3
   by_cases c4 : a0_1 ≥ 1
   ·rw [if_pos c4] at H
    have c4b0 : decide (1 ≤ a0_1) = true := decide_eq_true c4
    clear c4
    by_cases c5 : a0_1 ≤ 999
    ·rw [if_pos c5] at H
     have c5b0 : decide (a0_1 ≤ 999) = true := decide_eq_true c5
     clear c5
     by_cases c6 : a0_2 ≥ 0
     ·rw [if_pos c6] at H
      have c6b0 : decide (0 ≤ a0_2) = true := decide_eq_true c6
      clear c6
      obtain rfl := Option.some.inj H
      go_enter Tryd.func33, Tryd.ntmps33
      go_wp2_with (first | ((with_reducible refine gate_dst (N := 1) rfl ?_); refine bx 1 #[.int .i64 a0_0, .int .i64 a0_1, .int .i64 a0_2] 25 ?_; intro gb122 hg w7 hbox hb; have BK122 := uD (hbox); have GW122 := uD ((by rw [hg]; exact (uN (pb HB)) : w.heap.size ≤ gb122)); have GE122 := uD ((by rw [hg]; exact (uN (pb HB)) : w.heap.size ≤ gb122)); replace HB := uD (uO (pb HB) hb); clear hb hbox hg; obtain ⟨hcz8_0, hcz8_1, hcz8_2, hfz8_0, hfz8_1, hfz8_2⟩ := cz3 BK122))
      go_ret
      exact ⟨by first | rfl | (simp [errW_none, errW_some] <;> rfl) | (simp [*, errW_none, errW_some] <;> rfl), pb HB⟩
     ·rw [if_neg c6] at H
      have c6b0 : decide (0 ≤ a0_2) = false := decide_eq_false c6
      clear c6
      obtain rfl := Option.some.inj H
      go_enter Tryd.func33, Tryd.ntmps33
      go_wp2_with (first | ((with_reducible refine gate_dst (N := 1) rfl ?_); refine bx 1 #[.int .i64 a0_0, .int .i64 a0_1, .int .i64 a0_2] 25 ?_; intro gb122 hg w9 hbox hb; have BK122 := uD (hbox); have GW122 := uD ((by rw [hg]; exact (uN (pb HB)) : w.heap.size ≤ gb122)); have GE122 := uD ((by rw [hg]; exact (uN (pb HB)) : w.heap.size ≤ gb122)); replace HB := uD (uO (pb HB) hb); clear hb hbox hg; obtain ⟨hcz10_0, hcz10_1, hcz10_2, hfz10_0, hfz10_1, hfz10_2⟩ := cz3 BK122))
      go_ret
      exact ⟨by first | rfl | (simp [errW_none, errW_some] <;> rfl) | (simp [*, errW_none, errW_some] <;> rfl), pb HB⟩
    ·rw [if_neg c5] at H
     have c5b0 : decide (a0_1 ≤ 999) = false := decide_eq_false c5
     clear c5
     obtain rfl := Option.some.inj H
     go_enter Tryd.func33, Tryd.ntmps33
     go_wp2_with (first | ((with_reducible refine gate_dst (N := 1) rfl ?_); refine bx 1 #[.int .i64 a0_0, .int .i64 a0_1, .int .i64 a0_2] 25 ?_; intro gb122 hg w11 hbox hb; have BK122 := uD (hbox); have GW122 := uD ((by rw [hg]; exact (uN (pb HB)) : w.heap.size ≤ gb122)); have GE122 := uD ((by rw [hg]; exact (uN (pb HB)) : w.heap.size ≤ gb122)); replace HB := uD (uO (pb HB) hb); clear hb hbox hg; obtain ⟨hcz12_0, hcz12_1, hcz12_2, hfz12_0, hfz12_1, hfz12_2⟩ := cz3 BK122))
     go_ret
     exact ⟨by first | rfl | (simp [errW_none, errW_some] <;> rfl) | (simp [*, errW_none, errW_some] <;> rfl), pb HB⟩
   ·rw [if_neg c4] at H
    have c4b0 : decide (1 ≤ a0_1) = false := decide_eq_false c4
    clear c4
    obtain rfl := Option.some.inj H
    go_enter Tryd.func33, Tryd.ntmps33
    go_wp2_with (first | ((with_reducible refine gate_dst (N := 1) rfl ?_); refine bx 1 #[.int .i64 a0_0, .int .i64 a0_1, .int .i64 a0_2] 25 ?_; intro gb122 hg w13 hbox hb; have BK122 := uD (hbox); have GW122 := uD ((by rw [hg]; exact (uN (pb HB)) : w.heap.size ≤ gb122)); have GE122 := uD ((by rw [hg]; exact (uN (pb HB)) : w.heap.size ≤ gb122)); replace HB := uD (uO (pb HB) hb); clear hb hbox hg; obtain ⟨hcz14_0, hcz14_1, hcz14_2, hfz14_0, hfz14_1, hfz14_2⟩ := cz3 BK122))
    go_ret
    exact ⟨by first | rfl | (simp [errW_none, errW_some] <;> rfl) | (simp [*, errW_none, errW_some] <;> rfl), pb HB⟩
  ·rw [if_neg c3] at H
   have c3b0 : decide (a0_0 ≤ 9) = false := decide_eq_false c3
   clear c3
   obtain rfl := Option.some.inj H
   go_enter Tryd.func33, Tryd.ntmps33
   go_wp2_with (first | ((with_reducible refine gate_dst (N := 1) rfl ?_); refine bx 1 #[.int .i64 a0_0, .int .i64 a0_1, .int .i64 a0_2] 25 ?_; intro gb122 hg w15 hbox hb; have BK122 := uD (hbox); have GW122 := uD ((by rw [hg]; exact (uN (pb HB)) : w.heap.size ≤ gb122)); have GE122 := uD ((by rw [hg]; exact (uN (pb HB)) : w.heap.size ≤ gb122)); replace HB := uD (uO (pb HB) hb); clear hb hbox hg; obtain ⟨hcz16_0, hcz16_1, hcz16_2, hfz16_0, hfz16_1, hfz16_2⟩ := cz3 BK122))
   go_ret
   exact ⟨by first | rfl | (simp [errW_none, errW_some] <;> rfl) | (simp [*, errW_none, errW_some] <;> rfl), pb HB⟩
 ·rw [if_neg c2] at H
  have c2b0 : decide (0 ≤ a0_0) = false := decide_eq_false c2
  clear c2
  obtain rfl := Option.some.inj H
  go_enter Tryd.func33, Tryd.ntmps33
  go_wp2_with (first | ((with_reducible refine gate_dst (N := 1) rfl ?_); refine bx 1 #[.int .i64 a0_0, .int .i64 a0_1, .int .i64 a0_2] 25 ?_; intro gb122 hg w17 hbox hb; have BK122 := uD (hbox); have GW122 := uD ((by rw [hg]; exact (uN (pb HB)) : w.heap.size ≤ gb122)); have GE122 := uD ((by rw [hg]; exact (uN (pb HB)) : w.heap.size ≤ gb122)); replace HB := uD (uO (pb HB) hb); clear hb hbox hg; obtain ⟨hcz18_0, hcz18_1, hcz18_2, hfz18_0, hfz18_1, hfz18_2⟩ := cz3 BK122))
  go_ret
  exact ⟨by first | rfl | (simp [errW_none, errW_some] <;> rfl) | (simp [*, errW_none, errW_some] <;> rfl), pb HB⟩

/-! ### impl_TagNumber: function 28 -/
def impl_TagNumber.f (a0_0 : Int) (a0_1 : Int) (a0_2 : Int) : Option (Int) := (impl_TagOk.f a0_0 a0_1 a0_2).bind fun t124 => (if t124 = true then (some (wrap64 ((wrap64 ((wrap64 ((wrap64 (a0_0 * 1000)) + a0_1)) * 1000000)) + a0_2))) else (some (-1)))
set_option maxHeartbeats 8000000 in
set_option maxRecDepth 100000 in
theorem impl_TagNumber.calls (a0_0 : Int) (a0_1 : Int) (a0_2 : Int) (r : Int) (w : World) (h : impl_TagNumber.f a0_0 a0_1 a0_2 = some r) :
  Calls Tryd.prog 28 #[.agg #[.int .i64 a0_0, .int .i64 a0_1, .int .i64 a0_2]] w fun e w' => e = .returned (.int .i64 r) ∧ Below w.heap.size w w' := by
 have hu25 := Tryd.underlying25
 have HB := uD (Below.refl w.heap.size w)
 have H : ((impl_TagOk.f a0_0 a0_1 a0_2).bind fun t124 => (if t124 = true then (some (wrap64 ((wrap64 ((wrap64 ((wrap64 (a0_0 * 1000)) + a0_1)) * 1000000)) + a0_2))) else (some (-1)))) = some r := h
 clear h
 replace H := Option.bind_eq_some_iff.mp H
 obtain ⟨t124, A20, H⟩ := H
 replace H : (if t124 = true then (some (wrap64 ((wrap64 ((wrap64 ((wrap64 (a0_0 * 1000)) + a0_1)) * 1000000)) + a0_2))) else (some (-1))) = some r := H
 have A2 := uD A20
 clear A20
 by_cases c3 : t124 = true
 ·subst c3
  have H1 : (some (wrap64 ((wrap64 ((wrap64 ((wrap64 (a0_0 * 1000)) + a0_1)) * 1000000)) + a0_2))) = some r := by rw [if_pos rfl] at H; first | done | exact H
  clear H
  have H := H1
  clear H1
  obtain rfl := Option.some.inj H
  go_enter Tryd.func28, Tryd.ntmps28
  go_wp2_with (first | ((with_reducible refine gate_dst (N := 1) rfl ?_); refine bx 1 #[.int .i64 a0_0, .int .i64 a0_1, .int .i64 a0_2] 25 ?_; intro gb123 hg w4 hbox hb; have BK123 := uD (hbox); have GW123 := uD ((by rw [hg]; exact (uN (pb HB)) : w.heap.size ≤ gb123)); have GE123 := uD ((by rw [hg]; exact (uN (pb HB)) : w.heap.size ≤ gb123)); replace HB := uD (uO (pb HB) hb); clear hb hbox hg; obtain ⟨hcz5_0, hcz5_1, hcz5_2, hfz5_0, hfz5_1, hfz5_2⟩ := cz3 BK123) | ((with_reducible refine gate_callee (f := 33) rfl ?_); refine gl (some 4) Tryd.func33 #[.agg #[.int .i64 a0_0, .int .i64 a0_1, .int .i64 a0_2]] ?_; (with_reducible refine (impl_TagOk.calls a0_0 a0_1 a0_2 true _ A2.out).mono ?_); rintro e w6 ⟨rfl, hb⟩; refine ⟨_, rfl, ?_⟩; replace BK123 := uD (blk_below (pk BK123) hb); replace HB := uD (uO (pb HB) hb); (try clear hb); (try clear hb2); (try clear hk); (try clear hi); obtain ⟨hcz7_0, hcz7_1, hcz7_2, hfz7_0, hfz7_1, hfz7_2⟩ := cz3 BK123))
  go_ret
  exact ⟨by first | rfl | (simp [errW_none, errW_some] <;> rfl) | (simp [*, errW_none, errW_some] <;> rfl), pb HB⟩
 ·replace c3 := Bool.eq_false_iff.mpr c3
  subst c3
  have H1 : (some (-1)) = some r := by rw [if_neg (show ¬ (false = true) by decide)] at H; first | done | exact H
  clear H
  have H := H1
  clear H1
  obtain rfl := Option.some.inj H
  go_enter Tryd.func28, Tryd.ntmps28
  go_wp2_with (first | ((with_reducible refine gate_dst (N := 1) rfl ?_); refine bx 1 #[.int .i64 a0_0, .int .i64 a0_1, .int .i64 a0_2] 25 ?_; intro gb123 hg w8 hbox hb; have BK123 := uD (hbox); have GW123 := uD ((by rw [hg]; exact (uN (pb HB)) : w.heap.size ≤ gb123)); have GE123 := uD ((by rw [hg]; exact (uN (pb HB)) : w.heap.size ≤ gb123)); replace HB := uD (uO (pb HB) hb); clear hb hbox hg; obtain ⟨hcz9_0, hcz9_1, hcz9_2, hfz9_0, hfz9_1, hfz9_2⟩ := cz3 BK123) | ((with_reducible refine gate_callee (f := 33) rfl ?_); refine gl (some 4) Tryd.func33 #[.agg #[.int .i64 a0_0, .int .i64 a0_1, .int .i64 a0_2]] ?_; (with_reducible refine (impl_TagOk.calls a0_0 a0_1 a0_2 false _ A2.out).mono ?_); rintro e w10 ⟨rfl, hb⟩; refine ⟨_, rfl, ?_⟩; replace BK123 := uD (blk_below (pk BK123) hb); replace HB := uD (uO (pb HB) hb); (try clear hb); (try clear hb2); (try clear hk); (try clear hi)))
  go_ret
  exact ⟨by first | rfl | (simp [errW_none, errW_some] <;> rfl) | (simp [*, errW_none, errW_some] <;> rfl), pb HB⟩

/-! ### impl_TagCheck: function 34 -/
def impl_TagCheck.f (a0_0 : Int) (a0_1 : Int) (a0_2 : Int) : Option (Int) := (impl_TagOk.f a0_0 a0_1 a0_2).bind fun t126 => (if t126 = true then ((impl_TagNumber.f a0_0 a0_1 a0_2).bind fun t127 => (some (Int.tmod t127 7))) else (some (-1)))
set_option maxHeartbeats 8000000 in
set_option maxRecDepth 100000 in
theorem impl_TagCheck.calls (a0_0 : Int) (a0_1 : Int) (a0_2 : Int) (r : Int) (w : World) (h : impl_TagCheck.f a0_0 a0_1 a0_2 = some r) :
  Calls Tryd.prog 34 #[.agg #[.int .i64 a0_0, .int .i64 a0_1, .int .i64 a0_2]] w fun e w' => e = .returned (.int .i64 r) ∧ Below w.heap.size w w' := by
 have hu25 := Tryd.underlying25
 have HB := uD (Below.refl w.heap.size w)
 have H : ((impl_TagOk.f a0_0 a0_1 a0_2).bind fun t126 => (if t126 = true then ((impl_TagNumber.f a0_0 a0_1 a0_2).bind fun t127 => (some (Int.tmod t127 7))) else (some (-1)))) = some r := h
 clear h
 replace H := Option.bind_eq_some_iff.mp H
 obtain ⟨t126, A20, H⟩ := H
 replace H : (if t126 = true then ((impl_TagNumber.f a0_0 a0_1 a0_2).bind fun t127 => (some (Int.tmod t127 7))) else (some (-1))) = some r := H
 have A2 := uD A20
 clear A20
 by_cases c3 : t126 = true
 ·subst c3
  have H1 : ((impl_TagNumber.f a0_0 a0_1 a0_2).bind fun t127 => (some (Int.tmod t127 7))) = some r := by rw [if_pos rfl] at H; first | done | exact H
  clear H
  have H := H1
  clear H1
  replace H := Option.bind_eq_some_iff.mp H
  obtain ⟨t127, A40, H⟩ := H
  replace H : (some (Int.tmod t127 7)) = some r := H
  have A4 := uD A40
  clear A40
  obtain rfl := Option.some.inj H
  go_enter Tryd.func34, Tryd.ntmps34
  go_wp2_with (first | ((with_reducible refine gate_dst (N := 1) rfl ?_); refine bx 1 #[.int .i64 a0_0, .int .i64 a0_1, .int .i64 a0_2] 25 ?_; intro gb125 hg w5 hbox hb; have BK125 := uD (hbox); have GW125 := uD ((by rw [hg]; exact (uN (pb HB)) : w.heap.size ≤ gb125)); have GE125 := uD ((by rw [hg]; exact (uN (pb HB)) : w.heap.size ≤ gb125)); replace HB := uD (uO (pb HB) hb); clear hb hbox hg; obtain ⟨hcz6_0, hcz6_1, hcz6_2, hfz6_0, hfz6_1, hfz6_2⟩ := cz3 BK125) | ((with_reducible refine gate_callee (f := 33) rfl ?_); refine gl (some 4) Tryd.func33 #[.agg #[.int .i64 a0_0, .int .i64 a0_1, .int .i64 a0_2]] ?_; (with_reducible refine (impl_TagOk.calls a0_0 a0_1 a0_2 true _ A2.out).mono ?_); rintro e w7 ⟨rfl, hb⟩; refine ⟨_, rfl, ?_⟩; replace BK125 := uD (blk_below (pk BK125) hb); replace HB := uD (uO (pb HB) hb); (try clear hb); (try clear hb2); (try clear hk); (try clear hi); obtain ⟨hcz8_0, hcz8_1, hcz8_2, hfz8_0, hfz8_1, hfz8_2⟩ := cz3 BK125) | ((with_reducible refine gate_callee (f := 28) rfl ?_); refine gl (some 7) Tryd.func28 #[.agg #[.int .i64 a0_0, .int .i64 a0_1, .int .i64 a0_2]] ?_; (with_reducible refine (impl_TagNumber.calls a0_0 a0_1 a0_2 t127 _ A4.out).mono ?_); rintro e w9 ⟨rfl, hb⟩; refine ⟨_, rfl, ?_⟩; replace BK125 := uD (blk_below (pk BK125) hb); replace HB := uD (uO (pb HB) hb); (try clear hb); (try clear hb2); (try clear hk); (try clear hi)))
  go_ret
  exact ⟨by first | rfl | (simp [errW_none, errW_some] <;> rfl) | (simp [*, errW_none, errW_some] <;> rfl), pb HB⟩
 ·replace c3 := Bool.eq_false_iff.mpr c3
  subst c3
  have H1 : (some (-1)) = some r := by rw [if_neg (show ¬ (false = true) by decide)] at H; first | done | exact H
  clear H
  have H := H1
  clear H1
  obtain rfl := Option.some.inj H
  go_enter Tryd.func34, Tryd.ntmps34
  go_wp2_with (first | ((with_reducible refine gate_dst (N := 1) rfl ?_); refine bx 1 #[.int .i64 a0_0, .int .i64 a0_1, .int .i64 a0_2] 25 ?_; intro gb125 hg w10 hbox hb; have BK125 := uD (hbox); have GW125 := uD ((by rw [hg]; exact (uN (pb HB)) : w.heap.size ≤ gb125)); have GE125 := uD ((by rw [hg]; exact (uN (pb HB)) : w.heap.size ≤ gb125)); replace HB := uD (uO (pb HB) hb); clear hb hbox hg; obtain ⟨hcz11_0, hcz11_1, hcz11_2, hfz11_0, hfz11_1, hfz11_2⟩ := cz3 BK125) | ((with_reducible refine gate_callee (f := 33) rfl ?_); refine gl (some 4) Tryd.func33 #[.agg #[.int .i64 a0_0, .int .i64 a0_1, .int .i64 a0_2]] ?_; (with_reducible refine (impl_TagOk.calls a0_0 a0_1 a0_2 false _ A2.out).mono ?_); rintro e w12 ⟨rfl, hb⟩; refine ⟨_, rfl, ?_⟩; replace BK125 := uD (blk_below (pk BK125) hb); replace HB := uD (uO (pb HB) hb); (try clear hb); (try clear hb2); (try clear hk); (try clear hi)))
  go_ret
  exact ⟨by first | rfl | (simp [errW_none, errW_some] <;> rfl) | (simp [*, errW_none, errW_some] <;> rfl), pb HB⟩

/-! ### strconv_Itoa: function 59 -/
def strconv_Itoa.f (a0 : Int) : Option ByteArray := if -9223372036854775808 ≤ a0 ∧ a0 ≤ 9223372036854775807 then some ⟨(Go.Lib.itoa a0).toArray⟩ else none
theorem strconv_Itoa.calls (a0 : Int) (r : ByteArray) (w : World) (htab : Tab1 Tryd.prog w) (h : strconv_Itoa.f a0 = some r) :
    Calls Tryd.prog 59 #[.int .i64 a0] w fun e w' => e = .returned (.string r) ∧ Below w.heap.size w w' := by
  unfold strconv_Itoa.f at h
  split at h
  · rename_i hb
    obtain rfl := Option.some.inj h
    refine (Tryd.strconv_Itoa a0 hb.1 hb.2 w htab).mono ?_
    rintro e w' ⟨rfl, k, os, rfl⟩
    exact ⟨rfl, ⟨rfl, rfl, rfl, by show w.heap.size ≤ (w.heap ++ os).size; rw [Array.size_append]; omega, fun j hj => by show (w.heap ++ os)[j]? = w.heap[j]?; rw [Array.getElem?_append_left hj]⟩⟩
  · cases h

/-! ### impl_FormatInt: function 41 -/
def impl_FormatInt.f (a0 : Int) : Option (ByteArray) := (strconv_Itoa.f a0).bind fun t128 => (some t128)
set_option maxHeartbeats 8000000 in
set_option maxRecDepth 100000 in
theorem impl_FormatInt.calls (a0 : Int) (r : ByteArray) (w : World) (htab : Tab1 Tryd.prog w) (h : impl_FormatInt.f a0 = some r) :
  Calls Tryd.prog 41 #[.int .i64 a0] w fun e w' => e = .returned (.string r) ∧ Below w.heap.size w w' := by
 have HB := uD (Below.refl w.heap.size w)
 have HTAB := uD htab
 clear htab
 have H : ((strconv_Itoa.f a0).bind fun t128 => (some t128)) = some r := h
 clear h
 replace H := Option.bind_eq_some_iff.mp H
 obtain ⟨t128, A20, H⟩ := H
 replace H : (some t128) = some r := H
 have A2 := uD A20
 clear A20
 obtain rfl := Option.some.inj H
 go_enter Tryd.func41, Tryd.ntmps41
 go_wp2_with (first | ((with_reducible refine gate_callee (f := 59) rfl ?_); refine gl (some 4) Tryd.func59 #[.int .i64 a0] ?_; (with_reducible refine (strconv_Itoa.calls a0 t128 _ ?side1 A2.out).mono ?_); (case side1 => exact tb11 HTAB (pb HB)); rintro e w3 ⟨rfl, hb⟩; refine ⟨_, rfl, ?_⟩; replace HB := uD (uO (pb HB) hb); (try clear hb); (try clear hb2); (try clear hk); (try clear hi)))
 go_ret
 exact ⟨by first | rfl | (simp [errW_none, errW_some] <;> rfl) | (simp [*, errW_none, errW_some] <;> rfl), pb HB⟩

/-! ### impl_FormatTag: function 14 -/
def impl_FormatTag.l0 : Nat → ByteArray → Int → Int → Int → Option (ByteArray)
 | 0, _, _, _, _ => none
 | k + 1, x3, x130000, x130001, x130002 => if (x3.size : Int) < 10 then (if 1 + x3.size ≤ 9223372036854775807 then (impl_FormatTag.l0 k ((⟨#[48]⟩ : ByteArray) ++ x3) x130000 x130001 x130002) else (none)) else (if x3.size + 1 ≤ 9223372036854775807 then ((impl_TagCheck.f x130000 x130001 x130002).bind fun t133 => ((impl_FormatInt.f t133).bind fun t134 => (if (x3 ++ (⟨#[45]⟩ : ByteArray)).size + t134.size ≤ 9223372036854775807 then (some ((x3 ++ (⟨#[45]⟩ : ByteArray)) ++ t134)) else (none)))) else (none))
def impl_FormatTag.f (k : Nat) (a0_0 : Int) (a0_1 : Int) (a0_2 : Int) : Option (ByteArray) := (impl_TagOk.f a0_0 a0_1 a0_2).bind fun t130 => (if t130 = true then ((impl_TagNumber.f a0_0 a0_1 a0_2).bind fun t131 => ((impl_FormatInt.f t131).bind fun t132 => (impl_FormatTag.l0 k t132 a0_0 a0_1 a0_2))) else (some (⟨#[]⟩ : ByteArray)))
theorem impl_FormatTag.mono_l : ∀ k, (∀ y0 y1 y2 y3, LeO (impl_FormatTag.l0 k y0 y1 y2 y3) (impl_FormatTag.l0 (k + 1) y0 y1 y2 y3))
 | 0 => fun _ _ _ _ r h => by simp [impl_FormatTag.l0] at h
 | k + 1 => by
  have ih0 := impl_FormatTag.mono_l k
  ·intro y0 y1 y2 y3
   unfold impl_FormatTag.l0
   repeat' first
   | (with_reducible exact ih0 _ _ _ _)
   | (with_reducible exact LeO.refl _)
   | (with_reducible exact LeO.none _)
   | (with_reducible refine LeO.ite ?_ ?_)
   | (with_reducible refine LeO.bind ?_ (fun _ => ?_))
   | exact ih0 _ _ _ _
   | exact LeO.none _
   | refine LeO.ite ?_ ?_
   | refine LeO.bind ?_ (fun _ => ?_)
theorem impl_FormatTag.mono : ∀ a0 a1 a2 k, LeO (impl_FormatTag.f k a0 a1 a2) (impl_FormatTag.f (k + 1) a0 a1 a2) := by
 intro a0 a1 a2 k
 have ih0 := impl_FormatTag.mono_l k
 unfold impl_FormatTag.f
 repeat' first
   | (with_reducible exact ih0 _ _ _ _)
   | (with_reducible exact LeO.refl _)
   | (with_reducible exact LeO.none _)
   | (with_reducible refine LeO.ite ?_ ?_)
   | (with_reducible refine LeO.bind ?_ (fun _ => ?_))
   | exact ih0 _ _ _ _
   | exact LeO.none _
   | refine LeO.ite ?_ ?_
   | refine LeO.bind ?_ (fun _ => ?_)
set_option maxHeartbeats 8000000 in
set_option maxRecDepth 100000 in
theorem impl_FormatTag.calls (k : Nat) (a0_0 : Int) (a0_1 : Int) (a0_2 : Int) (r : ByteArray) (w : World) (htab : Tab1 Tryd.prog w) (h : impl_FormatTag.f k a0_0 a0_1 a0_2 = some r) :
  Calls Tryd.prog 14 #[.agg #[.int .i64 a0_0, .int .i64 a0_1, .int .i64 a0_2]] w fun e w' => e = .returned (.string r) ∧ Below w.heap.size w w' := by
 have hu25 := Tryd.underlying25
 have HB := uD (Below.refl w.heap.size w)
 have HTAB := uD htab
 clear htab
 have H : ((impl_TagOk.f a0_0 a0_1 a0_2).bind fun t130 => (if t130 = true then ((impl_TagNumber.f a0_0 a0_1 a0_2).bind fun t131 => ((impl_FormatInt.f t131).bind fun t132 => (impl_FormatTag.l0 k t132 a0_0 a0_1 a0_2))) else (some (⟨#[]⟩ : ByteArray)))) = some r := h
 clear h
 replace H := Option.bind_eq_some_iff.mp H
 obtain ⟨t130, A20, H⟩ := H
 replace H : (if t130 = true then ((impl_TagNumber.f a0_0 a0_1 a0_2).bind fun t131 => ((impl_FormatInt.f t131).bind fun t132 => (impl_FormatTag.l0 k t132 a0_0 a0_1 a0_2))) else (some (⟨#[]⟩ : ByteArray))) = some r := H
 have A2 := uD A20
 clear A20
 by_cases c3 : t130 = true
 ·subst c3
  have H1 : ((impl_TagNumber.f a0_0 a0_1 a0_2).bind fun t131 => ((impl_FormatInt.f t131).bind fun t132 => (impl_FormatTag.l0 k t132 a0_0 a0_1 a0_2))) = some r := by rw [if_pos rfl] at H; first | done | exact H
  clear H
  have H := H1
  clear H1
  replace H := Option.bind_eq_some_iff.mp H
  obtain ⟨t131, A40, H⟩ := H
  replace H : ((impl_FormatInt.f t131).bind fun t132 => (impl_FormatTag.l0 k t132 a0_0 a0_1 a0_2)) = some r := H
  have A4 := uD A40
  clear A40
  replace H := Option.bind_eq_some_iff.mp H
  obtain ⟨t132, A50, H⟩ := H
  replace H : (impl_FormatTag.l0 k t132 a0_0 a0_1 a0_2) = some r := H
  have A5 := uD A50
  clear A50
  have H' := uD H
  clear H
  go_enter Tryd.func14, Tryd.ntmps14
  go_wp2_with (first | ((with_reducible refine gate_dst (N := 1) rfl ?_); refine bx 1 #[.int .i64 a0_0, .int .i64 a0_1, .int .i64 a0_2] 25 ?_; intro gb129 hg w6 hbox hb; have BK129 := uD (hbox); have GW129 := uD ((by rw [hg]; exact (uN (pb HB)) : w.heap.size ≤ gb129)); have GE129 := uD ((by rw [hg]; exact (uN (pb HB)) : w.heap.size ≤ gb129)); replace HB := uD (uO (pb HB) hb); clear hb hbox hg; obtain ⟨hcz7_0, hcz7_1, hcz7_2, hfz7_0, hfz7_1, hfz7_2⟩ := cz3 BK129) | ((with_reducible refine gate_callee (f := 33) rfl ?_); refine gl (some 5) Tryd.func33 #[.agg #[.int .i64 a0_0, .int .i64 a0_1, .int .i64 a0_2]] ?_; (with_reducible refine (impl_TagOk.calls a0_0 a0_1 a0_2 true _ A2.out).mono ?_); rintro e w8 ⟨rfl, hb⟩; refine ⟨_, rfl, ?_⟩; replace BK129 := uD (blk_below (pk BK129) hb); replace HB := uD (uO (pb HB) hb); (try clear hb); (try clear hb2); (try clear hk); (try clear hi); obtain ⟨hcz9_0, hcz9_1, hcz9_2, hfz9_0, hfz9_1, hfz9_2⟩ := cz3 BK129) | ((with_reducible refine gate_callee (f := 28) rfl ?_); refine gl (some 8) Tryd.func28 #[.agg #[.int .i64 a0_0, .int .i64 a0_1, .int .i64 a0_2]] ?_; (with_reducible refine (impl_TagNumber.calls a0_0 a0_1 a0_2 t131 _ A4.out).mono ?_); rintro e w10 ⟨rfl, hb⟩; refine ⟨_, rfl, ?_⟩; replace BK129 := uD (blk_below (pk BK129) hb); replace HB := uD (uO (pb HB) hb); (try clear hb); (try clear hb2); (try clear hk); (try clear hi)) | ((with_reducible refine gate_callee (f := 41) rfl ?_); refine gl (some 9) Tryd.func41 #[.int .i64 t131] ?_; (with_reducible refine (impl_FormatInt.calls t131 t132 _ ?side1 A5.out).mono ?_); (case side1 => exact tb11 HTAB (pb HB)); rintro e w11 ⟨rfl, hb⟩; refine ⟨_, rfl, ?_⟩; replace BK129 := uD (blk_below (pk BK129) hb); replace HB := uD (uO (pb HB) hb); (try clear hb); (try clear hb2); (try clear hk); (try clear hi)))
  go_loopg [3] k (fun kq v3 w' => ∃ (x3_1 : ByteArray), v3 = .string x3_1 ∧ Aside0 (impl_FormatTag.l0 kq x3_1 a0_0 a0_1 a0_2 = some r) ∧ Aside0 (kq ≤ k) ∧ Aside0 (w'.heap[gb129]? = some (.cells #[.int .i64 a0_0, .int .i64 a0_1, .int .i64 a0_2] 25 (0, 0))) ∧ Aside0 (Below w.heap.size w w'))
  case atStart => exact ⟨(t132), (by first | rfl | (simp; done) | (simp [*]; done)), H', ⟨Nat.le_refl _⟩, ⟨by (with_reducible repeat first|apply uH|apply uJ|apply uG); exact BK129.out⟩, ⟨pb HB⟩⟩
  case round =>
   clear H'
   try clear c1
   try clear c2
   try clear p2
   try clear c3
   try clear c4
   try clear hcz7_0
   try clear hcz7_1
   try clear hcz7_2
   try clear hcz9_0
   try clear hcz9_1
   try clear hcz9_2
   try clear hfz7_0
   try clear hfz7_1
   try clear hfz7_2
   try clear hfz9_0
   try clear hfz9_1
   try clear hfz9_2
   obtain ⟨x3_1, rfl, HA, HK1, BK129, HB⟩ := hrel
   cases gk with
   | zero => exact absurd HA.out (by simp [impl_FormatTag.l0])
   | succ k1 =>
    have H := HA.out
    clear HA
    simp only [impl_FormatTag.l0] at H
    by_cases c12 : (x3_1.size : Int) < 10
    ·rw [if_pos c12] at H
     have c12b0 : decide ((x3_1.size : Int) < 10) = true := decide_eq_true c12
     have c12b1 : decide (x3_1.size < 10) = true := decide_eq_true (by omega)
     clear c12
     by_cases c13 : 1 + x3_1.size ≤ 9223372036854775807
     ·rw [if_pos c13] at H
      have c13b0 := eq_true c13
      have c13b1 : decide (1 + x3_1.size ≤ 9223372036854775807) = true := decide_eq_true c13
      try have c13b2 : (9223372036854775807 < 1 + x3_1.size) = False := eq_false (Nat.not_lt.2 c13)
      have H' := uD H
      clear H
      go_wp2
      go_roundg k1
      case measure => have := HK1.out; omega
      case rel => exact ⟨((⟨#[48]⟩ : ByteArray) ++ x3_1), (by first | rfl | (simp; done) | (simp [*]; done)), H', ⟨by have := HK1.out; omega⟩, ⟨by (with_reducible repeat first|apply uH|apply uJ|apply uG); exact BK129.out⟩, ⟨pb HB⟩⟩
     ·rw [if_neg c13] at H
      exact absurd H (by simp)
    ·rw [if_neg c12] at H
     have c12b0 : decide ((x3_1.size : Int) < 10) = false := decide_eq_false c12
     have c12b1 : decide (x3_1.size < 10) = false := decide_eq_false (by omega)
     clear c12
     by_cases c14 : x3_1.size + 1 ≤ 9223372036854775807
     ·rw [if_pos c14] at H
      have c14b0 := eq_true c14
      have c14b1 : decide (x3_1.size + 1 ≤ 9223372036854775807) = true := decide_eq_true c14
      try have c14b2 : (9223372036854775807 < x3_1.size + 1) = False := eq_false (Nat.not_lt.2 c14)
      replace H := Option.bind_eq_some_iff.mp H
      obtain ⟨t133, A150, H⟩ := H
      replace H : ((impl_FormatInt.f t133).bind fun t134 => (if (x3_1 ++ (⟨#[45]⟩ : ByteArray)).size + t134.size ≤ 9223372036854775807 then (some ((x3_1 ++ (⟨#[45]⟩ : ByteArray)) ++ t134)) else (none))) = some r := H
      have A15 := uD A150
      clear A150
      replace H := Option.bind_eq_some_iff.mp H
      obtain ⟨t134, A160, H⟩ := H
      replace H : (if (x3_1 ++ (⟨#[45]⟩ : ByteArray)).size + t134.size ≤ 9223372036854775807 then (some ((x3_1 ++ (⟨#[45]⟩ : ByteArray)) ++ t134)) else (none)) = some r := H
      have A16 := uD A160
      clear A160
      by_cases c17 : (x3_1 ++ (⟨#[45]⟩ : ByteArray)).size + t134.size ≤ 9223372036854775807
      ·rw [if_pos c17] at H
       have c17b0 := eq_true c17
       have c17b1 : decide ((x3_1 ++ (⟨#[45]⟩ : ByteArray)).size + t134.size ≤ 9223372036854775807) = true := decide_eq_true c17
       try have c17b2 : (9223372036854775807 < (x3_1 ++ (⟨#[45]⟩ : ByteArray)).size + t134.size) = False := eq_false (Nat.not_lt.2 c17)
       (try simp only [ByteArray.size_append, one_sz] at c17b0 c17b1 c17b2)
       obtain rfl := Option.some.inj H
       obtain ⟨hcz18_0, hcz18_1, hcz18_2, hfz18_0, hfz18_1, hfz18_2⟩ := cz3 BK129
       go_wp2_with (first | ((with_reducible refine gate_callee (f := 34) rfl ?_); refine gl (some 18) Tryd.func34 #[.agg #[.int .i64 a0_0, .int .i64 a0_1, .int .i64 a0_2]] ?_; (with_reducible refine (impl_TagCheck.calls a0_0 a0_1 a0_2 t133 _ A15.out).mono ?_); rintro e w19 ⟨rfl, hb⟩; refine ⟨_, rfl, ?_⟩; replace BK129 := uD (blk_below (pk BK129) hb); replace HB := uD (uO (pb HB) hb); (try clear hb); (try clear hb2); (try clear hk); (try clear hi)) | ((with_reducible refine gate_callee (f := 41) rfl ?_); refine gl (some 19) Tryd.func41 #[.int .i64 t133] ?_; (with_reducible refine (impl_FormatInt.calls t133 t134 _ ?side1 A16.out).mono ?_); (case side1 => exact tb11 HTAB (pb HB)); rintro e w20 ⟨rfl, hb⟩; refine ⟨_, rfl, ?_⟩; replace BK129 := uD (blk_below (pk BK129) hb); replace HB := uD (uO (pb HB) hb); (try clear hb); (try clear hb2); (try clear hk); (try clear hi)))
       go_ret
       exact ⟨by first | rfl | (simp [errW_none, errW_some] <;> rfl) | (simp [*, errW_none, errW_some] <;> rfl), pb HB⟩
      ·rw [if_neg c17] at H
       exact absurd H (by simp)
     ·rw [if_neg c14] at H
      exact absurd H (by simp)
 ·replace c3 := Bool.eq_false_iff.mpr c3
  subst c3
  have H1 : (some (⟨#[]⟩ : ByteArray)) = some r := by rw [if_neg (show ¬ (false = true) by decide)] at H; first | done | exact H
  clear H
  have H := H1
  clear H1
  obtain rfl := Option.some.inj H
  go_enter Tryd.func14, Tryd.ntmps14
  go_wp2_with (first | ((with_reducible refine gate_dst (N := 1) rfl ?_); refine bx 1 #[.int .i64 a0_0, .int .i64 a0_1, .int .i64 a0_2] 25 ?_; intro gb129 hg w21 hbox hb; have BK129 := uD (hbox); have GW129 := uD ((by rw [hg]; exact (uN (pb HB)) : w.heap.size ≤ gb129)); have GE129 := uD ((by rw [hg]; exact (uN (pb HB)) : w.heap.size ≤ gb129)); replace HB := uD (uO (pb HB) hb); clear hb hbox hg; obtain ⟨hcz22_0, hcz22_1, hcz22_2, hfz22_0, hfz22_1, hfz22_2⟩ := cz3 BK129) | ((with_reducible refine gate_callee (f := 33) rfl ?_); refine gl (some 5) Tryd.func33 #[.agg #[.int .i64 a0_0, .int .i64 a0_1, .int .i64 a0_2]] ?_; (with_reducible refine (impl_TagOk.calls a0_0 a0_1 a0_2 false _ A2.out).mono ?_); rintro e w23 ⟨rfl, hb⟩; refine ⟨_, rfl, ?_⟩; replace BK129 := uD (blk_below (pk BK129) hb); replace HB := uD (uO (pb HB) hb); (try clear hb); (try clear hb2); (try clear hk); (try clear hi)))
  go_ret
  exact ⟨by first | rfl | (simp [errW_none, errW_some] <;> rfl) | (simp [*, errW_none, errW_some] <;> rfl), pb HB⟩

/-! ### spec_l01OfNumber: function 45 -/
def spec_l01OfNumber.f (a0 : Int) : Option (Int × Int × Int) := some (wrap64 (Int.tdiv a0 1000000000), Int.tmod (wrap64 (Int.tdiv a0 1000000)) 1000, Int.tmod a0 1000000)
set_option maxHeartbeats 8000000 in
set_option maxRecDepth 100000 in
theorem spec_l01OfNumber.calls (a0 : Int) (r1 : Int) (r2 : Int) (r3 : Int) (w : World) (h : spec_l01OfNumber.f a0 = some (r1, r2, r3)) :
  Calls Tryd.prog 45 #[.int .i64 a0] w fun e w' => e = .returned (.agg #[.int .i64 r1, .int .i64 r2, .int .i64 r3]) ∧ Below w.heap.size w w' := by
 have hu25 := Tryd.underlying25
 have HB := uD (Below.refl w.heap.size w)
 have H : (some (wrap64 (Int.tdiv a0 1000000000), Int.tmod (wrap64 (Int.tdiv a0 1000000)) 1000, Int.tmod a0 1000000)) = some (r1, r2, r3) := h
 clear h
 simp only [Option.some.injEq, Prod.mk.injEq] at H
 obtain ⟨rfl, rfl, rfl⟩ := H
 go_enter Tryd.func45, Tryd.ntmps45
 go_wp2_with (first | ((with_reducible refine gate_dst (N := 2) rfl ?_); refine bx 2 #[.int .i64 0, .int .i64 0, .int .i64 0] 25 ?_; intro gb135 hg w2 hbox hb; have BK135 := uD (hbox); have GW135 := uD ((by rw [hg]; exact (uN (pb HB)) : w.heap.size ≤ gb135)); have GE135 := uD ((by rw [hg]; exact (uN (pb HB)) : w.heap.size ≤ gb135)); replace HB := uD (uO (pb HB) hb); clear hb hbox hg; obtain ⟨hcz3_0, hcz3_1, hcz3_2, hfz3_0, hfz3_1, hfz3_2⟩ := cz3 BK135))
 refine bodyPost_ret (results_cell_row rfl _ _ gb135 25 #[.int .i64 (wrap64 (Int.tdiv a0 1000000000)), .int .i64 (Int.tmod (wrap64 (Int.tdiv a0 1000000)) 1000), .int .i64 (Int.tmod a0 1000000)] (0, 0) _ rfl (by (with_reducible repeat first|apply uH|apply uJ|apply uG); refine uP (cs := #[.int .i64 (wrap64 (Int.tdiv a0 1000000000)), .int .i64 (Int.tmod (wrap64 (Int.tdiv a0 1000000)) 1000), .int .i64 0]) ?_ 2 _ rfl; (with_reducible repeat first|apply uH|apply uJ|apply uG); refine uP (cs := #[.int .i64 (wrap64 (Int.tdiv a0 1000000000)), .int .i64 0, .int .i64 0]) ?_ 1 _ rfl; (with_reducible repeat first|apply uH|apply uJ|apply uG); refine uP (cs := #[.int .i64 0, .int .i64 0, .int .i64 0]) ?_ 0 _ rfl; (with_reducible repeat first|apply uH|apply uJ|apply uG); exact BK135.out) Tryd.underlying25 rfl (by kernel_rfl)) rfl ?_
 exact ⟨by first | rfl | (simp [errW_none, errW_some] <;> rfl) | (simp [*, errW_none, errW_some] <;> rfl), pb HB⟩

end Go.Proofs.YtnkaimdcdedekaaDoor.PFnTags
