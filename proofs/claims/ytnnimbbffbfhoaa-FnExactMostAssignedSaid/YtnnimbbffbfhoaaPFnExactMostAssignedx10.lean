-- Written by a program of this session (wip/myprint.py: the kit's print with changes): not by print.sh itself.
import Derived.Test.YtnnimbbffbfhoaaPFnExactMostAssignedx0
import Derived.Test.YtnnimbbffbfhoaaPFnExactMostAssignedx1
import Derived.Test.YtnnimbbffbfhoaaPFnExactMostAssignedx2
import Derived.Test.YtnnimbbffbfhoaaPFnExactMostAssignedx6
import Derived.Test.YtnnimbbffbfhoaaPFnExactMostAssignedx9
namespace Go.Proofs.Ytnnimbbffbfhoaa.PFnExactMostAssigned
open Go.RowKit Go.Proofs.YtnnimbbffbfhoaaW.PrintWords Go.Proofs.YtnnimbbffbfhoaaW.PrintLast Go.Proofs.YtnnimbbffbfhoaaW.PrintMore
open Go.Proofs.YtnnimbbffbfhoaaW.PrintWords renaming Aside0.mk → uD, below_size → uN, below_step → uO
attribute [local go_sem] max2_int min2_int max_two min_two max_three min_three max_four min_four   -- for this text's walks alone
set_option linter.unusedVariables false
set_option linter.unusedSimpArgs false

/-! ### laws_FnExactMostAssigned: function 7 -/
def laws_FnExactMostAssigned.f (k : Nat) (l0 : List (S82)) (l1 : List (S88)) : Option (Bool) := (laws_szExpectS.f l0 1048576).bind fun t199 => (if t199 < 0 then (some true) else ((laws_szSightS.f l1 t199).bind fun t200 => (if t200 < 0 then (some true) else ((laws_toExpectS.f k l0).bind fun t201 => ((laws_toSightS.f k l1).bind fun t204 => ((spec_MostAssigned.f k t201 t204).bind fun t207 => ((laws_toExpectS.f k l0).bind fun t208 => ((laws_toSightS.f k l1).bind fun t211 => ((impl_MostAssigned.f k t208 t211).bind fun t214 => (if t214 = t207 then ((laws_toExpectS.f k l0).bind fun t215 => ((laws_eqExpectS.f k t208 t215).bind fun t218 => (if t218 = true then ((laws_toSightS.f k l1).bind fun t219 => ((laws_eqSightS.f k t211 t219).bind fun t222 => (if t222 = true then (some true) else (some false)))) else (some false)))) else (some false)))))))))))
theorem laws_FnExactMostAssigned.mono : ∀ a0 a1 k, LeO (laws_FnExactMostAssigned.f k a0 a1) (laws_FnExactMostAssigned.f (k + 1) a0 a1) := by
 intro a0 a1 k
 unfold laws_FnExactMostAssigned.f
 repeat' first
   | (with_reducible exact impl_MostAssigned.mono _ _ _)
   | (with_reducible exact laws_eqExpectS.mono _ _ _)
   | (with_reducible exact laws_eqSightS.mono _ _ _)
   | (with_reducible exact laws_toExpectS.mono _ _)
   | (with_reducible exact laws_toSightS.mono _ _)
   | (with_reducible exact spec_MostAssigned.mono _ _ _)
   | (with_reducible exact LeO.refl _)
   | (with_reducible exact LeO.none _)
   | (with_reducible refine LeO.ite ?_ ?_)
   | (with_reducible refine LeO.bind ?_ (fun _ => ?_))
   | exact impl_MostAssigned.mono _ _ _
   | exact laws_eqExpectS.mono _ _ _
   | exact laws_eqSightS.mono _ _ _
   | exact laws_toExpectS.mono _ _
   | exact laws_toSightS.mono _ _
   | exact spec_MostAssigned.mono _ _ _
   | exact LeO.none _
   | refine LeO.ite ?_ ?_
   | refine LeO.bind ?_ (fun _ => ?_)
set_option maxHeartbeats 8000000 in
set_option maxRecDepth 100000 in
theorem laws_FnExactMostAssigned.calls (k : Nat) (A0 : Option Addr) (c0 : Nat) (l0 : List (S82)) (A1 : Option Addr) (c1 : Nat) (l1 : List (S88)) (w : World) (hr0 : Kd.C k82 w A0 l0.length l0) (hc0 : l0.length ≤ c0) (hr1 : Kd.C k88 w A1 l1.length l1) (hc1 : l1.length ≤ c1) (h : laws_FnExactMostAssigned.f k l0 l1 = some true) :
  Calls Try.prog 7 #[.slice A0 l0.length c0, .slice A1 l1.length c1] w fun e w' => e = .returned (.bool true) ∧ Below w.heap.size w w' := by
 have HR0 := uD hr0
 have HC0 := uD hc0
 clear hr0 hc0
 have HR1 := uD hr1
 have HC1 := uD hc1
 clear hr1 hc1
 have HB := uD (Below.refl w.heap.size w)
 have H : ((laws_szExpectS.f l0 1048576).bind fun t199 => (if t199 < 0 then (some true) else ((laws_szSightS.f l1 t199).bind fun t200 => (if t200 < 0 then (some true) else ((laws_toExpectS.f k l0).bind fun t201 => ((laws_toSightS.f k l1).bind fun t204 => ((spec_MostAssigned.f k t201 t204).bind fun t207 => ((laws_toExpectS.f k l0).bind fun t208 => ((laws_toSightS.f k l1).bind fun t211 => ((impl_MostAssigned.f k t208 t211).bind fun t214 => (if t214 = t207 then ((laws_toExpectS.f k l0).bind fun t215 => ((laws_eqExpectS.f k t208 t215).bind fun t218 => (if t218 = true then ((laws_toSightS.f k l1).bind fun t219 => ((laws_eqSightS.f k t211 t219).bind fun t222 => (if t222 = true then (some true) else (some false)))) else (some false)))) else (some false)))))))))))) = some true := h
 clear h
 replace H := Option.bind_eq_some_iff.mp H
 obtain ⟨t199, A30, H⟩ := H
 replace H : (if t199 < 0 then (some true) else ((laws_szSightS.f l1 t199).bind fun t200 => (if t200 < 0 then (some true) else ((laws_toExpectS.f k l0).bind fun t201 => ((laws_toSightS.f k l1).bind fun t204 => ((spec_MostAssigned.f k t201 t204).bind fun t207 => ((laws_toExpectS.f k l0).bind fun t208 => ((laws_toSightS.f k l1).bind fun t211 => ((impl_MostAssigned.f k t208 t211).bind fun t214 => (if t214 = t207 then ((laws_toExpectS.f k l0).bind fun t215 => ((laws_eqExpectS.f k t208 t215).bind fun t218 => (if t218 = true then ((laws_toSightS.f k l1).bind fun t219 => ((laws_eqSightS.f k t211 t219).bind fun t222 => (if t222 = true then (some true) else (some false)))) else (some false)))) else (some false))))))))))) = some true := H
 have A3 := uD A30
 clear A30
 by_cases c4 : t199 < 0
 ·rw [if_pos c4] at H
  have c4b0 : decide (t199 < 0) = true := decide_eq_true c4
  clear c4
  have HT := Option.some.inj H
  clear H
  go_enter Try.func7, Try.ntmps7
  go_wp2_with (first | ((with_reducible refine gate_callee (f := 13) rfl ?_); refine goesL_ (some 12) rfl rfl Try.func13 (by kernel_rfl) rfl #[.slice A0 l0.length c0, .int .i64 1048576] rfl (by (try simp only [List.map_toArray, List.map_cons, List.map_nil]); first | done | rfl | (simp only [List.length_drop, List.length_take]; rfl)) ?_; (with_reducible refine (laws_szExpectS.calls _ _ l0 1048576 t199 _ ?side1 ?side2 A3.out).mono ?_); (case side1 => repeat (first | exact HR0.out | (with_reducible refine Kd.C_alloc ?_ _) | (with_reducible refine Kd.C_drewN ?_ _) | (with_reducible refine Kd.C_drew ?_))); (case side2 => exact HC0.out); rintro e w' ⟨rfl, ⟨nd, rfl⟩⟩; refine ⟨_, rfl, ?_⟩))
  go_ret
  exact ⟨by first | rfl | (simp [errW_none, errW_some] <;> rfl) | (simp [*, errW_none, errW_some] <;> rfl), pb HB⟩
 ·rw [if_neg c4] at H
  have c4b0 : decide (t199 < 0) = false := decide_eq_false c4
  clear c4
  replace H := Option.bind_eq_some_iff.mp H
  obtain ⟨t200, A50, H⟩ := H
  replace H : (if t200 < 0 then (some true) else ((laws_toExpectS.f k l0).bind fun t201 => ((laws_toSightS.f k l1).bind fun t204 => ((spec_MostAssigned.f k t201 t204).bind fun t207 => ((laws_toExpectS.f k l0).bind fun t208 => ((laws_toSightS.f k l1).bind fun t211 => ((impl_MostAssigned.f k t208 t211).bind fun t214 => (if t214 = t207 then ((laws_toExpectS.f k l0).bind fun t215 => ((laws_eqExpectS.f k t208 t215).bind fun t218 => (if t218 = true then ((laws_toSightS.f k l1).bind fun t219 => ((laws_eqSightS.f k t211 t219).bind fun t222 => (if t222 = true then (some true) else (some false)))) else (some false)))) else (some false))))))))) = some true := H
  have A5 := uD A50
  clear A50
  by_cases c6 : t200 < 0
  ·rw [if_pos c6] at H
   have c6b0 : decide (t200 < 0) = true := decide_eq_true c6
   clear c6
   have HT := Option.some.inj H
   clear H
   go_enter Try.func7, Try.ntmps7
   go_wp2_with (first | ((with_reducible refine gate_callee (f := 13) rfl ?_); refine goesL_ (some 12) rfl rfl Try.func13 (by kernel_rfl) rfl #[.slice A0 l0.length c0, .int .i64 1048576] rfl (by (try simp only [List.map_toArray, List.map_cons, List.map_nil]); first | done | rfl | (simp only [List.length_drop, List.length_take]; rfl)) ?_; (with_reducible refine (laws_szExpectS.calls _ _ l0 1048576 t199 _ ?side1 ?side2 A3.out).mono ?_); (case side1 => repeat (first | exact HR0.out | (with_reducible refine Kd.C_alloc ?_ _) | (with_reducible refine Kd.C_drewN ?_ _) | (with_reducible refine Kd.C_drew ?_))); (case side2 => exact HC0.out); rintro e w' ⟨rfl, ⟨nd, rfl⟩⟩; refine ⟨_, rfl, ?_⟩) | ((with_reducible refine gate_callee (f := 18) rfl ?_); refine goesL_ (some 17) rfl rfl Try.func18 (by kernel_rfl) rfl #[.slice A1 l1.length c1, .int .i64 t199] rfl (by (try simp only [List.map_toArray, List.map_cons, List.map_nil]); first | done | rfl | (simp only [List.length_drop, List.length_take]; rfl)) ?_; (with_reducible refine (laws_szSightS.calls _ _ l1 t199 t200 _ ?side1 ?side2 A5.out).mono ?_); (case side1 => repeat (first | exact HR1.out | (with_reducible refine Kd.C_alloc ?_ _) | (with_reducible refine Kd.C_drewN ?_ _) | (with_reducible refine Kd.C_drew ?_))); (case side2 => exact HC1.out); rintro e w' ⟨rfl, ⟨nd, rfl⟩⟩; refine ⟨_, rfl, ?_⟩))
   go_ret
   exact ⟨by first | rfl | (simp [errW_none, errW_some] <;> rfl) | (simp [*, errW_none, errW_some] <;> rfl), pb HB⟩
  ·rw [if_neg c6] at H
   have c6b0 : decide (t200 < 0) = false := decide_eq_false c6
   clear c6
   replace H := Option.bind_eq_some_iff.mp H
   obtain ⟨t201, A70, H⟩ := H
   replace H : ((laws_toSightS.f k l1).bind fun t204 => ((spec_MostAssigned.f k t201 t204).bind fun t207 => ((laws_toExpectS.f k l0).bind fun t208 => ((laws_toSightS.f k l1).bind fun t211 => ((impl_MostAssigned.f k t208 t211).bind fun t214 => (if t214 = t207 then ((laws_toExpectS.f k l0).bind fun t215 => ((laws_eqExpectS.f k t208 t215).bind fun t218 => (if t218 = true then ((laws_toSightS.f k l1).bind fun t219 => ((laws_eqSightS.f k t211 t219).bind fun t222 => (if t222 = true then (some true) else (some false)))) else (some false)))) else (some false))))))) = some true := H
   have A7 := uD A70
   clear A70
   replace H := Option.bind_eq_some_iff.mp H
   obtain ⟨t204, A80, H⟩ := H
   replace H : ((spec_MostAssigned.f k t201 t204).bind fun t207 => ((laws_toExpectS.f k l0).bind fun t208 => ((laws_toSightS.f k l1).bind fun t211 => ((impl_MostAssigned.f k t208 t211).bind fun t214 => (if t214 = t207 then ((laws_toExpectS.f k l0).bind fun t215 => ((laws_eqExpectS.f k t208 t215).bind fun t218 => (if t218 = true then ((laws_toSightS.f k l1).bind fun t219 => ((laws_eqSightS.f k t211 t219).bind fun t222 => (if t222 = true then (some true) else (some false)))) else (some false)))) else (some false)))))) = some true := H
   have A8 := uD A80
   clear A80
   replace H := Option.bind_eq_some_iff.mp H
   obtain ⟨t207, A90, H⟩ := H
   replace H : ((laws_toExpectS.f k l0).bind fun t208 => ((laws_toSightS.f k l1).bind fun t211 => ((impl_MostAssigned.f k t208 t211).bind fun t214 => (if t214 = t207 then ((laws_toExpectS.f k l0).bind fun t215 => ((laws_eqExpectS.f k t208 t215).bind fun t218 => (if t218 = true then ((laws_toSightS.f k l1).bind fun t219 => ((laws_eqSightS.f k t211 t219).bind fun t222 => (if t222 = true then (some true) else (some false)))) else (some false)))) else (some false))))) = some true := H
   have A9 := uD A90
   clear A90
   replace H := Option.bind_eq_some_iff.mp H
   obtain ⟨t208, A100, H⟩ := H
   replace H : ((laws_toSightS.f k l1).bind fun t211 => ((impl_MostAssigned.f k t208 t211).bind fun t214 => (if t214 = t207 then ((laws_toExpectS.f k l0).bind fun t215 => ((laws_eqExpectS.f k t208 t215).bind fun t218 => (if t218 = true then ((laws_toSightS.f k l1).bind fun t219 => ((laws_eqSightS.f k t211 t219).bind fun t222 => (if t222 = true then (some true) else (some false)))) else (some false)))) else (some false)))) = some true := H
   have A10 := uD A100
   clear A100
   replace H := Option.bind_eq_some_iff.mp H
   obtain ⟨t211, A110, H⟩ := H
   replace H : ((impl_MostAssigned.f k t208 t211).bind fun t214 => (if t214 = t207 then ((laws_toExpectS.f k l0).bind fun t215 => ((laws_eqExpectS.f k t208 t215).bind fun t218 => (if t218 = true then ((laws_toSightS.f k l1).bind fun t219 => ((laws_eqSightS.f k t211 t219).bind fun t222 => (if t222 = true then (some true) else (some false)))) else (some false)))) else (some false))) = some true := H
   have A11 := uD A110
   clear A110
   replace H := Option.bind_eq_some_iff.mp H
   obtain ⟨t214, A120, H⟩ := H
   replace H : (if t214 = t207 then ((laws_toExpectS.f k l0).bind fun t215 => ((laws_eqExpectS.f k t208 t215).bind fun t218 => (if t218 = true then ((laws_toSightS.f k l1).bind fun t219 => ((laws_eqSightS.f k t211 t219).bind fun t222 => (if t222 = true then (some true) else (some false)))) else (some false)))) else (some false)) = some true := H
   have A12 := uD A120
   clear A120
   by_cases c13 : t214 = t207
   ·rw [if_pos c13] at H
    have c13b0 : (t214 == t207) = true := beq_iff_eq.mpr c13
    have c13b1 : (t214 != t207) = false := bne_eq_false_iff_eq.mpr c13
    clear c13
    replace H := Option.bind_eq_some_iff.mp H
    obtain ⟨t215, A140, H⟩ := H
    replace H : ((laws_eqExpectS.f k t208 t215).bind fun t218 => (if t218 = true then ((laws_toSightS.f k l1).bind fun t219 => ((laws_eqSightS.f k t211 t219).bind fun t222 => (if t222 = true then (some true) else (some false)))) else (some false))) = some true := H
    have A14 := uD A140
    clear A140
    replace H := Option.bind_eq_some_iff.mp H
    obtain ⟨t218, A150, H⟩ := H
    replace H : (if t218 = true then ((laws_toSightS.f k l1).bind fun t219 => ((laws_eqSightS.f k t211 t219).bind fun t222 => (if t222 = true then (some true) else (some false)))) else (some false)) = some true := H
    have A15 := uD A150
    clear A150
    by_cases c16 : t218 = true
    ·subst c16
     have H1 : ((laws_toSightS.f k l1).bind fun t219 => ((laws_eqSightS.f k t211 t219).bind fun t222 => (if t222 = true then (some true) else (some false)))) = some true := by rw [if_pos rfl] at H; first | done | exact H
     clear H
     have H := H1
     clear H1
     replace H := Option.bind_eq_some_iff.mp H
     obtain ⟨t219, A170, H⟩ := H
     replace H : ((laws_eqSightS.f k t211 t219).bind fun t222 => (if t222 = true then (some true) else (some false))) = some true := H
     have A17 := uD A170
     clear A170
     replace H := Option.bind_eq_some_iff.mp H
     obtain ⟨t222, A180, H⟩ := H
     replace H : (if t222 = true then (some true) else (some false)) = some true := H
     have A18 := uD A180
     clear A180
     by_cases c19 : t222 = true
     ·subst c19
      have H1 : (some true) = some true := by rw [if_pos rfl] at H; first | done | exact H
      clear H
      have H := H1
      clear H1
      have HT := Option.some.inj H
      clear H
      go_enter Try.func7, Try.ntmps7
      go_wp2_with (first | ((with_reducible refine gate_callee (f := 13) rfl ?_); refine goesL_ (some 12) rfl rfl Try.func13 (by kernel_rfl) rfl #[.slice A0 l0.length c0, .int .i64 1048576] rfl (by (try simp only [List.map_toArray, List.map_cons, List.map_nil]); first | done | rfl | (simp only [List.length_drop, List.length_take]; rfl)) ?_; (with_reducible refine (laws_szExpectS.calls _ _ l0 1048576 t199 _ ?side1 ?side2 A3.out).mono ?_); (case side1 => repeat (first | exact HR0.out | (with_reducible refine Kd.C_alloc ?_ _) | (with_reducible refine Kd.C_drewN ?_ _) | (with_reducible refine Kd.C_drew ?_))); (case side2 => exact HC0.out); rintro e w' ⟨rfl, ⟨nd, rfl⟩⟩; refine ⟨_, rfl, ?_⟩) | ((with_reducible refine gate_callee (f := 18) rfl ?_); refine goesL_ (some 17) rfl rfl Try.func18 (by kernel_rfl) rfl #[.slice A1 l1.length c1, .int .i64 t199] rfl (by (try simp only [List.map_toArray, List.map_cons, List.map_nil]); first | done | rfl | (simp only [List.length_drop, List.length_take]; rfl)) ?_; (with_reducible refine (laws_szSightS.calls _ _ l1 t199 t200 _ ?side1 ?side2 A5.out).mono ?_); (case side1 => repeat (first | exact HR1.out | (with_reducible refine Kd.C_alloc ?_ _) | (with_reducible refine Kd.C_drewN ?_ _) | (with_reducible refine Kd.C_drew ?_))); (case side2 => exact HC1.out); rintro e w' ⟨rfl, ⟨nd, rfl⟩⟩; refine ⟨_, rfl, ?_⟩) | ((with_reducible refine gate_callee (f := 15) rfl ?_); refine goesL_ (some 21) rfl rfl Try.func15 (by kernel_rfl) rfl #[.slice A0 l0.length c0] rfl (by (try simp only [List.map_toArray, List.map_cons, List.map_nil]); first | done | rfl | (simp only [List.length_drop, List.length_take]; rfl)) ?_; (with_reducible refine (laws_toExpectS.calls k _ _ l0 t201 _ ?side1 ?side2 A7.out).mono ?_); (case side1 => repeat (first | exact HR0.out | (with_reducible refine Kd.C_alloc ?_ _) | (with_reducible refine Kd.C_drewN ?_ _) | (with_reducible refine Kd.C_drew ?_))); (case side2 => exact HC0.out); rintro e w20 ⟨v202, rfl, ho0, hb⟩; refine ⟨_, rfl, ?_⟩; have HO203 := uD (Kd.R_lower ho0 (uN (pb HB))); replace HB := uD (uO (pb HB) hb); (try clear hb); (try clear hb2); (try clear hk); (try clear hi); (try clear ho0)) | ((with_reducible refine gate_callee (f := 20) rfl ?_); refine goesL_ (some 23) rfl rfl Try.func20 (by kernel_rfl) rfl #[.slice A1 l1.length c1] rfl (by (try simp only [List.map_toArray, List.map_cons, List.map_nil]); first | done | rfl | (simp only [List.length_drop, List.length_take]; rfl)) ?_; (with_reducible refine (laws_toSightS.calls k _ _ l1 t204 _ ?side1 ?side2 A8.out).mono ?_); (case side1 => repeat (first | exact (Kd.C_below HR1.out HB.out) | (with_reducible refine Kd.C_alloc ?_ _) | (with_reducible refine Kd.C_drewN ?_ _) | (with_reducible refine Kd.C_drew ?_))); (case side2 => exact HC1.out); rintro e w21 ⟨v205, rfl, ho0, hb⟩; refine ⟨_, rfl, ?_⟩; replace HO203 := uD (Kd.R_below (pr HO203) hb); have HO206 := uD (Kd.R_lower ho0 (uN (pb HB))); replace HB := uD (uO (pb HB) hb); (try clear hb); (try clear hb2); (try clear hk); (try clear hi); (try clear ho0); obtain ⟨Ao22, co22, eo22⟩ := Kd.R_slice HO203.out; subst eo22; obtain ⟨Ao23, co23, eo23⟩ := Kd.R_slice HO206.out; subst eo23) | ((with_reducible refine gate_callee (f := 32) rfl ?_); refine goesL_ (some 24) rfl rfl Try.func32 (by kernel_rfl) rfl #[.slice Ao22 t201.length co22, .slice Ao23 t204.length co23] rfl (by (try simp only [List.map_toArray, List.map_cons, List.map_nil]); first | done | rfl | (simp only [List.length_drop, List.length_take]; rfl)) ?_; (with_reducible refine (spec_MostAssigned.calls k _ _ t201 _ _ t204 t207 _ ?side1 ?side2 ?side3 ?side4 A9.out).mono ?_); (case side1 => repeat (first | exact (Kd.R_reads' HO203.out).2.2 | (with_reducible refine Kd.C_alloc ?_ _) | (with_reducible refine Kd.C_drewN ?_ _) | (with_reducible refine Kd.C_drew ?_))); (case side2 => exact (Kd.R_reads' HO203.out).2.1); (case side3 => repeat (first | exact (Kd.R_reads' HO206.out).2.2 | (with_reducible refine Kd.C_alloc ?_ _) | (with_reducible refine Kd.C_drewN ?_ _) | (with_reducible refine Kd.C_drew ?_))); (case side4 => exact (Kd.R_reads' HO206.out).2.1); rintro e w24 ⟨rfl, hb⟩; refine ⟨_, rfl, ?_⟩; replace HO203 := uD (Kd.R_below (pr HO203) hb); replace HO206 := uD (Kd.R_below (pr HO206) hb); replace HB := uD (uO (pb HB) hb); (try clear hb); (try clear hb2); (try clear hk); (try clear hi)) | ((with_reducible refine gate_callee (f := 15) rfl ?_); refine goesL_ (some 26) rfl rfl Try.func15 (by kernel_rfl) rfl #[.slice A0 l0.length c0] rfl (by (try simp only [List.map_toArray, List.map_cons, List.map_nil]); first | done | rfl | (simp only [List.length_drop, List.length_take]; rfl)) ?_; (with_reducible refine (laws_toExpectS.calls k _ _ l0 t208 _ ?side1 ?side2 A10.out).mono ?_); (case side1 => repeat (first | exact (Kd.C_below HR0.out HB.out) | (with_reducible refine Kd.C_alloc ?_ _) | (with_reducible refine Kd.C_drewN ?_ _) | (with_reducible refine Kd.C_drew ?_))); (case side2 => exact HC0.out); rintro e w25 ⟨v209, rfl, ho0, hb⟩; refine ⟨_, rfl, ?_⟩; replace HO206 := uD (Kd.R_below (pr HO206) hb); have HO210 := uD (Kd.R_lower (Kd.R_new' ho0 (Kd.R_lt (pr HO203))) (uN (pb HB))); replace HO203 := uD (Kd.R_elder' (pr HO203) (Kd.R_base ho0) hb); replace HB := uD (uO (pb HB) hb); (try clear hb); (try clear hb2); (try clear hk); (try clear hi); (try clear ho0)) | ((with_reducible refine gate_callee (f := 20) rfl ?_); refine goesL_ (some 28) rfl rfl Try.func20 (by kernel_rfl) rfl #[.slice A1 l1.length c1] rfl (by (try simp only [List.map_toArray, List.map_cons, List.map_nil]); first | done | rfl | (simp only [List.length_drop, List.length_take]; rfl)) ?_; (with_reducible refine (laws_toSightS.calls k _ _ l1 t211 _ ?side1 ?side2 A11.out).mono ?_); (case side1 => repeat (first | exact (Kd.C_below HR1.out HB.out) | (with_reducible refine Kd.C_alloc ?_ _) | (with_reducible refine Kd.C_drewN ?_ _) | (with_reducible refine Kd.C_drew ?_))); (case side2 => exact HC1.out); rintro e w26 ⟨v212, rfl, ho0, hb⟩; refine ⟨_, rfl, ?_⟩; replace HO203 := uD (Kd.R_below (pr HO203) hb); replace HO210 := uD (Kd.R_below (pr HO210) hb); have HO213 := uD (Kd.R_lower (Kd.R_new' ho0 (Kd.R_lt (pr HO206))) (uN (pb HB))); replace HO206 := uD (Kd.R_elder' (pr HO206) (Kd.R_base ho0) hb); replace HB := uD (uO (pb HB) hb); (try clear hb); (try clear hb2); (try clear hk); (try clear hi); (try clear ho0); obtain ⟨Ao27, co27, eo27⟩ := Kd.R_slice HO210.out; subst eo27; obtain ⟨Ao28, co28, eo28⟩ := Kd.R_slice HO213.out; subst eo28) | ((with_reducible refine gate_callee (f := 33) rfl ?_); refine goesL_ (some 31) rfl rfl Try.func33 (by kernel_rfl) rfl #[.slice Ao27 t208.length co27, .slice Ao28 t211.length co28] rfl (by (try simp only [List.map_toArray, List.map_cons, List.map_nil]); first | done | rfl | (simp only [List.length_drop, List.length_take]; rfl)) ?_; (with_reducible refine (impl_MostAssigned.calls k _ _ t208 _ _ t211 t214 _ ?side1 ?side2 ?side3 ?side4 A12.out).mono ?_); (case side1 => repeat (first | exact (Kd.R_reads' HO210.out).2.2 | (with_reducible refine Kd.C_alloc ?_ _) | (with_reducible refine Kd.C_drewN ?_ _) | (with_reducible refine Kd.C_drew ?_))); (case side2 => exact (Kd.R_reads' HO210.out).2.1); (case side3 => repeat (first | exact (Kd.R_reads' HO213.out).2.2 | (with_reducible refine Kd.C_alloc ?_ _) | (with_reducible refine Kd.C_drewN ?_ _) | (with_reducible refine Kd.C_drew ?_))); (case side4 => exact (Kd.R_reads' HO213.out).2.1); rintro e w29 ⟨rfl, hb⟩; refine ⟨_, rfl, ?_⟩; replace HO203 := uD (Kd.R_below (pr HO203) hb); replace HO206 := uD (Kd.R_below (pr HO206) hb); replace HO210 := uD (Kd.R_below (pr HO210) hb); replace HO213 := uD (Kd.R_below (pr HO213) hb); replace HB := uD (uO (pb HB) hb); (try clear hb); (try clear hb2); (try clear hk); (try clear hi)) | ((with_reducible refine gate_callee (f := 15) rfl ?_); refine goesL_ (some 37) rfl rfl Try.func15 (by kernel_rfl) rfl #[.slice A0 l0.length c0] rfl (by (try simp only [List.map_toArray, List.map_cons, List.map_nil]); first | done | rfl | (simp only [List.length_drop, List.length_take]; rfl)) ?_; (with_reducible refine (laws_toExpectS.calls k _ _ l0 t215 _ ?side1 ?side2 A14.out).mono ?_); (case side1 => repeat (first | exact (Kd.C_below HR0.out HB.out) | (with_reducible refine Kd.C_alloc ?_ _) | (with_reducible refine Kd.C_drewN ?_ _) | (with_reducible refine Kd.C_drew ?_))); (case side2 => exact HC0.out); rintro e w30 ⟨v216, rfl, ho0, hb⟩; refine ⟨_, rfl, ?_⟩; replace HO206 := uD (Kd.R_below (pr HO206) hb); replace HO213 := uD (Kd.R_below (pr HO213) hb); have HO217 := uD (Kd.R_lower (Kd.R_new' (Kd.R_new' ho0 (Kd.R_lt (pr HO203))) (Kd.R_lt (pr HO210))) (uN (pb HB))); replace HO203 := uD (Kd.R_elder' (pr HO203) (Kd.R_base ho0) hb); replace HO210 := uD (Kd.R_elder' (pr HO210) (Kd.R_base ho0) hb); replace HB := uD (uO (pb HB) hb); (try clear hb); (try clear hb2); (try clear hk); (try clear hi); (try clear ho0); obtain ⟨Ao31, co31, eo31⟩ := Kd.R_slice HO217.out; subst eo31) | ((with_reducible refine gate_callee (f := 17) rfl ?_); refine goesL_ (some 38) rfl rfl Try.func17 (by kernel_rfl) rfl #[.slice Ao27 t208.length co27, .slice Ao31 t215.length co31] rfl (by (try simp only [List.map_toArray, List.map_cons, List.map_nil]); first | done | rfl | (simp only [List.length_drop, List.length_take]; rfl)) ?_; (with_reducible refine (laws_eqExpectS.calls k _ _ t208 _ _ t215 true _ ?side1 ?side2 ?side3 ?side4 A15.out).mono ?_); (case side1 => repeat (first | exact (Kd.R_reads' HO210.out).2.2 | (with_reducible refine Kd.C_alloc ?_ _) | (with_reducible refine Kd.C_drewN ?_ _) | (with_reducible refine Kd.C_drew ?_))); (case side2 => exact (Kd.R_reads' HO210.out).2.1); (case side3 => repeat (first | exact (Kd.R_reads' HO217.out).2.2 | (with_reducible refine Kd.C_alloc ?_ _) | (with_reducible refine Kd.C_drewN ?_ _) | (with_reducible refine Kd.C_drew ?_))); (case side4 => exact (Kd.R_reads' HO217.out).2.1); rintro e w32 ⟨rfl, hb⟩; refine ⟨_, rfl, ?_⟩; replace HO203 := uD (Kd.R_below (pr HO203) hb); replace HO206 := uD (Kd.R_below (pr HO206) hb); replace HO210 := uD (Kd.R_below (pr HO210) hb); replace HO213 := uD (Kd.R_below (pr HO213) hb); replace HO217 := uD (Kd.R_below (pr HO217) hb); replace HB := uD (uO (pb HB) hb); (try clear hb); (try clear hb2); (try clear hk); (try clear hi)) | ((with_reducible refine gate_callee (f := 20) rfl ?_); refine goesL_ (some 42) rfl rfl Try.func20 (by kernel_rfl) rfl #[.slice A1 l1.length c1] rfl (by (try simp only [List.map_toArray, List.map_cons, List.map_nil]); first | done | rfl | (simp only [List.length_drop, List.length_take]; rfl)) ?_; (with_reducible refine (laws_toSightS.calls k _ _ l1 t219 _ ?side1 ?side2 A17.out).mono ?_); (case side1 => repeat (first | exact (Kd.C_below HR1.out HB.out) | (with_reducible refine Kd.C_alloc ?_ _) | (with_reducible refine Kd.C_drewN ?_ _) | (with_reducible refine Kd.C_drew ?_))); (case side2 => exact HC1.out); rintro e w33 ⟨v220, rfl, ho0, hb⟩; refine ⟨_, rfl, ?_⟩; replace HO203 := uD (Kd.R_below (pr HO203) hb); replace HO210 := uD (Kd.R_below (pr HO210) hb); replace HO217 := uD (Kd.R_below (pr HO217) hb); have HO221 := uD (Kd.R_lower (Kd.R_new' (Kd.R_new' ho0 (Kd.R_lt (pr HO206))) (Kd.R_lt (pr HO213))) (uN (pb HB))); replace HO206 := uD (Kd.R_elder' (pr HO206) (Kd.R_base ho0) hb); replace HO213 := uD (Kd.R_elder' (pr HO213) (Kd.R_base ho0) hb); replace HB := uD (uO (pb HB) hb); (try clear hb); (try clear hb2); (try clear hk); (try clear hi); (try clear ho0); obtain ⟨Ao34, co34, eo34⟩ := Kd.R_slice HO221.out; subst eo34) | ((with_reducible refine gate_callee (f := 22) rfl ?_); refine goesL_ (some 43) rfl rfl Try.func22 (by kernel_rfl) rfl #[.slice Ao28 t211.length co28, .slice Ao34 t219.length co34] rfl (by (try simp only [List.map_toArray, List.map_cons, List.map_nil]); first | done | rfl | (simp only [List.length_drop, List.length_take]; rfl)) ?_; (with_reducible refine (laws_eqSightS.calls k _ _ t211 _ _ t219 true _ ?side1 ?side2 ?side3 ?side4 A18.out).mono ?_); (case side1 => repeat (first | exact (Kd.R_reads' HO213.out).2.2 | (with_reducible refine Kd.C_alloc ?_ _) | (with_reducible refine Kd.C_drewN ?_ _) | (with_reducible refine Kd.C_drew ?_))); (case side2 => exact (Kd.R_reads' HO213.out).2.1); (case side3 => repeat (first | exact (Kd.R_reads' HO221.out).2.2 | (with_reducible refine Kd.C_alloc ?_ _) | (with_reducible refine Kd.C_drewN ?_ _) | (with_reducible refine Kd.C_drew ?_))); (case side4 => exact (Kd.R_reads' HO221.out).2.1); rintro e w35 ⟨rfl, hb⟩; refine ⟨_, rfl, ?_⟩; replace HO203 := uD (Kd.R_below (pr HO203) hb); replace HO206 := uD (Kd.R_below (pr HO206) hb); replace HO210 := uD (Kd.R_below (pr HO210) hb); replace HO213 := uD (Kd.R_below (pr HO213) hb); replace HO217 := uD (Kd.R_below (pr HO217) hb); replace HO221 := uD (Kd.R_below (pr HO221) hb); replace HB := uD (uO (pb HB) hb); (try clear hb); (try clear hb2); (try clear hk); (try clear hi)))
      go_ret
      exact ⟨by first | rfl | (simp [errW_none, errW_some] <;> rfl) | (simp [*, errW_none, errW_some] <;> rfl), pb HB⟩
     ·replace c19 := Bool.eq_false_iff.mpr c19
      subst c19
      have H1 : (some false) = some true := by rw [if_neg (show ¬ (false = true) by decide)] at H; first | done | exact H
      clear H
      have H := H1
      clear H1
      exact absurd H (by simp)
    ·replace c16 := Bool.eq_false_iff.mpr c16
     subst c16
     have H1 : (some false) = some true := by rw [if_neg (show ¬ (false = true) by decide)] at H; first | done | exact H
     clear H
     have H := H1
     clear H1
     exact absurd H (by simp)
   ·rw [if_neg c13] at H
    have c13b0 : (t214 == t207) = false := beq_eq_false_iff_ne.mpr c13
    have c13b1 : (t214 != t207) = true := bne_iff_ne.mpr c13
    exact absurd H (by simp)

/-- THE ONE PURE STATEMENT of laws_FnExactMostAssigned. -/
def laws_FnExactMostAssigned.Pure : Prop := ∀ (l0 : List (S82)) (l1 : List (S88)), l0.length ≤ 9223372036854775807 → (∀ y ∈ l0, (Lit.int .i64 y.f0).wf = true ∧ (Lit.int .i64 y.f1).wf = true ∧ (Lit.int .i64 y.f2).wf = true) → l1.length ≤ 9223372036854775807 → (∀ y ∈ l1, (Lit.int .i64 y.f0).wf = true ∧ (Lit.int .i64 y.f1).wf = true) → ∃ k, laws_FnExactMostAssigned.f k l0 l1 = some true

end Go.Proofs.Ytnnimbbffbfhoaa.PFnExactMostAssigned
