-- Written by a program of this session (wip/myprint.py: the kit's print with changes): not by print.sh itself.
import Derived.Test.YtnkaimdcdedekaaDoorPFnExactFormatTagx0
import Derived.Test.YtnkaimdcdedekaaDoorPFnExactFormatTagx1
namespace Go.Proofs.YtnkaimdcdedekaaDoor.PFnExactFormatTag
open Go.RowKit Go.Proofs.YtnkaimdcdedekaaDoorW.PrintWords Go.Proofs.YtnkaimdcdedekaaDoorW.PrintLast Go.Proofs.YtnkaimdcdedekaaDoorW.PrintMore
open Go.Proofs.YtnkaimdcdedekaaDoorW.PrintWords renaming Aside0.mk → uD, below_size → uN, below_step → uO
attribute [local go_sem] max2_int min2_int max_two min_two max_three min_three max_four min_four   -- for this text's walks alone
set_option linter.unusedVariables false
set_option linter.unusedSimpArgs false

/-! ### laws_FnExactFormatTag: function 3 -/
def laws_FnExactFormatTag.f (k : Nat) (a0_0 : Int) (a0_1 : Int) (a0_2 : Int) : Option (Bool) := (laws_toTag.f a0_0 a0_1 a0_2).bind fun bt139 => ((spec_FormatTag.f k bt139.1 bt139.2.1 bt139.2.2).bind fun t142 => ((laws_toTag.f a0_0 a0_1 a0_2).bind fun bt143 => ((impl_FormatTag.f k bt143.1 bt143.2.1 bt143.2.2).bind fun t146 => (if t146.toList = t142.toList then (some true) else (some false)))))
theorem laws_FnExactFormatTag.mono : ∀ a0 a1 a2 k, LeO (laws_FnExactFormatTag.f k a0 a1 a2) (laws_FnExactFormatTag.f (k + 1) a0 a1 a2) := by
 intro a0 a1 a2 k
 unfold laws_FnExactFormatTag.f
 repeat' first
   | (with_reducible exact impl_FormatTag.mono _ _ _ _)
   | (with_reducible exact spec_FormatTag.mono _ _ _ _)
   | (with_reducible exact LeO.refl _)
   | (with_reducible exact LeO.none _)
   | (with_reducible refine LeO.ite ?_ ?_)
   | (with_reducible refine LeO.bind ?_ (fun _ => ?_))
   | exact impl_FormatTag.mono _ _ _ _
   | exact spec_FormatTag.mono _ _ _ _
   | exact LeO.none _
   | refine LeO.ite ?_ ?_
   | refine LeO.bind ?_ (fun _ => ?_)
set_option maxHeartbeats 8000000 in
set_option maxRecDepth 100000 in
theorem laws_FnExactFormatTag.calls (k : Nat) (a0_0 : Int) (a0_1 : Int) (a0_2 : Int) (w : World) (htab : Tab1 Tryd.prog w) (h : laws_FnExactFormatTag.f k a0_0 a0_1 a0_2 = some true) :
  Calls Tryd.prog 3 #[.agg #[.int .i64 a0_0, .int .i64 a0_1, .int .i64 a0_2]] w fun e w' => e = .returned (.bool true) ∧ Below w.heap.size w w' := by
 have hu23 := Tryd.underlying23
 have HB := uD (Below.refl w.heap.size w)
 have HTAB := uD htab
 clear htab
 have H : ((laws_toTag.f a0_0 a0_1 a0_2).bind fun bt139 => ((spec_FormatTag.f k bt139.1 bt139.2.1 bt139.2.2).bind fun t142 => ((laws_toTag.f a0_0 a0_1 a0_2).bind fun bt143 => ((impl_FormatTag.f k bt143.1 bt143.2.1 bt143.2.2).bind fun t146 => (if t146.toList = t142.toList then (some true) else (some false)))))) = some true := h
 clear h
 replace H := Option.bind_eq_some_iff.mp H
 obtain ⟨⟨t139, t140, t141⟩, A20, H⟩ := H
 replace H : ((spec_FormatTag.f k t139 t140 t141).bind fun t142 => ((laws_toTag.f a0_0 a0_1 a0_2).bind fun bt143 => ((impl_FormatTag.f k bt143.1 bt143.2.1 bt143.2.2).bind fun t146 => (if t146.toList = t142.toList then (some true) else (some false))))) = some true := H
 have A2 := uD A20
 clear A20
 replace H := Option.bind_eq_some_iff.mp H
 obtain ⟨t142, A30, H⟩ := H
 replace H : ((laws_toTag.f a0_0 a0_1 a0_2).bind fun bt143 => ((impl_FormatTag.f k bt143.1 bt143.2.1 bt143.2.2).bind fun t146 => (if t146.toList = t142.toList then (some true) else (some false)))) = some true := H
 have A3 := uD A30
 clear A30
 replace H := Option.bind_eq_some_iff.mp H
 obtain ⟨⟨t143, t144, t145⟩, A40, H⟩ := H
 replace H : ((impl_FormatTag.f k t143 t144 t145).bind fun t146 => (if t146.toList = t142.toList then (some true) else (some false))) = some true := H
 have A4 := uD A40
 clear A40
 replace H := Option.bind_eq_some_iff.mp H
 obtain ⟨t146, A50, H⟩ := H
 replace H : (if t146.toList = t142.toList then (some true) else (some false)) = some true := H
 have A5 := uD A50
 clear A50
 by_cases c6 : t146.toList = t142.toList
 ·rw [if_pos c6] at H
  have c6b0 : (t146.toList == t142.toList) = true := beq_iff_eq.mpr c6
  have c6b1 : (t146.toList != t142.toList) = false := bne_eq_false_iff_eq.mpr c6
  clear c6
  have HT := Option.some.inj H
  clear H
  go_enter Tryd.func3, Tryd.ntmps3
  go_wp2_with (first | ((with_reducible refine gate_dst (N := 1) rfl ?_); refine box_event ?hg (N := 1) ?hd (cs := #[.int .i64 a0_0, .int .i64 a0_1, .int .i64 a0_2]) (t := 23) ?hr ?_; (case hd => rfl); (case hg => rfl); (case hr => first | (go_simp; done) | (go_simp; rfl)); intro gb138 hg w7 hbox hb; have BK138 := uD (hbox); have GW138 := uD ((by rw [hg]; exact (uN (pb HB)) : w.heap.size ≤ gb138)); have GE138 := uD ((by rw [hg]; exact (uN (pb HB)) : w.heap.size ≤ gb138)); replace HB := uD (uO (pb HB) hb); clear hb hbox hg; obtain ⟨hcz8_0, hcz8_1, hcz8_2, hfz8_0, hfz8_1, hfz8_2⟩ := cz3 BK138) | ((with_reducible refine gate_callee (f := 13) rfl ?_); refine goesL_ (some 6) rfl rfl Tryd.func13 (by kernel_rfl) rfl #[.agg #[.int .i64 a0_0, .int .i64 a0_1, .int .i64 a0_2]] rfl (by (try simp only [List.map_toArray, List.map_cons, List.map_nil]); first | done | rfl | (simp only [List.length_drop, List.length_take]; rfl)) ?_; (with_reducible refine (laws_toTag.calls a0_0 a0_1 a0_2 t139 t140 t141 _ A2.out).mono ?_); rintro e w9 ⟨rfl, hb⟩; refine ⟨_, rfl, ?_⟩; replace BK138 := uD (blk_below (pk BK138) hb); replace HB := uD (uO (pb HB) hb); (try clear hb); (try clear hb2); (try clear hk); (try clear hi)) | ((with_reducible refine gate_callee (f := 12) rfl ?_); refine goesL_ (some 7) rfl rfl Tryd.func12 (by kernel_rfl) rfl #[.agg #[.int .i64 t139, .int .i64 t140, .int .i64 t141]] rfl (by (try simp only [List.map_toArray, List.map_cons, List.map_nil]); first | done | rfl | (simp only [List.length_drop, List.length_take]; rfl)) ?_; (with_reducible refine (spec_FormatTag.calls k t139 t140 t141 t142 _ A3.out).mono ?_); rintro e w10 ⟨rfl, hb⟩; refine ⟨_, rfl, ?_⟩; replace BK138 := uD (blk_below (pk BK138) hb); replace HB := uD (uO (pb HB) hb); (try clear hb); (try clear hb2); (try clear hk); (try clear hi); obtain ⟨hcz11_0, hcz11_1, hcz11_2, hfz11_0, hfz11_1, hfz11_2⟩ := cz3 BK138) | ((with_reducible refine gate_callee (f := 13) rfl ?_); refine goesL_ (some 9) rfl rfl Tryd.func13 (by kernel_rfl) rfl #[.agg #[.int .i64 a0_0, .int .i64 a0_1, .int .i64 a0_2]] rfl (by (try simp only [List.map_toArray, List.map_cons, List.map_nil]); first | done | rfl | (simp only [List.length_drop, List.length_take]; rfl)) ?_; (with_reducible refine (laws_toTag.calls a0_0 a0_1 a0_2 t143 t144 t145 _ A4.out).mono ?_); rintro e w12 ⟨rfl, hb⟩; refine ⟨_, rfl, ?_⟩; replace BK138 := uD (blk_below (pk BK138) hb); replace HB := uD (uO (pb HB) hb); (try clear hb); (try clear hb2); (try clear hk); (try clear hi)) | ((with_reducible refine gate_callee (f := 14) rfl ?_); refine goesL_ (some 10) rfl rfl Tryd.func14 (by kernel_rfl) rfl #[.agg #[.int .i64 t143, .int .i64 t144, .int .i64 t145]] rfl (by (try simp only [List.map_toArray, List.map_cons, List.map_nil]); first | done | rfl | (simp only [List.length_drop, List.length_take]; rfl)) ?_; (with_reducible refine (impl_FormatTag.calls k t143 t144 t145 t146 _ ?side1 A5.out).mono ?_); (case side1 => exact tb11 HTAB (pb HB)); rintro e w13 ⟨rfl, hb⟩; refine ⟨_, rfl, ?_⟩; replace BK138 := uD (blk_below (pk BK138) hb); replace HB := uD (uO (pb HB) hb); (try clear hb); (try clear hb2); (try clear hk); (try clear hi)))
  go_ret
  exact ⟨by first | rfl | (simp [errW_none, errW_some] <;> rfl) | (simp [*, errW_none, errW_some] <;> rfl), pb HB⟩
 ·rw [if_neg c6] at H
  have c6b0 : (t146.toList == t142.toList) = false := beq_eq_false_iff_ne.mpr c6
  have c6b1 : (t146.toList != t142.toList) = true := bne_iff_ne.mpr c6
  exact absurd H (by simp)

/-- THE ONE PURE STATEMENT of laws_FnExactFormatTag. -/
def laws_FnExactFormatTag.Pure : Prop := ∀ (a0_0 : Int) (a0_1 : Int) (a0_2 : Int), (Lit.int .i64 a0_0).wf = true → (Lit.int .i64 a0_1).wf = true → (Lit.int .i64 a0_2).wf = true → ∃ k, laws_FnExactFormatTag.f k a0_0 a0_1 a0_2 = some true

end Go.Proofs.YtnkaimdcdedekaaDoor.PFnExactFormatTag
