-- Written by a program of this session (wip/myprint.py: the kit's print with changes): not by print.sh itself.
import Derived.Test.YtnkaimdcdedekaaDoorPFnExactCandidatesx0
import Derived.Test.YtnkaimdcdedekaaDoorPFnExactCandidatesx2
import Derived.Test.YtnkaimdcdedekaaDoorPFnExactCandidatesx4
import Derived.Test.YtnkaimdcdedekaaDoorPFnExactCandidatesx5
namespace Go.Proofs.YtnkaimdcdedekaaDoor.PFnExactCandidates
open Go.RowKit Go.Proofs.YtnkaimdcdedekaaDoorW.PrintWords Go.Proofs.YtnkaimdcdedekaaDoorW.PrintLast Go.Proofs.YtnkaimdcdedekaaDoorW.PrintMore
open Go renaming Act.put → uc
open Go.Proofs.YtnkaimdcdedekaaDoorW.PrintWords renaming Aside0.mk → uD, pw_below_drewN → uE, below_drew1 → uK, below_alloc → uL, below_size → uN, below_step → uO, Kd.R_drewN → uS, Kd.R_drew → uT, Kd.R_alloc → uU, Kd.R_mono → uX
open List renaming setIfInBounds_toArray → uA, set_cons_zero → uB, set_cons_succ → uC
attribute [local go_sem] max2_int min2_int max_two min_two max_three min_three max_four min_four   -- for this text's walks alone
set_option linter.unusedVariables false
set_option linter.unusedSimpArgs false

/-! ### laws_FnExactCandidates: function 6 -/
mutual
def laws_FnExactCandidates.j0 : Nat → ByteArray → List (S25) → Bool → List (S25) → Bool → Option (Bool)
 | 0, _, _, _, _, _ => none
 | k + 1, x0, x3, x4, x5, x32 => if x32 = true then (some false) else ((laws_markTagS.f k x5 1).bind fun bt157 => ((laws_heldTagS.f k bt157.2 1).bind fun t159 => (if t159 < 0 then (some false) else (if t159 = bt157.1 then ((impl_Candidates.f k x0).bind fun bt160 => ((laws_eqTagS.f k bt160.1 x3).bind fun t164 => (if t164 = true then (laws_FnExactCandidates.j1 k bt157.2 bt157.1 (bt160.2 != x4)) else (laws_FnExactCandidates.j1 k bt157.2 bt157.1 true)))) else (some false)))))
def laws_FnExactCandidates.j1 : Nat → List (S25) → Int → Bool → Option (Bool)
 | 0, _, _, _ => none
 | k + 1, x5, x7, x57 => if x57 = true then (some false) else ((laws_heldTagS.f k x5 1).bind fun t165 => (if t165 < 0 then (some false) else (if t165 = x7 then (some true) else (some false))))
end
def laws_FnExactCandidates.f (k : Nat) (a0 : ByteArray) : Option (Bool) := if (a0.size : Int) > 1048576 then (some true) else ((spec_Candidates.f k a0).bind fun bt148 => ((impl_Candidates.f k a0).bind fun bt152 => ((laws_eqTagS.f k bt152.1 bt148.1).bind fun t156 => (if t156 = true then (laws_FnExactCandidates.j0 k a0 bt148.1 bt148.2 bt152.1 (bt152.2 != bt148.2)) else (laws_FnExactCandidates.j0 k a0 bt148.1 bt148.2 bt152.1 true)))))
theorem laws_FnExactCandidates.mono_l : ∀ k, (∀ y0 y1 y2 y3 y4, LeO (laws_FnExactCandidates.j0 k y0 y1 y2 y3 y4) (laws_FnExactCandidates.j0 (k + 1) y0 y1 y2 y3 y4)) ∧ (∀ y0 y1 y2, LeO (laws_FnExactCandidates.j1 k y0 y1 y2) (laws_FnExactCandidates.j1 (k + 1) y0 y1 y2))
 | 0 => ⟨fun _ _ _ _ _ r h => by simp [laws_FnExactCandidates.j0] at h, fun _ _ _ r h => by simp [laws_FnExactCandidates.j1] at h⟩
 | k + 1 => by
  obtain ⟨ih0, ih1⟩ := laws_FnExactCandidates.mono_l k
  refine ⟨?_, ?_⟩
  ·intro y0 y1 y2 y3 y4
   unfold laws_FnExactCandidates.j0
   repeat' first
   | (with_reducible exact ih0 _ _ _ _ _)
   | (with_reducible exact ih1 _ _ _)
   | (with_reducible exact impl_Candidates.mono _ _)
   | (with_reducible exact laws_eqTagS.mono _ _ _)
   | (with_reducible exact laws_heldTagS.mono _ _ _)
   | (with_reducible exact laws_markTagS.mono _ _ _)
   | (with_reducible exact spec_Candidates.mono _ _)
   | (with_reducible exact LeO.refl _)
   | (with_reducible exact LeO.none _)
   | (with_reducible refine LeO.ite ?_ ?_)
   | (with_reducible refine LeO.bind ?_ (fun _ => ?_))
   | exact ih0 _ _ _ _ _
   | exact ih1 _ _ _
   | exact impl_Candidates.mono _ _
   | exact laws_eqTagS.mono _ _ _
   | exact laws_heldTagS.mono _ _ _
   | exact laws_markTagS.mono _ _ _
   | exact spec_Candidates.mono _ _
   | exact LeO.none _
   | refine LeO.ite ?_ ?_
   | refine LeO.bind ?_ (fun _ => ?_)
  ·intro y0 y1 y2
   unfold laws_FnExactCandidates.j1
   repeat' first
   | (with_reducible exact ih0 _ _ _ _ _)
   | (with_reducible exact ih1 _ _ _)
   | (with_reducible exact impl_Candidates.mono _ _)
   | (with_reducible exact laws_eqTagS.mono _ _ _)
   | (with_reducible exact laws_heldTagS.mono _ _ _)
   | (with_reducible exact laws_markTagS.mono _ _ _)
   | (with_reducible exact spec_Candidates.mono _ _)
   | (with_reducible exact LeO.refl _)
   | (with_reducible exact LeO.none _)
   | (with_reducible refine LeO.ite ?_ ?_)
   | (with_reducible refine LeO.bind ?_ (fun _ => ?_))
   | exact ih0 _ _ _ _ _
   | exact ih1 _ _ _
   | exact impl_Candidates.mono _ _
   | exact laws_eqTagS.mono _ _ _
   | exact laws_heldTagS.mono _ _ _
   | exact laws_markTagS.mono _ _ _
   | exact spec_Candidates.mono _ _
   | exact LeO.none _
   | refine LeO.ite ?_ ?_
   | refine LeO.bind ?_ (fun _ => ?_)
theorem laws_FnExactCandidates.mono : ∀ a0 k, LeO (laws_FnExactCandidates.f k a0) (laws_FnExactCandidates.f (k + 1) a0) := by
 intro a0 k
 obtain ⟨ih0, ih1⟩ := laws_FnExactCandidates.mono_l k
 unfold laws_FnExactCandidates.f
 repeat' first
   | (with_reducible exact ih0 _ _ _ _ _)
   | (with_reducible exact ih1 _ _ _)
   | (with_reducible exact impl_Candidates.mono _ _)
   | (with_reducible exact laws_eqTagS.mono _ _ _)
   | (with_reducible exact laws_heldTagS.mono _ _ _)
   | (with_reducible exact laws_markTagS.mono _ _ _)
   | (with_reducible exact spec_Candidates.mono _ _)
   | (with_reducible exact LeO.refl _)
   | (with_reducible exact LeO.none _)
   | (with_reducible refine LeO.ite ?_ ?_)
   | (with_reducible refine LeO.bind ?_ (fun _ => ?_))
   | exact ih0 _ _ _ _ _
   | exact ih1 _ _ _
   | exact impl_Candidates.mono _ _
   | exact laws_eqTagS.mono _ _ _
   | exact laws_heldTagS.mono _ _ _
   | exact laws_markTagS.mono _ _ _
   | exact spec_Candidates.mono _ _
   | exact LeO.none _
   | refine LeO.ite ?_ ?_
   | refine LeO.bind ?_ (fun _ => ?_)
set_option maxHeartbeats 8000000 in
set_option maxRecDepth 100000 in
theorem laws_FnExactCandidates.calls (k : Nat) (a0 : ByteArray) (w : World) (htab : Tab1 Tryd.prog w) (h : laws_FnExactCandidates.f k a0 = some true) :
  Calls Tryd.prog 6 #[.string a0] w fun e w' => e = .returned (.bool true) ∧ Below w.heap.size w w' := by
 have HB := uD (Below.refl w.heap.size w)
 have HTAB := uD htab
 clear htab
 have H : (if (a0.size : Int) > 1048576 then (some true) else ((spec_Candidates.f k a0).bind fun bt148 => ((impl_Candidates.f k a0).bind fun bt152 => ((laws_eqTagS.f k bt152.1 bt148.1).bind fun t156 => (if t156 = true then (laws_FnExactCandidates.j0 k a0 bt148.1 bt148.2 bt152.1 (bt152.2 != bt148.2)) else (laws_FnExactCandidates.j0 k a0 bt148.1 bt148.2 bt152.1 true)))))) = some true := h
 clear h
 by_cases c2 : (a0.size : Int) > 1048576
 ·rw [if_pos c2] at H
  have c2b0 : decide (1048576 < (a0.size : Int)) = true := decide_eq_true c2
  have c2b1 : decide (1048576 < a0.size) = true := decide_eq_true (by omega)
  clear c2
  have HT := Option.some.inj H
  clear H
  go_enter Tryd.func6, Tryd.ntmps6
  go_wp2
  go_ret
  exact ⟨by first | rfl | (simp [errW_none, errW_some] <;> rfl) | (simp [*, errW_none, errW_some] <;> rfl), pb HB⟩
 ·rw [if_neg c2] at H
  have c2b0 : decide (1048576 < (a0.size : Int)) = false := decide_eq_false c2
  have c2b1 : decide (1048576 < a0.size) = false := decide_eq_false (by omega)
  clear c2
  replace H := Option.bind_eq_some_iff.mp H
  obtain ⟨⟨t148, t149⟩, A30, H⟩ := H
  replace H : ((impl_Candidates.f k a0).bind fun bt152 => ((laws_eqTagS.f k bt152.1 t148).bind fun t156 => (if t156 = true then (laws_FnExactCandidates.j0 k a0 t148 t149 bt152.1 (bt152.2 != t149)) else (laws_FnExactCandidates.j0 k a0 t148 t149 bt152.1 true)))) = some true := H
  have A3 := uD A30
  clear A30
  replace H := Option.bind_eq_some_iff.mp H
  obtain ⟨⟨t152, t153⟩, A40, H⟩ := H
  replace H : ((laws_eqTagS.f k t152 t148).bind fun t156 => (if t156 = true then (laws_FnExactCandidates.j0 k a0 t148 t149 t152 (t153 != t149)) else (laws_FnExactCandidates.j0 k a0 t148 t149 t152 true))) = some true := H
  have A4 := uD A40
  clear A40
  have HC5 := uD H
  clear H
  go_enter Tryd.func6, Tryd.ntmps6
  go_upto_region 5 with (first | ((with_reducible refine gate_callee (f := 20) rfl ?_); refine gl (some 16) Tryd.func20 #[.string a0] ?_; (with_reducible refine (spec_Candidates.calls k a0 t148 t149 _ A3.out).mono ?_); rintro e w6 ⟨v150, rfl, ho0, hb⟩; refine ⟨_, rfl, ?_⟩; have HO151 := uD (Kd.R_lower ho0 (uN (pb HB))); replace HB := uD (uO (pb HB) hb); (try clear hb); (try clear hb2); (try clear hk); (try clear hi); (try clear ho0)) | ((with_reducible refine gate_callee (f := 21) rfl ?_); refine gl (some 21) Tryd.func21 #[.string a0] ?_; (with_reducible refine (impl_Candidates.calls k a0 t152 t153 _ ?side1 A4.out).mono ?_); (case side1 => exact tb11 HTAB (pb HB)); rintro e w7 ⟨v154, rfl, ho0, hb⟩; refine ⟨_, rfl, ?_⟩; have HO155 := uD (Kd.R_lower (Kd.R_new' ho0 (Kd.R_lt (pr HO151))) (uN (pb HB))); replace HO151 := uD (Kd.R_elder' (pr HO151) (Kd.R_base ho0) hb); replace HB := uD (uO (pb HB) hb); (try clear hb); (try clear hb2); (try clear hk); (try clear hi); (try clear ho0)))
  (try simp only [uc, uA, uB, uC])
  go_cut [32] (fun v32 wc => ∃ (kq : Nat) (x32_4 : Bool), v32 = .bool x32_4 ∧ Aside0 (laws_FnExactCandidates.j0 kq a0 t148 t149 t152 x32_4 = some true) ∧ Aside0 (kq ≤ k) ∧ Aside0 (Kd.R k25 25 wc w.heap.size (fun k_ => some k_ ≠ (v154 : Value).ownBlock) v150 t148) ∧ Aside0 (Kd.R k25 25 wc w.heap.size (fun k_ => some k_ ≠ (v150 : Value).ownBlock) v154 t152) ∧ Aside0 (Below w.heap.size w wc))
  case first =>
   have H := HC5.out
   clear HC5
   replace H := Option.bind_eq_some_iff.mp H
   obtain ⟨t156, A80, H⟩ := H
   replace H : (if t156 = true then (laws_FnExactCandidates.j0 k a0 t148 t149 t152 (t153 != t149)) else (laws_FnExactCandidates.j0 k a0 t148 t149 t152 true)) = some true := H
   have A8 := uD A80
   clear A80
   by_cases c9 : t156 = true
   ·subst c9
    have H1 : (laws_FnExactCandidates.j0 k a0 t148 t149 t152 (t153 != t149)) = some true := by rw [if_pos rfl] at H; first | done | exact H
    clear H
    have H := H1
    clear H1
    have H' := uD H
    clear H
    obtain ⟨Ao10, co10, eo10⟩ := Kd.R_slice HO155.out
    subst eo10
    obtain ⟨Ao11, co11, eo11⟩ := Kd.R_slice HO151.out
    subst eo11
    go_wp2_with (first | ((with_reducible refine gate_callee (f := 22) rfl ?_); refine gl (some 26) Tryd.func22 #[.slice Ao10 t152.length co10, .slice Ao11 t148.length co11] ?_; (with_reducible refine (laws_eqTagS.calls k _ _ t152 _ _ t148 true _ ?side1 ?side2 ?side3 ?side4 A8.out).mono ?_); (case side1 => exact pc ((Kd.R_reads' HO155.out).2.2)); (case side2 => exact (Kd.R_reads' HO155.out).2.1); (case side3 => exact pc ((Kd.R_reads' HO151.out).2.2)); (case side4 => exact (Kd.R_reads' HO151.out).2.1); rintro e w12 ⟨rfl, hb⟩; refine ⟨_, rfl, ?_⟩; replace HO151 := uD (Kd.R_below (pr HO151) hb); replace HO155 := uD (Kd.R_below (pr HO155) hb); replace HB := uD (uO (pb HB) hb); (try clear hb); (try clear hb2); (try clear hk); (try clear hi)))
    go_meet
    case rel => exact ⟨_, ((t153 != t149)), (by first | rfl | (simp; done) | (simp [*]; done)), H', ⟨by first | omega | exact Nat.le_refl _⟩, ⟨by (with_reducible repeat (first | apply uU | apply uS | apply uT)); exact uX HO151.out (fun _ hk => hk.2)⟩, ⟨by (with_reducible repeat (first | apply uU | apply uS | apply uT)); exact uX HO155.out (fun _ hk => hk.2)⟩, ⟨pb HB⟩⟩
   ·replace c9 := Bool.eq_false_iff.mpr c9
    subst c9
    have H1 : (laws_FnExactCandidates.j0 k a0 t148 t149 t152 true) = some true := by rw [if_neg (show ¬ (false = true) by decide)] at H; first | done | exact H
    clear H
    have H := H1
    clear H1
    exact absurd H (by cases k <;> simp [laws_FnExactCandidates.j0])
  case rest =>
   clear HC5
   try clear c2
   try clear c2b0
   try clear c2b1
   try clear p2
   try clear c6
   try clear c9
   obtain ⟨kq, x32_4, rfl, HA, HJ4, HO_3, HO_5, HB⟩ := hcut
   cases kq with
   | zero => exact absurd HA.out (by simp [laws_FnExactCandidates.j0])
   | succ kj4 =>
    have H := HA.out
    clear HA
    simp only [laws_FnExactCandidates.j0] at H
    by_cases c13 : x32_4 = true
    ·subst c13
     have H1 : (some false) = some true := by rw [if_pos rfl] at H; first | done | exact H
     clear H
     have H := H1
     clear H1
     exact absurd H (by simp)
    ·replace c13 := Bool.eq_false_iff.mpr c13
     subst c13
     have H1 : ((laws_markTagS.f kj4 t152 1).bind fun bt157 => ((laws_heldTagS.f kj4 bt157.2 1).bind fun t159 => (if t159 < 0 then (some false) else (if t159 = bt157.1 then ((impl_Candidates.f kj4 a0).bind fun bt160 => ((laws_eqTagS.f kj4 bt160.1 t148).bind fun t164 => (if t164 = true then (laws_FnExactCandidates.j1 kj4 bt157.2 bt157.1 (bt160.2 != t149)) else (laws_FnExactCandidates.j1 kj4 bt157.2 bt157.1 true)))) else (some false))))) = some true := by rw [if_neg (show ¬ (false = true) by decide)] at H; first | done | exact H
     clear H
     have H := H1
     clear H1
     replace H := Option.bind_eq_some_iff.mp H
     obtain ⟨⟨t157, t158⟩, A140, H⟩ := H
     replace H : ((laws_heldTagS.f kj4 t158 1).bind fun t159 => (if t159 < 0 then (some false) else (if t159 = t157 then ((impl_Candidates.f kj4 a0).bind fun bt160 => ((laws_eqTagS.f kj4 bt160.1 t148).bind fun t164 => (if t164 = true then (laws_FnExactCandidates.j1 kj4 t158 t157 (bt160.2 != t149)) else (laws_FnExactCandidates.j1 kj4 t158 t157 true)))) else (some false)))) = some true := H
     have A14 := uD A140
     clear A140
     replace H := Option.bind_eq_some_iff.mp H
     obtain ⟨t159, A150, H⟩ := H
     replace H : (if t159 < 0 then (some false) else (if t159 = t157 then ((impl_Candidates.f kj4 a0).bind fun bt160 => ((laws_eqTagS.f kj4 bt160.1 t148).bind fun t164 => (if t164 = true then (laws_FnExactCandidates.j1 kj4 t158 t157 (bt160.2 != t149)) else (laws_FnExactCandidates.j1 kj4 t158 t157 true)))) else (some false))) = some true := H
     have A15 := uD A150
     clear A150
     by_cases c16 : t159 < 0
     ·rw [if_pos c16] at H
      have c16b0 : decide (t159 < 0) = true := decide_eq_true c16
      clear c16
      exact absurd H (by simp)
     ·rw [if_neg c16] at H
      have c16b0 : decide (t159 < 0) = false := decide_eq_false c16
      clear c16
      by_cases c17 : t159 = t157
      ·rw [if_pos c17] at H
       have c17b0 : (t159 == t157) = true := beq_iff_eq.mpr c17
       have c17b1 : (t159 != t157) = false := bne_eq_false_iff_eq.mpr c17
       clear c17
       replace H := Option.bind_eq_some_iff.mp H
       obtain ⟨⟨t160, t161⟩, A180, H⟩ := H
       replace H : ((laws_eqTagS.f kj4 t160 t148).bind fun t164 => (if t164 = true then (laws_FnExactCandidates.j1 kj4 t158 t157 (t161 != t149)) else (laws_FnExactCandidates.j1 kj4 t158 t157 true))) = some true := H
       have A18 := uD A180
       clear A180
       have HC19 := uD H
       clear H
       obtain ⟨Ao20, co20, eo20⟩ := Kd.R_slice HO_5.out
       subst eo20
       go_upto_region 16 with (first | ((with_reducible refine gate_callee (f := 23) rfl ?_); refine gl (some 35) Tryd.func23 #[.slice Ao20 t152.length co20, .int .i64 1] ?_; (with_reducible refine (laws_markTagS.calls kj4 (fun k_ => some k_ = (.slice Ao20 t152.length co20 : Value).ownBlock) (.slice Ao20 t152.length co20) t152 1 t157 t158 w _ ?side1 ?side2 A14.out).mono ?_); (case side1 => repeat (first | (with_reducible first | exact HB.out | apply uL | apply uE | apply uK) | exact HB.out)); (case side2 => exact Kd.R_tight rfl HO_5.out); rintro e w21 ⟨rfl, hy0, hb, hkp⟩; refine ⟨_, rfl, ?_⟩; replace HO_3 := uD (uX (ok' := fun k_ => some k_ ≠ (.slice Ao20 t152.length co20 : Value).ownBlock) (Kd.R_keptB (HO_3.out) hkp (fun k_ hk_ hs_ => (hk_) hs_)) (fun k_ hk_ => hk_.1)); replace HO_5 := uD (Kd.R_reok rfl hy0 (fun k_ e_ => HO_5.out.1 k_ e_)); replace HB := uD (hb); (try clear hb); (try clear hkp); (try clear hy0)) | ((with_reducible refine gate_callee (f := 24) rfl ?_); refine goesL_ (some 38) rfl rfl Tryd.func24 (by kernel_rfl) rfl #[.slice Ao20 t158.length co20, .int .i64 1] rfl (by (try simp only [List.map_toArray, List.map_cons, List.map_nil]); first | done | (rw [show t158.length = t152.length from (Kd.R_reads' HO_5.out).1.symm] <;> rfl) | rfl | (simp only [List.length_drop, List.length_take]; rfl)) ?_; (with_reducible refine (laws_heldTagS.calls kj4 _ _ t158 1 t159 _ ?side1 ?side2 A15.out).mono ?_); (case side1 => exact pc ((Kd.R_reads' HO_5.out).2.2)); (case side2 => rw [show t158.length = t152.length from (Kd.R_reads' HO_5.out).1.symm]; exact (Kd.R_reads' HO_5.out).2.1); rintro e w' ⟨rfl, ⟨nd, rfl⟩⟩; refine ⟨_, rfl, ?_⟩) | ((with_reducible refine gate_callee (f := 21) rfl ?_); refine gl (some 46) Tryd.func21 #[.string a0] ?_; (with_reducible refine (impl_Candidates.calls kj4 a0 t160 t161 _ ?side1 A18.out).mono ?_); (case side1 => exact tb11 HTAB (pb HB)); rintro e w22 ⟨v162, rfl, ho0, hb⟩; refine ⟨_, rfl, ?_⟩; have HO163 := uD (Kd.R_lower (Kd.R_new' (Kd.R_new' ho0 (Kd.R_lt (pr HO_3))) (Kd.R_lt (pr HO_5))) (uN (pb HB))); replace HO_3 := uD (Kd.R_elder' (pr HO_3) (Kd.R_base ho0) hb); replace HO_5 := uD (Kd.R_elder' (pr HO_5) (Kd.R_base ho0) hb); replace HB := uD (uO (pb HB) hb); (try clear hb); (try clear hb2); (try clear hk); (try clear hi); (try clear ho0)))
       (try simp only [uc, uA, uB, uC])
       go_cut [57] (fun v57 wc => ∃ (kq : Nat) (x57_18 : Bool), v57 = .bool x57_18 ∧ Aside0 (laws_FnExactCandidates.j1 kq t158 t157 x57_18 = some true) ∧ Aside0 (kq ≤ kj4) ∧ Aside0 (Kd.R k25 25 wc w.heap.size (fun _ => True) (.slice Ao20 t152.length co20) t158) ∧ Aside0 (Below w.heap.size w wc))
       case first =>
        have H := HC19.out
        clear HC19
        replace H := Option.bind_eq_some_iff.mp H
        obtain ⟨t164, A230, H⟩ := H
        replace H : (if t164 = true then (laws_FnExactCandidates.j1 kj4 t158 t157 (t161 != t149)) else (laws_FnExactCandidates.j1 kj4 t158 t157 true)) = some true := H
        have A23 := uD A230
        clear A230
        by_cases c24 : t164 = true
        ·subst c24
         have H1 : (laws_FnExactCandidates.j1 kj4 t158 t157 (t161 != t149)) = some true := by rw [if_pos rfl] at H; first | done | exact H
         clear H
         have H := H1
         clear H1
         have H' := uD H
         clear H
         obtain ⟨Ao25, co25, eo25⟩ := Kd.R_slice HO163.out
         subst eo25
         obtain ⟨Ao26, co26, eo26⟩ := Kd.R_slice HO_3.out
         subst eo26
         go_wp2_with (first | ((with_reducible refine gate_callee (f := 22) rfl ?_); refine gl (some 51) Tryd.func22 #[.slice Ao25 t160.length co25, .slice Ao26 t148.length co26] ?_; (with_reducible refine (laws_eqTagS.calls kj4 _ _ t160 _ _ t148 true _ ?side1 ?side2 ?side3 ?side4 A23.out).mono ?_); (case side1 => exact pc ((Kd.R_reads' HO163.out).2.2)); (case side2 => exact (Kd.R_reads' HO163.out).2.1); (case side3 => exact pc ((Kd.R_reads' HO_3.out).2.2)); (case side4 => exact (Kd.R_reads' HO_3.out).2.1); rintro e w27 ⟨rfl, hb⟩; refine ⟨_, rfl, ?_⟩; replace HO_3 := uD (Kd.R_below (pr HO_3) hb); replace HO_5 := uD (Kd.R_below (pr HO_5) hb); replace HO163 := uD (Kd.R_below (pr HO163) hb); replace HB := uD (uO (pb HB) hb); (try clear hb); (try clear hb2); (try clear hk); (try clear hi)))
         go_meet
         case rel => exact ⟨_, ((t161 != t149)), (by first | rfl | (simp; done) | (simp [*]; done)), H', ⟨by have := HJ4.out; first | omega | exact Nat.le_refl _⟩, ⟨by (with_reducible repeat (first | apply uU | apply uS | apply uT)); exact uX HO_5.out (fun _ hk => trivial)⟩, ⟨pb HB⟩⟩
        ·replace c24 := Bool.eq_false_iff.mpr c24
         subst c24
         have H1 : (laws_FnExactCandidates.j1 kj4 t158 t157 true) = some true := by rw [if_neg (show ¬ (false = true) by decide)] at H; first | done | exact H
         clear H
         have H := H1
         clear H1
         exact absurd H (by cases kj4 <;> simp [laws_FnExactCandidates.j1])
       case rest =>
        clear HC19
        try clear c1
        try clear c2
        try clear c2b0
        try clear c2b1
        try clear p2
        try clear c6
        try clear c9
        try clear c13
        try clear c16
        try clear c16b0
        try clear c17
        try clear c17b0
        try clear c17b1
        try clear c20
        try clear c21
        try clear c22
        try clear c23
        try clear c24
        try clear p2
        obtain ⟨kq, x57_18, rfl, HA, HJ18, HO_5, HB⟩ := hcut
        have hl5_18 := (Kd.R_reads' HO_5.out).1
        rw [hl5_18] at HO_5
        (try simp only [hl5_18])
        cases kq with
        | zero => exact absurd HA.out (by simp [laws_FnExactCandidates.j1])
        | succ kj18 =>
         have H := HA.out
         clear HA
         simp only [laws_FnExactCandidates.j1] at H
         by_cases c28 : x57_18 = true
         ·subst c28
          have H1 : (some false) = some true := by rw [if_pos rfl] at H; first | done | exact H
          clear H
          have H := H1
          clear H1
          exact absurd H (by simp)
         ·replace c28 := Bool.eq_false_iff.mpr c28
          subst c28
          have H1 : ((laws_heldTagS.f kj18 t158 1).bind fun t165 => (if t165 < 0 then (some false) else (if t165 = t157 then (some true) else (some false)))) = some true := by rw [if_neg (show ¬ (false = true) by decide)] at H; first | done | exact H
          clear H
          have H := H1
          clear H1
          replace H := Option.bind_eq_some_iff.mp H
          obtain ⟨t165, A290, H⟩ := H
          replace H : (if t165 < 0 then (some false) else (if t165 = t157 then (some true) else (some false))) = some true := H
          have A29 := uD A290
          clear A290
          by_cases c30 : t165 < 0
          ·rw [if_pos c30] at H
           have c30b0 : decide (t165 < 0) = true := decide_eq_true c30
           clear c30
           exact absurd H (by simp)
          ·rw [if_neg c30] at H
           have c30b0 : decide (t165 < 0) = false := decide_eq_false c30
           clear c30
           by_cases c31 : t165 = t157
           ·rw [if_pos c31] at H
            have c31b0 : (t165 == t157) = true := beq_iff_eq.mpr c31
            have c31b1 : (t165 != t157) = false := bne_eq_false_iff_eq.mpr c31
            clear c31
            have HT := Option.some.inj H
            clear H
            go_wp2_with (first | ((with_reducible refine gate_callee (f := 24) rfl ?_); refine gl (some 60) Tryd.func24 #[.slice Ao20 t158.length co20, .int .i64 1] ?_; (with_reducible refine (laws_heldTagS.calls kj18 _ _ t158 1 t165 _ ?side1 ?side2 A29.out).mono ?_); (case side1 => exact pc ((Kd.R_reads' HO_5.out).2.2)); (case side2 => exact (Kd.R_reads' HO_5.out).2.1); rintro e w' ⟨rfl, ⟨nd, rfl⟩⟩; refine ⟨_, rfl, ?_⟩))
            go_ret
            exact ⟨by first | rfl | (simp [errW_none, errW_some] <;> rfl) | (simp [*, errW_none, errW_some] <;> rfl), pb HB⟩
           ·rw [if_neg c31] at H
            have c31b0 : (t165 == t157) = false := beq_eq_false_iff_ne.mpr c31
            have c31b1 : (t165 != t157) = true := bne_iff_ne.mpr c31
            exact absurd H (by simp)
      ·rw [if_neg c17] at H
       have c17b0 : (t159 == t157) = false := beq_eq_false_iff_ne.mpr c17
       have c17b1 : (t159 != t157) = true := bne_iff_ne.mpr c17
       exact absurd H (by simp)

/-- THE ONE PURE STATEMENT of laws_FnExactCandidates: yours. -/
def laws_FnExactCandidates.Pure : Prop := ∀ (a0 : ByteArray), a0.size ≤ 140737488351232 → ∃ k, laws_FnExactCandidates.f k a0 = some true
theorem laws_FnExactCandidates.walk (P : laws_FnExactCandidates.Pure) (a0 : ByteArray) (w : World) (w0 : a0.size ≤ 140737488351232) (htab : Tab1 Tryd.prog w) :
  Calls Tryd.prog 6 #[.string a0] w fun e w' => e = .returned (.bool true) ∧ Below w.heap.size w w' := by
 obtain ⟨k, h⟩ := P a0 w0
 refine (laws_FnExactCandidates.calls k a0 w htab h).mono ?_
 rintro e w' ⟨rfl, hd⟩
 exact ⟨rfl, hd⟩

end Go.Proofs.YtnkaimdcdedekaaDoor.PFnExactCandidates
