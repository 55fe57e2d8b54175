-- Written by a program of this session (wip/myprint.py: the kit's print with changes): not by print.sh itself.
import Derived.Test.YtnkaimdcdedekaaDoorPFnNearTagsx0
import Derived.Test.YtnkaimdcdedekaaDoorPFnNearTagsx2
import Derived.Test.YtnkaimdcdedekaaDoorPFnNearTagsx3
import Derived.Test.YtnkaimdcdedekaaDoorPFnNearTagsx5
import Derived.Test.YtnkaimdcdedekaaDoorPFnNearTagsx7
namespace Go.Proofs.YtnkaimdcdedekaaDoor.PFnNearTags
open Go.RowKit Go.Proofs.YtnkaimdcdedekaaDoorW.PrintWords Go.Proofs.YtnkaimdcdedekaaDoorW.PrintLast Go.Proofs.YtnkaimdcdedekaaDoorW.PrintMore
open Go.Proofs.YtnkaimdcdedekaaDoorW.PrintWords renaming Aside0.mk → uD, blk_alloc → uG, blk_drewN → uH, blk_drew → uJ, below_size → uN, below_step → uO, blk_put → uP, Kd.R_drewN → uS, Kd.R_drew → uT, Kd.R_alloc → uU, Kd.R_mono → uX
attribute [local go_sem] max2_int min2_int max_two min_two max_three min_three max_four min_four   -- for this text's walks alone
set_option linter.unusedVariables false
set_option linter.unusedSimpArgs false

/-! ### laws_FnNearTags: function 8 -/
mutual
def laws_FnNearTags.l0 : Nat → List (S25) → ByteArray → Int → Option (Bool)
 | 0, _, _, _ => none
 | k + 1, x4, x5, x6 => if x6 < (x4.length : Int) then (if 0 ≤ x6 then ((impl_FormatTag.f k ((rd_T25 x4 x6).f0) ((rd_T25 x4 x6).f1) ((rd_T25 x4 x6).f2)).bind fun t309 => (laws_FnNearTags.l1 k x4 x5 x6 t309 0 0)) else (none)) else (some (decide ((x4.length : Int) ≤ 10)))
def laws_FnNearTags.l1 : Nat → List (S25) → ByteArray → Int → ByteArray → Int → Int → Option (Bool)
 | 0, _, _, _, _, _, _ => none
 | k + 1, x4, x5, x6, x7, x8, x9 => if x9 < (x7.size : Int) then (if 0 ≤ x9 then (if x9 < (x5.size : Int) then (if (bt x7 x9) = (bt x5 x9) then (laws_FnNearTags.l1 k x4 x5 x6 x7 x8 (wrap64 (x9 + 1))) else (if (wrap64 ((wrap64 (bt x7 x9)) - (wrap64 (bt x5 x9)))) = 7 then (laws_FnNearTags.l1 k x4 x5 x6 x7 (wrap64 (x8 + 1)) (wrap64 (x9 + 1))) else (if (wrap64 ((wrap64 (bt x7 x9)) - (wrap64 (bt x5 x9)))) = (-7) then (laws_FnNearTags.l1 k x4 x5 x6 x7 (wrap64 (x8 + 1)) (wrap64 (x9 + 1))) else (some false)))) else (none)) else (none)) else (if x8 = 1 then (laws_FnNearTags.l0 k x4 x5 (wrap64 (x6 + 1))) else (some false))
end
def laws_FnNearTags.f (k : Nat) (l0 : List Int) : Option (Bool) := (laws_big.f l0).bind fun t295 => (if t295 = true then (some true) else ((spec_DrawNearTags.f k l0).bind fun bt296 => ((impl_NearTags.f k bt296.1 bt296.2.1 bt296.2.2).bind fun t300 => ((spec_NearTags.f k bt296.1 bt296.2.1 bt296.2.2).bind fun t303 => ((laws_sameTags.f k t300 t303).bind fun t306 => (if t306 = true then ((impl_FormatTag.f k bt296.1 bt296.2.1 bt296.2.2).bind fun t307 => (laws_FnNearTags.l0 k t300 t307 0)) else (some false)))))))
theorem laws_FnNearTags.mono_l : ∀ k, (∀ y0 y1 y2, LeO (laws_FnNearTags.l0 k y0 y1 y2) (laws_FnNearTags.l0 (k + 1) y0 y1 y2)) ∧ (∀ y0 y1 y2 y3 y4 y5, LeO (laws_FnNearTags.l1 k y0 y1 y2 y3 y4 y5) (laws_FnNearTags.l1 (k + 1) y0 y1 y2 y3 y4 y5))
 | 0 => ⟨fun _ _ _ r h => by simp [laws_FnNearTags.l0] at h, fun _ _ _ _ _ _ r h => by simp [laws_FnNearTags.l1] at h⟩
 | k + 1 => by
  obtain ⟨ih0, ih1⟩ := laws_FnNearTags.mono_l k
  refine ⟨?_, ?_⟩
  ·intro y0 y1 y2
   unfold laws_FnNearTags.l0
   repeat' first
   | (with_reducible exact ih0 _ _ _)
   | (with_reducible exact ih1 _ _ _ _ _ _)
   | (with_reducible exact impl_FormatTag.mono _ _ _ _)
   | (with_reducible exact impl_NearTags.mono _ _ _ _)
   | (with_reducible exact laws_sameTags.mono _ _ _)
   | (with_reducible exact spec_DrawNearTags.mono _ _)
   | (with_reducible exact spec_NearTags.mono _ _ _ _)
   | (with_reducible exact LeO.refl _)
   | (with_reducible exact LeO.none _)
   | (with_reducible refine LeO.ite ?_ ?_)
   | (with_reducible refine LeO.bind ?_ (fun _ => ?_))
   | exact ih0 _ _ _
   | exact ih1 _ _ _ _ _ _
   | exact impl_FormatTag.mono _ _ _ _
   | exact impl_NearTags.mono _ _ _ _
   | exact laws_sameTags.mono _ _ _
   | exact spec_DrawNearTags.mono _ _
   | exact spec_NearTags.mono _ _ _ _
   | exact LeO.none _
   | refine LeO.ite ?_ ?_
   | refine LeO.bind ?_ (fun _ => ?_)
  ·intro y0 y1 y2 y3 y4 y5
   unfold laws_FnNearTags.l1
   repeat' first
   | (with_reducible exact ih0 _ _ _)
   | (with_reducible exact ih1 _ _ _ _ _ _)
   | (with_reducible exact impl_FormatTag.mono _ _ _ _)
   | (with_reducible exact impl_NearTags.mono _ _ _ _)
   | (with_reducible exact laws_sameTags.mono _ _ _)
   | (with_reducible exact spec_DrawNearTags.mono _ _)
   | (with_reducible exact spec_NearTags.mono _ _ _ _)
   | (with_reducible exact LeO.refl _)
   | (with_reducible exact LeO.none _)
   | (with_reducible refine LeO.ite ?_ ?_)
   | (with_reducible refine LeO.bind ?_ (fun _ => ?_))
   | exact ih0 _ _ _
   | exact ih1 _ _ _ _ _ _
   | exact impl_FormatTag.mono _ _ _ _
   | exact impl_NearTags.mono _ _ _ _
   | exact laws_sameTags.mono _ _ _
   | exact spec_DrawNearTags.mono _ _
   | exact spec_NearTags.mono _ _ _ _
   | exact LeO.none _
   | refine LeO.ite ?_ ?_
   | refine LeO.bind ?_ (fun _ => ?_)
theorem laws_FnNearTags.mono : ∀ a0 k, LeO (laws_FnNearTags.f k a0) (laws_FnNearTags.f (k + 1) a0) := by
 intro a0 k
 obtain ⟨ih0, ih1⟩ := laws_FnNearTags.mono_l k
 unfold laws_FnNearTags.f
 repeat' first
   | (with_reducible exact ih0 _ _ _)
   | (with_reducible exact ih1 _ _ _ _ _ _)
   | (with_reducible exact impl_FormatTag.mono _ _ _ _)
   | (with_reducible exact impl_NearTags.mono _ _ _ _)
   | (with_reducible exact laws_sameTags.mono _ _ _)
   | (with_reducible exact spec_DrawNearTags.mono _ _)
   | (with_reducible exact spec_NearTags.mono _ _ _ _)
   | (with_reducible exact LeO.refl _)
   | (with_reducible exact LeO.none _)
   | (with_reducible refine LeO.ite ?_ ?_)
   | (with_reducible refine LeO.bind ?_ (fun _ => ?_))
   | exact ih0 _ _ _
   | exact ih1 _ _ _ _ _ _
   | exact impl_FormatTag.mono _ _ _ _
   | exact impl_NearTags.mono _ _ _ _
   | exact laws_sameTags.mono _ _ _
   | exact spec_DrawNearTags.mono _ _
   | exact spec_NearTags.mono _ _ _ _
   | exact LeO.none _
   | refine LeO.ite ?_ ?_
   | refine LeO.bind ?_ (fun _ => ?_)
set_option maxHeartbeats 8000000 in
set_option maxRecDepth 100000 in
theorem laws_FnNearTags.calls (k : Nat) (A0 : Option Addr) (c0 : Nat) (l0 : List Int) (w : World) (hr0 : Kd.C (Kd.int .u8) w A0 l0.length l0) (hc0 : l0.length ≤ c0) (htab : Tab1 Tryd.prog w) (h : laws_FnNearTags.f k l0 = some true) :
  Calls Tryd.prog 8 #[.slice A0 l0.length c0] w fun e w' => e = .returned (.bool true) ∧ Below w.heap.size w w' := by
 have hu25 := Tryd.underlying25
 have HR0 := uD hr0
 have HC0 := uD hc0
 clear hr0 hc0
 have HB := uD (Below.refl w.heap.size w)
 have HTAB := uD htab
 clear htab
 have H : ((laws_big.f l0).bind fun t295 => (if t295 = true then (some true) else ((spec_DrawNearTags.f k l0).bind fun bt296 => ((impl_NearTags.f k bt296.1 bt296.2.1 bt296.2.2).bind fun t300 => ((spec_NearTags.f k bt296.1 bt296.2.1 bt296.2.2).bind fun t303 => ((laws_sameTags.f k t300 t303).bind fun t306 => (if t306 = true then ((impl_FormatTag.f k bt296.1 bt296.2.1 bt296.2.2).bind fun t307 => (laws_FnNearTags.l0 k t300 t307 0)) else (some false)))))))) = some true := h
 clear h
 replace H := Option.bind_eq_some_iff.mp H
 obtain ⟨t295, A20, H⟩ := H
 replace H : (if t295 = true then (some true) else ((spec_DrawNearTags.f k l0).bind fun bt296 => ((impl_NearTags.f k bt296.1 bt296.2.1 bt296.2.2).bind fun t300 => ((spec_NearTags.f k bt296.1 bt296.2.1 bt296.2.2).bind fun t303 => ((laws_sameTags.f k t300 t303).bind fun t306 => (if t306 = true then ((impl_FormatTag.f k bt296.1 bt296.2.1 bt296.2.2).bind fun t307 => (laws_FnNearTags.l0 k t300 t307 0)) else (some false))))))) = some true := H
 have A2 := uD A20
 clear A20
 by_cases c3 : t295 = true
 ·subst c3
  have H1 : (some true) = some true := by rw [if_pos rfl] at H; first | done | exact H
  clear H
  have H := H1
  clear H1
  have HT := Option.some.inj H
  clear H
  go_enter Tryd.func8, Tryd.ntmps8
  go_wp2_with (first | (go_at_call 25; (with_reducible refine (laws_big.calls _ _ l0 true _ ?side1 ?side2 A2.out).mono ?_); (case side1 => exact pc HR0.out); (case side2 => exact HC0.out); rintro e w' ⟨rfl, ⟨nd, rfl⟩⟩; (try first | exact ⟨rfl, _, World.drewN_drewN _ _ _⟩ | exact ⟨rfl, _, Eq.trans (World.drewN_drewN _ _ _) (congrArg (World.drewN _) (Nat.add_assoc _ _ _))⟩)))
  repeat (go_quiet (first | (go_at_call 25; (with_reducible refine (laws_big.calls _ _ l0 true _ ?side1 ?side2 A2.out).mono ?_); (case side1 => exact pc HR0.out); (case side2 => exact HC0.out); rintro e w' ⟨rfl, ⟨nd, rfl⟩⟩; (try first | exact ⟨rfl, _, World.drewN_drewN _ _ _⟩ | exact ⟨rfl, _, Eq.trans (World.drewN_drewN _ _ _) (congrArg (World.drewN _) (Nat.add_assoc _ _ _))⟩))); try go_wp2_with (first | (go_at_call 25; (with_reducible refine (laws_big.calls _ _ l0 true _ ?side1 ?side2 A2.out).mono ?_); (case side1 => exact pc HR0.out); (case side2 => exact HC0.out); rintro e w' ⟨rfl, ⟨nd, rfl⟩⟩; (try first | exact ⟨rfl, _, World.drewN_drewN _ _ _⟩ | exact ⟨rfl, _, Eq.trans (World.drewN_drewN _ _ _) (congrArg (World.drewN _) (Nat.add_assoc _ _ _))⟩))))
  go_ret
  exact ⟨by first | rfl | (simp [errW_none, errW_some] <;> rfl) | (simp [*, errW_none, errW_some] <;> rfl), pb HB⟩
 ·replace c3 := Bool.eq_false_iff.mpr c3
  subst c3
  have H1 : ((spec_DrawNearTags.f k l0).bind fun bt296 => ((impl_NearTags.f k bt296.1 bt296.2.1 bt296.2.2).bind fun t300 => ((spec_NearTags.f k bt296.1 bt296.2.1 bt296.2.2).bind fun t303 => ((laws_sameTags.f k t300 t303).bind fun t306 => (if t306 = true then ((impl_FormatTag.f k bt296.1 bt296.2.1 bt296.2.2).bind fun t307 => (laws_FnNearTags.l0 k t300 t307 0)) else (some false)))))) = some true := by rw [if_neg (show ¬ (false = true) by decide)] at H; first | done | exact H
  clear H
  have H := H1
  clear H1
  replace H := Option.bind_eq_some_iff.mp H
  obtain ⟨⟨t296, t297, t298⟩, A40, H⟩ := H
  replace H : ((impl_NearTags.f k t296 t297 t298).bind fun t300 => ((spec_NearTags.f k t296 t297 t298).bind fun t303 => ((laws_sameTags.f k t300 t303).bind fun t306 => (if t306 = true then ((impl_FormatTag.f k t296 t297 t298).bind fun t307 => (laws_FnNearTags.l0 k t300 t307 0)) else (some false))))) = some true := H
  have A4 := uD A40
  clear A40
  replace H := Option.bind_eq_some_iff.mp H
  obtain ⟨t300, A50, H⟩ := H
  replace H : ((spec_NearTags.f k t296 t297 t298).bind fun t303 => ((laws_sameTags.f k t300 t303).bind fun t306 => (if t306 = true then ((impl_FormatTag.f k t296 t297 t298).bind fun t307 => (laws_FnNearTags.l0 k t300 t307 0)) else (some false)))) = some true := H
  have A5 := uD A50
  clear A50
  replace H := Option.bind_eq_some_iff.mp H
  obtain ⟨t303, A60, H⟩ := H
  replace H : ((laws_sameTags.f k t300 t303).bind fun t306 => (if t306 = true then ((impl_FormatTag.f k t296 t297 t298).bind fun t307 => (laws_FnNearTags.l0 k t300 t307 0)) else (some false))) = some true := H
  have A6 := uD A60
  clear A60
  replace H := Option.bind_eq_some_iff.mp H
  obtain ⟨t306, A70, H⟩ := H
  replace H : (if t306 = true then ((impl_FormatTag.f k t296 t297 t298).bind fun t307 => (laws_FnNearTags.l0 k t300 t307 0)) else (some false)) = some true := H
  have A7 := uD A70
  clear A70
  by_cases c8 : t306 = true
  ·subst c8
   have H1 : ((impl_FormatTag.f k t296 t297 t298).bind fun t307 => (laws_FnNearTags.l0 k t300 t307 0)) = some true := by rw [if_pos rfl] at H; first | done | exact H
   clear H
   have H := H1
   clear H1
   replace H := Option.bind_eq_some_iff.mp H
   obtain ⟨t307, A90, H⟩ := H
   replace H : (laws_FnNearTags.l0 k t300 t307 0) = some true := H
   have A9 := uD A90
   clear A90
   have H' := uD H
   clear H
   go_enter Tryd.func8, Tryd.ntmps8
   go_wp2_with (first | (go_at_call 25; (with_reducible refine (laws_big.calls _ _ l0 false _ ?side1 ?side2 A2.out).mono ?_); (case side1 => exact pc HR0.out); (case side2 => exact HC0.out); rintro e w' ⟨rfl, ⟨nd, rfl⟩⟩; (try first | exact ⟨rfl, _, World.drewN_drewN _ _ _⟩ | exact ⟨rfl, _, Eq.trans (World.drewN_drewN _ _ _) (congrArg (World.drewN _) (Nat.add_assoc _ _ _))⟩)) | (go_at_call 29; (with_reducible refine (spec_DrawNearTags.calls k _ _ l0 t296 t297 t298 _ ?side1 ?side2 A4.out).mono ?_); (case side1 => exact pc HR0.out); (case side2 => exact HC0.out); rintro e w10 ⟨rfl, hb⟩; replace HB := uD (uO (pb HB) hb); (try clear hb); (try clear hb2); (try clear hk); (try clear hi)) | ((with_reducible refine gate_dst (N := 3) rfl ?_); refine bx 3 #[.int .i64 0, .int .i64 0, .int .i64 0] 25 ?_; intro gb299 hg w11 hbox hb; have BK299 := uD (hbox); have GW299 := uD ((by rw [hg]; exact (uN (pb HB)) : w.heap.size ≤ gb299)); have GE299 := uD ((by rw [hg]; exact (uN (pb HB)) : w.heap.size ≤ gb299)); replace HB := uD (uO (pb HB) hb); clear hb hbox hg; obtain ⟨hcz12_0, hcz12_1, hcz12_2, hfz12_0, hfz12_1, hfz12_2⟩ := cz3 BK299) | (go_at_call 30; (with_reducible refine (impl_NearTags.calls k t296 t297 t298 t300 _ A5.out).mono ?_); rintro e w13 ⟨v301, rfl, ho0, hb⟩; have HO302 := uD (Kd.R_lower (Kd.R_newB ho0 (g := gb299) (o := .cells #[.int .i64 t296, .int .i64 t297, .int .i64 t298] 25 (0, 0)) (by (with_reducible repeat first|apply uH|apply uJ|apply uG); refine uP (cs := #[.int .i64 t296, .int .i64 t297, .int .i64 0]) ?_ 2 _ rfl; (with_reducible repeat first|apply uH|apply uJ|apply uG); refine uP (cs := #[.int .i64 t296, .int .i64 0, .int .i64 0]) ?_ 1 _ rfl; (with_reducible repeat first|apply uH|apply uJ|apply uG); refine uP (cs := #[.int .i64 0, .int .i64 0, .int .i64 0]) ?_ 0 _ rfl; (with_reducible repeat first|apply uH|apply uJ|apply uG); exact BK299.out)) (uN (pb HB))); replace BK299 := uD (blk_below (g := gb299) (o := .cells #[.int .i64 t296, .int .i64 t297, .int .i64 t298] 25 (0, 0)) (by (with_reducible repeat first|apply uH|apply uJ|apply uG); refine uP (cs := #[.int .i64 t296, .int .i64 t297, .int .i64 0]) ?_ 2 _ rfl; (with_reducible repeat first|apply uH|apply uJ|apply uG); refine uP (cs := #[.int .i64 t296, .int .i64 0, .int .i64 0]) ?_ 1 _ rfl; (with_reducible repeat first|apply uH|apply uJ|apply uG); refine uP (cs := #[.int .i64 0, .int .i64 0, .int .i64 0]) ?_ 0 _ rfl; (with_reducible repeat first|apply uH|apply uJ|apply uG); exact BK299.out) hb); replace HB := uD (uO (pb HB) hb); (try clear hb); (try clear hb2); (try clear hk); (try clear hi); (try clear ho0); obtain ⟨hcz14_0, hcz14_1, hcz14_2, hfz14_0, hfz14_1, hfz14_2⟩ := cz3 BK299) | (go_at_call 31; (with_reducible refine (spec_NearTags.calls k t296 t297 t298 t303 _ A6.out).mono ?_); rintro e w15 ⟨v304, rfl, ho0, hb⟩; have HO305 := uD (Kd.R_lower (Kd.R_newB (Kd.R_new' ho0 (Kd.R_lt (pr HO302))) (pk BK299)) (uN (pb HB))); replace HO302 := uD (Kd.R_elder' (pr HO302) (Kd.R_base ho0) hb); replace BK299 := uD (blk_below (pk BK299) hb); replace HB := uD (uO (pb HB) hb); (try clear hb); (try clear hb2); (try clear hk); (try clear hi); (try clear ho0); obtain ⟨Ao16, co16, eo16⟩ := Kd.R_slice HO302.out; subst eo16; obtain ⟨Ao17, co17, eo17⟩ := Kd.R_slice HO305.out; subst eo17) | (go_at_call 27; (with_reducible refine (laws_sameTags.calls k _ _ t300 _ _ t303 true _ ?side1 ?side2 ?side3 ?side4 A7.out).mono ?_); (case side1 => exact pc ((Kd.R_reads' HO302.out).2.2)); (case side2 => exact (Kd.R_reads' HO302.out).2.1); (case side3 => exact pc ((Kd.R_reads' HO305.out).2.2)); (case side4 => exact (Kd.R_reads' HO305.out).2.1); rintro e w' ⟨rfl, ⟨nd, rfl⟩⟩; (try first | exact ⟨rfl, _, World.drewN_drewN _ _ _⟩ | exact ⟨rfl, _, Eq.trans (World.drewN_drewN _ _ _) (congrArg (World.drewN _) (Nat.add_assoc _ _ _))⟩); obtain ⟨hcz18_0, hcz18_1, hcz18_2, hfz18_0, hfz18_1, hfz18_2⟩ := cz3 BK299) | (go_at_call 14; (with_reducible refine (impl_FormatTag.calls k t296 t297 t298 t307 _ ?side1 A9.out).mono ?_); (case side1 => exact tb11 HTAB (pb HB)); rintro e w19 ⟨rfl, hb⟩; replace HO302 := uD (Kd.R_below (pr HO302) hb); replace HO305 := uD (Kd.R_below (pr HO305) hb); replace BK299 := uD (blk_below (pk BK299) hb); replace HB := uD (uO (pb HB) hb); (try clear hb); (try clear hb2); (try clear hk); (try clear hi)))
   repeat (go_quiet (first | (go_at_call 25; (with_reducible refine (laws_big.calls _ _ l0 false _ ?side1 ?side2 A2.out).mono ?_); (case side1 => exact pc HR0.out); (case side2 => exact HC0.out); rintro e w' ⟨rfl, ⟨nd, rfl⟩⟩; (try first | exact ⟨rfl, _, World.drewN_drewN _ _ _⟩ | exact ⟨rfl, _, Eq.trans (World.drewN_drewN _ _ _) (congrArg (World.drewN _) (Nat.add_assoc _ _ _))⟩)) | (go_at_call 29; (with_reducible refine (spec_DrawNearTags.calls k _ _ l0 t296 t297 t298 _ ?side1 ?side2 A4.out).mono ?_); (case side1 => exact pc HR0.out); (case side2 => exact HC0.out); rintro e w10 ⟨rfl, hb⟩; replace HB := uD (uO (pb HB) hb); (try clear hb); (try clear hb2); (try clear hk); (try clear hi)) | ((with_reducible refine gate_dst (N := 3) rfl ?_); refine bx 3 #[.int .i64 0, .int .i64 0, .int .i64 0] 25 ?_; intro gb299 hg w11 hbox hb; have BK299 := uD (hbox); have GW299 := uD ((by rw [hg]; exact (uN (pb HB)) : w.heap.size ≤ gb299)); have GE299 := uD ((by rw [hg]; exact (uN (pb HB)) : w.heap.size ≤ gb299)); replace HB := uD (uO (pb HB) hb); clear hb hbox hg; obtain ⟨hcz12_0, hcz12_1, hcz12_2, hfz12_0, hfz12_1, hfz12_2⟩ := cz3 BK299) | (go_at_call 30; (with_reducible refine (impl_NearTags.calls k t296 t297 t298 t300 _ A5.out).mono ?_); rintro e w13 ⟨v301, rfl, ho0, hb⟩; have HO302 := uD (Kd.R_lower (Kd.R_newB ho0 (g := gb299) (o := .cells #[.int .i64 t296, .int .i64 t297, .int .i64 t298] 25 (0, 0)) (by (with_reducible repeat first|apply uH|apply uJ|apply uG); refine uP (cs := #[.int .i64 t296, .int .i64 t297, .int .i64 0]) ?_ 2 _ rfl; (with_reducible repeat first|apply uH|apply uJ|apply uG); refine uP (cs := #[.int .i64 t296, .int .i64 0, .int .i64 0]) ?_ 1 _ rfl; (with_reducible repeat first|apply uH|apply uJ|apply uG); refine uP (cs := #[.int .i64 0, .int .i64 0, .int .i64 0]) ?_ 0 _ rfl; (with_reducible repeat first|apply uH|apply uJ|apply uG); exact BK299.out)) (uN (pb HB))); replace BK299 := uD (blk_below (g := gb299) (o := .cells #[.int .i64 t296, .int .i64 t297, .int .i64 t298] 25 (0, 0)) (by (with_reducible repeat first|apply uH|apply uJ|apply uG); refine uP (cs := #[.int .i64 t296, .int .i64 t297, .int .i64 0]) ?_ 2 _ rfl; (with_reducible repeat first|apply uH|apply uJ|apply uG); refine uP (cs := #[.int .i64 t296, .int .i64 0, .int .i64 0]) ?_ 1 _ rfl; (with_reducible repeat first|apply uH|apply uJ|apply uG); refine uP (cs := #[.int .i64 0, .int .i64 0, .int .i64 0]) ?_ 0 _ rfl; (with_reducible repeat first|apply uH|apply uJ|apply uG); exact BK299.out) hb); replace HB := uD (uO (pb HB) hb); (try clear hb); (try clear hb2); (try clear hk); (try clear hi); (try clear ho0); obtain ⟨hcz14_0, hcz14_1, hcz14_2, hfz14_0, hfz14_1, hfz14_2⟩ := cz3 BK299) | (go_at_call 31; (with_reducible refine (spec_NearTags.calls k t296 t297 t298 t303 _ A6.out).mono ?_); rintro e w15 ⟨v304, rfl, ho0, hb⟩; have HO305 := uD (Kd.R_lower (Kd.R_newB (Kd.R_new' ho0 (Kd.R_lt (pr HO302))) (pk BK299)) (uN (pb HB))); replace HO302 := uD (Kd.R_elder' (pr HO302) (Kd.R_base ho0) hb); replace BK299 := uD (blk_below (pk BK299) hb); replace HB := uD (uO (pb HB) hb); (try clear hb); (try clear hb2); (try clear hk); (try clear hi); (try clear ho0); obtain ⟨Ao16, co16, eo16⟩ := Kd.R_slice HO302.out; subst eo16; obtain ⟨Ao17, co17, eo17⟩ := Kd.R_slice HO305.out; subst eo17) | (go_at_call 27; (with_reducible refine (laws_sameTags.calls k _ _ t300 _ _ t303 true _ ?side1 ?side2 ?side3 ?side4 A7.out).mono ?_); (case side1 => exact pc ((Kd.R_reads' HO302.out).2.2)); (case side2 => exact (Kd.R_reads' HO302.out).2.1); (case side3 => exact pc ((Kd.R_reads' HO305.out).2.2)); (case side4 => exact (Kd.R_reads' HO305.out).2.1); rintro e w' ⟨rfl, ⟨nd, rfl⟩⟩; (try first | exact ⟨rfl, _, World.drewN_drewN _ _ _⟩ | exact ⟨rfl, _, Eq.trans (World.drewN_drewN _ _ _) (congrArg (World.drewN _) (Nat.add_assoc _ _ _))⟩); obtain ⟨hcz18_0, hcz18_1, hcz18_2, hfz18_0, hfz18_1, hfz18_2⟩ := cz3 BK299) | (go_at_call 14; (with_reducible refine (impl_FormatTag.calls k t296 t297 t298 t307 _ ?side1 A9.out).mono ?_); (case side1 => exact tb11 HTAB (pb HB)); rintro e w19 ⟨rfl, hb⟩; replace HO302 := uD (Kd.R_below (pr HO302) hb); replace HO305 := uD (Kd.R_below (pr HO305) hb); replace BK299 := uD (blk_below (pk BK299) hb); replace HB := uD (uO (pb HB) hb); (try clear hb); (try clear hb2); (try clear hk); (try clear hi))); try go_wp2_with (first | (go_at_call 25; (with_reducible refine (laws_big.calls _ _ l0 false _ ?side1 ?side2 A2.out).mono ?_); (case side1 => exact pc HR0.out); (case side2 => exact HC0.out); rintro e w' ⟨rfl, ⟨nd, rfl⟩⟩; (try first | exact ⟨rfl, _, World.drewN_drewN _ _ _⟩ | exact ⟨rfl, _, Eq.trans (World.drewN_drewN _ _ _) (congrArg (World.drewN _) (Nat.add_assoc _ _ _))⟩)) | (go_at_call 29; (with_reducible refine (spec_DrawNearTags.calls k _ _ l0 t296 t297 t298 _ ?side1 ?side2 A4.out).mono ?_); (case side1 => exact pc HR0.out); (case side2 => exact HC0.out); rintro e w10 ⟨rfl, hb⟩; replace HB := uD (uO (pb HB) hb); (try clear hb); (try clear hb2); (try clear hk); (try clear hi)) | ((with_reducible refine gate_dst (N := 3) rfl ?_); refine bx 3 #[.int .i64 0, .int .i64 0, .int .i64 0] 25 ?_; intro gb299 hg w11 hbox hb; have BK299 := uD (hbox); have GW299 := uD ((by rw [hg]; exact (uN (pb HB)) : w.heap.size ≤ gb299)); have GE299 := uD ((by rw [hg]; exact (uN (pb HB)) : w.heap.size ≤ gb299)); replace HB := uD (uO (pb HB) hb); clear hb hbox hg; obtain ⟨hcz12_0, hcz12_1, hcz12_2, hfz12_0, hfz12_1, hfz12_2⟩ := cz3 BK299) | (go_at_call 30; (with_reducible refine (impl_NearTags.calls k t296 t297 t298 t300 _ A5.out).mono ?_); rintro e w13 ⟨v301, rfl, ho0, hb⟩; have HO302 := uD (Kd.R_lower (Kd.R_newB ho0 (g := gb299) (o := .cells #[.int .i64 t296, .int .i64 t297, .int .i64 t298] 25 (0, 0)) (by (with_reducible repeat first|apply uH|apply uJ|apply uG); refine uP (cs := #[.int .i64 t296, .int .i64 t297, .int .i64 0]) ?_ 2 _ rfl; (with_reducible repeat first|apply uH|apply uJ|apply uG); refine uP (cs := #[.int .i64 t296, .int .i64 0, .int .i64 0]) ?_ 1 _ rfl; (with_reducible repeat first|apply uH|apply uJ|apply uG); refine uP (cs := #[.int .i64 0, .int .i64 0, .int .i64 0]) ?_ 0 _ rfl; (with_reducible repeat first|apply uH|apply uJ|apply uG); exact BK299.out)) (uN (pb HB))); replace BK299 := uD (blk_below (g := gb299) (o := .cells #[.int .i64 t296, .int .i64 t297, .int .i64 t298] 25 (0, 0)) (by (with_reducible repeat first|apply uH|apply uJ|apply uG); refine uP (cs := #[.int .i64 t296, .int .i64 t297, .int .i64 0]) ?_ 2 _ rfl; (with_reducible repeat first|apply uH|apply uJ|apply uG); refine uP (cs := #[.int .i64 t296, .int .i64 0, .int .i64 0]) ?_ 1 _ rfl; (with_reducible repeat first|apply uH|apply uJ|apply uG); refine uP (cs := #[.int .i64 0, .int .i64 0, .int .i64 0]) ?_ 0 _ rfl; (with_reducible repeat first|apply uH|apply uJ|apply uG); exact BK299.out) hb); replace HB := uD (uO (pb HB) hb); (try clear hb); (try clear hb2); (try clear hk); (try clear hi); (try clear ho0); obtain ⟨hcz14_0, hcz14_1, hcz14_2, hfz14_0, hfz14_1, hfz14_2⟩ := cz3 BK299) | (go_at_call 31; (with_reducible refine (spec_NearTags.calls k t296 t297 t298 t303 _ A6.out).mono ?_); rintro e w15 ⟨v304, rfl, ho0, hb⟩; have HO305 := uD (Kd.R_lower (Kd.R_newB (Kd.R_new' ho0 (Kd.R_lt (pr HO302))) (pk BK299)) (uN (pb HB))); replace HO302 := uD (Kd.R_elder' (pr HO302) (Kd.R_base ho0) hb); replace BK299 := uD (blk_below (pk BK299) hb); replace HB := uD (uO (pb HB) hb); (try clear hb); (try clear hb2); (try clear hk); (try clear hi); (try clear ho0); obtain ⟨Ao16, co16, eo16⟩ := Kd.R_slice HO302.out; subst eo16; obtain ⟨Ao17, co17, eo17⟩ := Kd.R_slice HO305.out; subst eo17) | (go_at_call 27; (with_reducible refine (laws_sameTags.calls k _ _ t300 _ _ t303 true _ ?side1 ?side2 ?side3 ?side4 A7.out).mono ?_); (case side1 => exact pc ((Kd.R_reads' HO302.out).2.2)); (case side2 => exact (Kd.R_reads' HO302.out).2.1); (case side3 => exact pc ((Kd.R_reads' HO305.out).2.2)); (case side4 => exact (Kd.R_reads' HO305.out).2.1); rintro e w' ⟨rfl, ⟨nd, rfl⟩⟩; (try first | exact ⟨rfl, _, World.drewN_drewN _ _ _⟩ | exact ⟨rfl, _, Eq.trans (World.drewN_drewN _ _ _) (congrArg (World.drewN _) (Nat.add_assoc _ _ _))⟩); obtain ⟨hcz18_0, hcz18_1, hcz18_2, hfz18_0, hfz18_1, hfz18_2⟩ := cz3 BK299) | (go_at_call 14; (with_reducible refine (impl_FormatTag.calls k t296 t297 t298 t307 _ ?side1 A9.out).mono ?_); (case side1 => exact tb11 HTAB (pb HB)); rintro e w19 ⟨rfl, hb⟩; replace HO302 := uD (Kd.R_below (pr HO302) hb); replace HO305 := uD (Kd.R_below (pr HO305) hb); replace BK299 := uD (blk_below (pk BK299) hb); replace HB := uD (uO (pb HB) hb); (try clear hb); (try clear hb2); (try clear hk); (try clear hi))))
   go_loopg [6] k (fun kq v6 w' => ∃ (x6_1 : Int), v6 = .int .i64 x6_1 ∧ Aside0 (laws_FnNearTags.l0 kq t300 t307 x6_1 = some true) ∧ Aside0 (kq ≤ k) ∧ Aside0 (Kd.R k25 25 w' w.heap.size (fun k_ => k_ ≠ gb299) (.slice Ao16 t300.length co16) t300) ∧ Aside0 (w'.heap[gb299]? = some (.cells #[.int .i64 t296, .int .i64 t297, .int .i64 t298] 25 (0, 0))) ∧ Aside0 (Below w.heap.size w w'))
   case atStart => exact ⟨(0), (by first | rfl | (simp; done) | (simp [*]; done)), H', ⟨Nat.le_refl _⟩, ⟨by (with_reducible repeat (first | apply uU | apply uS | apply uT)); exact uX HO302.out (fun _ hk => hk.1.2)⟩, ⟨by (with_reducible repeat first|apply uH|apply uJ|apply uG); exact BK299.out⟩, ⟨pb HB⟩⟩
   case round =>
    clear H'
    try clear p2
    try clear c3
    try clear c8
    try clear hcz12_0
    try clear hcz12_1
    try clear hcz12_2
    try clear hcz14_0
    try clear hcz14_1
    try clear hcz14_2
    try clear hcz18_0
    try clear hcz18_1
    try clear hcz18_2
    try clear hfz12_0
    try clear hfz12_1
    try clear hfz12_2
    try clear hfz14_0
    try clear hfz14_1
    try clear hfz14_2
    try clear hfz18_0
    try clear hfz18_1
    try clear hfz18_2
    obtain ⟨x6_1, rfl, HA, HK1, HO_4, BK299, HB⟩ := hrel
    cases gk with
    | zero => exact absurd HA.out (by simp [laws_FnNearTags.l0])
    | succ k1 =>
     have H := HA.out
     clear HA
     simp only [laws_FnNearTags.l0] at H
     by_cases c20 : x6_1 < (t300.length : Int)
     ·rw [if_pos c20] at H
      have c20b0 : decide (x6_1 < (t300.length : Int)) = true := decide_eq_true c20
      clear c20
      by_cases c21 : 0 ≤ x6_1
      ·rw [if_pos c21] at H
       have c21b0 : decide (0 ≤ x6_1) = true := decide_eq_true c21
       clear c21
       replace H := Option.bind_eq_some_iff.mp H
       obtain ⟨t309, A220, H⟩ := H
       replace H : (laws_FnNearTags.l1 k1 t300 t307 x6_1 t309 0 0) = some true := H
       have A22 := uD A220
       clear A220
       have H' := uD H
       clear H
       have p308 : 0 ≤ (x6_1 : Int) := of_decide_eq_true (by first | (with_reducible assumption) | assumption)
       have q308 : x6_1 < (t300.length : Int) := of_decide_eq_true (by first | (with_reducible assumption) | assumption)
       obtain ⟨ad308, e308, hx308_0, hx308_1, hx308_2⟩ := at_T25 (Kd.R_reads' HO_4.out).2.2 x6_1 p308 q308
       cases e308
       replace p308 := eq_true p308
       replace q308 := eq_true q308
       go_wp2_with (first | (go_at_call 14; (with_reducible refine (impl_FormatTag.calls k1 ((rd_T25 t300 x6_1).f0) ((rd_T25 t300 x6_1).f1) ((rd_T25 t300 x6_1).f2) t309 _ ?side1 A22.out).mono ?_); (case side1 => exact tb11 HTAB (pb HB)); rintro e w23 ⟨rfl, hb⟩; replace HO_4 := uD (Kd.R_below (pr HO_4) hb); replace BK299 := uD (blk_below (pk BK299) hb); replace HB := uD (uO (pb HB) hb); (try clear hb); (try clear hb2); (try clear hk); (try clear hi)))
       repeat (go_quiet (first | (go_at_call 14; (with_reducible refine (impl_FormatTag.calls k1 ((rd_T25 t300 x6_1).f0) ((rd_T25 t300 x6_1).f1) ((rd_T25 t300 x6_1).f2) t309 _ ?side1 A22.out).mono ?_); (case side1 => exact tb11 HTAB (pb HB)); rintro e w23 ⟨rfl, hb⟩; replace HO_4 := uD (Kd.R_below (pr HO_4) hb); replace BK299 := uD (blk_below (pk BK299) hb); replace HB := uD (uO (pb HB) hb); (try clear hb); (try clear hb2); (try clear hk); (try clear hi))); try go_wp2_with (first | (go_at_call 14; (with_reducible refine (impl_FormatTag.calls k1 ((rd_T25 t300 x6_1).f0) ((rd_T25 t300 x6_1).f1) ((rd_T25 t300 x6_1).f2) t309 _ ?side1 A22.out).mono ?_); (case side1 => exact tb11 HTAB (pb HB)); rintro e w23 ⟨rfl, hb⟩; replace HO_4 := uD (Kd.R_below (pr HO_4) hb); replace BK299 := uD (blk_below (pk BK299) hb); replace HB := uD (uO (pb HB) hb); (try clear hb); (try clear hb2); (try clear hk); (try clear hi))))
       go_loopg [8, 9] k1 (fun kq v8 v9 w' => ∃ (x8_2 : Int) (x9_2 : Int), v8 = .int .i64 x8_2 ∧ v9 = .int .i64 x9_2 ∧ Aside0 (laws_FnNearTags.l1 kq t300 t307 x6_1 t309 x8_2 x9_2 = some true) ∧ Aside0 (kq ≤ k1) ∧ Aside0 (Kd.R k25 25 w' w.heap.size (fun k_ => k_ ≠ gb299) (.slice (some ad308) t300.length co16) t300) ∧ Aside0 (w'.heap[gb299]? = some (.cells #[.int .i64 t296, .int .i64 t297, .int .i64 t298] 25 (0, 0))) ∧ Aside0 (Below w.heap.size w w'))
       case atStart => exact ⟨(0), (0), (by first | rfl | (simp; done) | (simp [*]; done)), (by first | rfl | (simp; done) | (simp [*]; done)), H', ⟨Nat.le_refl _⟩, ⟨by (with_reducible repeat (first | apply uU | apply uS | apply uT)); exact HO_4.out⟩, ⟨by (with_reducible repeat first|apply uH|apply uJ|apply uG); exact BK299.out⟩, ⟨pb HB⟩⟩
       case round =>
        clear H'
        try clear c2
        try clear p2
        try clear c3
        try clear p3
        try clear q3
        try clear hx3
        try clear c8
        try clear c20
        try clear c20b0
        try clear c21
        try clear c21b0
        try clear hcz12_0
        try clear hcz12_1
        try clear hcz12_2
        try clear hcz14_0
        try clear hcz14_1
        try clear hcz14_2
        try clear hcz18_0
        try clear hcz18_1
        try clear hcz18_2
        try clear hfz12_0
        try clear hfz12_1
        try clear hfz12_2
        try clear hfz14_0
        try clear hfz14_1
        try clear hfz14_2
        try clear hfz18_0
        try clear hfz18_1
        try clear hfz18_2
        try clear hx308_0
        try clear hx308_1
        try clear hx308_2
        try clear p2
        try clear p308
        try clear q308
        obtain ⟨x8_2, x9_2, rfl, rfl, HA, HK2, HO_4, BK299, HB⟩ := hrel
        cases gk with
        | zero => exact absurd HA.out (by simp [laws_FnNearTags.l1])
        | succ k2 =>
         have H := HA.out
         clear HA
         simp only [laws_FnNearTags.l1] at H
         by_cases c24 : x9_2 < (t309.size : Int)
         ·rw [if_pos c24] at H
          have c24b0 : decide (x9_2 < (t309.size : Int)) = true := decide_eq_true c24
          clear c24
          by_cases c25 : 0 ≤ x9_2
          ·rw [if_pos c25] at H
           have c25b0 : decide (0 ≤ x9_2) = true := decide_eq_true c25
           clear c25
           by_cases c27 : x9_2 < (t307.size : Int)
           ·rw [if_pos c27] at H
            have c27b0 : decide (x9_2 < (t307.size : Int)) = true := decide_eq_true c27
            clear c27
            by_cases c29 : (bt t309 x9_2) = (bt t307 x9_2)
            ·rw [if_pos c29] at H
             have c29b0 : ((bt t309 x9_2) == (bt t307 x9_2)) = true := beq_iff_eq.mpr c29
             have c29b1 : ((bt t309 x9_2) != (bt t307 x9_2)) = false := bne_eq_false_iff_eq.mpr c29
             clear c29
             have H' := uD H
             clear H
             have p26 : 0 ≤ (x9_2 : Int) := of_decide_eq_true (by first | (with_reducible assumption) | assumption)
             have q26 : x9_2 < (t309.size : Int) := of_decide_eq_true (by first | (with_reducible assumption) | assumption)
             have hx26 := bt_at t309 x9_2
             replace p26 := eq_true p26
             replace q26 := eq_true q26
             have p28 : 0 ≤ (x9_2 : Int) := of_decide_eq_true (by first | (with_reducible assumption) | assumption)
             have q28 : x9_2 < (t307.size : Int) := of_decide_eq_true (by first | (with_reducible assumption) | assumption)
             have hx28 := bt_at t307 x9_2
             replace p28 := eq_true p28
             replace q28 := eq_true q28
             go_wp2
             repeat (go_quiet (fail); try go_wp2)
             go_roundg k2
             case measure => have := HK1.out; have := HK2.out; omega
             case rel => exact ⟨(x8_2), (wrap64 (x9_2 + 1)), (by first | rfl | (simp; done) | (simp [*]; done)), (by first | rfl | (simp; done) | (simp [*]; done)), H', ⟨by have := HK1.out; have := HK2.out; omega⟩, ⟨by (with_reducible repeat (first | apply uU | apply uS | apply uT)); exact HO_4.out⟩, ⟨by (with_reducible repeat first|apply uH|apply uJ|apply uG); exact BK299.out⟩, ⟨pb HB⟩⟩
            ·rw [if_neg c29] at H
             have c29b0 : ((bt t309 x9_2) == (bt t307 x9_2)) = false := beq_eq_false_iff_ne.mpr c29
             have c29b1 : ((bt t309 x9_2) != (bt t307 x9_2)) = true := bne_iff_ne.mpr c29
             by_cases c32 : (wrap64 ((wrap64 (bt t309 x9_2)) - (wrap64 (bt t307 x9_2)))) = 7
             ·rw [if_pos c32] at H
              have c32b0 : ((wrap64 ((wrap64 (bt t309 x9_2)) - (wrap64 (bt t307 x9_2)))) == 7) = true := beq_iff_eq.mpr c32
              have c32b1 : ((wrap64 ((wrap64 (bt t309 x9_2)) - (wrap64 (bt t307 x9_2)))) != 7) = false := bne_eq_false_iff_eq.mpr c32
              clear c32
              have H' := uD H
              clear H
              have p26 : 0 ≤ (x9_2 : Int) := of_decide_eq_true (by first | (with_reducible assumption) | assumption)
              have q26 : x9_2 < (t309.size : Int) := of_decide_eq_true (by first | (with_reducible assumption) | assumption)
              have hx26 := bt_at t309 x9_2
              replace p26 := eq_true p26
              replace q26 := eq_true q26
              have p28 : 0 ≤ (x9_2 : Int) := of_decide_eq_true (by first | (with_reducible assumption) | assumption)
              have q28 : x9_2 < (t307.size : Int) := of_decide_eq_true (by first | (with_reducible assumption) | assumption)
              have hx28 := bt_at t307 x9_2
              replace p28 := eq_true p28
              replace q28 := eq_true q28
              have p30 : 0 ≤ (x9_2 : Int) := of_decide_eq_true (by first | (with_reducible assumption) | assumption)
              have q30 : x9_2 < (t309.size : Int) := of_decide_eq_true (by first | (with_reducible assumption) | assumption)
              have hx30 := bt_at t309 x9_2
              replace p30 := eq_true p30
              replace q30 := eq_true q30
              have p31 : 0 ≤ (x9_2 : Int) := of_decide_eq_true (by first | (with_reducible assumption) | assumption)
              have q31 : x9_2 < (t307.size : Int) := of_decide_eq_true (by first | (with_reducible assumption) | assumption)
              have hx31 := bt_at t307 x9_2
              replace p31 := eq_true p31
              replace q31 := eq_true q31
              go_wp2
              repeat (go_quiet (fail); try go_wp2)
              go_roundg k2
              case measure => have := HK1.out; have := HK2.out; omega
              case rel => exact ⟨(wrap64 (x8_2 + 1)), (wrap64 (x9_2 + 1)), (by first | rfl | (simp; done) | (simp [*]; done)), (by first | rfl | (simp; done) | (simp [*]; done)), H', ⟨by have := HK1.out; have := HK2.out; omega⟩, ⟨by (with_reducible repeat (first | apply uU | apply uS | apply uT)); exact HO_4.out⟩, ⟨by (with_reducible repeat first|apply uH|apply uJ|apply uG); exact BK299.out⟩, ⟨pb HB⟩⟩
             ·rw [if_neg c32] at H
              have c32b0 : ((wrap64 ((wrap64 (bt t309 x9_2)) - (wrap64 (bt t307 x9_2)))) == 7) = false := beq_eq_false_iff_ne.mpr c32
              have c32b1 : ((wrap64 ((wrap64 (bt t309 x9_2)) - (wrap64 (bt t307 x9_2)))) != 7) = true := bne_iff_ne.mpr c32
              by_cases c33 : (wrap64 ((wrap64 (bt t309 x9_2)) - (wrap64 (bt t307 x9_2)))) = (-7)
              ·rw [if_pos c33] at H
               have c33b0 : ((wrap64 ((wrap64 (bt t309 x9_2)) - (wrap64 (bt t307 x9_2)))) == (-7)) = true := beq_iff_eq.mpr c33
               have c33b1 : ((wrap64 ((wrap64 (bt t309 x9_2)) - (wrap64 (bt t307 x9_2)))) != (-7)) = false := bne_eq_false_iff_eq.mpr c33
               clear c33
               have H' := uD H
               clear H
               have p26 : 0 ≤ (x9_2 : Int) := of_decide_eq_true (by first | (with_reducible assumption) | assumption)
               have q26 : x9_2 < (t309.size : Int) := of_decide_eq_true (by first | (with_reducible assumption) | assumption)
               have hx26 := bt_at t309 x9_2
               replace p26 := eq_true p26
               replace q26 := eq_true q26
               have p28 : 0 ≤ (x9_2 : Int) := of_decide_eq_true (by first | (with_reducible assumption) | assumption)
               have q28 : x9_2 < (t307.size : Int) := of_decide_eq_true (by first | (with_reducible assumption) | assumption)
               have hx28 := bt_at t307 x9_2
               replace p28 := eq_true p28
               replace q28 := eq_true q28
               have p30 : 0 ≤ (x9_2 : Int) := of_decide_eq_true (by first | (with_reducible assumption) | assumption)
               have q30 : x9_2 < (t309.size : Int) := of_decide_eq_true (by first | (with_reducible assumption) | assumption)
               have hx30 := bt_at t309 x9_2
               replace p30 := eq_true p30
               replace q30 := eq_true q30
               have p31 : 0 ≤ (x9_2 : Int) := of_decide_eq_true (by first | (with_reducible assumption) | assumption)
               have q31 : x9_2 < (t307.size : Int) := of_decide_eq_true (by first | (with_reducible assumption) | assumption)
               have hx31 := bt_at t307 x9_2
               replace p31 := eq_true p31
               replace q31 := eq_true q31
               go_wp2
               repeat (go_quiet (fail); try go_wp2)
               go_roundg k2
               case measure => have := HK1.out; have := HK2.out; omega
               case rel => exact ⟨(wrap64 (x8_2 + 1)), (wrap64 (x9_2 + 1)), (by first | rfl | (simp; done) | (simp [*]; done)), (by first | rfl | (simp; done) | (simp [*]; done)), H', ⟨by have := HK1.out; have := HK2.out; omega⟩, ⟨by (with_reducible repeat (first | apply uU | apply uS | apply uT)); exact HO_4.out⟩, ⟨by (with_reducible repeat first|apply uH|apply uJ|apply uG); exact BK299.out⟩, ⟨pb HB⟩⟩
              ·rw [if_neg c33] at H
               have c33b0 : ((wrap64 ((wrap64 (bt t309 x9_2)) - (wrap64 (bt t307 x9_2)))) == (-7)) = false := beq_eq_false_iff_ne.mpr c33
               have c33b1 : ((wrap64 ((wrap64 (bt t309 x9_2)) - (wrap64 (bt t307 x9_2)))) != (-7)) = true := bne_iff_ne.mpr c33
               exact absurd H (by simp)
           ·rw [if_neg c27] at H
            exact absurd H (by simp)
          ·rw [if_neg c25] at H
           exact absurd H (by simp)
         ·rw [if_neg c24] at H
          have c24b0 : decide (x9_2 < (t309.size : Int)) = false := decide_eq_false c24
          clear c24
          by_cases c34 : x8_2 = 1
          ·rw [if_pos c34] at H
           have c34b0 : (x8_2 == 1) = true := beq_iff_eq.mpr c34
           have c34b1 : (x8_2 != 1) = false := bne_eq_false_iff_eq.mpr c34
           clear c34
           have H' := uD H
           clear H
           go_wp2
           repeat (go_quiet (fail); try go_wp2)
           go_roundg k2
           case measure => have := HK1.out; have := HK2.out; omega
           case rel => exact ⟨(wrap64 (x6_1 + 1)), (by first | rfl | (simp; done) | (simp [*]; done)), H', ⟨by have := HK1.out; have := HK2.out; omega⟩, ⟨by (with_reducible repeat (first | apply uU | apply uS | apply uT)); exact HO_4.out⟩, ⟨by (with_reducible repeat first|apply uH|apply uJ|apply uG); exact BK299.out⟩, ⟨pb HB⟩⟩
          ·rw [if_neg c34] at H
           have c34b0 : (x8_2 == 1) = false := beq_eq_false_iff_ne.mpr c34
           have c34b1 : (x8_2 != 1) = true := bne_iff_ne.mpr c34
           exact absurd H (by simp)
      ·rw [if_neg c21] at H
       exact absurd H (by simp)
     ·rw [if_neg c20] at H
      have c20b0 : decide (x6_1 < (t300.length : Int)) = false := decide_eq_false c20
      clear c20
      have HT := Option.some.inj H
      clear H
      go_wp2
      repeat (go_quiet (fail); try go_wp2)
      go_ret
      exact ⟨by first | rfl | (simp [errW_none, errW_some] <;> rfl) | (simp [*, errW_none, errW_some] <;> rfl), pb HB⟩
  ·replace c8 := Bool.eq_false_iff.mpr c8
   subst c8
   have H1 : (some false) = some true := by rw [if_neg (show ¬ (false = true) by decide)] at H; first | done | exact H
   clear H
   have H := H1
   clear H1
   exact absurd H (by simp)

/-- THE ONE PURE STATEMENT of laws_FnNearTags: yours. -/
def laws_FnNearTags.Pure : Prop := ∀ (l0 : List Int), l0.length ≤ maxLen → l0.length * 1 ≤ 140737488351232 → (∀ x ∈ l0, (Lit.int .u8 x).wf = true) → ∃ k, laws_FnNearTags.f k l0 = some true
theorem laws_FnNearTags.walk (P : laws_FnNearTags.Pure) (a0 : Option Addr) (len0 cap0 : Nat) (z0 : List Int) (w : World) (w0 : (a0 = none ∧ len0 = 0 ∧ cap0 = 0 ∧ z0 = []) ∨ ∃ x, a0 = some x ∧ len0 ≤ cap0 ∧ cap0 ≤ maxLen ∧ z0.length = cap0 ∧ (∀ i, i < z0.length → w.cell? (x.add i) = some (.int .u8 (z0.getD i 0))) ∧ ∀ n ∈ z0, (Lit.int .u8 n).wf = true) (y0 : len0 * 1 ≤ 140737488351232) (htab : Tab1 Tryd.prog w) :
  Calls Tryd.prog 8 #[.slice a0 len0 cap0] w fun e w' => e = .returned (.bool true) ∧ Below w.heap.size w w' := by
 obtain ⟨l0, rfl, hr0, hm0, hw0, hc0⟩ := ReadsInt.ofRowC w0
 obtain ⟨k, h⟩ := P l0 hm0 y0 hw0
 refine (laws_FnNearTags.calls k _ _ l0 w (Kd.C_of_reads (d := (0 : Int)) (h1 := fun _ => rfl) hr0) hc0 htab h).mono ?_
 rintro e w' ⟨rfl, hd⟩
 exact ⟨rfl, hd⟩

end Go.Proofs.YtnkaimdcdedekaaDoor.PFnNearTags
