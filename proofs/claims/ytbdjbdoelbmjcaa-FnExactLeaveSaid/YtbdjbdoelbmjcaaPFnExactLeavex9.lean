-- Written by a program of this session (wip/myprint.py: the kit's print with changes): not by print.sh itself.
import Derived.Test.YtbdjbdoelbmjcaaPFnExactLeavex0
import Derived.Test.YtbdjbdoelbmjcaaPFnExactLeavex1
import Derived.Test.YtbdjbdoelbmjcaaPFnExactLeavex3
import Derived.Test.YtbdjbdoelbmjcaaPFnExactLeavex7
import Derived.Test.YtbdjbdoelbmjcaaPFnExactLeavex8
namespace Go.Proofs.Ytbdjbdoelbmjcaa.PFnExactLeave
open Go.RowKit Go.Proofs.YtbdjbdoelbmjcaaW.PrintWords Go.Proofs.YtbdjbdoelbmjcaaW.PrintLast Go.Proofs.YtbdjbdoelbmjcaaW.PrintMore
open Go renaming Act.put → uc
open Go.Proofs.YtbdjbdoelbmjcaaW.PrintLast renaming i64_w → uZ, i32_w → ua, pure_ → ub
open Go.Proofs.YtbdjbdoelbmjcaaW.PrintWords renaming Aside0.mk → uD, pw_below_drewN → uE, blk_cell → uF, blk_alloc → uG, blk_drewN → uH, blk_frozen → uI, blk_drew → uJ, below_drew1 → uK, below_alloc → uL, below_set → uM, below_size → uN, below_step → uO, blk_put → uP, blk_far → uQ, Kd.R_drewN → uS, Kd.R_drew → uT, Kd.R_alloc → uU, Kd.R_far → uV, Kd.R_types → uW, Kd.R_mono → uX
open List renaming setIfInBounds_toArray → uA, set_cons_zero → uB, set_cons_succ → uC
open Bool renaming true → T, false → F
attribute [local go_sem] max2_int min2_int max_two min_two max_three min_three max_four min_four   -- for this text's walks alone
set_option linter.unusedVariables false
set_option linter.unusedSimpArgs false

/-! ### laws_FnExactLeave: function 7 -/
mutual
def laws_FnExactLeave.j0 : Nat → Int → Bool → Int → Bool → Bool → Int → Int → Bool → List (S78) → Int → Int → Bool → List (S53) → Int → Int → Bool → List (S53) → Int → Int → Bool → List (S53) → Option (Bool)
 | 0, _, _, _, _, _, _, _, _, _, _, _, _, _, _, _, _, _, _, _, _, _ => none
 | k + 1, x5, x6, x9, x10, x50, x207000, x207001, x207002, x207003, x223000, x223001, x223002, x223003, x230000, x230001, x230002, x230003, x239000, x239001, x239002, x239003 => if x50 = true then (some false) else ((laws_toBelt.f k x207000 x207001 x207002 x207003).bind fun bt240 => ((laws_eqBelt.f k x230000 x230001 x230002 x230003 bt240.1 bt240.2.1 bt240.2.2.1 bt240.2.2.2).bind fun t246 => (if t246 = true then ((laws_markBelt.f k x230000 x230001 x230002 x230003 1).bind fun bt247 => (if bt247.1 < 0 then (laws_FnExactLeave.j1 k x5 x6 true x207000 x207001 x207002 x207003 x223000 x223001 x223002 x223003 x239000 x239001 x239002 x239003) else ((laws_eqBelt.f k x239000 x239001 x239002 x239003 x223000 x223001 x223002 x223003).bind fun t249 => (if t249 = true then (if x9 = x5 then (laws_FnExactLeave.j1 k x5 x6 (x10 != x6) x207000 x207001 x207002 x207003 x223000 x223001 x223002 x223003 x239000 x239001 x239002 x239003) else (laws_FnExactLeave.j1 k x5 x6 true x207000 x207001 x207002 x207003 x223000 x223001 x223002 x223003 x239000 x239001 x239002 x239003)) else (laws_FnExactLeave.j1 k x5 x6 true x207000 x207001 x207002 x207003 x223000 x223001 x223002 x223003 x239000 x239001 x239002 x239003))))) else (some false))))
def laws_FnExactLeave.j1 : Nat → Int → Bool → Bool → Int → Int → Bool → List (S78) → Int → Int → Bool → List (S53) → Int → Int → Bool → List (S53) → Option (Bool)
 | 0, _, _, _, _, _, _, _, _, _, _, _, _, _, _, _ => none
 | k + 1, x5, x6, x76, x207000, x207001, x207002, x207003, x223000, x223001, x223002, x223003, x239000, x239001, x239002, x239003 => if x76 = true then (some false) else ((laws_markBelt.f k x239000 x239001 x239002 x239003 1).bind fun bt250 => ((laws_heldBelt.f k x239000 x239001 x239002 bt250.2 1).bind fun t252 => (if t252 < 0 then (some false) else (if t252 = bt250.1 then ((laws_toBelt.f k x207000 x207001 x207002 x207003).bind fun bt253 => ((impl_Leave.f k bt253.1 bt253.2.1 bt253.2.2.1 bt253.2.2.2).bind fun bt259 => ((laws_eqBelt.f k bt259.1 bt259.2.1 bt259.2.2.1 bt259.2.2.2.1 x223000 x223001 x223002 x223003).bind fun t268 => (if t268 = true then (if bt259.2.2.2.2.1 = x5 then (laws_FnExactLeave.j2 k bt250.1 (bt259.2.2.2.2.2 != x6) x239000 x239001 x239002 bt250.2) else (laws_FnExactLeave.j2 k bt250.1 true x239000 x239001 x239002 bt250.2)) else (laws_FnExactLeave.j2 k bt250.1 true x239000 x239001 x239002 bt250.2))))) else (some false)))))
def laws_FnExactLeave.j2 : Nat → Int → Bool → Int → Int → Bool → List (S53) → Option (Bool)
 | 0, _, _, _, _, _, _ => none
 | k + 1, x12, x108, x239000, x239001, x239002, x239003 => if x108 = true then (some false) else ((laws_heldBelt.f k x239000 x239001 x239002 x239003 1).bind fun t269 => (if t269 < 0 then (some false) else (if t269 = x12 then (some true) else (some false))))
end
def laws_FnExactLeave.f (k : Nat) (a0_0 : Int) (a0_1 : Int) (a0_2 : Bool) (l0_3 : List (S78)) : Option (Bool) := (laws_szBelt.f a0_0 a0_1 a0_2 l0_3 1048576).bind fun t207 => (if t207 < 0 then (some true) else ((laws_toBelt.f k a0_0 a0_1 a0_2 l0_3).bind fun bt208 => ((spec_Leave.f k bt208.1 bt208.2.1 bt208.2.2.1 bt208.2.2.2).bind fun bt214 => ((laws_toBelt.f k a0_0 a0_1 a0_2 l0_3).bind fun bt223 => ((impl_Leave.f k bt223.1 bt223.2.1 bt223.2.2.1 bt223.2.2.2).bind fun bt230 => ((laws_eqBelt.f k bt230.1 bt230.2.1 bt230.2.2.1 bt230.2.2.2.1 bt214.1 bt214.2.1 bt214.2.2.1 bt214.2.2.2.1).bind fun t239 => (if t239 = true then (if bt230.2.2.2.2.1 = bt214.2.2.2.2.1 then (laws_FnExactLeave.j0 k bt214.2.2.2.2.1 bt214.2.2.2.2.2 bt230.2.2.2.2.1 bt230.2.2.2.2.2 (bt230.2.2.2.2.2 != bt214.2.2.2.2.2) a0_0 a0_1 a0_2 l0_3 bt214.1 bt214.2.1 bt214.2.2.1 bt214.2.2.2.1 bt223.1 bt223.2.1 bt223.2.2.1 bt223.2.2.2 bt230.1 bt230.2.1 bt230.2.2.1 bt230.2.2.2.1) else (laws_FnExactLeave.j0 k bt214.2.2.2.2.1 bt214.2.2.2.2.2 bt230.2.2.2.2.1 bt230.2.2.2.2.2 true a0_0 a0_1 a0_2 l0_3 bt214.1 bt214.2.1 bt214.2.2.1 bt214.2.2.2.1 bt223.1 bt223.2.1 bt223.2.2.1 bt223.2.2.2 bt230.1 bt230.2.1 bt230.2.2.1 bt230.2.2.2.1)) else (laws_FnExactLeave.j0 k bt214.2.2.2.2.1 bt214.2.2.2.2.2 bt230.2.2.2.2.1 bt230.2.2.2.2.2 true a0_0 a0_1 a0_2 l0_3 bt214.1 bt214.2.1 bt214.2.2.1 bt214.2.2.2.1 bt223.1 bt223.2.1 bt223.2.2.1 bt223.2.2.2 bt230.1 bt230.2.1 bt230.2.2.1 bt230.2.2.2.1))))))))
theorem laws_FnExactLeave.mono_l : ∀ k, (∀ y0 y1 y2 y3 y4 y5 y6 y7 y8 y9 y10 y11 y12 y13 y14 y15 y16 y17 y18 y19 y20, LeO (laws_FnExactLeave.j0 k y0 y1 y2 y3 y4 y5 y6 y7 y8 y9 y10 y11 y12 y13 y14 y15 y16 y17 y18 y19 y20) (laws_FnExactLeave.j0 (k + 1) y0 y1 y2 y3 y4 y5 y6 y7 y8 y9 y10 y11 y12 y13 y14 y15 y16 y17 y18 y19 y20)) ∧ (∀ y0 y1 y2 y3 y4 y5 y6 y7 y8 y9 y10 y11 y12 y13 y14, LeO (laws_FnExactLeave.j1 k y0 y1 y2 y3 y4 y5 y6 y7 y8 y9 y10 y11 y12 y13 y14) (laws_FnExactLeave.j1 (k + 1) y0 y1 y2 y3 y4 y5 y6 y7 y8 y9 y10 y11 y12 y13 y14)) ∧ (∀ y0 y1 y2 y3 y4 y5, LeO (laws_FnExactLeave.j2 k y0 y1 y2 y3 y4 y5) (laws_FnExactLeave.j2 (k + 1) y0 y1 y2 y3 y4 y5))
 | 0 => ⟨fun _ _ _ _ _ _ _ _ _ _ _ _ _ _ _ _ _ _ _ _ _ r h => by simp [laws_FnExactLeave.j0] at h, fun _ _ _ _ _ _ _ _ _ _ _ _ _ _ _ r h => by simp [laws_FnExactLeave.j1] at h, fun _ _ _ _ _ _ r h => by simp [laws_FnExactLeave.j2] at h⟩
 | k + 1 => by
  obtain ⟨ih0, ih1, ih2⟩ := laws_FnExactLeave.mono_l k
  refine ⟨?_, ?_, ?_⟩
  ·intro y0 y1 y2 y3 y4 y5 y6 y7 y8 y9 y10 y11 y12 y13 y14 y15 y16 y17 y18 y19 y20
   unfold laws_FnExactLeave.j0
   repeat' first
   | (with_reducible exact ih0 _ _ _ _ _ _ _ _ _ _ _ _ _ _ _ _ _ _ _ _ _)
   | (with_reducible exact ih1 _ _ _ _ _ _ _ _ _ _ _ _ _ _ _)
   | (with_reducible exact ih2 _ _ _ _ _ _)
   | (with_reducible exact impl_Leave.mono _ _ _ _ _)
   | (with_reducible exact laws_eqBelt.mono _ _ _ _ _ _ _ _ _)
   | (with_reducible exact laws_heldBelt.mono _ _ _ _ _ _)
   | (with_reducible exact laws_markBelt.mono _ _ _ _ _ _)
   | (with_reducible exact laws_toBelt.mono _ _ _ _ _)
   | (with_reducible exact spec_Leave.mono _ _ _ _ _)
   | (with_reducible exact LeO.refl _)
   | (with_reducible exact LeO.none _)
   | (with_reducible refine LeO.ite ?_ ?_)
   | (with_reducible refine LeO.bind ?_ (fun _ => ?_))
   | exact ih0 _ _ _ _ _ _ _ _ _ _ _ _ _ _ _ _ _ _ _ _ _
   | exact ih1 _ _ _ _ _ _ _ _ _ _ _ _ _ _ _
   | exact ih2 _ _ _ _ _ _
   | exact impl_Leave.mono _ _ _ _ _
   | exact laws_eqBelt.mono _ _ _ _ _ _ _ _ _
   | exact laws_heldBelt.mono _ _ _ _ _ _
   | exact laws_markBelt.mono _ _ _ _ _ _
   | exact laws_toBelt.mono _ _ _ _ _
   | exact spec_Leave.mono _ _ _ _ _
   | exact LeO.none _
   | refine LeO.ite ?_ ?_
   | refine LeO.bind ?_ (fun _ => ?_)
  ·intro y0 y1 y2 y3 y4 y5 y6 y7 y8 y9 y10 y11 y12 y13 y14
   unfold laws_FnExactLeave.j1
   repeat' first
   | (with_reducible exact ih0 _ _ _ _ _ _ _ _ _ _ _ _ _ _ _ _ _ _ _ _ _)
   | (with_reducible exact ih1 _ _ _ _ _ _ _ _ _ _ _ _ _ _ _)
   | (with_reducible exact ih2 _ _ _ _ _ _)
   | (with_reducible exact impl_Leave.mono _ _ _ _ _)
   | (with_reducible exact laws_eqBelt.mono _ _ _ _ _ _ _ _ _)
   | (with_reducible exact laws_heldBelt.mono _ _ _ _ _ _)
   | (with_reducible exact laws_markBelt.mono _ _ _ _ _ _)
   | (with_reducible exact laws_toBelt.mono _ _ _ _ _)
   | (with_reducible exact spec_Leave.mono _ _ _ _ _)
   | (with_reducible exact LeO.refl _)
   | (with_reducible exact LeO.none _)
   | (with_reducible refine LeO.ite ?_ ?_)
   | (with_reducible refine LeO.bind ?_ (fun _ => ?_))
   | exact ih0 _ _ _ _ _ _ _ _ _ _ _ _ _ _ _ _ _ _ _ _ _
   | exact ih1 _ _ _ _ _ _ _ _ _ _ _ _ _ _ _
   | exact ih2 _ _ _ _ _ _
   | exact impl_Leave.mono _ _ _ _ _
   | exact laws_eqBelt.mono _ _ _ _ _ _ _ _ _
   | exact laws_heldBelt.mono _ _ _ _ _ _
   | exact laws_markBelt.mono _ _ _ _ _ _
   | exact laws_toBelt.mono _ _ _ _ _
   | exact spec_Leave.mono _ _ _ _ _
   | exact LeO.none _
   | refine LeO.ite ?_ ?_
   | refine LeO.bind ?_ (fun _ => ?_)
  ·intro y0 y1 y2 y3 y4 y5
   unfold laws_FnExactLeave.j2
   repeat' first
   | (with_reducible exact ih0 _ _ _ _ _ _ _ _ _ _ _ _ _ _ _ _ _ _ _ _ _)
   | (with_reducible exact ih1 _ _ _ _ _ _ _ _ _ _ _ _ _ _ _)
   | (with_reducible exact ih2 _ _ _ _ _ _)
   | (with_reducible exact impl_Leave.mono _ _ _ _ _)
   | (with_reducible exact laws_eqBelt.mono _ _ _ _ _ _ _ _ _)
   | (with_reducible exact laws_heldBelt.mono _ _ _ _ _ _)
   | (with_reducible exact laws_markBelt.mono _ _ _ _ _ _)
   | (with_reducible exact laws_toBelt.mono _ _ _ _ _)
   | (with_reducible exact spec_Leave.mono _ _ _ _ _)
   | (with_reducible exact LeO.refl _)
   | (with_reducible exact LeO.none _)
   | (with_reducible refine LeO.ite ?_ ?_)
   | (with_reducible refine LeO.bind ?_ (fun _ => ?_))
   | exact ih0 _ _ _ _ _ _ _ _ _ _ _ _ _ _ _ _ _ _ _ _ _
   | exact ih1 _ _ _ _ _ _ _ _ _ _ _ _ _ _ _
   | exact ih2 _ _ _ _ _ _
   | exact impl_Leave.mono _ _ _ _ _
   | exact laws_eqBelt.mono _ _ _ _ _ _ _ _ _
   | exact laws_heldBelt.mono _ _ _ _ _ _
   | exact laws_markBelt.mono _ _ _ _ _ _
   | exact laws_toBelt.mono _ _ _ _ _
   | exact spec_Leave.mono _ _ _ _ _
   | exact LeO.none _
   | refine LeO.ite ?_ ?_
   | refine LeO.bind ?_ (fun _ => ?_)
theorem laws_FnExactLeave.mono : ∀ a0 a1 a2 a3 k, LeO (laws_FnExactLeave.f k a0 a1 a2 a3) (laws_FnExactLeave.f (k + 1) a0 a1 a2 a3) := by
 intro a0 a1 a2 a3 k
 obtain ⟨ih0, ih1, ih2⟩ := laws_FnExactLeave.mono_l k
 unfold laws_FnExactLeave.f
 repeat' first
   | (with_reducible exact ih0 _ _ _ _ _ _ _ _ _ _ _ _ _ _ _ _ _ _ _ _ _)
   | (with_reducible exact ih1 _ _ _ _ _ _ _ _ _ _ _ _ _ _ _)
   | (with_reducible exact ih2 _ _ _ _ _ _)
   | (with_reducible exact impl_Leave.mono _ _ _ _ _)
   | (with_reducible exact laws_eqBelt.mono _ _ _ _ _ _ _ _ _)
   | (with_reducible exact laws_heldBelt.mono _ _ _ _ _ _)
   | (with_reducible exact laws_markBelt.mono _ _ _ _ _ _)
   | (with_reducible exact laws_toBelt.mono _ _ _ _ _)
   | (with_reducible exact spec_Leave.mono _ _ _ _ _)
   | (with_reducible exact LeO.refl _)
   | (with_reducible exact LeO.none _)
   | (with_reducible refine LeO.ite ?_ ?_)
   | (with_reducible refine LeO.bind ?_ (fun _ => ?_))
   | exact ih0 _ _ _ _ _ _ _ _ _ _ _ _ _ _ _ _ _ _ _ _ _
   | exact ih1 _ _ _ _ _ _ _ _ _ _ _ _ _ _ _
   | exact ih2 _ _ _ _ _ _
   | exact impl_Leave.mono _ _ _ _ _
   | exact laws_eqBelt.mono _ _ _ _ _ _ _ _ _
   | exact laws_heldBelt.mono _ _ _ _ _ _
   | exact laws_markBelt.mono _ _ _ _ _ _
   | exact laws_toBelt.mono _ _ _ _ _
   | exact spec_Leave.mono _ _ _ _ _
   | exact LeO.none _
   | refine LeO.ite ?_ ?_
   | refine LeO.bind ?_ (fun _ => ?_)
set_option maxHeartbeats 8000000 in
set_option maxRecDepth 100000 in
theorem laws_FnExactLeave.calls (k : Nat) (a0_0 : Int) (a0_1 : Int) (a0_2 : Bool) (A0_3 : Option Addr) (c0_3 : Nat) (l0_3 : List (S78)) (w : World) (hr0_3 : Kd.C k78 w A0_3 l0_3.length l0_3) (hc0_3 : l0_3.length ≤ c0_3) (h : laws_FnExactLeave.f k a0_0 a0_1 a0_2 l0_3 = some true) :
  Calls Try.prog 7 #[.agg #[.int .i64 a0_0, .int .i64 a0_1, .bool a0_2, .slice A0_3 l0_3.length c0_3]] w fun e w' => e = .returned (.bool true) ∧ Below w.heap.size w w' := by
 have hu24 := Try.underlying24
 have hu29 := Try.underlying29
 have HR0_3 := uD hr0_3
 have HC0_3 := uD hc0_3
 clear hr0_3 hc0_3
 have HB := uD (Below.refl w.heap.size w)
 have H : ((laws_szBelt.f a0_0 a0_1 a0_2 l0_3 1048576).bind fun t207 => (if t207 < 0 then (some true) else ((laws_toBelt.f k a0_0 a0_1 a0_2 l0_3).bind fun bt208 => ((spec_Leave.f k bt208.1 bt208.2.1 bt208.2.2.1 bt208.2.2.2).bind fun bt214 => ((laws_toBelt.f k a0_0 a0_1 a0_2 l0_3).bind fun bt223 => ((impl_Leave.f k bt223.1 bt223.2.1 bt223.2.2.1 bt223.2.2.2).bind fun bt230 => ((laws_eqBelt.f k bt230.1 bt230.2.1 bt230.2.2.1 bt230.2.2.2.1 bt214.1 bt214.2.1 bt214.2.2.1 bt214.2.2.2.1).bind fun t239 => (if t239 = true then (if bt230.2.2.2.2.1 = bt214.2.2.2.2.1 then (laws_FnExactLeave.j0 k bt214.2.2.2.2.1 bt214.2.2.2.2.2 bt230.2.2.2.2.1 bt230.2.2.2.2.2 (bt230.2.2.2.2.2 != bt214.2.2.2.2.2) a0_0 a0_1 a0_2 l0_3 bt214.1 bt214.2.1 bt214.2.2.1 bt214.2.2.2.1 bt223.1 bt223.2.1 bt223.2.2.1 bt223.2.2.2 bt230.1 bt230.2.1 bt230.2.2.1 bt230.2.2.2.1) else (laws_FnExactLeave.j0 k bt214.2.2.2.2.1 bt214.2.2.2.2.2 bt230.2.2.2.2.1 bt230.2.2.2.2.2 true a0_0 a0_1 a0_2 l0_3 bt214.1 bt214.2.1 bt214.2.2.1 bt214.2.2.2.1 bt223.1 bt223.2.1 bt223.2.2.1 bt223.2.2.2 bt230.1 bt230.2.1 bt230.2.2.1 bt230.2.2.2.1)) else (laws_FnExactLeave.j0 k bt214.2.2.2.2.1 bt214.2.2.2.2.2 bt230.2.2.2.2.1 bt230.2.2.2.2.2 true a0_0 a0_1 a0_2 l0_3 bt214.1 bt214.2.1 bt214.2.2.1 bt214.2.2.2.1 bt223.1 bt223.2.1 bt223.2.2.1 bt223.2.2.2 bt230.1 bt230.2.1 bt230.2.2.1 bt230.2.2.2.1))))))))) = some true := h
 clear h
 replace H := Option.bind_eq_some_iff.mp H
 obtain ⟨t207, A20, H⟩ := H
 replace H : (if t207 < 0 then (some true) else ((laws_toBelt.f k a0_0 a0_1 a0_2 l0_3).bind fun bt208 => ((spec_Leave.f k bt208.1 bt208.2.1 bt208.2.2.1 bt208.2.2.2).bind fun bt214 => ((laws_toBelt.f k a0_0 a0_1 a0_2 l0_3).bind fun bt223 => ((impl_Leave.f k bt223.1 bt223.2.1 bt223.2.2.1 bt223.2.2.2).bind fun bt230 => ((laws_eqBelt.f k bt230.1 bt230.2.1 bt230.2.2.1 bt230.2.2.2.1 bt214.1 bt214.2.1 bt214.2.2.1 bt214.2.2.2.1).bind fun t239 => (if t239 = true then (if bt230.2.2.2.2.1 = bt214.2.2.2.2.1 then (laws_FnExactLeave.j0 k bt214.2.2.2.2.1 bt214.2.2.2.2.2 bt230.2.2.2.2.1 bt230.2.2.2.2.2 (bt230.2.2.2.2.2 != bt214.2.2.2.2.2) a0_0 a0_1 a0_2 l0_3 bt214.1 bt214.2.1 bt214.2.2.1 bt214.2.2.2.1 bt223.1 bt223.2.1 bt223.2.2.1 bt223.2.2.2 bt230.1 bt230.2.1 bt230.2.2.1 bt230.2.2.2.1) else (laws_FnExactLeave.j0 k bt214.2.2.2.2.1 bt214.2.2.2.2.2 bt230.2.2.2.2.1 bt230.2.2.2.2.2 true a0_0 a0_1 a0_2 l0_3 bt214.1 bt214.2.1 bt214.2.2.1 bt214.2.2.2.1 bt223.1 bt223.2.1 bt223.2.2.1 bt223.2.2.2 bt230.1 bt230.2.1 bt230.2.2.1 bt230.2.2.2.1)) else (laws_FnExactLeave.j0 k bt214.2.2.2.2.1 bt214.2.2.2.2.2 bt230.2.2.2.2.1 bt230.2.2.2.2.2 true a0_0 a0_1 a0_2 l0_3 bt214.1 bt214.2.1 bt214.2.2.1 bt214.2.2.2.1 bt223.1 bt223.2.1 bt223.2.2.1 bt223.2.2.2 bt230.1 bt230.2.1 bt230.2.2.1 bt230.2.2.2.1)))))))) = some true := H
 have A2 := uD A20
 clear A20
 by_cases c3 : t207 < 0
 ·rw [if_pos c3] at H
  have c3b0 : decide (t207 < 0) = true := decide_eq_true c3
  clear c3
  have HT := Option.some.inj H
  clear H
  go_enter Try.func7, Try.ntmps7
  go_wp2_with (first | ((with_reducible refine gate_dst (N := 1) rfl ?_); refine box_event ?hg (N := 1) ?hd (cs := #[.int .i64 a0_0, .int .i64 a0_1, .bool a0_2, .slice A0_3 l0_3.length c0_3]) (t := 24) ?hr ?_; (case hd => rfl); (case hg => rfl); (case hr => first | (go_simp; done) | (go_simp; rfl)); intro gb206 hg w4 hbox hb; have BK206 := uD (hbox); have GW206 := uD ((by rw [hg]; exact (uN (by repeat (first | (with_reducible first | exact HB.out | apply uL | apply uE | apply uK) | exact HB.out))) : w.heap.size ≤ gb206)); have GE206 := uD ((by rw [hg]; exact (uN (by repeat (first | (with_reducible first | exact HB.out | apply uL | apply uE | apply uK) | exact HB.out))) : w.heap.size ≤ gb206)); replace HB := uD (uO (by repeat (first | (with_reducible first | exact HB.out | apply uL | apply uE | apply uK) | exact HB.out)) hb); clear hb hbox hg; have hcz5_0 : w4.cell? ⟨gb206, 0, none⟩ = some (.int .i64 a0_0) := (uF BK206.out 0).trans rfl; have hcz5_1 : w4.cell? ⟨gb206, 1, none⟩ = some (.int .i64 a0_1) := (uF BK206.out 1).trans rfl; have hcz5_2 : w4.cell? ⟨gb206, 2, none⟩ = some (.bool a0_2) := (uF BK206.out 2).trans rfl; have hcz5_3 : w4.cell? ⟨gb206, 3, none⟩ = some (.slice A0_3 l0_3.length c0_3) := (uF BK206.out 3).trans rfl; have hfz5_0 := uI BK206.out 0; have hfz5_1 := uI BK206.out 1; have hfz5_2 := uI BK206.out 2; have hfz5_3 := uI BK206.out 3) | ((with_reducible refine gate_callee (f := 15) rfl ?_); refine goesL_ (some 19) rfl rfl Try.func15 (by kernel_rfl) rfl #[.agg #[.int .i64 a0_0, .int .i64 a0_1, .bool a0_2, .slice A0_3 l0_3.length c0_3], .int .i64 1048576] rfl (by (try simp only [List.map_toArray, List.map_cons, List.map_nil]); first | done | rfl | (simp only [List.length_drop, List.length_take]; rfl)) ?_; (with_reducible refine (laws_szBelt.calls a0_0 a0_1 a0_2 _ _ l0_3 1048576 t207 _ ?side1 ?side2 A2.out).mono ?_); (case side1 => repeat (first | exact (Kd.C_below HR0_3.out HB.out) | (with_reducible refine Kd.C_alloc ?_ _) | (with_reducible refine Kd.C_drewN ?_ _) | (with_reducible refine Kd.C_drew ?_))); (case side2 => exact HC0_3.out); rintro e w6 ⟨rfl, hb⟩; refine ⟨_, rfl, ?_⟩; replace BK206 := uD (blk_below (g := gb206) (o := .cells #[.int .i64 a0_0, .int .i64 a0_1, .bool a0_2, .slice A0_3 l0_3.length c0_3] 24 (0, 0)) (by (with_reducible repeat (first | refine uH ?_ _ | refine uJ ?_ | refine uG ?_ _)); exact BK206.out) hb); replace HB := uD (uO (by repeat (first | (with_reducible first | exact HB.out | apply uL | apply uE | apply uK | refine uM ?_ GE206.out) | exact HB.out)) hb); (try clear hb); (try clear hb2); (try clear hk); (try clear hi)))
  go_ret
  exact ⟨by first | rfl | (simp [errW_none, errW_some] <;> rfl) | (simp [*, errW_none, errW_some] <;> rfl), by repeat (first | (with_reducible first | exact HB.out | apply uL | apply uE | apply uK | refine uM ?_ GE206.out) | exact HB.out)⟩
 ·rw [if_neg c3] at H
  have c3b0 : decide (t207 < 0) = false := decide_eq_false c3
  clear c3
  replace H := Option.bind_eq_some_iff.mp H
  obtain ⟨⟨t208, t209, t210, t211⟩, A70, H⟩ := H
  replace H : ((spec_Leave.f k t208 t209 t210 t211).bind fun bt214 => ((laws_toBelt.f k a0_0 a0_1 a0_2 l0_3).bind fun bt223 => ((impl_Leave.f k bt223.1 bt223.2.1 bt223.2.2.1 bt223.2.2.2).bind fun bt230 => ((laws_eqBelt.f k bt230.1 bt230.2.1 bt230.2.2.1 bt230.2.2.2.1 bt214.1 bt214.2.1 bt214.2.2.1 bt214.2.2.2.1).bind fun t239 => (if t239 = true then (if bt230.2.2.2.2.1 = bt214.2.2.2.2.1 then (laws_FnExactLeave.j0 k bt214.2.2.2.2.1 bt214.2.2.2.2.2 bt230.2.2.2.2.1 bt230.2.2.2.2.2 (bt230.2.2.2.2.2 != bt214.2.2.2.2.2) a0_0 a0_1 a0_2 l0_3 bt214.1 bt214.2.1 bt214.2.2.1 bt214.2.2.2.1 bt223.1 bt223.2.1 bt223.2.2.1 bt223.2.2.2 bt230.1 bt230.2.1 bt230.2.2.1 bt230.2.2.2.1) else (laws_FnExactLeave.j0 k bt214.2.2.2.2.1 bt214.2.2.2.2.2 bt230.2.2.2.2.1 bt230.2.2.2.2.2 true a0_0 a0_1 a0_2 l0_3 bt214.1 bt214.2.1 bt214.2.2.1 bt214.2.2.2.1 bt223.1 bt223.2.1 bt223.2.2.1 bt223.2.2.2 bt230.1 bt230.2.1 bt230.2.2.1 bt230.2.2.2.1)) else (laws_FnExactLeave.j0 k bt214.2.2.2.2.1 bt214.2.2.2.2.2 bt230.2.2.2.2.1 bt230.2.2.2.2.2 true a0_0 a0_1 a0_2 l0_3 bt214.1 bt214.2.1 bt214.2.2.1 bt214.2.2.2.1 bt223.1 bt223.2.1 bt223.2.2.1 bt223.2.2.2 bt230.1 bt230.2.1 bt230.2.2.1 bt230.2.2.2.1)))))) = some true := H
  have A7 := uD A70
  clear A70
  replace H := Option.bind_eq_some_iff.mp H
  obtain ⟨⟨t214, t215, t216, t217, t220, t221⟩, A80, H⟩ := H
  replace H : ((laws_toBelt.f k a0_0 a0_1 a0_2 l0_3).bind fun bt223 => ((impl_Leave.f k bt223.1 bt223.2.1 bt223.2.2.1 bt223.2.2.2).bind fun bt230 => ((laws_eqBelt.f k bt230.1 bt230.2.1 bt230.2.2.1 bt230.2.2.2.1 t214 t215 t216 t217).bind fun t239 => (if t239 = true then (if bt230.2.2.2.2.1 = t220 then (laws_FnExactLeave.j0 k t220 t221 bt230.2.2.2.2.1 bt230.2.2.2.2.2 (bt230.2.2.2.2.2 != t221) a0_0 a0_1 a0_2 l0_3 t214 t215 t216 t217 bt223.1 bt223.2.1 bt223.2.2.1 bt223.2.2.2 bt230.1 bt230.2.1 bt230.2.2.1 bt230.2.2.2.1) else (laws_FnExactLeave.j0 k t220 t221 bt230.2.2.2.2.1 bt230.2.2.2.2.2 true a0_0 a0_1 a0_2 l0_3 t214 t215 t216 t217 bt223.1 bt223.2.1 bt223.2.2.1 bt223.2.2.2 bt230.1 bt230.2.1 bt230.2.2.1 bt230.2.2.2.1)) else (laws_FnExactLeave.j0 k t220 t221 bt230.2.2.2.2.1 bt230.2.2.2.2.2 true a0_0 a0_1 a0_2 l0_3 t214 t215 t216 t217 bt223.1 bt223.2.1 bt223.2.2.1 bt223.2.2.2 bt230.1 bt230.2.1 bt230.2.2.1 bt230.2.2.2.1))))) = some true := H
  have A8 := uD A80
  clear A80
  replace H := Option.bind_eq_some_iff.mp H
  obtain ⟨⟨t223, t224, t225, t226⟩, A90, H⟩ := H
  replace H : ((impl_Leave.f k t223 t224 t225 t226).bind fun bt230 => ((laws_eqBelt.f k bt230.1 bt230.2.1 bt230.2.2.1 bt230.2.2.2.1 t214 t215 t216 t217).bind fun t239 => (if t239 = true then (if bt230.2.2.2.2.1 = t220 then (laws_FnExactLeave.j0 k t220 t221 bt230.2.2.2.2.1 bt230.2.2.2.2.2 (bt230.2.2.2.2.2 != t221) a0_0 a0_1 a0_2 l0_3 t214 t215 t216 t217 t223 t224 t225 t226 bt230.1 bt230.2.1 bt230.2.2.1 bt230.2.2.2.1) else (laws_FnExactLeave.j0 k t220 t221 bt230.2.2.2.2.1 bt230.2.2.2.2.2 true a0_0 a0_1 a0_2 l0_3 t214 t215 t216 t217 t223 t224 t225 t226 bt230.1 bt230.2.1 bt230.2.2.1 bt230.2.2.2.1)) else (laws_FnExactLeave.j0 k t220 t221 bt230.2.2.2.2.1 bt230.2.2.2.2.2 true a0_0 a0_1 a0_2 l0_3 t214 t215 t216 t217 t223 t224 t225 t226 bt230.1 bt230.2.1 bt230.2.2.1 bt230.2.2.2.1)))) = some true := H
  have A9 := uD A90
  clear A90
  replace H := Option.bind_eq_some_iff.mp H
  obtain ⟨⟨t230, t231, t232, t233, t236, t237⟩, A100, H⟩ := H
  replace H : ((laws_eqBelt.f k t230 t231 t232 t233 t214 t215 t216 t217).bind fun t239 => (if t239 = true then (if t236 = t220 then (laws_FnExactLeave.j0 k t220 t221 t236 t237 (t237 != t221) a0_0 a0_1 a0_2 l0_3 t214 t215 t216 t217 t223 t224 t225 t226 t230 t231 t232 t233) else (laws_FnExactLeave.j0 k t220 t221 t236 t237 true a0_0 a0_1 a0_2 l0_3 t214 t215 t216 t217 t223 t224 t225 t226 t230 t231 t232 t233)) else (laws_FnExactLeave.j0 k t220 t221 t236 t237 true a0_0 a0_1 a0_2 l0_3 t214 t215 t216 t217 t223 t224 t225 t226 t230 t231 t232 t233))) = some true := H
  have A10 := uD A100
  clear A100
  have HC11 := uD H
  clear H
  go_enter Try.func7, Try.ntmps7
  go_upto_region 8 with (first | ((with_reducible refine gate_dst (N := 1) rfl ?_); refine box_event ?hg (N := 1) ?hd (cs := #[.int .i64 a0_0, .int .i64 a0_1, .bool a0_2, .slice A0_3 l0_3.length c0_3]) (t := 24) ?hr ?_; (case hd => rfl); (case hg => rfl); (case hr => first | (go_simp; done) | (go_simp; rfl)); intro gb206 hg w12 hbox hb; have BK206 := uD (hbox); have GW206 := uD ((by rw [hg]; exact (uN (by repeat (first | (with_reducible first | exact HB.out | apply uL | apply uE | apply uK) | exact HB.out))) : w.heap.size ≤ gb206)); have GE206 := uD ((by rw [hg]; exact (uN (by repeat (first | (with_reducible first | exact HB.out | apply uL | apply uE | apply uK) | exact HB.out))) : w.heap.size ≤ gb206)); replace HB := uD (uO (by repeat (first | (with_reducible first | exact HB.out | apply uL | apply uE | apply uK) | exact HB.out)) hb); clear hb hbox hg; have hcz13_0 : w12.cell? ⟨gb206, 0, none⟩ = some (.int .i64 a0_0) := (uF BK206.out 0).trans rfl; have hcz13_1 : w12.cell? ⟨gb206, 1, none⟩ = some (.int .i64 a0_1) := (uF BK206.out 1).trans rfl; have hcz13_2 : w12.cell? ⟨gb206, 2, none⟩ = some (.bool a0_2) := (uF BK206.out 2).trans rfl; have hcz13_3 : w12.cell? ⟨gb206, 3, none⟩ = some (.slice A0_3 l0_3.length c0_3) := (uF BK206.out 3).trans rfl; have hfz13_0 := uI BK206.out 0; have hfz13_1 := uI BK206.out 1; have hfz13_2 := uI BK206.out 2; have hfz13_3 := uI BK206.out 3) | ((with_reducible refine gate_callee (f := 15) rfl ?_); refine goesL_ (some 19) rfl rfl Try.func15 (by kernel_rfl) rfl #[.agg #[.int .i64 a0_0, .int .i64 a0_1, .bool a0_2, .slice A0_3 l0_3.length c0_3], .int .i64 1048576] rfl (by (try simp only [List.map_toArray, List.map_cons, List.map_nil]); first | done | rfl | (simp only [List.length_drop, List.length_take]; rfl)) ?_; (with_reducible refine (laws_szBelt.calls a0_0 a0_1 a0_2 _ _ l0_3 1048576 t207 _ ?side1 ?side2 A2.out).mono ?_); (case side1 => repeat (first | exact (Kd.C_below HR0_3.out HB.out) | (with_reducible refine Kd.C_alloc ?_ _) | (with_reducible refine Kd.C_drewN ?_ _) | (with_reducible refine Kd.C_drew ?_))); (case side2 => exact HC0_3.out); rintro e w14 ⟨rfl, hb⟩; refine ⟨_, rfl, ?_⟩; replace BK206 := uD (blk_below (g := gb206) (o := .cells #[.int .i64 a0_0, .int .i64 a0_1, .bool a0_2, .slice A0_3 l0_3.length c0_3] 24 (0, 0)) (by (with_reducible repeat (first | refine uH ?_ _ | refine uJ ?_ | refine uG ?_ _)); exact BK206.out) hb); replace HB := uD (uO (by repeat (first | (with_reducible first | exact HB.out | apply uL | apply uE | apply uK | refine uM ?_ GE206.out) | exact HB.out)) hb); (try clear hb); (try clear hb2); (try clear hk); (try clear hi); have hcz15_0 : w14.cell? ⟨gb206, 0, none⟩ = some (.int .i64 a0_0) := (uF BK206.out 0).trans rfl; have hcz15_1 : w14.cell? ⟨gb206, 1, none⟩ = some (.int .i64 a0_1) := (uF BK206.out 1).trans rfl; have hcz15_2 : w14.cell? ⟨gb206, 2, none⟩ = some (.bool a0_2) := (uF BK206.out 2).trans rfl; have hcz15_3 : w14.cell? ⟨gb206, 3, none⟩ = some (.slice A0_3 l0_3.length c0_3) := (uF BK206.out 3).trans rfl; have hfz15_0 := uI BK206.out 0; have hfz15_1 := uI BK206.out 1; have hfz15_2 := uI BK206.out 2; have hfz15_3 := uI BK206.out 3) | ((with_reducible refine gate_callee (f := 17) rfl ?_); refine goesL_ (some 24) rfl rfl Try.func17 (by kernel_rfl) rfl #[.agg #[.int .i64 a0_0, .int .i64 a0_1, .bool a0_2, .slice A0_3 l0_3.length c0_3]] rfl (by (try simp only [List.map_toArray, List.map_cons, List.map_nil]); first | done | rfl | (simp only [List.length_drop, List.length_take]; rfl)) ?_; (with_reducible refine (laws_toBelt.calls k a0_0 a0_1 a0_2 _ _ l0_3 t208 t209 t210 t211 _ ?side1 ?side2 A7.out).mono ?_); (case side1 => repeat (first | exact (Kd.C_below HR0_3.out HB.out) | (with_reducible refine Kd.C_alloc ?_ _) | (with_reducible refine Kd.C_drewN ?_ _) | (with_reducible refine Kd.C_drew ?_))); (case side2 => exact HC0_3.out); rintro e w16 ⟨v212, rfl, ho0, hb⟩; refine ⟨_, rfl, ?_⟩; have HO213 := uD (Kd.R_lower ho0 (uN (by repeat (first | (with_reducible first | exact HB.out | apply uL | apply uE | apply uK | refine uM ?_ GE206.out) | exact HB.out)))); replace BK206 := uD (blk_below (g := gb206) (o := .cells #[.int .i64 a0_0, .int .i64 a0_1, .bool a0_2, .slice A0_3 l0_3.length c0_3] 24 (0, 0)) (by (with_reducible repeat (first | refine uH ?_ _ | refine uJ ?_ | refine uG ?_ _)); exact BK206.out) hb); replace HB := uD (uO (by repeat (first | (with_reducible first | exact HB.out | apply uL | apply uE | apply uK | refine uM ?_ GE206.out) | exact HB.out)) hb); (try clear hb); (try clear hb2); (try clear hk); (try clear hi); (try clear ho0); obtain ⟨Ao17, co17, eo17⟩ := Kd.R_slice HO213.out; subst eo17) | ((with_reducible refine gate_callee (f := 26) rfl ?_); refine goesL_ (some 25) rfl rfl Try.func26 (by kernel_rfl) rfl #[.agg #[.int .i64 t208, .int .i64 t209, .bool t210, .slice Ao17 t211.length co17]] rfl (by (try simp only [List.map_toArray, List.map_cons, List.map_nil]); first | done | rfl | (simp only [List.length_drop, List.length_take]; rfl)) ?_; (with_reducible refine (spec_Leave.calls k t208 t209 t210 _ _ t211 t214 t215 t216 t217 t220 t221 _ ?side1 ?side2 A8.out).mono ?_); (case side1 => repeat (first | exact (Kd.R_reads' HO213.out).2.2 | (with_reducible refine Kd.C_alloc ?_ _) | (with_reducible refine Kd.C_drewN ?_ _) | (with_reducible refine Kd.C_drew ?_))); (case side2 => exact (Kd.R_reads' HO213.out).2.1); rintro e w18 ⟨v218, rfl, ho0, hb⟩; refine ⟨_, rfl, ?_⟩; have HO219 := uD (Kd.R_lower (Kd.R_new' ho0 (Kd.R_lt (by (with_reducible repeat (first | apply uU | apply uS | apply uT)); exact HO213.out))) (uN (by repeat (first | (with_reducible first | exact HB.out | apply uL | apply uE | apply uK | refine uM ?_ GE206.out) | exact HB.out)))); replace HO213 := uD (Kd.R_elder' (by (with_reducible repeat (first | apply uU | apply uS | apply uT)); exact HO213.out) (Kd.R_base ho0) hb); replace BK206 := uD (blk_below (g := gb206) (o := .cells #[.int .i64 a0_0, .int .i64 a0_1, .bool a0_2, .slice A0_3 l0_3.length c0_3] 24 (0, 0)) (by (with_reducible repeat (first | refine uH ?_ _ | refine uJ ?_ | refine uG ?_ _)); exact BK206.out) hb); replace HB := uD (uO (by repeat (first | (with_reducible first | exact HB.out | apply uL | apply uE | apply uK | refine uM ?_ GE206.out) | exact HB.out)) hb); (try clear hb); (try clear hb2); (try clear hk); (try clear hi); (try clear ho0)) | ((with_reducible refine gate_dst (N := 4) rfl ?_); refine box_event ?hg (N := 4) ?hd (cs := #[.int .i64 0, .int .i64 0, .bool false, .slice none 0 0]) (t := 29) ?hr ?_; (case hd => rfl); (case hg => rfl); (case hr => first | (go_simp; done) | (go_simp; rfl)); intro gb222 hg w19 hbox hb; replace HO213 := uD (Kd.R_below (by (with_reducible repeat (first | apply uU | apply uS | apply uT)); exact HO213.out) hb); replace HO219 := uD (Kd.R_below (by (with_reducible repeat (first | apply uU | apply uS | apply uT)); exact HO219.out) hb); have BK222 := uD (hbox); have GW222 := uD ((by rw [hg]; exact (uN (by repeat (first | (with_reducible first | exact HB.out | apply uL | apply uE | apply uK | refine uM ?_ GE206.out) | exact HB.out))) : w.heap.size ≤ gb222)); have GE222 := uD ((by rw [hg]; exact (uN (by repeat (first | (with_reducible first | exact HB.out | apply uL | apply uE | apply uK | refine uM ?_ GE206.out) | exact HB.out))) : w.heap.size ≤ gb222)); replace HB := uD (uO (by repeat (first | (with_reducible first | exact HB.out | apply uL | apply uE | apply uK | refine uM ?_ GE206.out) | exact HB.out)) hb); have NB206_222 := uD ((by rw [hg]; exact Nat.ne_of_lt (blk_lt (g := gb206) (o := .cells #[.int .i64 a0_0, .int .i64 a0_1, .bool a0_2, .slice A0_3 l0_3.length c0_3] 24 (0, 0)) (by (with_reducible repeat (first | refine uH ?_ _ | refine uJ ?_ | refine uG ?_ _)); exact BK206.out)) : gb206 ≠ gb222)); have NB222_206 := uD ((by rw [hg]; exact Nat.ne_of_gt (blk_lt (g := gb206) (o := .cells #[.int .i64 a0_0, .int .i64 a0_1, .bool a0_2, .slice A0_3 l0_3.length c0_3] 24 (0, 0)) (by (with_reducible repeat (first | refine uH ?_ _ | refine uJ ?_ | refine uG ?_ _)); exact BK206.out)) : gb222 ≠ gb206)); replace BK206 := uD (blk_below (g := gb206) (o := .cells #[.int .i64 a0_0, .int .i64 a0_1, .bool a0_2, .slice A0_3 l0_3.length c0_3] 24 (0, 0)) (by (with_reducible repeat (first | refine uH ?_ _ | refine uJ ?_ | refine uG ?_ _)); exact BK206.out) hb); clear hb hbox hg; have hnb20 := NB222_206.out; have hnc20 := NB206_222.out; have hcz21_0 : w19.cell? ⟨gb222, 0, none⟩ = some (.int .i64 0) := (uF BK222.out 0).trans rfl; have hcz21_1 : w19.cell? ⟨gb222, 1, none⟩ = some (.int .i64 0) := (uF BK222.out 1).trans rfl; have hcz21_2 : w19.cell? ⟨gb222, 2, none⟩ = some (.bool false) := (uF BK222.out 2).trans rfl; have hcz21_3 : w19.cell? ⟨gb222, 3, none⟩ = some (.slice none 0 0) := (uF BK222.out 3).trans rfl; have hfz21_0 := uI BK222.out 0; have hfz21_1 := uI BK222.out 1; have hfz21_2 := uI BK222.out 2; have hfz21_3 := uI BK222.out 3; obtain ⟨Ao22, co22, eo22⟩ := Kd.R_slice HO219.out; subst eo22; have hcz23_0 : w19.cell? ⟨gb206, 0, none⟩ = some (.int .i64 a0_0) := (uF BK206.out 0).trans rfl; have hcz23_1 : w19.cell? ⟨gb206, 1, none⟩ = some (.int .i64 a0_1) := (uF BK206.out 1).trans rfl; have hcz23_2 : w19.cell? ⟨gb206, 2, none⟩ = some (.bool a0_2) := (uF BK206.out 2).trans rfl; have hcz23_3 : w19.cell? ⟨gb206, 3, none⟩ = some (.slice A0_3 l0_3.length c0_3) := (uF BK206.out 3).trans rfl; have hfz23_0 := uI BK206.out 0; have hfz23_1 := uI BK206.out 1; have hfz23_2 := uI BK206.out 2; have hfz23_3 := uI BK206.out 3) | ((with_reducible refine gate_callee (f := 17) rfl ?_); refine goesL_ (some 30) rfl rfl Try.func17 (by kernel_rfl) rfl #[.agg #[.int .i64 a0_0, .int .i64 a0_1, .bool a0_2, .slice A0_3 l0_3.length c0_3]] rfl (by (try simp only [List.map_toArray, List.map_cons, List.map_nil]); first | done | rfl | (simp only [List.length_drop, List.length_take]; rfl)) ?_; (with_reducible refine (laws_toBelt.calls k a0_0 a0_1 a0_2 _ _ l0_3 t223 t224 t225 t226 _ ?side1 ?side2 A9.out).mono ?_); (case side1 => exact Kd.C_below HR0_3.out (by repeat (first | (with_reducible first | exact HB.out | apply uL | apply uE | apply uK | refine uM ?_ GE206.out | refine uM ?_ GE222.out) | exact HB.out))); (case side2 => exact HC0_3.out); rintro e w24 ⟨v227, rfl, ho0, hb⟩; refine ⟨_, rfl, ?_⟩; have HO228 := uD (Kd.R_lower (Kd.R_new' (Kd.R_new' ho0 (Kd.R_lt (by (with_reducible repeat (first | apply uU | apply uS | apply uT)); exact (uX (uV (p := ⟨gb222, 3, none⟩) (uV (p := ⟨gb222, 2, none⟩) (uV (p := ⟨gb222, 1, none⟩) (uV (p := ⟨gb222, 0, none⟩) (uW HO213.out BK222.out (by decide)) (fun _ hk => hk.2) (.int .i64 t214)) (fun _ hk => hk.2) (.int .i64 t215)) (fun _ hk => hk.2) (.bool t216)) (fun _ hk => hk.2) (.slice Ao22 t217.length co22)) (fun _ h_ => h_.1))))) (Kd.R_lt (by (with_reducible repeat (first | apply uU | apply uS | apply uT)); exact (uX (uV (p := ⟨gb222, 3, none⟩) (uV (p := ⟨gb222, 2, none⟩) (uV (p := ⟨gb222, 1, none⟩) (uV (p := ⟨gb222, 0, none⟩) (uW HO219.out BK222.out (by decide)) (fun _ hk => hk.2) (.int .i64 t214)) (fun _ hk => hk.2) (.int .i64 t215)) (fun _ hk => hk.2) (.bool t216)) (fun _ hk => hk.2) (.slice Ao22 t217.length co22)) (fun _ h_ => h_.1))))) (uN (by repeat (first | (with_reducible first | exact HB.out | apply uL | apply uE | apply uK | refine uM ?_ GE206.out | refine uM ?_ GE222.out) | exact HB.out)))); replace HO213 := uD (Kd.R_elder' (by (with_reducible repeat (first | apply uU | apply uS | apply uT)); exact (uX (uV (p := ⟨gb222, 3, none⟩) (uV (p := ⟨gb222, 2, none⟩) (uV (p := ⟨gb222, 1, none⟩) (uV (p := ⟨gb222, 0, none⟩) (uW HO213.out BK222.out (by decide)) (fun _ hk => hk.2) (.int .i64 t214)) (fun _ hk => hk.2) (.int .i64 t215)) (fun _ hk => hk.2) (.bool t216)) (fun _ hk => hk.2) (.slice Ao22 t217.length co22)) (fun _ h_ => h_.1))) (Kd.R_base ho0) hb); replace HO219 := uD (Kd.R_elder' (by (with_reducible repeat (first | apply uU | apply uS | apply uT)); exact (uX (uV (p := ⟨gb222, 3, none⟩) (uV (p := ⟨gb222, 2, none⟩) (uV (p := ⟨gb222, 1, none⟩) (uV (p := ⟨gb222, 0, none⟩) (uW HO219.out BK222.out (by decide)) (fun _ hk => hk.2) (.int .i64 t214)) (fun _ hk => hk.2) (.int .i64 t215)) (fun _ hk => hk.2) (.bool t216)) (fun _ hk => hk.2) (.slice Ao22 t217.length co22)) (fun _ h_ => h_.1))) (Kd.R_base ho0) hb); replace BK206 := uD (blk_below (g := gb206) (o := .cells #[.int .i64 a0_0, .int .i64 a0_1, .bool a0_2, .slice A0_3 l0_3.length c0_3] 24 (0, 0)) (by (with_reducible repeat (first | refine uH ?_ _ | refine uJ ?_ | refine uG ?_ _)); refine uQ ?_ NB206_222.out _; (with_reducible repeat (first | refine uH ?_ _ | refine uJ ?_ | refine uG ?_ _)); refine uQ ?_ NB206_222.out _; (with_reducible repeat (first | refine uH ?_ _ | refine uJ ?_ | refine uG ?_ _)); refine uQ ?_ NB206_222.out _; (with_reducible repeat (first | refine uH ?_ _ | refine uJ ?_ | refine uG ?_ _)); refine uQ ?_ NB206_222.out _; (with_reducible repeat (first | refine uH ?_ _ | refine uJ ?_ | refine uG ?_ _)); exact BK206.out) hb); replace BK222 := uD (blk_below (g := gb222) (o := .cells #[.int .i64 t214, .int .i64 t215, .bool t216, .slice Ao22 t217.length co22] 29 (0, 0)) (by (with_reducible repeat (first | refine uH ?_ _ | refine uJ ?_ | refine uG ?_ _)); refine uP (cs := #[.int .i64 t214, .int .i64 t215, .bool t216, .slice none 0 0]) ?_ 3 _ rfl; (with_reducible repeat (first | refine uH ?_ _ | refine uJ ?_ | refine uG ?_ _)); refine uP (cs := #[.int .i64 t214, .int .i64 t215, .bool false, .slice none 0 0]) ?_ 2 _ rfl; (with_reducible repeat (first | refine uH ?_ _ | refine uJ ?_ | refine uG ?_ _)); refine uP (cs := #[.int .i64 t214, .int .i64 0, .bool false, .slice none 0 0]) ?_ 1 _ rfl; (with_reducible repeat (first | refine uH ?_ _ | refine uJ ?_ | refine uG ?_ _)); refine uP (cs := #[.int .i64 0, .int .i64 0, .bool false, .slice none 0 0]) ?_ 0 _ rfl; (with_reducible repeat (first | refine uH ?_ _ | refine uJ ?_ | refine uG ?_ _)); exact BK222.out) hb); replace HB := uD (uO (by repeat (first | (with_reducible first | exact HB.out | apply uL | apply uE | apply uK | refine uM ?_ GE206.out | refine uM ?_ GE222.out) | exact HB.out)) hb); (try clear hb); (try clear hb2); (try clear hk); (try clear hi); (try clear ho0)) | ((with_reducible refine gate_dst (N := 7) rfl ?_); refine box_event ?hg (N := 7) ?hd (cs := #[.int .i64 0, .int .i64 0, .bool false, .slice none 0 0]) (t := 29) ?hr ?_; (case hd => rfl); (case hg => rfl); (case hr => first | (go_simp; done) | (go_simp; rfl)); intro gb229 hg w25 hbox hb; replace HO213 := uD (Kd.R_below (by (with_reducible repeat (first | apply uU | apply uS | apply uT)); exact HO213.out) hb); replace HO219 := uD (Kd.R_below (by (with_reducible repeat (first | apply uU | apply uS | apply uT)); exact HO219.out) hb); replace HO228 := uD (Kd.R_below (by (with_reducible repeat (first | apply uU | apply uS | apply uT)); exact HO228.out) hb); have BK229 := uD (hbox); have GW229 := uD ((by rw [hg]; exact (uN (by repeat (first | (with_reducible first | exact HB.out | apply uL | apply uE | apply uK | refine uM ?_ GE206.out | refine uM ?_ GE222.out) | exact HB.out))) : w.heap.size ≤ gb229)); have GE229 := uD ((by rw [hg]; exact (uN (by repeat (first | (with_reducible first | exact HB.out | apply uL | apply uE | apply uK | refine uM ?_ GE206.out | refine uM ?_ GE222.out) | exact HB.out))) : w.heap.size ≤ gb229)); replace HB := uD (uO (by repeat (first | (with_reducible first | exact HB.out | apply uL | apply uE | apply uK | refine uM ?_ GE206.out | refine uM ?_ GE222.out) | exact HB.out)) hb); have NB206_229 := uD ((by rw [hg]; exact Nat.ne_of_lt (blk_lt (g := gb206) (o := .cells #[.int .i64 a0_0, .int .i64 a0_1, .bool a0_2, .slice A0_3 l0_3.length c0_3] 24 (0, 0)) (by (with_reducible repeat (first | refine uH ?_ _ | refine uJ ?_ | refine uG ?_ _)); exact BK206.out)) : gb206 ≠ gb229)); have NB229_206 := uD ((by rw [hg]; exact Nat.ne_of_gt (blk_lt (g := gb206) (o := .cells #[.int .i64 a0_0, .int .i64 a0_1, .bool a0_2, .slice A0_3 l0_3.length c0_3] 24 (0, 0)) (by (with_reducible repeat (first | refine uH ?_ _ | refine uJ ?_ | refine uG ?_ _)); exact BK206.out)) : gb229 ≠ gb206)); replace BK206 := uD (blk_below (g := gb206) (o := .cells #[.int .i64 a0_0, .int .i64 a0_1, .bool a0_2, .slice A0_3 l0_3.length c0_3] 24 (0, 0)) (by (with_reducible repeat (first | refine uH ?_ _ | refine uJ ?_ | refine uG ?_ _)); exact BK206.out) hb); have NB222_229 := uD ((by rw [hg]; exact Nat.ne_of_lt (blk_lt (g := gb222) (o := .cells #[.int .i64 t214, .int .i64 t215, .bool t216, .slice Ao22 t217.length co22] 29 (0, 0)) (by (with_reducible repeat (first | refine uH ?_ _ | refine uJ ?_ | refine uG ?_ _)); exact BK222.out)) : gb222 ≠ gb229)); have NB229_222 := uD ((by rw [hg]; exact Nat.ne_of_gt (blk_lt (g := gb222) (o := .cells #[.int .i64 t214, .int .i64 t215, .bool t216, .slice Ao22 t217.length co22] 29 (0, 0)) (by (with_reducible repeat (first | refine uH ?_ _ | refine uJ ?_ | refine uG ?_ _)); exact BK222.out)) : gb229 ≠ gb222)); replace BK222 := uD (blk_below (g := gb222) (o := .cells #[.int .i64 t214, .int .i64 t215, .bool t216, .slice Ao22 t217.length co22] 29 (0, 0)) (by (with_reducible repeat (first | refine uH ?_ _ | refine uJ ?_ | refine uG ?_ _)); exact BK222.out) hb); clear hb hbox hg; have hnb26 := NB229_206.out; have hnc26 := NB206_229.out; have hnb27 := NB229_222.out; have hnc27 := NB222_229.out; have hcz28_0 : w25.cell? ⟨gb229, 0, none⟩ = some (.int .i64 0) := (uF BK229.out 0).trans rfl; have hcz28_1 : w25.cell? ⟨gb229, 1, none⟩ = some (.int .i64 0) := (uF BK229.out 1).trans rfl; have hcz28_2 : w25.cell? ⟨gb229, 2, none⟩ = some (.bool false) := (uF BK229.out 2).trans rfl; have hcz28_3 : w25.cell? ⟨gb229, 3, none⟩ = some (.slice none 0 0) := (uF BK229.out 3).trans rfl; have hfz28_0 := uI BK229.out 0; have hfz28_1 := uI BK229.out 1; have hfz28_2 := uI BK229.out 2; have hfz28_3 := uI BK229.out 3; obtain ⟨Ao29, co29, eo29⟩ := Kd.R_slice HO228.out; subst eo29) | ((with_reducible refine gate_callee (f := 27) rfl ?_); refine goesL_ (some 33) rfl rfl Try.func27 (by kernel_rfl) rfl #[.agg #[.int .i64 t223, .int .i64 t224, .bool t225, .slice Ao29 t226.length co29]] rfl (by (try simp only [List.map_toArray, List.map_cons, List.map_nil]); first | done | rfl | (simp only [List.length_drop, List.length_take]; rfl)) ?_; (with_reducible refine (impl_Leave.calls k t223 t224 t225 _ _ t226 t230 t231 t232 t233 t236 t237 _ ?side1 ?side2 A10.out).mono ?_); (case side1 => refine (Kd.R_reads' (e := 53) (base := w.heap.size) (ok := fun k_ => ((True ∧ some k_ ≠ (.slice Ao17 t211.length co17 : Value).ownBlock) ∧ some k_ ≠ (.slice Ao22 t217.length co22 : Value).ownBlock)) (n := t226.length) (c := co29) ?_).2.2; exact (by (with_reducible repeat (first | apply uU | apply uS | apply uT)); exact (uX (uV (p := ⟨gb229, 3, none⟩) (uV (p := ⟨gb229, 2, none⟩) (uV (p := ⟨gb229, 1, none⟩) (uV (p := ⟨gb229, 0, none⟩) (uW HO228.out BK229.out (by decide)) (fun _ hk => hk.2) (.int .i64 t223)) (fun _ hk => hk.2) (.int .i64 t224)) (fun _ hk => hk.2) (.bool t225)) (fun _ hk => hk.2) (.slice Ao29 t226.length co29)) (fun _ h_ => h_.1)))); (case side2 => exact (Kd.R_reads' HO228.out).2.1); rintro e w30 ⟨v234, rfl, ho0, hb⟩; refine ⟨_, rfl, ?_⟩; have HO235 := uD (Kd.Q_lower (Kd.Q_new' (Kd.Q_new' (Kd.Q_new' ho0 (Kd.R_lt (by (with_reducible repeat (first | apply uU | apply uS | apply uT)); exact (uX (uV (p := ⟨gb229, 3, none⟩) (uV (p := ⟨gb229, 2, none⟩) (uV (p := ⟨gb229, 1, none⟩) (uV (p := ⟨gb229, 0, none⟩) (uW HO213.out BK229.out (by decide)) (fun _ hk => hk.2) (.int .i64 t223)) (fun _ hk => hk.2) (.int .i64 t224)) (fun _ hk => hk.2) (.bool t225)) (fun _ hk => hk.2) (.slice Ao29 t226.length co29)) (fun _ h_ => h_.1))))) (Kd.R_lt (by (with_reducible repeat (first | apply uU | apply uS | apply uT)); exact (uX (uV (p := ⟨gb229, 3, none⟩) (uV (p := ⟨gb229, 2, none⟩) (uV (p := ⟨gb229, 1, none⟩) (uV (p := ⟨gb229, 0, none⟩) (uW HO219.out BK229.out (by decide)) (fun _ hk => hk.2) (.int .i64 t223)) (fun _ hk => hk.2) (.int .i64 t224)) (fun _ hk => hk.2) (.bool t225)) (fun _ hk => hk.2) (.slice Ao29 t226.length co29)) (fun _ h_ => h_.1))))) (Kd.R_lt (by (with_reducible repeat (first | apply uU | apply uS | apply uT)); exact (uX (uV (p := ⟨gb229, 3, none⟩) (uV (p := ⟨gb229, 2, none⟩) (uV (p := ⟨gb229, 1, none⟩) (uV (p := ⟨gb229, 0, none⟩) (uW HO228.out BK229.out (by decide)) (fun _ hk => hk.2) (.int .i64 t223)) (fun _ hk => hk.2) (.int .i64 t224)) (fun _ hk => hk.2) (.bool t225)) (fun _ hk => hk.2) (.slice Ao29 t226.length co29)) (fun _ h_ => h_.1))))) (uN (by repeat (first | (with_reducible first | exact HB.out | apply uL | apply uE | apply uK | refine uM ?_ GE206.out | refine uM ?_ GE222.out | refine uM ?_ GE229.out) | exact HB.out)))); replace HO213 := uD (Kd.R_elder' (by (with_reducible repeat (first | apply uU | apply uS | apply uT)); exact (uX (uV (p := ⟨gb229, 3, none⟩) (uV (p := ⟨gb229, 2, none⟩) (uV (p := ⟨gb229, 1, none⟩) (uV (p := ⟨gb229, 0, none⟩) (uW HO213.out BK229.out (by decide)) (fun _ hk => hk.2) (.int .i64 t223)) (fun _ hk => hk.2) (.int .i64 t224)) (fun _ hk => hk.2) (.bool t225)) (fun _ hk => hk.2) (.slice Ao29 t226.length co29)) (fun _ h_ => h_.1))) (Kd.Q_base ho0) hb); replace HO219 := uD (Kd.R_elder' (by (with_reducible repeat (first | apply uU | apply uS | apply uT)); exact (uX (uV (p := ⟨gb229, 3, none⟩) (uV (p := ⟨gb229, 2, none⟩) (uV (p := ⟨gb229, 1, none⟩) (uV (p := ⟨gb229, 0, none⟩) (uW HO219.out BK229.out (by decide)) (fun _ hk => hk.2) (.int .i64 t223)) (fun _ hk => hk.2) (.int .i64 t224)) (fun _ hk => hk.2) (.bool t225)) (fun _ hk => hk.2) (.slice Ao29 t226.length co29)) (fun _ h_ => h_.1))) (Kd.Q_base ho0) hb); replace HO228 := uD (Kd.R_elder' (by (with_reducible repeat (first | apply uU | apply uS | apply uT)); exact (uX (uV (p := ⟨gb229, 3, none⟩) (uV (p := ⟨gb229, 2, none⟩) (uV (p := ⟨gb229, 1, none⟩) (uV (p := ⟨gb229, 0, none⟩) (uW HO228.out BK229.out (by decide)) (fun _ hk => hk.2) (.int .i64 t223)) (fun _ hk => hk.2) (.int .i64 t224)) (fun _ hk => hk.2) (.bool t225)) (fun _ hk => hk.2) (.slice Ao29 t226.length co29)) (fun _ h_ => h_.1))) (Kd.Q_base ho0) hb); replace BK206 := uD (blk_below (g := gb206) (o := .cells #[.int .i64 a0_0, .int .i64 a0_1, .bool a0_2, .slice A0_3 l0_3.length c0_3] 24 (0, 0)) (by (with_reducible repeat (first | refine uH ?_ _ | refine uJ ?_ | refine uG ?_ _)); refine uQ ?_ NB206_229.out _; (with_reducible repeat (first | refine uH ?_ _ | refine uJ ?_ | refine uG ?_ _)); refine uQ ?_ NB206_229.out _; (with_reducible repeat (first | refine uH ?_ _ | refine uJ ?_ | refine uG ?_ _)); refine uQ ?_ NB206_229.out _; (with_reducible repeat (first | refine uH ?_ _ | refine uJ ?_ | refine uG ?_ _)); refine uQ ?_ NB206_229.out _; (with_reducible repeat (first | refine uH ?_ _ | refine uJ ?_ | refine uG ?_ _)); exact BK206.out) hb); replace BK222 := uD (blk_below (g := gb222) (o := .cells #[.int .i64 t214, .int .i64 t215, .bool t216, .slice Ao22 t217.length co22] 29 (0, 0)) (by (with_reducible repeat (first | refine uH ?_ _ | refine uJ ?_ | refine uG ?_ _)); refine uQ ?_ NB222_229.out _; (with_reducible repeat (first | refine uH ?_ _ | refine uJ ?_ | refine uG ?_ _)); refine uQ ?_ NB222_229.out _; (with_reducible repeat (first | refine uH ?_ _ | refine uJ ?_ | refine uG ?_ _)); refine uQ ?_ NB222_229.out _; (with_reducible repeat (first | refine uH ?_ _ | refine uJ ?_ | refine uG ?_ _)); refine uQ ?_ NB222_229.out _; (with_reducible repeat (first | refine uH ?_ _ | refine uJ ?_ | refine uG ?_ _)); exact BK222.out) hb); replace BK229 := uD (blk_below (g := gb229) (o := .cells #[.int .i64 t223, .int .i64 t224, .bool t225, .slice Ao29 t226.length co29] 29 (0, 0)) (by (with_reducible repeat (first | refine uH ?_ _ | refine uJ ?_ | refine uG ?_ _)); refine uP (cs := #[.int .i64 t223, .int .i64 t224, .bool t225, .slice none 0 0]) ?_ 3 _ rfl; (with_reducible repeat (first | refine uH ?_ _ | refine uJ ?_ | refine uG ?_ _)); refine uP (cs := #[.int .i64 t223, .int .i64 t224, .bool false, .slice none 0 0]) ?_ 2 _ rfl; (with_reducible repeat (first | refine uH ?_ _ | refine uJ ?_ | refine uG ?_ _)); refine uP (cs := #[.int .i64 t223, .int .i64 0, .bool false, .slice none 0 0]) ?_ 1 _ rfl; (with_reducible repeat (first | refine uH ?_ _ | refine uJ ?_ | refine uG ?_ _)); refine uP (cs := #[.int .i64 0, .int .i64 0, .bool false, .slice none 0 0]) ?_ 0 _ rfl; (with_reducible repeat (first | refine uH ?_ _ | refine uJ ?_ | refine uG ?_ _)); exact BK229.out) hb); replace HB := uD (uO (by repeat (first | (with_reducible first | exact HB.out | apply uL | apply uE | apply uK | refine uM ?_ GE206.out | refine uM ?_ GE222.out | refine uM ?_ GE229.out) | exact HB.out)) hb); (try clear hb); (try clear hb2); (try clear hk); (try clear hi); (try clear ho0)) | ((with_reducible refine gate_dst (N := 8) rfl ?_); refine box_event ?hg (N := 8) ?hd (cs := #[.int .i64 0, .int .i64 0, .bool false, .slice none 0 0]) (t := 29) ?hr ?_; (case hd => rfl); (case hg => rfl); (case hr => first | (go_simp; done) | (go_simp; rfl)); intro gb238 hg w31 hbox hb; replace HO213 := uD (Kd.R_below (by (with_reducible repeat (first | apply uU | apply uS | apply uT)); exact HO213.out) hb); replace HO219 := uD (Kd.R_below (by (with_reducible repeat (first | apply uU | apply uS | apply uT)); exact HO219.out) hb); replace HO228 := uD (Kd.R_below (by (with_reducible repeat (first | apply uU | apply uS | apply uT)); exact HO228.out) hb); replace HO235 := uD (Kd.Q_below (by (with_reducible repeat (first | apply Kd.Q_alloc | apply Kd.Q_drewN | apply Kd.Q_drew)); exact HO235.out) hb); have BK238 := uD (hbox); have GW238 := uD ((by rw [hg]; exact (uN (by repeat (first | (with_reducible first | exact HB.out | apply uL | apply uE | apply uK | refine uM ?_ GE206.out | refine uM ?_ GE222.out | refine uM ?_ GE229.out) | exact HB.out))) : w.heap.size ≤ gb238)); have GE238 := uD ((by rw [hg]; exact (uN (by repeat (first | (with_reducible first | exact HB.out | apply uL | apply uE | apply uK | refine uM ?_ GE206.out | refine uM ?_ GE222.out | refine uM ?_ GE229.out) | exact HB.out))) : w.heap.size ≤ gb238)); replace HB := uD (uO (by repeat (first | (with_reducible first | exact HB.out | apply uL | apply uE | apply uK | refine uM ?_ GE206.out | refine uM ?_ GE222.out | refine uM ?_ GE229.out) | exact HB.out)) hb); have NB206_238 := uD ((by rw [hg]; exact Nat.ne_of_lt (blk_lt (g := gb206) (o := .cells #[.int .i64 a0_0, .int .i64 a0_1, .bool a0_2, .slice A0_3 l0_3.length c0_3] 24 (0, 0)) (by (with_reducible repeat (first | refine uH ?_ _ | refine uJ ?_ | refine uG ?_ _)); exact BK206.out)) : gb206 ≠ gb238)); have NB238_206 := uD ((by rw [hg]; exact Nat.ne_of_gt (blk_lt (g := gb206) (o := .cells #[.int .i64 a0_0, .int .i64 a0_1, .bool a0_2, .slice A0_3 l0_3.length c0_3] 24 (0, 0)) (by (with_reducible repeat (first | refine uH ?_ _ | refine uJ ?_ | refine uG ?_ _)); exact BK206.out)) : gb238 ≠ gb206)); replace BK206 := uD (blk_below (g := gb206) (o := .cells #[.int .i64 a0_0, .int .i64 a0_1, .bool a0_2, .slice A0_3 l0_3.length c0_3] 24 (0, 0)) (by (with_reducible repeat (first | refine uH ?_ _ | refine uJ ?_ | refine uG ?_ _)); exact BK206.out) hb); have NB222_238 := uD ((by rw [hg]; exact Nat.ne_of_lt (blk_lt (g := gb222) (o := .cells #[.int .i64 t214, .int .i64 t215, .bool t216, .slice Ao22 t217.length co22] 29 (0, 0)) (by (with_reducible repeat (first | refine uH ?_ _ | refine uJ ?_ | refine uG ?_ _)); exact BK222.out)) : gb222 ≠ gb238)); have NB238_222 := uD ((by rw [hg]; exact Nat.ne_of_gt (blk_lt (g := gb222) (o := .cells #[.int .i64 t214, .int .i64 t215, .bool t216, .slice Ao22 t217.length co22] 29 (0, 0)) (by (with_reducible repeat (first | refine uH ?_ _ | refine uJ ?_ | refine uG ?_ _)); exact BK222.out)) : gb238 ≠ gb222)); replace BK222 := uD (blk_below (g := gb222) (o := .cells #[.int .i64 t214, .int .i64 t215, .bool t216, .slice Ao22 t217.length co22] 29 (0, 0)) (by (with_reducible repeat (first | refine uH ?_ _ | refine uJ ?_ | refine uG ?_ _)); exact BK222.out) hb); have NB229_238 := uD ((by rw [hg]; exact Nat.ne_of_lt (blk_lt (g := gb229) (o := .cells #[.int .i64 t223, .int .i64 t224, .bool t225, .slice Ao29 t226.length co29] 29 (0, 0)) (by (with_reducible repeat (first | refine uH ?_ _ | refine uJ ?_ | refine uG ?_ _)); exact BK229.out)) : gb229 ≠ gb238)); have NB238_229 := uD ((by rw [hg]; exact Nat.ne_of_gt (blk_lt (g := gb229) (o := .cells #[.int .i64 t223, .int .i64 t224, .bool t225, .slice Ao29 t226.length co29] 29 (0, 0)) (by (with_reducible repeat (first | refine uH ?_ _ | refine uJ ?_ | refine uG ?_ _)); exact BK229.out)) : gb238 ≠ gb229)); replace BK229 := uD (blk_below (g := gb229) (o := .cells #[.int .i64 t223, .int .i64 t224, .bool t225, .slice Ao29 t226.length co29] 29 (0, 0)) (by (with_reducible repeat (first | refine uH ?_ _ | refine uJ ?_ | refine uG ?_ _)); exact BK229.out) hb); clear hb hbox hg; have hnb32 := NB238_206.out; have hnc32 := NB206_238.out; have hnb33 := NB238_222.out; have hnc33 := NB222_238.out; have hnb34 := NB238_229.out; have hnc34 := NB229_238.out; have hcz35_0 : w31.cell? ⟨gb238, 0, none⟩ = some (.int .i64 0) := (uF BK238.out 0).trans rfl; have hcz35_1 : w31.cell? ⟨gb238, 1, none⟩ = some (.int .i64 0) := (uF BK238.out 1).trans rfl; have hcz35_2 : w31.cell? ⟨gb238, 2, none⟩ = some (.bool false) := (uF BK238.out 2).trans rfl; have hcz35_3 : w31.cell? ⟨gb238, 3, none⟩ = some (.slice none 0 0) := (uF BK238.out 3).trans rfl; have hfz35_0 := uI BK238.out 0; have hfz35_1 := uI BK238.out 1; have hfz35_2 := uI BK238.out 2; have hfz35_3 := uI BK238.out 3; obtain ⟨Ao36, co36, eo36, _⟩ := Kd.Q_slice HO235.out; subst eo36))
  (try simp only [uc, uA, uB, uC])
  go_cut [50] (fun v50 wc => ∃ (kq : Nat) (x50_10 : Bool), v50 = .bool x50_10 ∧ Aside0 (laws_FnExactLeave.j0 kq t220 t221 t236 t237 x50_10 a0_0 a0_1 a0_2 l0_3 t214 t215 t216 t217 t223 t224 t225 t226 t230 t231 t232 t233 = some true) ∧ Aside0 (kq ≤ k) ∧ Aside0 (Kd.Q k53 53 wc w.heap.size (fun k_ => some k_ ≠ ((.slice Ao29 t226.length co29) : Value).ownBlock ∧ some k_ ≠ ((.slice Ao36 t233.length co36) : Value).ownBlock) (.slice Ao22 t217.length co22) t217) ∧ Aside0 (Kd.Q k53 53 wc w.heap.size (fun k_ => some k_ ≠ ((.slice Ao22 t217.length co22) : Value).ownBlock ∧ some k_ ≠ ((.slice Ao36 t233.length co36) : Value).ownBlock) (.slice Ao29 t226.length co29) t226) ∧ Aside0 (Kd.Q k53 53 wc w.heap.size (fun k_ => some k_ ≠ ((.slice Ao22 t217.length co22) : Value).ownBlock ∧ some k_ ≠ ((.slice Ao29 t226.length co29) : Value).ownBlock) (.slice Ao36 t233.length co36) t233) ∧ Aside0 (wc.heap[gb206]? = some (.cells #[.int .i64 a0_0, .int .i64 a0_1, .bool a0_2, (.slice A0_3 l0_3.length c0_3)] 24 (0, 0))) ∧ Aside0 (wc.heap[gb222]? = some (.cells #[.int .i64 t214, .int .i64 t215, .bool t216, (.slice Ao22 t217.length co22)] 29 (0, 0))) ∧ Aside0 (wc.heap[gb229]? = some (.cells #[.int .i64 t223, .int .i64 t224, .bool t225, (.slice Ao29 t226.length co29)] 29 (0, 0))) ∧ Aside0 (wc.heap[gb238]? = some (.cells #[.int .i64 t230, .int .i64 t231, .bool t232, (.slice Ao36 t233.length co36)] 29 (0, 0))) ∧ Aside0 (Below w.heap.size w wc))
  case first =>
   have H := HC11.out
   clear HC11
   replace H := Option.bind_eq_some_iff.mp H
   obtain ⟨t239, A370, H⟩ := H
   replace H : (if t239 = true then (if t236 = t220 then (laws_FnExactLeave.j0 k t220 t221 t236 t237 (t237 != t221) a0_0 a0_1 a0_2 l0_3 t214 t215 t216 t217 t223 t224 t225 t226 t230 t231 t232 t233) else (laws_FnExactLeave.j0 k t220 t221 t236 t237 true a0_0 a0_1 a0_2 l0_3 t214 t215 t216 t217 t223 t224 t225 t226 t230 t231 t232 t233)) else (laws_FnExactLeave.j0 k t220 t221 t236 t237 true a0_0 a0_1 a0_2 l0_3 t214 t215 t216 t217 t223 t224 t225 t226 t230 t231 t232 t233)) = some true := H
   have A37 := uD A370
   clear A370
   by_cases c38 : t239 = true
   ·subst c38
    have H1 : (if t236 = t220 then (laws_FnExactLeave.j0 k t220 t221 t236 t237 (t237 != t221) a0_0 a0_1 a0_2 l0_3 t214 t215 t216 t217 t223 t224 t225 t226 t230 t231 t232 t233) else (laws_FnExactLeave.j0 k t220 t221 t236 t237 true a0_0 a0_1 a0_2 l0_3 t214 t215 t216 t217 t223 t224 t225 t226 t230 t231 t232 t233)) = some true := by rw [if_pos rfl] at H; first | done | exact H
    clear H
    have H := H1
    clear H1
    by_cases c39 : t236 = t220
    ·rw [if_pos c39] at H
     have c39b0 : (t236 == t220) = true := beq_iff_eq.mpr c39
     have c39b1 : (t236 != t220) = false := bne_eq_false_iff_eq.mpr c39
     clear c39
     (first | rw [c39b0] | (simp only [uZ, ua]; rw [c39b0]) | skip)
     have H' := uD H
     clear H
     have hnb40 := NB238_206.out
     have hnc40 := NB206_238.out
     have hnb41 := NB238_222.out
     have hnc41 := NB222_238.out
     have hnb42 := NB238_229.out
     have hnc42 := NB229_238.out
     have hcz43_0 : w31.cell? ⟨gb238, 0, none⟩ = some (.int .i64 0) := (uF BK238.out 0).trans rfl
     have hcz43_1 : w31.cell? ⟨gb238, 1, none⟩ = some (.int .i64 0) := (uF BK238.out 1).trans rfl
     have hcz43_2 : w31.cell? ⟨gb238, 2, none⟩ = some (.bool false) := (uF BK238.out 2).trans rfl
     have hcz43_3 : w31.cell? ⟨gb238, 3, none⟩ = some (.slice none 0 0) := (uF BK238.out 3).trans rfl
     have hfz43_0 := uI BK238.out 0
     have hfz43_1 := uI BK238.out 1
     have hfz43_2 := uI BK238.out 2
     have hfz43_3 := uI BK238.out 3
     have hnb44 := NB222_206.out
     have hnc44 := NB206_222.out
     have hnb45 := NB222_229.out
     have hnc45 := NB229_222.out
     have hcz46_0 : w31.cell? ⟨gb222, 0, none⟩ = some (.int .i64 t214) := (uF BK222.out 0).trans rfl
     have hcz46_1 : w31.cell? ⟨gb222, 1, none⟩ = some (.int .i64 t215) := (uF BK222.out 1).trans rfl
     have hcz46_2 : w31.cell? ⟨gb222, 2, none⟩ = some (.bool t216) := (uF BK222.out 2).trans rfl
     have hcz46_3 : w31.cell? ⟨gb222, 3, none⟩ = some (.slice Ao22 t217.length co22) := (uF BK222.out 3).trans rfl
     have hfz46_0 := uI BK222.out 0
     have hfz46_1 := uI BK222.out 1
     have hfz46_2 := uI BK222.out 2
     have hfz46_3 := uI BK222.out 3
     go_wp2_with (first | ((with_reducible refine gate_callee (f := 19) rfl ?_); refine goesL_ (some 39) rfl rfl Try.func19 (by kernel_rfl) rfl #[.agg #[.int .i64 t230, .int .i64 t231, .bool t232, .slice Ao36 t233.length co36], .agg #[.int .i64 t214, .int .i64 t215, .bool t216, .slice Ao22 t217.length co22]] rfl (by (try simp only [List.map_toArray, List.map_cons, List.map_nil]); first | done | rfl | (simp only [List.length_drop, List.length_take]; rfl)) ?_; (with_reducible refine (laws_eqBelt.calls k t230 t231 t232 _ _ t233 t214 t215 t216 _ _ t217 true _ ?side1 ?side2 ?side3 ?side4 A37.out).mono ?_); (case side1 => refine (Kd.Q_reads' (e := 53) (base := w.heap.size) (ok := fun k_ => (((True ∧ some k_ ≠ (.slice Ao17 t211.length co17 : Value).ownBlock) ∧ some k_ ≠ (.slice Ao22 t217.length co22 : Value).ownBlock) ∧ some k_ ≠ (.slice Ao29 t226.length co29 : Value).ownBlock)) (n := t233.length) (c := co36) ?_).2.2; exact (by (with_reducible repeat (first | apply Kd.Q_alloc | apply Kd.Q_drewN | apply Kd.Q_drew)); exact (Kd.Q_mono (Kd.Q_far (p := ⟨gb238, 3, none⟩) (Kd.Q_far (p := ⟨gb238, 2, none⟩) (Kd.Q_far (p := ⟨gb238, 1, none⟩) (Kd.Q_far (p := ⟨gb238, 0, none⟩) (Kd.Q_types HO235.out BK238.out (by decide)) (fun _ hk => hk.2) (.int .i64 t230)) (fun _ hk => hk.2) (.int .i64 t231)) (fun _ hk => hk.2) (.bool t232)) (fun _ hk => hk.2) (.slice Ao36 t233.length co36)) (fun _ h_ => h_.1)))); (case side2 => exact (Kd.Q_reads' HO235.out).2.1); (case side3 => refine (Kd.R_reads' (e := 53) (base := w.heap.size) (ok := fun k_ => (((True ∧ some k_ ≠ (.slice Ao17 t211.length co17 : Value).ownBlock) ∧ some k_ ≠ (.slice Ao29 t226.length co29 : Value).ownBlock) ∧ some k_ ≠ (.slice Ao36 t233.length co36 : Value).ownBlock)) (n := t217.length) (c := co22) ?_).2.2; exact (by (with_reducible repeat (first | apply uU | apply uS | apply uT)); exact (uX (uV (p := ⟨gb238, 3, none⟩) (uV (p := ⟨gb238, 2, none⟩) (uV (p := ⟨gb238, 1, none⟩) (uV (p := ⟨gb238, 0, none⟩) (uW HO219.out BK238.out (by decide)) (fun _ hk => hk.2) (.int .i64 t230)) (fun _ hk => hk.2) (.int .i64 t231)) (fun _ hk => hk.2) (.bool t232)) (fun _ hk => hk.2) (.slice Ao36 t233.length co36)) (fun _ h_ => h_.1)))); (case side4 => exact (Kd.R_reads' HO219.out).2.1); rintro e w47 ⟨rfl, hb⟩; refine ⟨_, rfl, ?_⟩; replace HO213 := uD (Kd.R_below (by (with_reducible repeat (first | apply uU | apply uS | apply uT)); exact (uX (uV (p := ⟨gb238, 3, none⟩) (uV (p := ⟨gb238, 2, none⟩) (uV (p := ⟨gb238, 1, none⟩) (uV (p := ⟨gb238, 0, none⟩) (uW HO213.out BK238.out (by decide)) (fun _ hk => hk.2) (.int .i64 t230)) (fun _ hk => hk.2) (.int .i64 t231)) (fun _ hk => hk.2) (.bool t232)) (fun _ hk => hk.2) (.slice Ao36 t233.length co36)) (fun _ h_ => h_.1))) hb); replace HO219 := uD (Kd.R_below (by (with_reducible repeat (first | apply uU | apply uS | apply uT)); exact (uX (uV (p := ⟨gb238, 3, none⟩) (uV (p := ⟨gb238, 2, none⟩) (uV (p := ⟨gb238, 1, none⟩) (uV (p := ⟨gb238, 0, none⟩) (uW HO219.out BK238.out (by decide)) (fun _ hk => hk.2) (.int .i64 t230)) (fun _ hk => hk.2) (.int .i64 t231)) (fun _ hk => hk.2) (.bool t232)) (fun _ hk => hk.2) (.slice Ao36 t233.length co36)) (fun _ h_ => h_.1))) hb); replace HO228 := uD (Kd.R_below (by (with_reducible repeat (first | apply uU | apply uS | apply uT)); exact (uX (uV (p := ⟨gb238, 3, none⟩) (uV (p := ⟨gb238, 2, none⟩) (uV (p := ⟨gb238, 1, none⟩) (uV (p := ⟨gb238, 0, none⟩) (uW HO228.out BK238.out (by decide)) (fun _ hk => hk.2) (.int .i64 t230)) (fun _ hk => hk.2) (.int .i64 t231)) (fun _ hk => hk.2) (.bool t232)) (fun _ hk => hk.2) (.slice Ao36 t233.length co36)) (fun _ h_ => h_.1))) hb); replace HO235 := uD (Kd.Q_below (by (with_reducible repeat (first | apply Kd.Q_alloc | apply Kd.Q_drewN | apply Kd.Q_drew)); exact (Kd.Q_mono (Kd.Q_far (p := ⟨gb238, 3, none⟩) (Kd.Q_far (p := ⟨gb238, 2, none⟩) (Kd.Q_far (p := ⟨gb238, 1, none⟩) (Kd.Q_far (p := ⟨gb238, 0, none⟩) (Kd.Q_types HO235.out BK238.out (by decide)) (fun _ hk => hk.2) (.int .i64 t230)) (fun _ hk => hk.2) (.int .i64 t231)) (fun _ hk => hk.2) (.bool t232)) (fun _ hk => hk.2) (.slice Ao36 t233.length co36)) (fun _ h_ => h_.1))) hb); replace BK206 := uD (blk_below (g := gb206) (o := .cells #[.int .i64 a0_0, .int .i64 a0_1, .bool a0_2, .slice A0_3 l0_3.length c0_3] 24 (0, 0)) (by (with_reducible repeat (first | refine uH ?_ _ | refine uJ ?_ | refine uG ?_ _)); refine uQ ?_ NB206_238.out _; (with_reducible repeat (first | refine uH ?_ _ | refine uJ ?_ | refine uG ?_ _)); refine uQ ?_ NB206_238.out _; (with_reducible repeat (first | refine uH ?_ _ | refine uJ ?_ | refine uG ?_ _)); refine uQ ?_ NB206_238.out _; (with_reducible repeat (first | refine uH ?_ _ | refine uJ ?_ | refine uG ?_ _)); refine uQ ?_ NB206_238.out _; (with_reducible repeat (first | refine uH ?_ _ | refine uJ ?_ | refine uG ?_ _)); exact BK206.out) hb); replace BK222 := uD (blk_below (g := gb222) (o := .cells #[.int .i64 t214, .int .i64 t215, .bool t216, .slice Ao22 t217.length co22] 29 (0, 0)) (by (with_reducible repeat (first | refine uH ?_ _ | refine uJ ?_ | refine uG ?_ _)); refine uQ ?_ NB222_238.out _; (with_reducible repeat (first | refine uH ?_ _ | refine uJ ?_ | refine uG ?_ _)); refine uQ ?_ NB222_238.out _; (with_reducible repeat (first | refine uH ?_ _ | refine uJ ?_ | refine uG ?_ _)); refine uQ ?_ NB222_238.out _; (with_reducible repeat (first | refine uH ?_ _ | refine uJ ?_ | refine uG ?_ _)); refine uQ ?_ NB222_238.out _; (with_reducible repeat (first | refine uH ?_ _ | refine uJ ?_ | refine uG ?_ _)); exact BK222.out) hb); replace BK229 := uD (blk_below (g := gb229) (o := .cells #[.int .i64 t223, .int .i64 t224, .bool t225, .slice Ao29 t226.length co29] 29 (0, 0)) (by (with_reducible repeat (first | refine uH ?_ _ | refine uJ ?_ | refine uG ?_ _)); refine uQ ?_ NB229_238.out _; (with_reducible repeat (first | refine uH ?_ _ | refine uJ ?_ | refine uG ?_ _)); refine uQ ?_ NB229_238.out _; (with_reducible repeat (first | refine uH ?_ _ | refine uJ ?_ | refine uG ?_ _)); refine uQ ?_ NB229_238.out _; (with_reducible repeat (first | refine uH ?_ _ | refine uJ ?_ | refine uG ?_ _)); refine uQ ?_ NB229_238.out _; (with_reducible repeat (first | refine uH ?_ _ | refine uJ ?_ | refine uG ?_ _)); exact BK229.out) hb); replace BK238 := uD (blk_below (g := gb238) (o := .cells #[.int .i64 t230, .int .i64 t231, .bool t232, .slice Ao36 t233.length co36] 29 (0, 0)) (by (with_reducible repeat (first | refine uH ?_ _ | refine uJ ?_ | refine uG ?_ _)); refine uP (cs := #[.int .i64 t230, .int .i64 t231, .bool t232, .slice none 0 0]) ?_ 3 _ rfl; (with_reducible repeat (first | refine uH ?_ _ | refine uJ ?_ | refine uG ?_ _)); refine uP (cs := #[.int .i64 t230, .int .i64 t231, .bool false, .slice none 0 0]) ?_ 2 _ rfl; (with_reducible repeat (first | refine uH ?_ _ | refine uJ ?_ | refine uG ?_ _)); refine uP (cs := #[.int .i64 t230, .int .i64 0, .bool false, .slice none 0 0]) ?_ 1 _ rfl; (with_reducible repeat (first | refine uH ?_ _ | refine uJ ?_ | refine uG ?_ _)); refine uP (cs := #[.int .i64 0, .int .i64 0, .bool false, .slice none 0 0]) ?_ 0 _ rfl; (with_reducible repeat (first | refine uH ?_ _ | refine uJ ?_ | refine uG ?_ _)); exact BK238.out) hb); replace HB := uD (uO (by repeat (first | (with_reducible first | exact HB.out | apply uL | apply uE | apply uK | refine uM ?_ GE206.out | refine uM ?_ GE222.out | refine uM ?_ GE229.out | refine uM ?_ GE238.out) | exact HB.out)) hb); (try clear hb); (try clear hb2); (try clear hk); (try clear hi)))
     go_meet
     case rel => exact ⟨_, ((t237 != t221)), (by first | rfl | (simp; done) | (simp [*]; done)), H', ⟨by first | omega | exact Nat.le_refl _⟩, ⟨Kd.Q_of_R (by (with_reducible repeat (first | apply uU | apply uS | apply uT)); exact uX HO219.out (fun _ hk => ⟨hk.1.2, hk.2⟩))⟩, ⟨Kd.Q_of_R (by (with_reducible repeat (first | apply uU | apply uS | apply uT)); exact uX HO228.out (fun _ hk => ⟨hk.1.2, hk.2⟩))⟩, ⟨by (with_reducible repeat (first | apply Kd.Q_alloc | apply Kd.Q_drewN | apply Kd.Q_drew)); exact Kd.Q_mono HO235.out (fun _ hk => ⟨hk.1.2, hk.2⟩)⟩, ⟨by (with_reducible repeat (first | refine uH ?_ _ | refine uJ ?_ | refine uG ?_ _)); exact BK206.out⟩, ⟨by (with_reducible repeat (first | refine uH ?_ _ | refine uJ ?_ | refine uG ?_ _)); exact BK222.out⟩, ⟨by (with_reducible repeat (first | refine uH ?_ _ | refine uJ ?_ | refine uG ?_ _)); exact BK229.out⟩, ⟨by (with_reducible repeat (first | refine uH ?_ _ | refine uJ ?_ | refine uG ?_ _)); exact BK238.out⟩, ⟨by repeat (first | (with_reducible first | exact HB.out | apply uL | apply uE | apply uK | refine uM ?_ GE206.out | refine uM ?_ GE222.out | refine uM ?_ GE229.out | refine uM ?_ GE238.out) | exact HB.out)⟩⟩
    ·rw [if_neg c39] at H
     have c39b0 : (t236 == t220) = false := beq_eq_false_iff_ne.mpr c39
     have c39b1 : (t236 != t220) = true := bne_iff_ne.mpr c39
     (first | rw [c39b0] | (simp only [uZ, ua]; rw [c39b0]) | skip)
     exact absurd H (by cases k <;> simp [laws_FnExactLeave.j0])
   ·replace c38 := Bool.eq_false_iff.mpr c38
    subst c38
    have H1 : (laws_FnExactLeave.j0 k t220 t221 t236 t237 true a0_0 a0_1 a0_2 l0_3 t214 t215 t216 t217 t223 t224 t225 t226 t230 t231 t232 t233) = some true := by rw [if_neg (show ¬ (false = true) by decide)] at H; first | done | exact H
    clear H
    have H := H1
    clear H1
    exact absurd H (by cases k <;> simp [laws_FnExactLeave.j0])
  case rest =>
   clear HC11
   try clear c1
   try clear c2
   try clear p2
   try clear c3
   try clear c3b0
   try clear c4
   try clear c7
   try clear c15
   try clear c17
   try clear c19
   try clear c20
   try clear c26
   try clear c27
   try clear c32
   try clear c33
   try clear c34
   try clear c38
   try clear c39
   try clear c39b0
   try clear c39b1
   try clear c40
   try clear c41
   try clear c42
   try clear c44
   try clear c45
   try clear hcz13_0
   try clear hcz13_1
   try clear hcz13_2
   try clear hcz13_3
   try clear hcz15_0
   try clear hcz15_1
   try clear hcz15_2
   try clear hcz15_3
   try clear hcz21_0
   try clear hcz21_1
   try clear hcz21_2
   try clear hcz21_3
   try clear hcz23_0
   try clear hcz23_1
   try clear hcz23_2
   try clear hcz23_3
   try clear hcz28_0
   try clear hcz28_1
   try clear hcz28_2
   try clear hcz28_3
   try clear hcz35_0
   try clear hcz35_1
   try clear hcz35_2
   try clear hcz35_3
   try clear hcz43_0
   try clear hcz43_1
   try clear hcz43_2
   try clear hcz43_3
   try clear hcz46_0
   try clear hcz46_1
   try clear hcz46_2
   try clear hcz46_3
   try clear hcz5_0
   try clear hcz5_1
   try clear hcz5_2
   try clear hcz5_3
   try clear hfz13_0
   try clear hfz13_1
   try clear hfz13_2
   try clear hfz13_3
   try clear hfz15_0
   try clear hfz15_1
   try clear hfz15_2
   try clear hfz15_3
   try clear hfz21_0
   try clear hfz21_1
   try clear hfz21_2
   try clear hfz21_3
   try clear hfz23_0
   try clear hfz23_1
   try clear hfz23_2
   try clear hfz23_3
   try clear hfz28_0
   try clear hfz28_1
   try clear hfz28_2
   try clear hfz28_3
   try clear hfz35_0
   try clear hfz35_1
   try clear hfz35_2
   try clear hfz35_3
   try clear hfz43_0
   try clear hfz43_1
   try clear hfz43_2
   try clear hfz43_3
   try clear hfz46_0
   try clear hfz46_1
   try clear hfz46_2
   try clear hfz46_3
   try clear hfz5_0
   try clear hfz5_1
   try clear hfz5_2
   try clear hfz5_3
   obtain ⟨kq, x50_10, rfl, HA, HJ10, HO_223003, HO_230003, HO_239003, BK206, BK222, BK229, BK238, HB⟩ := hcut
   cases kq with
   | zero => exact absurd HA.out (by simp [laws_FnExactLeave.j0])
   | succ kj10 =>
    have H := HA.out
    clear HA
    simp only [laws_FnExactLeave.j0] at H
    by_cases c48 : x50_10 = true
    ·subst c48
     have H1 : (some false) = some true := by rw [if_pos rfl] at H; first | done | exact H
     clear H
     have H := H1
     clear H1
     exact absurd H (by simp)
    ·replace c48 := Bool.eq_false_iff.mpr c48
     subst c48
     have H1 : ((laws_toBelt.f kj10 a0_0 a0_1 a0_2 l0_3).bind fun bt240 => ((laws_eqBelt.f kj10 t223 t224 t225 t226 bt240.1 bt240.2.1 bt240.2.2.1 bt240.2.2.2).bind fun t246 => (if t246 = true then ((laws_markBelt.f kj10 t223 t224 t225 t226 1).bind fun bt247 => (if bt247.1 < 0 then (laws_FnExactLeave.j1 kj10 t220 t221 true a0_0 a0_1 a0_2 l0_3 t214 t215 t216 t217 t230 t231 t232 t233) else ((laws_eqBelt.f kj10 t230 t231 t232 t233 t214 t215 t216 t217).bind fun t249 => (if t249 = true then (if t236 = t220 then (laws_FnExactLeave.j1 kj10 t220 t221 (t237 != t221) a0_0 a0_1 a0_2 l0_3 t214 t215 t216 t217 t230 t231 t232 t233) else (laws_FnExactLeave.j1 kj10 t220 t221 true a0_0 a0_1 a0_2 l0_3 t214 t215 t216 t217 t230 t231 t232 t233)) else (laws_FnExactLeave.j1 kj10 t220 t221 true a0_0 a0_1 a0_2 l0_3 t214 t215 t216 t217 t230 t231 t232 t233))))) else (some false)))) = some true := by rw [if_neg (show ¬ (false = true) by decide)] at H; first | done | exact H
     clear H
     have H := H1
     clear H1
     replace H := Option.bind_eq_some_iff.mp H
     obtain ⟨⟨t240, t241, t242, t243⟩, A490, H⟩ := H
     replace H : ((laws_eqBelt.f kj10 t223 t224 t225 t226 t240 t241 t242 t243).bind fun t246 => (if t246 = true then ((laws_markBelt.f kj10 t223 t224 t225 t226 1).bind fun bt247 => (if bt247.1 < 0 then (laws_FnExactLeave.j1 kj10 t220 t221 true a0_0 a0_1 a0_2 l0_3 t214 t215 t216 t217 t230 t231 t232 t233) else ((laws_eqBelt.f kj10 t230 t231 t232 t233 t214 t215 t216 t217).bind fun t249 => (if t249 = true then (if t236 = t220 then (laws_FnExactLeave.j1 kj10 t220 t221 (t237 != t221) a0_0 a0_1 a0_2 l0_3 t214 t215 t216 t217 t230 t231 t232 t233) else (laws_FnExactLeave.j1 kj10 t220 t221 true a0_0 a0_1 a0_2 l0_3 t214 t215 t216 t217 t230 t231 t232 t233)) else (laws_FnExactLeave.j1 kj10 t220 t221 true a0_0 a0_1 a0_2 l0_3 t214 t215 t216 t217 t230 t231 t232 t233))))) else (some false))) = some true := H
     have A49 := uD A490
     clear A490
     replace H := Option.bind_eq_some_iff.mp H
     obtain ⟨t246, A500, H⟩ := H
     replace H : (if t246 = true then ((laws_markBelt.f kj10 t223 t224 t225 t226 1).bind fun bt247 => (if bt247.1 < 0 then (laws_FnExactLeave.j1 kj10 t220 t221 true a0_0 a0_1 a0_2 l0_3 t214 t215 t216 t217 t230 t231 t232 t233) else ((laws_eqBelt.f kj10 t230 t231 t232 t233 t214 t215 t216 t217).bind fun t249 => (if t249 = true then (if t236 = t220 then (laws_FnExactLeave.j1 kj10 t220 t221 (t237 != t221) a0_0 a0_1 a0_2 l0_3 t214 t215 t216 t217 t230 t231 t232 t233) else (laws_FnExactLeave.j1 kj10 t220 t221 true a0_0 a0_1 a0_2 l0_3 t214 t215 t216 t217 t230 t231 t232 t233)) else (laws_FnExactLeave.j1 kj10 t220 t221 true a0_0 a0_1 a0_2 l0_3 t214 t215 t216 t217 t230 t231 t232 t233))))) else (some false)) = some true := H
     have A50 := uD A500
     clear A500
     by_cases c51 : t246 = true
     ·subst c51
      have H1 : ((laws_markBelt.f kj10 t223 t224 t225 t226 1).bind fun bt247 => (if bt247.1 < 0 then (laws_FnExactLeave.j1 kj10 t220 t221 true a0_0 a0_1 a0_2 l0_3 t214 t215 t216 t217 t230 t231 t232 t233) else ((laws_eqBelt.f kj10 t230 t231 t232 t233 t214 t215 t216 t217).bind fun t249 => (if t249 = true then (if t236 = t220 then (laws_FnExactLeave.j1 kj10 t220 t221 (t237 != t221) a0_0 a0_1 a0_2 l0_3 t214 t215 t216 t217 t230 t231 t232 t233) else (laws_FnExactLeave.j1 kj10 t220 t221 true a0_0 a0_1 a0_2 l0_3 t214 t215 t216 t217 t230 t231 t232 t233)) else (laws_FnExactLeave.j1 kj10 t220 t221 true a0_0 a0_1 a0_2 l0_3 t214 t215 t216 t217 t230 t231 t232 t233))))) = some true := by rw [if_pos rfl] at H; first | done | exact H
      clear H
      have H := H1
      clear H1
      replace H := Option.bind_eq_some_iff.mp H
      obtain ⟨⟨t247, t248⟩, A520, H⟩ := H
      replace H : (if t247 < 0 then (laws_FnExactLeave.j1 kj10 t220 t221 true a0_0 a0_1 a0_2 l0_3 t214 t215 t216 t217 t230 t231 t232 t233) else ((laws_eqBelt.f kj10 t230 t231 t232 t233 t214 t215 t216 t217).bind fun t249 => (if t249 = true then (if t236 = t220 then (laws_FnExactLeave.j1 kj10 t220 t221 (t237 != t221) a0_0 a0_1 a0_2 l0_3 t214 t215 t216 t217 t230 t231 t232 t233) else (laws_FnExactLeave.j1 kj10 t220 t221 true a0_0 a0_1 a0_2 l0_3 t214 t215 t216 t217 t230 t231 t232 t233)) else (laws_FnExactLeave.j1 kj10 t220 t221 true a0_0 a0_1 a0_2 l0_3 t214 t215 t216 t217 t230 t231 t232 t233)))) = some true := H
      have A52 := uD A520
      clear A520
      have HC53 := uD H
      clear H
      try go_wp2
      replace HO_223003 := uD (Kd.Q_drew HO_223003.out)
      replace HO_230003 := uD (Kd.Q_drew HO_230003.out)
      replace HO_239003 := uD (Kd.Q_drew HO_239003.out)
      replace BK206 := uD (uJ BK206.out)
      replace BK222 := uD (uJ BK222.out)
      replace BK229 := uD (uJ BK229.out)
      replace BK238 := uD (uJ BK238.out)
      replace HB := uD (uK HB.out)
      refine start_ (n := 5) (S := fun w' => w'.cell? ⟨gb229, 0, none⟩ = some (.int .i64 t223) ∧ w'.cell? ⟨gb229, 1, none⟩ = some (.int .i64 t224) ∧ w'.cell? ⟨gb229, 2, none⟩ = some (.bool t225) ∧ w'.cell? ⟨gb229, 3, none⟩ = some (.slice Ao29 t226.length co29) ∧ w'.cell? ⟨gb206, 0, none⟩ = some (.int .i64 a0_0) ∧ w'.cell? ⟨gb206, 1, none⟩ = some (.int .i64 a0_1) ∧ w'.cell? ⟨gb206, 2, none⟩ = some (.bool a0_2) ∧ w'.cell? ⟨gb206, 3, none⟩ = some (.slice A0_3 l0_3.length c0_3)) (ds := []) #[F,F,F,F,F] (by kernel_rfl) rfl rfl ⟨(uF BK229.out 0).trans rfl, (uF BK229.out 1).trans rfl, (uF BK229.out 2).trans rfl, (uF BK229.out 3).trans rfl, (uF BK206.out 0).trans rfl, (uF BK206.out 1).trans rfl, (uF BK206.out 2).trans rfl, (uF BK206.out 3).trans rfl⟩ (fun hHeld => ?_)
      generalize wc.drew = w54 at HO_223003 HO_230003 HO_239003 BK206 BK222 BK229 BK238 HB hHeld ⊢
      refine take_ (i := 0) (N := some 51) (v := ?_) (a' := ?_) #[T,F,F,F,F] rfl rfl (by kernel_rfl) (fun _ _ _ h => h) (Or.inl ⟨by rfl, ?_⟩) hHeld ?_ ?_
      rotate_left;(rintro w' ⟨s0, s1, s2, s3, s4, s5, s6, s7⟩;go_simp;with_reducible rfl);rotate_left;(simp only [uc,uA,uB,uC,uZ,ua];rfl)
      refine take_ (i := 1) (N := some 52) (v := ?_) (a' := ?_) #[T,T,F,F,F] rfl rfl (by kernel_rfl) (fun _ _ _ h => h) (Or.inl ⟨by rfl, ?_⟩) hHeld ?_ ?_
      rotate_left;(rintro w' ⟨s0, s1, s2, s3, s4, s5, s6, s7⟩;go_simp;with_reducible rfl);rotate_left;(simp only [uc,uA,uB,uC,uZ,ua];rfl)
      refine one_ (i := 2) (N := some 53) #[T,T,T,F,F] rfl rfl (by kernel_rfl) (by decide) (fun K hK => ?_)
      refine goes_ Try.func17 (by kernel_rfl) rfl #[.agg #[.int .i64 a0_0, .int .i64 a0_1, .bool a0_2, .slice A0_3 l0_3.length c0_3]] (by rfl) rfl rfl (by (try simp only [List.map_toArray, List.map_cons, List.map_nil]); first | done | rfl | (simp only [List.length_drop, List.length_take]; rfl)) ?_
      with_reducible refine (laws_toBelt.calls kj10 a0_0 a0_1 a0_2 _ _ l0_3 t240 t241 t242 t243 _ ?side1 ?side2 A49.out).mono ?_
      (case side1 => repeat (first | exact (Kd.C_below HR0_3.out HB.out) | (with_reducible refine Kd.C_alloc ?_ _) | (with_reducible refine Kd.C_drewN ?_ _) | (with_reducible refine Kd.C_drew ?_)))
      (case side2 => exact HC0_3.out)
      rintro e w55 ⟨v244, rfl, ho0, hb⟩
      refine ⟨_, rfl, ?_⟩
      have HO245 := uD (Kd.R_lower (Kd.R_new' (Kd.R_new' (Kd.R_new' ho0 (Kd.Q_lt (by (with_reducible repeat (first | apply Kd.Q_alloc | apply Kd.Q_drewN | apply Kd.Q_drew)); exact HO_223003.out))) (Kd.Q_lt (by (with_reducible repeat (first | apply Kd.Q_alloc | apply Kd.Q_drewN | apply Kd.Q_drew)); exact HO_230003.out))) (Kd.Q_lt (by (with_reducible repeat (first | apply Kd.Q_alloc | apply Kd.Q_drewN | apply Kd.Q_drew)); exact HO_239003.out))) (uN (by repeat (first | (with_reducible first | exact HB.out | apply uL | apply uE | apply uK | refine uM ?_ GE206.out | refine uM ?_ GE222.out | refine uM ?_ GE229.out | refine uM ?_ GE238.out) | exact HB.out))))
      replace HO_223003 := uD (Kd.Q_elder' (by (with_reducible repeat (first | apply Kd.Q_alloc | apply Kd.Q_drewN | apply Kd.Q_drew)); exact HO_223003.out) (Kd.R_base ho0) hb)
      replace HO_230003 := uD (Kd.Q_elder' (by (with_reducible repeat (first | apply Kd.Q_alloc | apply Kd.Q_drewN | apply Kd.Q_drew)); exact HO_230003.out) (Kd.R_base ho0) hb)
      replace HO_239003 := uD (Kd.Q_elder' (by (with_reducible repeat (first | apply Kd.Q_alloc | apply Kd.Q_drewN | apply Kd.Q_drew)); exact HO_239003.out) (Kd.R_base ho0) hb)
      replace BK206 := uD (blk_below (g := gb206) (o := .cells #[.int .i64 a0_0, .int .i64 a0_1, .bool a0_2, .slice A0_3 l0_3.length c0_3] 24 (0, 0)) (by (with_reducible repeat (first | refine uH ?_ _ | refine uJ ?_ | refine uG ?_ _)); exact BK206.out) hb)
      replace BK222 := uD (blk_below (g := gb222) (o := .cells #[.int .i64 t214, .int .i64 t215, .bool t216, .slice Ao22 t217.length co22] 29 (0, 0)) (by (with_reducible repeat (first | refine uH ?_ _ | refine uJ ?_ | refine uG ?_ _)); exact BK222.out) hb)
      replace BK229 := uD (blk_below (g := gb229) (o := .cells #[.int .i64 t223, .int .i64 t224, .bool t225, .slice Ao29 t226.length co29] 29 (0, 0)) (by (with_reducible repeat (first | refine uH ?_ _ | refine uJ ?_ | refine uG ?_ _)); exact BK229.out) hb)
      replace BK238 := uD (blk_below (g := gb238) (o := .cells #[.int .i64 t230, .int .i64 t231, .bool t232, .slice Ao36 t233.length co36] 29 (0, 0)) (by (with_reducible repeat (first | refine uH ?_ _ | refine uJ ?_ | refine uG ?_ _)); exact BK238.out) hb)
      replace HB := uD (uO (by repeat (first | (with_reducible first | exact HB.out | apply uL | apply uE | apply uK | refine uM ?_ GE206.out | refine uM ?_ GE222.out | refine uM ?_ GE229.out | refine uM ?_ GE238.out) | exact HB.out)) hb)
      (try clear hb)
      (try clear hb2)
      (try clear hk)
      (try clear hi)
      (try clear ho0)
      obtain ⟨Ao56, co56, eo56⟩ := Kd.R_slice HO245.out
      (first | subst eo56 | (injection eo56 with f1_ f2_ f3_; have f4_ := f1_.symm; have f5_ := f3_.symm; clear f1_ f2_ f3_; subst f4_; subst f5_))
      refine hK.out _ _ ⟨(uF BK229.out 0).trans rfl, (uF BK229.out 1).trans rfl, (uF BK229.out 2).trans rfl, (uF BK229.out 3).trans rfl, (uF BK206.out 0).trans rfl, (uF BK206.out 1).trans rfl, (uF BK206.out 2).trans rfl, (uF BK206.out 3).trans rfl⟩ (fun hHeld => ?_)
      clear hK K
      refine norm_ (a' := ?_) ?_ ?_
      rotate_left
      ·show uc _ (some 53) _ = _
       simp only [uc, uA, uB, uC, uZ, ua]
       rfl
      refine one_ (i := 3) (N := some 54) #[T,T,T,T,F] rfl rfl (by kernel_rfl) (by decide) (fun K hK => ?_)
      refine goes_ Try.func19 (by kernel_rfl) rfl #[.agg #[.int .i64 t223, .int .i64 t224, .bool t225, .slice Ao29 t226.length co29], .agg #[.int .i64 t240, .int .i64 t241, .bool t242, .slice Ao56 t243.length co56]] (by rfl) rfl rfl (by (try simp only [List.map_toArray, List.map_cons, List.map_nil]); first | done | rfl | (simp only [List.length_drop, List.length_take]; rfl)) ?_
      with_reducible refine (laws_eqBelt.calls kj10 t223 t224 t225 _ _ t226 t240 t241 t242 _ _ t243 true _ ?side1 ?side2 ?side3 ?side4 A50.out).mono ?_
      (case side1 => repeat (first | exact (Kd.Q_reads' HO_230003.out).2.2 | (with_reducible refine Kd.C_alloc ?_ _) | (with_reducible refine Kd.C_drewN ?_ _) | (with_reducible refine Kd.C_drew ?_)))
      (case side2 => exact (Kd.Q_reads' HO_230003.out).2.1)
      (case side3 => repeat (first | exact (Kd.R_reads' HO245.out).2.2 | (with_reducible refine Kd.C_alloc ?_ _) | (with_reducible refine Kd.C_drewN ?_ _) | (with_reducible refine Kd.C_drew ?_)))
      (case side4 => exact (Kd.R_reads' HO245.out).2.1)
      rintro e w57 ⟨rfl, hb⟩
      refine ⟨_, rfl, ?_⟩
      replace HO_223003 := uD (Kd.Q_below (by (with_reducible repeat (first | apply Kd.Q_alloc | apply Kd.Q_drewN | apply Kd.Q_drew)); exact HO_223003.out) hb)
      replace HO_230003 := uD (Kd.Q_below (by (with_reducible repeat (first | apply Kd.Q_alloc | apply Kd.Q_drewN | apply Kd.Q_drew)); exact HO_230003.out) hb)
      replace HO_239003 := uD (Kd.Q_below (by (with_reducible repeat (first | apply Kd.Q_alloc | apply Kd.Q_drewN | apply Kd.Q_drew)); exact HO_239003.out) hb)
      replace HO245 := uD (Kd.R_below (by (with_reducible repeat (first | apply uU | apply uS | apply uT)); exact HO245.out) hb)
      replace BK206 := uD (blk_below (g := gb206) (o := .cells #[.int .i64 a0_0, .int .i64 a0_1, .bool a0_2, .slice A0_3 l0_3.length c0_3] 24 (0, 0)) (by (with_reducible repeat (first | refine uH ?_ _ | refine uJ ?_ | refine uG ?_ _)); exact BK206.out) hb)
      replace BK222 := uD (blk_below (g := gb222) (o := .cells #[.int .i64 t214, .int .i64 t215, .bool t216, .slice Ao22 t217.length co22] 29 (0, 0)) (by (with_reducible repeat (first | refine uH ?_ _ | refine uJ ?_ | refine uG ?_ _)); exact BK222.out) hb)
      replace BK229 := uD (blk_below (g := gb229) (o := .cells #[.int .i64 t223, .int .i64 t224, .bool t225, .slice Ao29 t226.length co29] 29 (0, 0)) (by (with_reducible repeat (first | refine uH ?_ _ | refine uJ ?_ | refine uG ?_ _)); exact BK229.out) hb)
      replace BK238 := uD (blk_below (g := gb238) (o := .cells #[.int .i64 t230, .int .i64 t231, .bool t232, .slice Ao36 t233.length co36] 29 (0, 0)) (by (with_reducible repeat (first | refine uH ?_ _ | refine uJ ?_ | refine uG ?_ _)); exact BK238.out) hb)
      replace HB := uD (uO (by repeat (first | (with_reducible first | exact HB.out | apply uL | apply uE | apply uK | refine uM ?_ GE206.out | refine uM ?_ GE222.out | refine uM ?_ GE229.out | refine uM ?_ GE238.out) | exact HB.out)) hb)
      (try clear hb)
      (try clear hb2)
      (try clear hk)
      (try clear hi)
      refine hK.out _ _ ⟨(uF BK229.out 0).trans rfl, (uF BK229.out 1).trans rfl, (uF BK229.out 2).trans rfl, (uF BK229.out 3).trans rfl, (uF BK206.out 0).trans rfl, (uF BK206.out 1).trans rfl, (uF BK206.out 2).trans rfl, (uF BK206.out 3).trans rfl⟩ (fun hHeld => ?_)
      clear hK K
      refine norm_ (a' := ?_) ?_ ?_
      rotate_left
      ·show uc _ (some 54) _ = _
       simp only [uc, uA, uB, uC, uZ, ua]
       rfl
      refine ub (i := 4) (N := some 55) (v := ?_) (a' := ?_) #[T,T,T,T,T] rfl rfl (by kernel_rfl) (fun _ _ _ h => h) (Or.inl ⟨by rfl, ?_⟩) ?_ ?_
      rotate_left;(intro w';go_simp;with_reducible rfl);rotate_left;(simp only [uc,uA,uB,uC,uZ,ua];rfl)
      refine done_ (by kernel_rfl) ?_
      have hnb58 := NB229_206.out
      have hnc58 := NB206_229.out
      have hnb59 := NB229_222.out
      have hnc59 := NB222_229.out
      have hnb60 := NB229_238.out
      have hnc60 := NB238_229.out
      have hcz61_0 : w57.cell? ⟨gb229, 0, none⟩ = some (.int .i64 t223) := (uF BK229.out 0).trans rfl
      have hcz61_1 : w57.cell? ⟨gb229, 1, none⟩ = some (.int .i64 t224) := (uF BK229.out 1).trans rfl
      have hcz61_2 : w57.cell? ⟨gb229, 2, none⟩ = some (.bool t225) := (uF BK229.out 2).trans rfl
      have hcz61_3 : w57.cell? ⟨gb229, 3, none⟩ = some (.slice Ao29 t226.length co29) := (uF BK229.out 3).trans rfl
      have hfz61_0 := uI BK229.out 0
      have hfz61_1 := uI BK229.out 1
      have hfz61_2 := uI BK229.out 2
      have hfz61_3 := uI BK229.out 3
      go_upto_region 14 with (first | ((with_reducible refine gate_callee (f := 28) rfl ?_); refine goesL_ (some 58) rfl rfl Try.func28 (by kernel_rfl) rfl #[.agg #[.int .i64 t223, .int .i64 t224, .bool t225, .slice Ao29 t226.length co29], .int .i64 1] rfl (by (try simp only [List.map_toArray, List.map_cons, List.map_nil]); first | done | rfl | (simp only [List.length_drop, List.length_take]; rfl)) ?_; (with_reducible refine (laws_markBelt.calls kj10 t223 t224 t225 (fun k_ => some k_ = (.slice Ao29 t226.length co29 : Value).ownBlock) (.slice Ao29 t226.length co29) t226 1 t247 t248 w _ ?side1 ?side2 A52.out).mono ?_); (case side1 => repeat (first | (with_reducible first | exact HB.out | apply uL | apply uE | apply uK | refine uM ?_ GE206.out | refine uM ?_ GE222.out | refine uM ?_ GE229.out | refine uM ?_ GE238.out) | exact HB.out)); (case side2 => exact (Kd.Q_tight rfl HO_230003.out)); rintro e w62 ⟨rfl, hy0, hb, hkp⟩; refine ⟨_, rfl, ?_⟩; replace HO_223003 := uD (Kd.Q_mono (ok' := fun k_ => some k_ ≠ (.slice Ao29 t226.length co29 : Value).ownBlock ∧ some k_ ≠ (.slice Ao36 t233.length co36 : Value).ownBlock ∧ some k_ ≠ (.slice Ao56 t243.length co56 : Value).ownBlock) (Kd.Q_keptB (HO_223003.out) hkp (fun k_ hk_ hs_ => (hk_.1.1) hs_)) (fun k_ hk_ => ⟨hk_.1.1.1, hk_.1.1.2, hk_.1.2⟩)); replace HO_239003 := uD (Kd.Q_mono (ok' := fun k_ => some k_ ≠ (.slice Ao22 t217.length co22 : Value).ownBlock ∧ some k_ ≠ (.slice Ao29 t226.length co29 : Value).ownBlock ∧ some k_ ≠ (.slice Ao56 t243.length co56 : Value).ownBlock) (Kd.Q_keptB (HO_239003.out) hkp (fun k_ hk_ hs_ => (hk_.1.2) hs_)) (fun k_ hk_ => ⟨hk_.1.1.1, hk_.1.1.2, hk_.1.2⟩)); replace BK206 := uD (blk_kept (by (with_reducible repeat (first | refine uH ?_ _ | refine uJ ?_ | refine uG ?_ _)); exact BK206.out) hkp (fun hs_ => (fun e_ => (Kd.Q_ne HO_230003.out BK206.out (by decide)) e_) hs_)); replace BK222 := uD (blk_kept (by (with_reducible repeat (first | refine uH ?_ _ | refine uJ ?_ | refine uG ?_ _)); exact BK222.out) hkp (fun hs_ => (fun e_ => (Kd.Q_ne HO_230003.out BK222.out (by decide)) e_) hs_)); replace BK229 := uD (blk_kept (by (with_reducible repeat (first | refine uH ?_ _ | refine uJ ?_ | refine uG ?_ _)); exact BK229.out) hkp (fun hs_ => (fun e_ => (Kd.Q_ne HO_230003.out BK229.out (by decide)) e_) hs_)); replace BK238 := uD (blk_kept (by (with_reducible repeat (first | refine uH ?_ _ | refine uJ ?_ | refine uG ?_ _)); exact BK238.out) hkp (fun hs_ => (fun e_ => (Kd.Q_ne HO_230003.out BK238.out (by decide)) e_) hs_)); replace HO_230003 := uD (Kd.Q_mono (Kd.Q_tight rfl hy0) (fun k_ e_ => HO_230003.out.1 k_ e_.symm)); replace HO245 := uD (uX (ok' := fun k_ => some k_ ≠ (.slice Ao22 t217.length co22 : Value).ownBlock ∧ some k_ ≠ (.slice Ao29 t226.length co29 : Value).ownBlock ∧ some k_ ≠ (.slice Ao36 t233.length co36 : Value).ownBlock) (Kd.R_keptB (HO245.out) hkp (fun k_ hk_ hs_ => (hk_.1.2) hs_)) (fun k_ hk_ => ⟨hk_.1.1.1.2, hk_.1.1.2, hk_.1.2⟩)); replace HB := uD (hb); (try clear hb); (try clear hkp); (try clear hy0)))
      (try simp only [uc, uA, uB, uC])
      go_cut [76] (fun v76 wc => ∃ (kq : Nat) (x76_52 : Bool), v76 = .bool x76_52 ∧ Aside0 (laws_FnExactLeave.j1 kq t220 t221 x76_52 a0_0 a0_1 a0_2 l0_3 t214 t215 t216 t217 t230 t231 t232 t233 = some true) ∧ Aside0 (kq ≤ kj10) ∧ Aside0 (Kd.Q k53 53 wc w.heap.size (fun k_ => some k_ ≠ ((.slice Ao29 t226.length co29) : Value).ownBlock ∧ some k_ ≠ ((.slice Ao36 t233.length co36) : Value).ownBlock) (.slice Ao22 t217.length co22) t217) ∧ Aside0 (Kd.Q k53 53 wc w.heap.size (fun k_ => some k_ ≠ ((.slice Ao22 t217.length co22) : Value).ownBlock ∧ some k_ ≠ ((.slice Ao36 t233.length co36) : Value).ownBlock) (.slice Ao29 t226.length co29) t248) ∧ Aside0 (Kd.Q k53 53 wc w.heap.size (fun k_ => some k_ ≠ ((.slice Ao22 t217.length co22) : Value).ownBlock ∧ some k_ ≠ ((.slice Ao29 t226.length co29) : Value).ownBlock) (.slice Ao36 t233.length co36) t233) ∧ Aside0 (wc.heap[gb206]? = some (.cells #[.int .i64 a0_0, .int .i64 a0_1, .bool a0_2, (.slice A0_3 l0_3.length c0_3)] 24 (0, 0))) ∧ Aside0 (wc.heap[gb222]? = some (.cells #[.int .i64 t214, .int .i64 t215, .bool t216, (.slice Ao22 t217.length co22)] 29 (0, 0))) ∧ Aside0 (wc.heap[gb229]? = some (.cells #[.int .i64 t223, .int .i64 t224, .bool t225, (.slice Ao29 t226.length co29)] 29 (0, 0))) ∧ Aside0 (wc.heap[gb238]? = some (.cells #[.int .i64 t230, .int .i64 t231, .bool t232, (.slice Ao36 t233.length co36)] 29 (0, 0))) ∧ Aside0 (Below w.heap.size w wc))
      case first =>
       have H := HC53.out
       clear HC53
       by_cases c63 : t247 < 0
       ·rw [if_pos c63] at H
        have c63b0 : decide (t247 < 0) = true := decide_eq_true c63
        clear c63
        (first | rw [c63b0] | (simp only [uZ, ua]; rw [c63b0]) | skip)
        exact absurd H (by cases kj10 <;> simp [laws_FnExactLeave.j1])
       ·rw [if_neg c63] at H
        have c63b0 : decide (t247 < 0) = false := decide_eq_false c63
        clear c63
        (first | rw [c63b0] | (simp only [uZ, ua]; rw [c63b0]) | skip)
        replace H := Option.bind_eq_some_iff.mp H
        obtain ⟨t249, A640, H⟩ := H
        replace H : (if t249 = true then (if t236 = t220 then (laws_FnExactLeave.j1 kj10 t220 t221 (t237 != t221) a0_0 a0_1 a0_2 l0_3 t214 t215 t216 t217 t230 t231 t232 t233) else (laws_FnExactLeave.j1 kj10 t220 t221 true a0_0 a0_1 a0_2 l0_3 t214 t215 t216 t217 t230 t231 t232 t233)) else (laws_FnExactLeave.j1 kj10 t220 t221 true a0_0 a0_1 a0_2 l0_3 t214 t215 t216 t217 t230 t231 t232 t233)) = some true := H
        have A64 := uD A640
        clear A640
        by_cases c65 : t249 = true
        ·subst c65
         have H1 : (if t236 = t220 then (laws_FnExactLeave.j1 kj10 t220 t221 (t237 != t221) a0_0 a0_1 a0_2 l0_3 t214 t215 t216 t217 t230 t231 t232 t233) else (laws_FnExactLeave.j1 kj10 t220 t221 true a0_0 a0_1 a0_2 l0_3 t214 t215 t216 t217 t230 t231 t232 t233)) = some true := by rw [if_pos rfl] at H; first | done | exact H
         clear H
         have H := H1
         clear H1
         by_cases c66 : t236 = t220
         ·rw [if_pos c66] at H
          have c66b0 : (t236 == t220) = true := beq_iff_eq.mpr c66
          have c66b1 : (t236 != t220) = false := bne_eq_false_iff_eq.mpr c66
          clear c66
          have H' := uD H
          clear H
          have hnb67 := NB238_206.out
          have hnc67 := NB206_238.out
          have hnb68 := NB238_222.out
          have hnc68 := NB222_238.out
          have hnb69 := NB238_229.out
          have hnc69 := NB229_238.out
          have hcz70_0 : w62.cell? ⟨gb238, 0, none⟩ = some (.int .i64 t230) := (uF BK238.out 0).trans rfl
          have hcz70_1 : w62.cell? ⟨gb238, 1, none⟩ = some (.int .i64 t231) := (uF BK238.out 1).trans rfl
          have hcz70_2 : w62.cell? ⟨gb238, 2, none⟩ = some (.bool t232) := (uF BK238.out 2).trans rfl
          have hcz70_3 : w62.cell? ⟨gb238, 3, none⟩ = some (.slice Ao36 t233.length co36) := (uF BK238.out 3).trans rfl
          have hfz70_0 := uI BK238.out 0
          have hfz70_1 := uI BK238.out 1
          have hfz70_2 := uI BK238.out 2
          have hfz70_3 := uI BK238.out 3
          have hnb71 := NB222_206.out
          have hnc71 := NB206_222.out
          have hnb72 := NB222_229.out
          have hnc72 := NB229_222.out
          have hcz73_0 : w62.cell? ⟨gb222, 0, none⟩ = some (.int .i64 t214) := (uF BK222.out 0).trans rfl
          have hcz73_1 : w62.cell? ⟨gb222, 1, none⟩ = some (.int .i64 t215) := (uF BK222.out 1).trans rfl
          have hcz73_2 : w62.cell? ⟨gb222, 2, none⟩ = some (.bool t216) := (uF BK222.out 2).trans rfl
          have hcz73_3 : w62.cell? ⟨gb222, 3, none⟩ = some (.slice Ao22 t217.length co22) := (uF BK222.out 3).trans rfl
          have hfz73_0 := uI BK222.out 0
          have hfz73_1 := uI BK222.out 1
          have hfz73_2 := uI BK222.out 2
          have hfz73_3 := uI BK222.out 3
          go_wp2_with (first | (go_at_call 19; (with_reducible refine (laws_eqBelt.calls kj10 t230 t231 t232 _ _ t233 t214 t215 t216 _ _ t217 true _ ?side1 ?side2 ?side3 ?side4 A64.out).mono ?_); (case side1 => repeat (first | exact (Kd.Q_reads' HO_239003.out).2.2 | (with_reducible refine Kd.C_alloc ?_ _) | (with_reducible refine Kd.C_drewN ?_ _) | (with_reducible refine Kd.C_drew ?_))); (case side2 => exact (Kd.Q_reads' HO_239003.out).2.1); (case side3 => repeat (first | exact (Kd.Q_reads' HO_223003.out).2.2 | (with_reducible refine Kd.C_alloc ?_ _) | (with_reducible refine Kd.C_drewN ?_ _) | (with_reducible refine Kd.C_drew ?_))); (case side4 => exact (Kd.Q_reads' HO_223003.out).2.1); rintro e w74 ⟨rfl, hb⟩; replace HO_223003 := uD (Kd.Q_below (by (with_reducible repeat (first | apply Kd.Q_alloc | apply Kd.Q_drewN | apply Kd.Q_drew)); exact HO_223003.out) hb); replace HO_230003 := uD (Kd.Q_below (by (with_reducible repeat (first | apply Kd.Q_alloc | apply Kd.Q_drewN | apply Kd.Q_drew)); exact HO_230003.out) hb); replace HO_239003 := uD (Kd.Q_below (by (with_reducible repeat (first | apply Kd.Q_alloc | apply Kd.Q_drewN | apply Kd.Q_drew)); exact HO_239003.out) hb); replace HO245 := uD (Kd.R_below (by (with_reducible repeat (first | apply uU | apply uS | apply uT)); exact HO245.out) hb); replace BK206 := uD (blk_below (g := gb206) (o := .cells #[.int .i64 a0_0, .int .i64 a0_1, .bool a0_2, .slice A0_3 l0_3.length c0_3] 24 (0, 0)) (by (with_reducible repeat (first | refine uH ?_ _ | refine uJ ?_ | refine uG ?_ _)); exact BK206.out) hb); replace BK222 := uD (blk_below (g := gb222) (o := .cells #[.int .i64 t214, .int .i64 t215, .bool t216, .slice Ao22 t217.length co22] 29 (0, 0)) (by (with_reducible repeat (first | refine uH ?_ _ | refine uJ ?_ | refine uG ?_ _)); exact BK222.out) hb); replace BK229 := uD (blk_below (g := gb229) (o := .cells #[.int .i64 t223, .int .i64 t224, .bool t225, .slice Ao29 t226.length co29] 29 (0, 0)) (by (with_reducible repeat (first | refine uH ?_ _ | refine uJ ?_ | refine uG ?_ _)); exact BK229.out) hb); replace BK238 := uD (blk_below (g := gb238) (o := .cells #[.int .i64 t230, .int .i64 t231, .bool t232, .slice Ao36 t233.length co36] 29 (0, 0)) (by (with_reducible repeat (first | refine uH ?_ _ | refine uJ ?_ | refine uG ?_ _)); exact BK238.out) hb); replace HB := uD (uO (by repeat (first | (with_reducible first | exact HB.out | apply uL | apply uE | apply uK | refine uM ?_ GE206.out | refine uM ?_ GE222.out | refine uM ?_ GE229.out | refine uM ?_ GE238.out) | exact HB.out)) hb); (try clear hb); (try clear hb2); (try clear hk); (try clear hi)))
          go_meet
          case rel => exact ⟨_, ((t237 != t221)), (by first | rfl | (simp; done) | (simp [*]; done)), H', ⟨by have := HJ10.out; first | omega | exact Nat.le_refl _⟩, ⟨by (with_reducible repeat (first | apply Kd.Q_alloc | apply Kd.Q_drewN | apply Kd.Q_drew)); exact Kd.Q_mono HO_223003.out (fun _ hk => ⟨hk.1, hk.2.1⟩)⟩, ⟨by (with_reducible repeat (first | apply Kd.Q_alloc | apply Kd.Q_drewN | apply Kd.Q_drew)); exact Kd.Q_mono HO_230003.out (fun _ hk => ⟨hk.1.1, hk.1.2⟩)⟩, ⟨by (with_reducible repeat (first | apply Kd.Q_alloc | apply Kd.Q_drewN | apply Kd.Q_drew)); exact Kd.Q_mono HO_239003.out (fun _ hk => ⟨hk.1, hk.2.1⟩)⟩, ⟨by (with_reducible repeat (first | refine uH ?_ _ | refine uJ ?_ | refine uG ?_ _)); exact BK206.out⟩, ⟨by (with_reducible repeat (first | refine uH ?_ _ | refine uJ ?_ | refine uG ?_ _)); exact BK222.out⟩, ⟨by (with_reducible repeat (first | refine uH ?_ _ | refine uJ ?_ | refine uG ?_ _)); exact BK229.out⟩, ⟨by (with_reducible repeat (first | refine uH ?_ _ | refine uJ ?_ | refine uG ?_ _)); exact BK238.out⟩, ⟨by repeat (first | (with_reducible first | exact HB.out | apply uL | apply uE | apply uK | refine uM ?_ GE206.out | refine uM ?_ GE222.out | refine uM ?_ GE229.out | refine uM ?_ GE238.out) | exact HB.out)⟩⟩
         ·rw [if_neg c66] at H
          have c66b0 : (t236 == t220) = false := beq_eq_false_iff_ne.mpr c66
          have c66b1 : (t236 != t220) = true := bne_iff_ne.mpr c66
          exact absurd H (by cases kj10 <;> simp [laws_FnExactLeave.j1])
        ·replace c65 := Bool.eq_false_iff.mpr c65
         subst c65
         have H1 : (laws_FnExactLeave.j1 kj10 t220 t221 true a0_0 a0_1 a0_2 l0_3 t214 t215 t216 t217 t230 t231 t232 t233) = some true := by rw [if_neg (show ¬ (false = true) by decide)] at H; first | done | exact H
         clear H
         have H := H1
         clear H1
         exact absurd H (by cases kj10 <;> simp [laws_FnExactLeave.j1])
      case rest =>
       clear HC53
       try clear c1
       try clear c2
       try clear p2
       try clear c3
       try clear c3b0
       try clear c4
       try clear c5
       try clear c6
       try clear c7
       try clear c15
       try clear c17
       try clear c19
       try clear c20
       try clear c26
       try clear c27
       try clear c28
       try clear c32
       try clear c33
       try clear c34
       try clear c38
       try clear c39
       try clear c39b0
       try clear c39b1
       try clear c40
       try clear c41
       try clear c42
       try clear c44
       try clear c45
       try clear c48
       try clear c51
       try clear c58
       try clear c59
       try clear c60
       try clear c63
       try clear c63b0
       try clear c65
       try clear c66
       try clear c66b0
       try clear c66b1
       try clear c67
       try clear c68
       try clear c69
       try clear c71
       try clear c72
       try clear hcz13_0
       try clear hcz13_1
       try clear hcz13_2
       try clear hcz13_3
       try clear hcz15_0
       try clear hcz15_1
       try clear hcz15_2
       try clear hcz15_3
       try clear hcz21_0
       try clear hcz21_1
       try clear hcz21_2
       try clear hcz21_3
       try clear hcz23_0
       try clear hcz23_1
       try clear hcz23_2
       try clear hcz23_3
       try clear hcz28_0
       try clear hcz28_1
       try clear hcz28_2
       try clear hcz28_3
       try clear hcz35_0
       try clear hcz35_1
       try clear hcz35_2
       try clear hcz35_3
       try clear hcz43_0
       try clear hcz43_1
       try clear hcz43_2
       try clear hcz43_3
       try clear hcz46_0
       try clear hcz46_1
       try clear hcz46_2
       try clear hcz46_3
       try clear hcz5_0
       try clear hcz5_1
       try clear hcz5_2
       try clear hcz5_3
       try clear hcz61_0
       try clear hcz61_1
       try clear hcz61_2
       try clear hcz61_3
       try clear hcz70_0
       try clear hcz70_1
       try clear hcz70_2
       try clear hcz70_3
       try clear hcz73_0
       try clear hcz73_1
       try clear hcz73_2
       try clear hcz73_3
       try clear hfz13_0
       try clear hfz13_1
       try clear hfz13_2
       try clear hfz13_3
       try clear hfz15_0
       try clear hfz15_1
       try clear hfz15_2
       try clear hfz15_3
       try clear hfz21_0
       try clear hfz21_1
       try clear hfz21_2
       try clear hfz21_3
       try clear hfz23_0
       try clear hfz23_1
       try clear hfz23_2
       try clear hfz23_3
       try clear hfz28_0
       try clear hfz28_1
       try clear hfz28_2
       try clear hfz28_3
       try clear hfz35_0
       try clear hfz35_1
       try clear hfz35_2
       try clear hfz35_3
       try clear hfz43_0
       try clear hfz43_1
       try clear hfz43_2
       try clear hfz43_3
       try clear hfz46_0
       try clear hfz46_1
       try clear hfz46_2
       try clear hfz46_3
       try clear hfz5_0
       try clear hfz5_1
       try clear hfz5_2
       try clear hfz5_3
       try clear hfz61_0
       try clear hfz61_1
       try clear hfz61_2
       try clear hfz61_3
       try clear hfz70_0
       try clear hfz70_1
       try clear hfz70_2
       try clear hfz70_3
       try clear hfz73_0
       try clear hfz73_1
       try clear hfz73_2
       try clear hfz73_3
       try clear p2
       obtain ⟨kq, x76_52, rfl, HA, HJ52, HO_223003, HO_230003, HO_239003, BK206, BK222, BK229, BK238, HB⟩ := hcut
       have hl230003_52 := (Kd.Q_reads' HO_230003.out).1
       rw [hl230003_52] at HO_230003
       (try simp only [hl230003_52])
       (try simp only [hl230003_52] at BK206)
       (try simp only [hl230003_52] at BK222)
       (try simp only [hl230003_52] at BK229)
       (try simp only [hl230003_52] at BK238)
       (try simp only [hl230003_52] at HO_223003)
       (try simp only [hl230003_52] at HO_239003)
       cases kq with
       | zero => exact absurd HA.out (by simp [laws_FnExactLeave.j1])
       | succ kj52 =>
        have H := HA.out
        clear HA
        simp only [laws_FnExactLeave.j1] at H
        by_cases c75 : x76_52 = true
        ·subst c75
         have H1 : (some false) = some true := by rw [if_pos rfl] at H; first | done | exact H
         clear H
         have H := H1
         clear H1
         exact absurd H (by simp)
        ·replace c75 := Bool.eq_false_iff.mpr c75
         subst c75
         have H1 : ((laws_markBelt.f kj52 t230 t231 t232 t233 1).bind fun bt250 => ((laws_heldBelt.f kj52 t230 t231 t232 bt250.2 1).bind fun t252 => (if t252 < 0 then (some false) else (if t252 = bt250.1 then ((laws_toBelt.f kj52 a0_0 a0_1 a0_2 l0_3).bind fun bt253 => ((impl_Leave.f kj52 bt253.1 bt253.2.1 bt253.2.2.1 bt253.2.2.2).bind fun bt259 => ((laws_eqBelt.f kj52 bt259.1 bt259.2.1 bt259.2.2.1 bt259.2.2.2.1 t214 t215 t216 t217).bind fun t268 => (if t268 = true then (if bt259.2.2.2.2.1 = t220 then (laws_FnExactLeave.j2 kj52 bt250.1 (bt259.2.2.2.2.2 != t221) t230 t231 t232 bt250.2) else (laws_FnExactLeave.j2 kj52 bt250.1 true t230 t231 t232 bt250.2)) else (laws_FnExactLeave.j2 kj52 bt250.1 true t230 t231 t232 bt250.2))))) else (some false))))) = some true := by rw [if_neg (show ¬ (false = true) by decide)] at H; first | done | exact H
         clear H
         have H := H1
         clear H1
         replace H := Option.bind_eq_some_iff.mp H
         obtain ⟨⟨t250, t251⟩, A760, H⟩ := H
         replace H : ((laws_heldBelt.f kj52 t230 t231 t232 t251 1).bind fun t252 => (if t252 < 0 then (some false) else (if t252 = t250 then ((laws_toBelt.f kj52 a0_0 a0_1 a0_2 l0_3).bind fun bt253 => ((impl_Leave.f kj52 bt253.1 bt253.2.1 bt253.2.2.1 bt253.2.2.2).bind fun bt259 => ((laws_eqBelt.f kj52 bt259.1 bt259.2.1 bt259.2.2.1 bt259.2.2.2.1 t214 t215 t216 t217).bind fun t268 => (if t268 = true then (if bt259.2.2.2.2.1 = t220 then (laws_FnExactLeave.j2 kj52 t250 (bt259.2.2.2.2.2 != t221) t230 t231 t232 t251) else (laws_FnExactLeave.j2 kj52 t250 true t230 t231 t232 t251)) else (laws_FnExactLeave.j2 kj52 t250 true t230 t231 t232 t251))))) else (some false)))) = some true := H
         have A76 := uD A760
         clear A760
         replace H := Option.bind_eq_some_iff.mp H
         obtain ⟨t252, A770, H⟩ := H
         replace H : (if t252 < 0 then (some false) else (if t252 = t250 then ((laws_toBelt.f kj52 a0_0 a0_1 a0_2 l0_3).bind fun bt253 => ((impl_Leave.f kj52 bt253.1 bt253.2.1 bt253.2.2.1 bt253.2.2.2).bind fun bt259 => ((laws_eqBelt.f kj52 bt259.1 bt259.2.1 bt259.2.2.1 bt259.2.2.2.1 t214 t215 t216 t217).bind fun t268 => (if t268 = true then (if bt259.2.2.2.2.1 = t220 then (laws_FnExactLeave.j2 kj52 t250 (bt259.2.2.2.2.2 != t221) t230 t231 t232 t251) else (laws_FnExactLeave.j2 kj52 t250 true t230 t231 t232 t251)) else (laws_FnExactLeave.j2 kj52 t250 true t230 t231 t232 t251))))) else (some false))) = some true := H
         have A77 := uD A770
         clear A770
         by_cases c78 : t252 < 0
         ·rw [if_pos c78] at H
          have c78b0 : decide (t252 < 0) = true := decide_eq_true c78
          clear c78
          exact absurd H (by simp)
         ·rw [if_neg c78] at H
          have c78b0 : decide (t252 < 0) = false := decide_eq_false c78
          clear c78
          by_cases c79 : t252 = t250
          ·rw [if_pos c79] at H
           have c79b0 : (t252 == t250) = true := beq_iff_eq.mpr c79
           have c79b1 : (t252 != t250) = false := bne_eq_false_iff_eq.mpr c79
           clear c79
           replace H := Option.bind_eq_some_iff.mp H
           obtain ⟨⟨t253, t254, t255, t256⟩, A800, H⟩ := H
           replace H : ((impl_Leave.f kj52 t253 t254 t255 t256).bind fun bt259 => ((laws_eqBelt.f kj52 bt259.1 bt259.2.1 bt259.2.2.1 bt259.2.2.2.1 t214 t215 t216 t217).bind fun t268 => (if t268 = true then (if bt259.2.2.2.2.1 = t220 then (laws_FnExactLeave.j2 kj52 t250 (bt259.2.2.2.2.2 != t221) t230 t231 t232 t251) else (laws_FnExactLeave.j2 kj52 t250 true t230 t231 t232 t251)) else (laws_FnExactLeave.j2 kj52 t250 true t230 t231 t232 t251)))) = some true := H
           have A80 := uD A800
           clear A800
           replace H := Option.bind_eq_some_iff.mp H
           obtain ⟨⟨t259, t260, t261, t262, t265, t266⟩, A810, H⟩ := H
           replace H : ((laws_eqBelt.f kj52 t259 t260 t261 t262 t214 t215 t216 t217).bind fun t268 => (if t268 = true then (if t265 = t220 then (laws_FnExactLeave.j2 kj52 t250 (t266 != t221) t230 t231 t232 t251) else (laws_FnExactLeave.j2 kj52 t250 true t230 t231 t232 t251)) else (laws_FnExactLeave.j2 kj52 t250 true t230 t231 t232 t251))) = some true := H
           have A81 := uD A810
           clear A810
           have HC82 := uD H
           clear H
           have hnb83 := NB238_206.out
           have hnc83 := NB206_238.out
           have hnb84 := NB238_222.out
           have hnc84 := NB222_238.out
           have hnb85 := NB238_229.out
           have hnc85 := NB229_238.out
           have hcz86_0 : wc.cell? ⟨gb238, 0, none⟩ = some (.int .i64 t230) := (uF BK238.out 0).trans rfl
           have hcz86_1 : wc.cell? ⟨gb238, 1, none⟩ = some (.int .i64 t231) := (uF BK238.out 1).trans rfl
           have hcz86_2 : wc.cell? ⟨gb238, 2, none⟩ = some (.bool t232) := (uF BK238.out 2).trans rfl
           have hcz86_3 : wc.cell? ⟨gb238, 3, none⟩ = some (.slice Ao36 t233.length co36) := (uF BK238.out 3).trans rfl
           have hfz86_0 := uI BK238.out 0
           have hfz86_1 := uI BK238.out 1
           have hfz86_2 := uI BK238.out 2
           have hfz86_3 := uI BK238.out 3
           go_upto_region 25 with (first | ((with_reducible refine gate_callee (f := 28) rfl ?_); refine goesL_ (some 79) rfl rfl Try.func28 (by kernel_rfl) rfl #[.agg #[.int .i64 t230, .int .i64 t231, .bool t232, .slice Ao36 t233.length co36], .int .i64 1] rfl (by (try simp only [List.map_toArray, List.map_cons, List.map_nil]); first | done | rfl | (simp only [List.length_drop, List.length_take]; rfl)) ?_; (with_reducible refine (laws_markBelt.calls kj52 t230 t231 t232 (fun k_ => some k_ = (.slice Ao36 t233.length co36 : Value).ownBlock) (.slice Ao36 t233.length co36) t233 1 t250 t251 w _ ?side1 ?side2 A76.out).mono ?_); (case side1 => repeat (first | (with_reducible first | exact HB.out | apply uL | apply uE | apply uK | refine uM ?_ GE206.out | refine uM ?_ GE222.out | refine uM ?_ GE229.out | refine uM ?_ GE238.out) | exact HB.out)); (case side2 => exact (Kd.Q_tight rfl HO_239003.out)); rintro e w87 ⟨rfl, hy0, hb, hkp⟩; refine ⟨_, rfl, ?_⟩; replace HO_223003 := uD (Kd.Q_mono (ok' := fun k_ => some k_ ≠ (.slice Ao29 t248.length co29 : Value).ownBlock ∧ some k_ ≠ (.slice Ao36 t233.length co36 : Value).ownBlock) (Kd.Q_keptB (HO_223003.out) hkp (fun k_ hk_ hs_ => (hk_.2) hs_)) (fun k_ hk_ => ⟨hk_.1.1, hk_.1.2⟩)); replace HO_230003 := uD (Kd.Q_mono (ok' := fun k_ => some k_ ≠ (.slice Ao22 t217.length co22 : Value).ownBlock ∧ some k_ ≠ (.slice Ao36 t233.length co36 : Value).ownBlock) (Kd.Q_keptB (HO_230003.out) hkp (fun k_ hk_ hs_ => (hk_.2) hs_)) (fun k_ hk_ => ⟨hk_.1.1, hk_.1.2⟩)); replace BK206 := uD (blk_kept (by (with_reducible repeat (first | refine uH ?_ _ | refine uJ ?_ | refine uG ?_ _)); exact BK206.out) hkp (fun hs_ => (fun e_ => (Kd.Q_ne HO_239003.out BK206.out (by decide)) e_) hs_)); replace BK222 := uD (blk_kept (by (with_reducible repeat (first | refine uH ?_ _ | refine uJ ?_ | refine uG ?_ _)); exact BK222.out) hkp (fun hs_ => (fun e_ => (Kd.Q_ne HO_239003.out BK222.out (by decide)) e_) hs_)); replace BK229 := uD (blk_kept (by (with_reducible repeat (first | refine uH ?_ _ | refine uJ ?_ | refine uG ?_ _)); exact BK229.out) hkp (fun hs_ => (fun e_ => (Kd.Q_ne HO_239003.out BK229.out (by decide)) e_) hs_)); replace BK238 := uD (blk_kept (by (with_reducible repeat (first | refine uH ?_ _ | refine uJ ?_ | refine uG ?_ _)); exact BK238.out) hkp (fun hs_ => (fun e_ => (Kd.Q_ne HO_239003.out BK238.out (by decide)) e_) hs_)); replace HO_239003 := uD (Kd.Q_mono (Kd.Q_tight rfl hy0) (fun k_ e_ => HO_239003.out.1 k_ e_.symm)); replace HB := uD (hb); (try clear hb); (try clear hkp); (try clear hy0); have hcz88_0 : w87.cell? ⟨gb238, 0, none⟩ = some (.int .i64 t230) := (uF BK238.out 0).trans rfl; have hcz88_1 : w87.cell? ⟨gb238, 1, none⟩ = some (.int .i64 t231) := (uF BK238.out 1).trans rfl; have hcz88_2 : w87.cell? ⟨gb238, 2, none⟩ = some (.bool t232) := (uF BK238.out 2).trans rfl; have hcz88_3 : w87.cell? ⟨gb238, 3, none⟩ = some (.slice Ao36 t233.length co36) := (uF BK238.out 3).trans rfl; have hfz88_0 := uI BK238.out 0; have hfz88_1 := uI BK238.out 1; have hfz88_2 := uI BK238.out 2; have hfz88_3 := uI BK238.out 3) | ((with_reducible refine gate_callee (f := 29) rfl ?_); refine goesL_ (some 82) rfl rfl Try.func29 (by kernel_rfl) rfl #[.agg #[.int .i64 t230, .int .i64 t231, .bool t232, .slice Ao36 t251.length co36], .int .i64 1] rfl (by (try simp only [List.map_toArray, List.map_cons, List.map_nil]); first | done | (rw [show t251.length = t233.length from (Kd.Q_reads' HO_239003.out).1.symm] <;> rfl) | rfl | (simp only [List.length_drop, List.length_take]; rfl)) ?_; (with_reducible refine (laws_heldBelt.calls kj52 t230 t231 t232 _ _ t251 1 t252 _ ?side1 ?side2 A77.out).mono ?_); (case side1 => repeat (first | exact (Kd.Q_reads' HO_239003.out).2.2 | (with_reducible refine Kd.C_alloc ?_ _) | (with_reducible refine Kd.C_drewN ?_ _) | (with_reducible refine Kd.C_drew ?_))); (case side2 => rw [show t251.length = t233.length from (Kd.Q_reads' HO_239003.out).1.symm]; exact (Kd.Q_reads' HO_239003.out).2.1); rintro e w89 ⟨rfl, hb⟩; refine ⟨_, rfl, ?_⟩; replace HO_223003 := uD (Kd.Q_below (by (with_reducible repeat (first | apply Kd.Q_alloc | apply Kd.Q_drewN | apply Kd.Q_drew)); exact HO_223003.out) hb); replace HO_230003 := uD (Kd.Q_below (by (with_reducible repeat (first | apply Kd.Q_alloc | apply Kd.Q_drewN | apply Kd.Q_drew)); exact HO_230003.out) hb); replace HO_239003 := uD (Kd.Q_below (by (with_reducible repeat (first | apply Kd.Q_alloc | apply Kd.Q_drewN | apply Kd.Q_drew)); exact HO_239003.out) hb); replace BK206 := uD (blk_below (g := gb206) (o := .cells #[.int .i64 a0_0, .int .i64 a0_1, .bool a0_2, .slice A0_3 l0_3.length c0_3] 24 (0, 0)) (by (with_reducible repeat (first | refine uH ?_ _ | refine uJ ?_ | refine uG ?_ _)); exact BK206.out) hb); replace BK222 := uD (blk_below (g := gb222) (o := .cells #[.int .i64 t214, .int .i64 t215, .bool t216, .slice Ao22 t217.length co22] 29 (0, 0)) (by (with_reducible repeat (first | refine uH ?_ _ | refine uJ ?_ | refine uG ?_ _)); exact BK222.out) hb); replace BK229 := uD (blk_below (g := gb229) (o := .cells #[.int .i64 t223, .int .i64 t224, .bool t225, .slice Ao29 t248.length co29] 29 (0, 0)) (by (with_reducible repeat (first | refine uH ?_ _ | refine uJ ?_ | refine uG ?_ _)); exact BK229.out) hb); replace BK238 := uD (blk_below (g := gb238) (o := .cells #[.int .i64 t230, .int .i64 t231, .bool t232, .slice Ao36 t233.length co36] 29 (0, 0)) (by (with_reducible repeat (first | refine uH ?_ _ | refine uJ ?_ | refine uG ?_ _)); exact BK238.out) hb); replace HB := uD (uO (by repeat (first | (with_reducible first | exact HB.out | apply uL | apply uE | apply uK | refine uM ?_ GE206.out | refine uM ?_ GE222.out | refine uM ?_ GE229.out | refine uM ?_ GE238.out) | exact HB.out)) hb); (try clear hb); (try clear hb2); (try clear hk); (try clear hi); have hnb90 := NB206_222.out; have hnc90 := NB222_206.out; have hnb91 := NB206_229.out; have hnc91 := NB229_206.out; have hcz92_0 : w89.cell? ⟨gb206, 0, none⟩ = some (.int .i64 a0_0) := (uF BK206.out 0).trans rfl; have hcz92_1 : w89.cell? ⟨gb206, 1, none⟩ = some (.int .i64 a0_1) := (uF BK206.out 1).trans rfl; have hcz92_2 : w89.cell? ⟨gb206, 2, none⟩ = some (.bool a0_2) := (uF BK206.out 2).trans rfl; have hcz92_3 : w89.cell? ⟨gb206, 3, none⟩ = some (.slice A0_3 l0_3.length c0_3) := (uF BK206.out 3).trans rfl; have hfz92_0 := uI BK206.out 0; have hfz92_1 := uI BK206.out 1; have hfz92_2 := uI BK206.out 2; have hfz92_3 := uI BK206.out 3) | ((with_reducible refine gate_callee (f := 17) rfl ?_); refine goesL_ (some 90) rfl rfl Try.func17 (by kernel_rfl) rfl #[.agg #[.int .i64 a0_0, .int .i64 a0_1, .bool a0_2, .slice A0_3 l0_3.length c0_3]] rfl (by (try simp only [List.map_toArray, List.map_cons, List.map_nil]); first | done | rfl | (simp only [List.length_drop, List.length_take]; rfl)) ?_; (with_reducible refine (laws_toBelt.calls kj52 a0_0 a0_1 a0_2 _ _ l0_3 t253 t254 t255 t256 _ ?side1 ?side2 A80.out).mono ?_); (case side1 => repeat (first | exact (Kd.C_below HR0_3.out HB.out) | (with_reducible refine Kd.C_alloc ?_ _) | (with_reducible refine Kd.C_drewN ?_ _) | (with_reducible refine Kd.C_drew ?_))); (case side2 => exact HC0_3.out); rintro e w93 ⟨v257, rfl, ho0, hb⟩; refine ⟨_, rfl, ?_⟩; have HO258 := uD (Kd.R_lower (Kd.R_new' (Kd.R_new' (Kd.R_new' ho0 (Kd.Q_lt (by (with_reducible repeat (first | apply Kd.Q_alloc | apply Kd.Q_drewN | apply Kd.Q_drew)); exact HO_223003.out))) (Kd.Q_lt (by (with_reducible repeat (first | apply Kd.Q_alloc | apply Kd.Q_drewN | apply Kd.Q_drew)); exact HO_230003.out))) (Kd.Q_lt (by (with_reducible repeat (first | apply Kd.Q_alloc | apply Kd.Q_drewN | apply Kd.Q_drew)); exact HO_239003.out))) (uN (by repeat (first | (with_reducible first | exact HB.out | apply uL | apply uE | apply uK | refine uM ?_ GE206.out | refine uM ?_ GE222.out | refine uM ?_ GE229.out | refine uM ?_ GE238.out) | exact HB.out)))); replace HO_223003 := uD (Kd.Q_elder' (by (with_reducible repeat (first | apply Kd.Q_alloc | apply Kd.Q_drewN | apply Kd.Q_drew)); exact HO_223003.out) (Kd.R_base ho0) hb); replace HO_230003 := uD (Kd.Q_elder' (by (with_reducible repeat (first | apply Kd.Q_alloc | apply Kd.Q_drewN | apply Kd.Q_drew)); exact HO_230003.out) (Kd.R_base ho0) hb); replace HO_239003 := uD (Kd.Q_elder' (by (with_reducible repeat (first | apply Kd.Q_alloc | apply Kd.Q_drewN | apply Kd.Q_drew)); exact HO_239003.out) (Kd.R_base ho0) hb); replace BK206 := uD (blk_below (g := gb206) (o := .cells #[.int .i64 a0_0, .int .i64 a0_1, .bool a0_2, .slice A0_3 l0_3.length c0_3] 24 (0, 0)) (by (with_reducible repeat (first | refine uH ?_ _ | refine uJ ?_ | refine uG ?_ _)); exact BK206.out) hb); replace BK222 := uD (blk_below (g := gb222) (o := .cells #[.int .i64 t214, .int .i64 t215, .bool t216, .slice Ao22 t217.length co22] 29 (0, 0)) (by (with_reducible repeat (first | refine uH ?_ _ | refine uJ ?_ | refine uG ?_ _)); exact BK222.out) hb); replace BK229 := uD (blk_below (g := gb229) (o := .cells #[.int .i64 t223, .int .i64 t224, .bool t225, .slice Ao29 t248.length co29] 29 (0, 0)) (by (with_reducible repeat (first | refine uH ?_ _ | refine uJ ?_ | refine uG ?_ _)); exact BK229.out) hb); replace BK238 := uD (blk_below (g := gb238) (o := .cells #[.int .i64 t230, .int .i64 t231, .bool t232, .slice Ao36 t233.length co36] 29 (0, 0)) (by (with_reducible repeat (first | refine uH ?_ _ | refine uJ ?_ | refine uG ?_ _)); exact BK238.out) hb); replace HB := uD (uO (by repeat (first | (with_reducible first | exact HB.out | apply uL | apply uE | apply uK | refine uM ?_ GE206.out | refine uM ?_ GE222.out | refine uM ?_ GE229.out | refine uM ?_ GE238.out) | exact HB.out)) hb); (try clear hb); (try clear hb2); (try clear hk); (try clear hi); (try clear ho0); obtain ⟨Ao94, co94, eo94⟩ := Kd.R_slice HO258.out; subst eo94) | ((with_reducible refine gate_callee (f := 27) rfl ?_); refine goesL_ (some 91) rfl rfl Try.func27 (by kernel_rfl) rfl #[.agg #[.int .i64 t253, .int .i64 t254, .bool t255, .slice Ao94 t256.length co94]] rfl (by (try simp only [List.map_toArray, List.map_cons, List.map_nil]); first | done | rfl | (simp only [List.length_drop, List.length_take]; rfl)) ?_; (with_reducible refine (impl_Leave.calls kj52 t253 t254 t255 _ _ t256 t259 t260 t261 t262 t265 t266 _ ?side1 ?side2 A81.out).mono ?_); (case side1 => repeat (first | exact (Kd.R_reads' HO258.out).2.2 | (with_reducible refine Kd.C_alloc ?_ _) | (with_reducible refine Kd.C_drewN ?_ _) | (with_reducible refine Kd.C_drew ?_))); (case side2 => exact (Kd.R_reads' HO258.out).2.1); rintro e w95 ⟨v263, rfl, ho0, hb⟩; refine ⟨_, rfl, ?_⟩; have HO264 := uD (Kd.Q_lower (Kd.Q_new' (Kd.Q_new' (Kd.Q_new' (Kd.Q_new' ho0 (Kd.Q_lt (by (with_reducible repeat (first | apply Kd.Q_alloc | apply Kd.Q_drewN | apply Kd.Q_drew)); exact HO_223003.out))) (Kd.Q_lt (by (with_reducible repeat (first | apply Kd.Q_alloc | apply Kd.Q_drewN | apply Kd.Q_drew)); exact HO_230003.out))) (Kd.Q_lt (by (with_reducible repeat (first | apply Kd.Q_alloc | apply Kd.Q_drewN | apply Kd.Q_drew)); exact HO_239003.out))) (Kd.R_lt (by (with_reducible repeat (first | apply uU | apply uS | apply uT)); exact HO258.out))) (uN (by repeat (first | (with_reducible first | exact HB.out | apply uL | apply uE | apply uK | refine uM ?_ GE206.out | refine uM ?_ GE222.out | refine uM ?_ GE229.out | refine uM ?_ GE238.out) | exact HB.out)))); replace HO_223003 := uD (Kd.Q_elder' (by (with_reducible repeat (first | apply Kd.Q_alloc | apply Kd.Q_drewN | apply Kd.Q_drew)); exact HO_223003.out) (Kd.Q_base ho0) hb); replace HO_230003 := uD (Kd.Q_elder' (by (with_reducible repeat (first | apply Kd.Q_alloc | apply Kd.Q_drewN | apply Kd.Q_drew)); exact HO_230003.out) (Kd.Q_base ho0) hb); replace HO_239003 := uD (Kd.Q_elder' (by (with_reducible repeat (first | apply Kd.Q_alloc | apply Kd.Q_drewN | apply Kd.Q_drew)); exact HO_239003.out) (Kd.Q_base ho0) hb); replace HO258 := uD (Kd.R_elder' (by (with_reducible repeat (first | apply uU | apply uS | apply uT)); exact HO258.out) (Kd.Q_base ho0) hb); replace BK206 := uD (blk_below (g := gb206) (o := .cells #[.int .i64 a0_0, .int .i64 a0_1, .bool a0_2, .slice A0_3 l0_3.length c0_3] 24 (0, 0)) (by (with_reducible repeat (first | refine uH ?_ _ | refine uJ ?_ | refine uG ?_ _)); exact BK206.out) hb); replace BK222 := uD (blk_below (g := gb222) (o := .cells #[.int .i64 t214, .int .i64 t215, .bool t216, .slice Ao22 t217.length co22] 29 (0, 0)) (by (with_reducible repeat (first | refine uH ?_ _ | refine uJ ?_ | refine uG ?_ _)); exact BK222.out) hb); replace BK229 := uD (blk_below (g := gb229) (o := .cells #[.int .i64 t223, .int .i64 t224, .bool t225, .slice Ao29 t248.length co29] 29 (0, 0)) (by (with_reducible repeat (first | refine uH ?_ _ | refine uJ ?_ | refine uG ?_ _)); exact BK229.out) hb); replace BK238 := uD (blk_below (g := gb238) (o := .cells #[.int .i64 t230, .int .i64 t231, .bool t232, .slice Ao36 t233.length co36] 29 (0, 0)) (by (with_reducible repeat (first | refine uH ?_ _ | refine uJ ?_ | refine uG ?_ _)); exact BK238.out) hb); replace HB := uD (uO (by repeat (first | (with_reducible first | exact HB.out | apply uL | apply uE | apply uK | refine uM ?_ GE206.out | refine uM ?_ GE222.out | refine uM ?_ GE229.out | refine uM ?_ GE238.out) | exact HB.out)) hb); (try clear hb); (try clear hb2); (try clear hk); (try clear hi); (try clear ho0)) | ((with_reducible refine gate_dst (N := 14) rfl ?_); refine box_event ?hg (N := 14) ?hd (cs := #[.int .i64 0, .int .i64 0, .bool false, .slice none 0 0]) (t := 29) ?hr ?_; (case hd => rfl); (case hg => rfl); (case hr => first | (go_simp; done) | (go_simp; rfl)); intro gb267 hg w96 hbox hb; replace HO_223003 := uD (Kd.Q_below (by (with_reducible repeat (first | apply Kd.Q_alloc | apply Kd.Q_drewN | apply Kd.Q_drew)); exact HO_223003.out) hb); replace HO_230003 := uD (Kd.Q_below (by (with_reducible repeat (first | apply Kd.Q_alloc | apply Kd.Q_drewN | apply Kd.Q_drew)); exact HO_230003.out) hb); replace HO_239003 := uD (Kd.Q_below (by (with_reducible repeat (first | apply Kd.Q_alloc | apply Kd.Q_drewN | apply Kd.Q_drew)); exact HO_239003.out) hb); replace HO258 := uD (Kd.R_below (by (with_reducible repeat (first | apply uU | apply uS | apply uT)); exact HO258.out) hb); replace HO264 := uD (Kd.Q_below (by (with_reducible repeat (first | apply Kd.Q_alloc | apply Kd.Q_drewN | apply Kd.Q_drew)); exact HO264.out) hb); have BK267 := uD (hbox); have GW267 := uD ((by rw [hg]; exact (uN (by repeat (first | (with_reducible first | exact HB.out | apply uL | apply uE | apply uK | refine uM ?_ GE206.out | refine uM ?_ GE222.out | refine uM ?_ GE229.out | refine uM ?_ GE238.out) | exact HB.out))) : w.heap.size ≤ gb267)); have GE267 := uD ((by rw [hg]; exact (uN (by repeat (first | (with_reducible first | exact HB.out | apply uL | apply uE | apply uK | refine uM ?_ GE206.out | refine uM ?_ GE222.out | refine uM ?_ GE229.out | refine uM ?_ GE238.out) | exact HB.out))) : w.heap.size ≤ gb267)); replace HB := uD (uO (by repeat (first | (with_reducible first | exact HB.out | apply uL | apply uE | apply uK | refine uM ?_ GE206.out | refine uM ?_ GE222.out | refine uM ?_ GE229.out | refine uM ?_ GE238.out) | exact HB.out)) hb); have NB206_267 := uD ((by rw [hg]; exact Nat.ne_of_lt (blk_lt (g := gb206) (o := .cells #[.int .i64 a0_0, .int .i64 a0_1, .bool a0_2, .slice A0_3 l0_3.length c0_3] 24 (0, 0)) (by (with_reducible repeat (first | refine uH ?_ _ | refine uJ ?_ | refine uG ?_ _)); exact BK206.out)) : gb206 ≠ gb267)); have NB267_206 := uD ((by rw [hg]; exact Nat.ne_of_gt (blk_lt (g := gb206) (o := .cells #[.int .i64 a0_0, .int .i64 a0_1, .bool a0_2, .slice A0_3 l0_3.length c0_3] 24 (0, 0)) (by (with_reducible repeat (first | refine uH ?_ _ | refine uJ ?_ | refine uG ?_ _)); exact BK206.out)) : gb267 ≠ gb206)); replace BK206 := uD (blk_below (g := gb206) (o := .cells #[.int .i64 a0_0, .int .i64 a0_1, .bool a0_2, .slice A0_3 l0_3.length c0_3] 24 (0, 0)) (by (with_reducible repeat (first | refine uH ?_ _ | refine uJ ?_ | refine uG ?_ _)); exact BK206.out) hb); have NB222_267 := uD ((by rw [hg]; exact Nat.ne_of_lt (blk_lt (g := gb222) (o := .cells #[.int .i64 t214, .int .i64 t215, .bool t216, .slice Ao22 t217.length co22] 29 (0, 0)) (by (with_reducible repeat (first | refine uH ?_ _ | refine uJ ?_ | refine uG ?_ _)); exact BK222.out)) : gb222 ≠ gb267)); have NB267_222 := uD ((by rw [hg]; exact Nat.ne_of_gt (blk_lt (g := gb222) (o := .cells #[.int .i64 t214, .int .i64 t215, .bool t216, .slice Ao22 t217.length co22] 29 (0, 0)) (by (with_reducible repeat (first | refine uH ?_ _ | refine uJ ?_ | refine uG ?_ _)); exact BK222.out)) : gb267 ≠ gb222)); replace BK222 := uD (blk_below (g := gb222) (o := .cells #[.int .i64 t214, .int .i64 t215, .bool t216, .slice Ao22 t217.length co22] 29 (0, 0)) (by (with_reducible repeat (first | refine uH ?_ _ | refine uJ ?_ | refine uG ?_ _)); exact BK222.out) hb); have NB229_267 := uD ((by rw [hg]; exact Nat.ne_of_lt (blk_lt (g := gb229) (o := .cells #[.int .i64 t223, .int .i64 t224, .bool t225, .slice Ao29 t248.length co29] 29 (0, 0)) (by (with_reducible repeat (first | refine uH ?_ _ | refine uJ ?_ | refine uG ?_ _)); exact BK229.out)) : gb229 ≠ gb267)); have NB267_229 := uD ((by rw [hg]; exact Nat.ne_of_gt (blk_lt (g := gb229) (o := .cells #[.int .i64 t223, .int .i64 t224, .bool t225, .slice Ao29 t248.length co29] 29 (0, 0)) (by (with_reducible repeat (first | refine uH ?_ _ | refine uJ ?_ | refine uG ?_ _)); exact BK229.out)) : gb267 ≠ gb229)); replace BK229 := uD (blk_below (g := gb229) (o := .cells #[.int .i64 t223, .int .i64 t224, .bool t225, .slice Ao29 t248.length co29] 29 (0, 0)) (by (with_reducible repeat (first | refine uH ?_ _ | refine uJ ?_ | refine uG ?_ _)); exact BK229.out) hb); have NB238_267 := uD ((by rw [hg]; exact Nat.ne_of_lt (blk_lt (g := gb238) (o := .cells #[.int .i64 t230, .int .i64 t231, .bool t232, .slice Ao36 t233.length co36] 29 (0, 0)) (by (with_reducible repeat (first | refine uH ?_ _ | refine uJ ?_ | refine uG ?_ _)); exact BK238.out)) : gb238 ≠ gb267)); have NB267_238 := uD ((by rw [hg]; exact Nat.ne_of_gt (blk_lt (g := gb238) (o := .cells #[.int .i64 t230, .int .i64 t231, .bool t232, .slice Ao36 t233.length co36] 29 (0, 0)) (by (with_reducible repeat (first | refine uH ?_ _ | refine uJ ?_ | refine uG ?_ _)); exact BK238.out)) : gb267 ≠ gb238)); replace BK238 := uD (blk_below (g := gb238) (o := .cells #[.int .i64 t230, .int .i64 t231, .bool t232, .slice Ao36 t233.length co36] 29 (0, 0)) (by (with_reducible repeat (first | refine uH ?_ _ | refine uJ ?_ | refine uG ?_ _)); exact BK238.out) hb); clear hb hbox hg; have hnb97 := NB267_206.out; have hnc97 := NB206_267.out; have hnb98 := NB267_222.out; have hnc98 := NB222_267.out; have hnb99 := NB267_229.out; have hnc99 := NB229_267.out; have hnb100 := NB267_238.out; have hnc100 := NB238_267.out; have hcz101_0 : w96.cell? ⟨gb267, 0, none⟩ = some (.int .i64 0) := (uF BK267.out 0).trans rfl; have hcz101_1 : w96.cell? ⟨gb267, 1, none⟩ = some (.int .i64 0) := (uF BK267.out 1).trans rfl; have hcz101_2 : w96.cell? ⟨gb267, 2, none⟩ = some (.bool false) := (uF BK267.out 2).trans rfl; have hcz101_3 : w96.cell? ⟨gb267, 3, none⟩ = some (.slice none 0 0) := (uF BK267.out 3).trans rfl; have hfz101_0 := uI BK267.out 0; have hfz101_1 := uI BK267.out 1; have hfz101_2 := uI BK267.out 2; have hfz101_3 := uI BK267.out 3; obtain ⟨Ao102, co102, eo102, _⟩ := Kd.Q_slice HO264.out; subst eo102))
           (try simp only [uc, uA, uB, uC])
           go_cut [108] (fun v108 wc => ∃ (kq : Nat) (x108_81 : Bool), v108 = .bool x108_81 ∧ Aside0 (laws_FnExactLeave.j2 kq t250 x108_81 t230 t231 t232 t251 = some true) ∧ Aside0 (kq ≤ kj52) ∧ Aside0 (Kd.Q k53 53 wc w.heap.size (fun k_ => some k_ ≠ ((.slice Ao29 t248.length co29) : Value).ownBlock ∧ some k_ ≠ ((.slice Ao36 t233.length co36) : Value).ownBlock ∧ some k_ ≠ ((.slice Ao102 t262.length co102) : Value).ownBlock) (.slice Ao22 t217.length co22) t217) ∧ Aside0 (Kd.Q k53 53 wc w.heap.size (fun k_ => some k_ ≠ ((.slice Ao22 t217.length co22) : Value).ownBlock ∧ some k_ ≠ ((.slice Ao36 t233.length co36) : Value).ownBlock ∧ some k_ ≠ ((.slice Ao102 t262.length co102) : Value).ownBlock) (.slice Ao29 t248.length co29) t248) ∧ Aside0 (Kd.Q k53 53 wc w.heap.size (fun k_ => some k_ ≠ ((.slice Ao22 t217.length co22) : Value).ownBlock ∧ some k_ ≠ ((.slice Ao29 t248.length co29) : Value).ownBlock ∧ some k_ ≠ ((.slice Ao102 t262.length co102) : Value).ownBlock) (.slice Ao36 t233.length co36) t251) ∧ Aside0 (Kd.Q k53 53 wc w.heap.size (fun k_ => some k_ ≠ ((.slice Ao22 t217.length co22) : Value).ownBlock ∧ some k_ ≠ ((.slice Ao29 t248.length co29) : Value).ownBlock ∧ some k_ ≠ ((.slice Ao36 t233.length co36) : Value).ownBlock) (.slice Ao102 t262.length co102) t262) ∧ Aside0 (wc.heap[gb206]? = some (.cells #[.int .i64 a0_0, .int .i64 a0_1, .bool a0_2, (.slice A0_3 l0_3.length c0_3)] 24 (0, 0))) ∧ Aside0 (wc.heap[gb222]? = some (.cells #[.int .i64 t214, .int .i64 t215, .bool t216, (.slice Ao22 t217.length co22)] 29 (0, 0))) ∧ Aside0 (wc.heap[gb229]? = some (.cells #[.int .i64 t223, .int .i64 t224, .bool t225, (.slice Ao29 t248.length co29)] 29 (0, 0))) ∧ Aside0 (wc.heap[gb238]? = some (.cells #[.int .i64 t230, .int .i64 t231, .bool t232, (.slice Ao36 t233.length co36)] 29 (0, 0))) ∧ Aside0 (wc.heap[gb267]? = some (.cells #[.int .i64 t259, .int .i64 t260, .bool t261, (.slice Ao102 t262.length co102)] 29 (0, 0))) ∧ Aside0 (Below w.heap.size w wc))
           case first =>
            have H := HC82.out
            clear HC82
            replace H := Option.bind_eq_some_iff.mp H
            obtain ⟨t268, A1030, H⟩ := H
            replace H : (if t268 = true then (if t265 = t220 then (laws_FnExactLeave.j2 kj52 t250 (t266 != t221) t230 t231 t232 t251) else (laws_FnExactLeave.j2 kj52 t250 true t230 t231 t232 t251)) else (laws_FnExactLeave.j2 kj52 t250 true t230 t231 t232 t251)) = some true := H
            have A103 := uD A1030
            clear A1030
            by_cases c104 : t268 = true
            ·subst c104
             have H1 : (if t265 = t220 then (laws_FnExactLeave.j2 kj52 t250 (t266 != t221) t230 t231 t232 t251) else (laws_FnExactLeave.j2 kj52 t250 true t230 t231 t232 t251)) = some true := by rw [if_pos rfl] at H; first | done | exact H
             clear H
             have H := H1
             clear H1
             by_cases c105 : t265 = t220
             ·rw [if_pos c105] at H
              have c105b0 : (t265 == t220) = true := beq_iff_eq.mpr c105
              have c105b1 : (t265 != t220) = false := bne_eq_false_iff_eq.mpr c105
              clear c105
              (first | rw [c105b0] | (simp only [uZ, ua]; rw [c105b0]) | skip)
              have H' := uD H
              clear H
              have hnb106 := NB267_206.out
              have hnc106 := NB206_267.out
              have hnb107 := NB267_222.out
              have hnc107 := NB222_267.out
              have hnb108 := NB267_229.out
              have hnc108 := NB229_267.out
              have hnb109 := NB267_238.out
              have hnc109 := NB238_267.out
              have hcz110_0 : w96.cell? ⟨gb267, 0, none⟩ = some (.int .i64 0) := (uF BK267.out 0).trans rfl
              have hcz110_1 : w96.cell? ⟨gb267, 1, none⟩ = some (.int .i64 0) := (uF BK267.out 1).trans rfl
              have hcz110_2 : w96.cell? ⟨gb267, 2, none⟩ = some (.bool false) := (uF BK267.out 2).trans rfl
              have hcz110_3 : w96.cell? ⟨gb267, 3, none⟩ = some (.slice none 0 0) := (uF BK267.out 3).trans rfl
              have hfz110_0 := uI BK267.out 0
              have hfz110_1 := uI BK267.out 1
              have hfz110_2 := uI BK267.out 2
              have hfz110_3 := uI BK267.out 3
              have hnb111 := NB222_206.out
              have hnc111 := NB206_222.out
              have hnb112 := NB222_229.out
              have hnc112 := NB229_222.out
              have hnb113 := NB222_238.out
              have hnc113 := NB238_222.out
              have hcz114_0 : w96.cell? ⟨gb222, 0, none⟩ = some (.int .i64 t214) := (uF BK222.out 0).trans rfl
              have hcz114_1 : w96.cell? ⟨gb222, 1, none⟩ = some (.int .i64 t215) := (uF BK222.out 1).trans rfl
              have hcz114_2 : w96.cell? ⟨gb222, 2, none⟩ = some (.bool t216) := (uF BK222.out 2).trans rfl
              have hcz114_3 : w96.cell? ⟨gb222, 3, none⟩ = some (.slice Ao22 t217.length co22) := (uF BK222.out 3).trans rfl
              have hfz114_0 := uI BK222.out 0
              have hfz114_1 := uI BK222.out 1
              have hfz114_2 := uI BK222.out 2
              have hfz114_3 := uI BK222.out 3
              go_wp2_with (first | ((with_reducible refine gate_callee (f := 19) rfl ?_); refine goesL_ (some 97) rfl rfl Try.func19 (by kernel_rfl) rfl #[.agg #[.int .i64 t259, .int .i64 t260, .bool t261, .slice Ao102 t262.length co102], .agg #[.int .i64 t214, .int .i64 t215, .bool t216, .slice Ao22 t217.length co22]] rfl (by (try simp only [List.map_toArray, List.map_cons, List.map_nil]); first | done | rfl | (simp only [List.length_drop, List.length_take]; rfl)) ?_; (with_reducible refine (laws_eqBelt.calls kj52 t259 t260 t261 _ _ t262 t214 t215 t216 _ _ t217 true _ ?side1 ?side2 ?side3 ?side4 A103.out).mono ?_); (case side1 => refine (Kd.Q_reads' (e := 53) (base := w.heap.size) (ok := fun k_ => ((((True ∧ some k_ ≠ (.slice Ao22 t217.length co22 : Value).ownBlock) ∧ some k_ ≠ (.slice Ao29 t248.length co29 : Value).ownBlock) ∧ some k_ ≠ (.slice Ao36 t233.length co36 : Value).ownBlock) ∧ some k_ ≠ (.slice Ao94 t256.length co94 : Value).ownBlock)) (n := t262.length) (c := co102) ?_).2.2; exact (by (with_reducible repeat (first | apply Kd.Q_alloc | apply Kd.Q_drewN | apply Kd.Q_drew)); exact (Kd.Q_mono (Kd.Q_far (p := ⟨gb267, 3, none⟩) (Kd.Q_far (p := ⟨gb267, 2, none⟩) (Kd.Q_far (p := ⟨gb267, 1, none⟩) (Kd.Q_far (p := ⟨gb267, 0, none⟩) (Kd.Q_types HO264.out BK267.out (by decide)) (fun _ hk => hk.2) (.int .i64 t259)) (fun _ hk => hk.2) (.int .i64 t260)) (fun _ hk => hk.2) (.bool t261)) (fun _ hk => hk.2) (.slice Ao102 t262.length co102)) (fun _ h_ => h_.1)))); (case side2 => exact (Kd.Q_reads' HO264.out).2.1); (case side3 => refine (Kd.Q_reads' (e := 53) (base := w.heap.size) (ok := fun k_ => (((some k_ ≠ (.slice Ao29 t248.length co29 : Value).ownBlock ∧ some k_ ≠ (.slice Ao36 t233.length co36 : Value).ownBlock) ∧ some k_ ≠ (.slice Ao94 t256.length co94 : Value).ownBlock) ∧ some k_ ≠ (.slice Ao102 t262.length co102 : Value).ownBlock)) (n := t217.length) (c := co22) ?_).2.2; exact (by (with_reducible repeat (first | apply Kd.Q_alloc | apply Kd.Q_drewN | apply Kd.Q_drew)); exact (Kd.Q_mono (Kd.Q_far (p := ⟨gb267, 3, none⟩) (Kd.Q_far (p := ⟨gb267, 2, none⟩) (Kd.Q_far (p := ⟨gb267, 1, none⟩) (Kd.Q_far (p := ⟨gb267, 0, none⟩) (Kd.Q_types HO_223003.out BK267.out (by decide)) (fun _ hk => hk.2) (.int .i64 t259)) (fun _ hk => hk.2) (.int .i64 t260)) (fun _ hk => hk.2) (.bool t261)) (fun _ hk => hk.2) (.slice Ao102 t262.length co102)) (fun _ h_ => h_.1)))); (case side4 => exact (Kd.Q_reads' HO_223003.out).2.1); rintro e w115 ⟨rfl, hb⟩; refine ⟨_, rfl, ?_⟩; replace HO_223003 := uD (Kd.Q_below (by (with_reducible repeat (first | apply Kd.Q_alloc | apply Kd.Q_drewN | apply Kd.Q_drew)); exact (Kd.Q_mono (Kd.Q_far (p := ⟨gb267, 3, none⟩) (Kd.Q_far (p := ⟨gb267, 2, none⟩) (Kd.Q_far (p := ⟨gb267, 1, none⟩) (Kd.Q_far (p := ⟨gb267, 0, none⟩) (Kd.Q_types HO_223003.out BK267.out (by decide)) (fun _ hk => hk.2) (.int .i64 t259)) (fun _ hk => hk.2) (.int .i64 t260)) (fun _ hk => hk.2) (.bool t261)) (fun _ hk => hk.2) (.slice Ao102 t262.length co102)) (fun _ h_ => h_.1))) hb); replace HO_230003 := uD (Kd.Q_below (by (with_reducible repeat (first | apply Kd.Q_alloc | apply Kd.Q_drewN | apply Kd.Q_drew)); exact (Kd.Q_mono (Kd.Q_far (p := ⟨gb267, 3, none⟩) (Kd.Q_far (p := ⟨gb267, 2, none⟩) (Kd.Q_far (p := ⟨gb267, 1, none⟩) (Kd.Q_far (p := ⟨gb267, 0, none⟩) (Kd.Q_types HO_230003.out BK267.out (by decide)) (fun _ hk => hk.2) (.int .i64 t259)) (fun _ hk => hk.2) (.int .i64 t260)) (fun _ hk => hk.2) (.bool t261)) (fun _ hk => hk.2) (.slice Ao102 t262.length co102)) (fun _ h_ => h_.1))) hb); replace HO_239003 := uD (Kd.Q_below (by (with_reducible repeat (first | apply Kd.Q_alloc | apply Kd.Q_drewN | apply Kd.Q_drew)); exact (Kd.Q_mono (Kd.Q_far (p := ⟨gb267, 3, none⟩) (Kd.Q_far (p := ⟨gb267, 2, none⟩) (Kd.Q_far (p := ⟨gb267, 1, none⟩) (Kd.Q_far (p := ⟨gb267, 0, none⟩) (Kd.Q_types HO_239003.out BK267.out (by decide)) (fun _ hk => hk.2) (.int .i64 t259)) (fun _ hk => hk.2) (.int .i64 t260)) (fun _ hk => hk.2) (.bool t261)) (fun _ hk => hk.2) (.slice Ao102 t262.length co102)) (fun _ h_ => h_.1))) hb); replace HO258 := uD (Kd.R_below (by (with_reducible repeat (first | apply uU | apply uS | apply uT)); exact (uX (uV (p := ⟨gb267, 3, none⟩) (uV (p := ⟨gb267, 2, none⟩) (uV (p := ⟨gb267, 1, none⟩) (uV (p := ⟨gb267, 0, none⟩) (uW HO258.out BK267.out (by decide)) (fun _ hk => hk.2) (.int .i64 t259)) (fun _ hk => hk.2) (.int .i64 t260)) (fun _ hk => hk.2) (.bool t261)) (fun _ hk => hk.2) (.slice Ao102 t262.length co102)) (fun _ h_ => h_.1))) hb); replace HO264 := uD (Kd.Q_below (by (with_reducible repeat (first | apply Kd.Q_alloc | apply Kd.Q_drewN | apply Kd.Q_drew)); exact (Kd.Q_mono (Kd.Q_far (p := ⟨gb267, 3, none⟩) (Kd.Q_far (p := ⟨gb267, 2, none⟩) (Kd.Q_far (p := ⟨gb267, 1, none⟩) (Kd.Q_far (p := ⟨gb267, 0, none⟩) (Kd.Q_types HO264.out BK267.out (by decide)) (fun _ hk => hk.2) (.int .i64 t259)) (fun _ hk => hk.2) (.int .i64 t260)) (fun _ hk => hk.2) (.bool t261)) (fun _ hk => hk.2) (.slice Ao102 t262.length co102)) (fun _ h_ => h_.1))) hb); replace BK206 := uD (blk_below (g := gb206) (o := .cells #[.int .i64 a0_0, .int .i64 a0_1, .bool a0_2, .slice A0_3 l0_3.length c0_3] 24 (0, 0)) (by (with_reducible repeat (first | refine uH ?_ _ | refine uJ ?_ | refine uG ?_ _)); refine uQ ?_ NB206_267.out _; (with_reducible repeat (first | refine uH ?_ _ | refine uJ ?_ | refine uG ?_ _)); refine uQ ?_ NB206_267.out _; (with_reducible repeat (first | refine uH ?_ _ | refine uJ ?_ | refine uG ?_ _)); refine uQ ?_ NB206_267.out _; (with_reducible repeat (first | refine uH ?_ _ | refine uJ ?_ | refine uG ?_ _)); refine uQ ?_ NB206_267.out _; (with_reducible repeat (first | refine uH ?_ _ | refine uJ ?_ | refine uG ?_ _)); exact BK206.out) hb); replace BK222 := uD (blk_below (g := gb222) (o := .cells #[.int .i64 t214, .int .i64 t215, .bool t216, .slice Ao22 t217.length co22] 29 (0, 0)) (by (with_reducible repeat (first | refine uH ?_ _ | refine uJ ?_ | refine uG ?_ _)); refine uQ ?_ NB222_267.out _; (with_reducible repeat (first | refine uH ?_ _ | refine uJ ?_ | refine uG ?_ _)); refine uQ ?_ NB222_267.out _; (with_reducible repeat (first | refine uH ?_ _ | refine uJ ?_ | refine uG ?_ _)); refine uQ ?_ NB222_267.out _; (with_reducible repeat (first | refine uH ?_ _ | refine uJ ?_ | refine uG ?_ _)); refine uQ ?_ NB222_267.out _; (with_reducible repeat (first | refine uH ?_ _ | refine uJ ?_ | refine uG ?_ _)); exact BK222.out) hb); replace BK229 := uD (blk_below (g := gb229) (o := .cells #[.int .i64 t223, .int .i64 t224, .bool t225, .slice Ao29 t248.length co29] 29 (0, 0)) (by (with_reducible repeat (first | refine uH ?_ _ | refine uJ ?_ | refine uG ?_ _)); refine uQ ?_ NB229_267.out _; (with_reducible repeat (first | refine uH ?_ _ | refine uJ ?_ | refine uG ?_ _)); refine uQ ?_ NB229_267.out _; (with_reducible repeat (first | refine uH ?_ _ | refine uJ ?_ | refine uG ?_ _)); refine uQ ?_ NB229_267.out _; (with_reducible repeat (first | refine uH ?_ _ | refine uJ ?_ | refine uG ?_ _)); refine uQ ?_ NB229_267.out _; (with_reducible repeat (first | refine uH ?_ _ | refine uJ ?_ | refine uG ?_ _)); exact BK229.out) hb); replace BK238 := uD (blk_below (g := gb238) (o := .cells #[.int .i64 t230, .int .i64 t231, .bool t232, .slice Ao36 t233.length co36] 29 (0, 0)) (by (with_reducible repeat (first | refine uH ?_ _ | refine uJ ?_ | refine uG ?_ _)); refine uQ ?_ NB238_267.out _; (with_reducible repeat (first | refine uH ?_ _ | refine uJ ?_ | refine uG ?_ _)); refine uQ ?_ NB238_267.out _; (with_reducible repeat (first | refine uH ?_ _ | refine uJ ?_ | refine uG ?_ _)); refine uQ ?_ NB238_267.out _; (with_reducible repeat (first | refine uH ?_ _ | refine uJ ?_ | refine uG ?_ _)); refine uQ ?_ NB238_267.out _; (with_reducible repeat (first | refine uH ?_ _ | refine uJ ?_ | refine uG ?_ _)); exact BK238.out) hb); replace BK267 := uD (blk_below (g := gb267) (o := .cells #[.int .i64 t259, .int .i64 t260, .bool t261, .slice Ao102 t262.length co102] 29 (0, 0)) (by (with_reducible repeat (first | refine uH ?_ _ | refine uJ ?_ | refine uG ?_ _)); refine uP (cs := #[.int .i64 t259, .int .i64 t260, .bool t261, .slice none 0 0]) ?_ 3 _ rfl; (with_reducible repeat (first | refine uH ?_ _ | refine uJ ?_ | refine uG ?_ _)); refine uP (cs := #[.int .i64 t259, .int .i64 t260, .bool false, .slice none 0 0]) ?_ 2 _ rfl; (with_reducible repeat (first | refine uH ?_ _ | refine uJ ?_ | refine uG ?_ _)); refine uP (cs := #[.int .i64 t259, .int .i64 0, .bool false, .slice none 0 0]) ?_ 1 _ rfl; (with_reducible repeat (first | refine uH ?_ _ | refine uJ ?_ | refine uG ?_ _)); refine uP (cs := #[.int .i64 0, .int .i64 0, .bool false, .slice none 0 0]) ?_ 0 _ rfl; (with_reducible repeat (first | refine uH ?_ _ | refine uJ ?_ | refine uG ?_ _)); exact BK267.out) hb); replace HB := uD (uO (by repeat (first | (with_reducible first | exact HB.out | apply uL | apply uE | apply uK | refine uM ?_ GE206.out | refine uM ?_ GE222.out | refine uM ?_ GE229.out | refine uM ?_ GE238.out | refine uM ?_ GE267.out) | exact HB.out)) hb); (try clear hb); (try clear hb2); (try clear hk); (try clear hi)))
              go_meet
              case rel => exact ⟨_, ((t266 != t221)), (by first | rfl | (simp; done) | (simp [*]; done)), H', ⟨by have := HJ10.out; have := HJ52.out; first | omega | exact Nat.le_refl _⟩, ⟨by (try simp only [hl230003_52]); (with_reducible repeat (first | apply Kd.Q_alloc | apply Kd.Q_drewN | apply Kd.Q_drew)); exact Kd.Q_mono HO_223003.out (fun _ hk => ⟨hk.1.1.1, ⟨hk.1.1.2, hk.2⟩⟩)⟩, ⟨by (try simp only [hl230003_52]); (with_reducible repeat (first | apply Kd.Q_alloc | apply Kd.Q_drewN | apply Kd.Q_drew)); exact Kd.Q_mono HO_230003.out (fun _ hk => ⟨hk.1.1.1, ⟨hk.1.1.2, hk.2⟩⟩)⟩, ⟨by (try simp only [hl230003_52]); (with_reducible repeat (first | apply Kd.Q_alloc | apply Kd.Q_drewN | apply Kd.Q_drew)); exact Kd.Q_mono HO_239003.out (fun _ hk => ⟨hk.1.1.1, ⟨hk.1.1.2, hk.2⟩⟩)⟩, ⟨by (try simp only [hl230003_52]); (with_reducible repeat (first | apply Kd.Q_alloc | apply Kd.Q_drewN | apply Kd.Q_drew)); exact Kd.Q_mono HO264.out (fun _ hk => ⟨hk.1.1.1.2, ⟨hk.1.1.2, hk.1.2⟩⟩)⟩, ⟨by (try simp only [hl230003_52]); (with_reducible repeat (first | refine uH ?_ _ | refine uJ ?_ | refine uG ?_ _)); exact BK206.out⟩, ⟨by (try simp only [hl230003_52]); (with_reducible repeat (first | refine uH ?_ _ | refine uJ ?_ | refine uG ?_ _)); exact BK222.out⟩, ⟨by (try simp only [hl230003_52]); (with_reducible repeat (first | refine uH ?_ _ | refine uJ ?_ | refine uG ?_ _)); exact BK229.out⟩, ⟨by (try simp only [hl230003_52]); (with_reducible repeat (first | refine uH ?_ _ | refine uJ ?_ | refine uG ?_ _)); exact BK238.out⟩, ⟨by (try simp only [hl230003_52]); (with_reducible repeat (first | refine uH ?_ _ | refine uJ ?_ | refine uG ?_ _)); exact BK267.out⟩, ⟨by repeat (first | (with_reducible first | exact HB.out | apply uL | apply uE | apply uK | refine uM ?_ GE206.out | refine uM ?_ GE222.out | refine uM ?_ GE229.out | refine uM ?_ GE238.out | refine uM ?_ GE267.out) | exact HB.out)⟩⟩
             ·rw [if_neg c105] at H
              have c105b0 : (t265 == t220) = false := beq_eq_false_iff_ne.mpr c105
              have c105b1 : (t265 != t220) = true := bne_iff_ne.mpr c105
              (first | rw [c105b0] | (simp only [uZ, ua]; rw [c105b0]) | skip)
              exact absurd H (by cases kj52 <;> simp [laws_FnExactLeave.j2])
            ·replace c104 := Bool.eq_false_iff.mpr c104
             subst c104
             have H1 : (laws_FnExactLeave.j2 kj52 t250 true t230 t231 t232 t251) = some true := by rw [if_neg (show ¬ (false = true) by decide)] at H; first | done | exact H
             clear H
             have H := H1
             clear H1
             exact absurd H (by cases kj52 <;> simp [laws_FnExactLeave.j2])
           case rest =>
            clear HC82
            try clear c1
            try clear c2
            try clear p2
            try clear c3
            try clear c3b0
            try clear c4
            try clear c5
            try clear c6
            try clear c7
            try clear c8
            try clear c9
            try clear c10
            try clear c11
            try clear c15
            try clear c17
            try clear c19
            try clear c20
            try clear c26
            try clear c27
            try clear c28
            try clear c29
            try clear c32
            try clear c33
            try clear c34
            try clear c38
            try clear c39
            try clear c39b0
            try clear c39b1
            try clear c40
            try clear c41
            try clear c42
            try clear c44
            try clear c45
            try clear c48
            try clear c51
            try clear c58
            try clear c59
            try clear c60
            try clear c63
            try clear c63b0
            try clear c65
            try clear c66
            try clear c66b0
            try clear c66b1
            try clear c67
            try clear c68
            try clear c69
            try clear c71
            try clear c72
            try clear c75
            try clear c78
            try clear c78b0
            try clear c79
            try clear c79b0
            try clear c79b1
            try clear c83
            try clear c84
            try clear c85
            try clear c90
            try clear c91
            try clear c97
            try clear c98
            try clear c99
            try clear c100
            try clear c104
            try clear c105
            try clear c105b0
            try clear c105b1
            try clear c106
            try clear c107
            try clear c108
            try clear c109
            try clear c111
            try clear c112
            try clear c113
            try clear hcz101_0
            try clear hcz101_1
            try clear hcz101_2
            try clear hcz101_3
            try clear hcz110_0
            try clear hcz110_1
            try clear hcz110_2
            try clear hcz110_3
            try clear hcz114_0
            try clear hcz114_1
            try clear hcz114_2
            try clear hcz114_3
            try clear hcz13_0
            try clear hcz13_1
            try clear hcz13_2
            try clear hcz13_3
            try clear hcz15_0
            try clear hcz15_1
            try clear hcz15_2
            try clear hcz15_3
            try clear hcz21_0
            try clear hcz21_1
            try clear hcz21_2
            try clear hcz21_3
            try clear hcz23_0
            try clear hcz23_1
            try clear hcz23_2
            try clear hcz23_3
            try clear hcz28_0
            try clear hcz28_1
            try clear hcz28_2
            try clear hcz28_3
            try clear hcz35_0
            try clear hcz35_1
            try clear hcz35_2
            try clear hcz35_3
            try clear hcz43_0
            try clear hcz43_1
            try clear hcz43_2
            try clear hcz43_3
            try clear hcz46_0
            try clear hcz46_1
            try clear hcz46_2
            try clear hcz46_3
            try clear hcz5_0
            try clear hcz5_1
            try clear hcz5_2
            try clear hcz5_3
            try clear hcz61_0
            try clear hcz61_1
            try clear hcz61_2
            try clear hcz61_3
            try clear hcz70_0
            try clear hcz70_1
            try clear hcz70_2
            try clear hcz70_3
            try clear hcz73_0
            try clear hcz73_1
            try clear hcz73_2
            try clear hcz73_3
            try clear hcz86_0
            try clear hcz86_1
            try clear hcz86_2
            try clear hcz86_3
            try clear hcz88_0
            try clear hcz88_1
            try clear hcz88_2
            try clear hcz88_3
            try clear hcz92_0
            try clear hcz92_1
            try clear hcz92_2
            try clear hcz92_3
            try clear hfz101_0
            try clear hfz101_1
            try clear hfz101_2
            try clear hfz101_3
            try clear hfz110_0
            try clear hfz110_1
            try clear hfz110_2
            try clear hfz110_3
            try clear hfz114_0
            try clear hfz114_1
            try clear hfz114_2
            try clear hfz114_3
            try clear hfz13_0
            try clear hfz13_1
            try clear hfz13_2
            try clear hfz13_3
            try clear hfz15_0
            try clear hfz15_1
            try clear hfz15_2
            try clear hfz15_3
            try clear hfz21_0
            try clear hfz21_1
            try clear hfz21_2
            try clear hfz21_3
            try clear hfz23_0
            try clear hfz23_1
            try clear hfz23_2
            try clear hfz23_3
            try clear hfz28_0
            try clear hfz28_1
            try clear hfz28_2
            try clear hfz28_3
            try clear hfz35_0
            try clear hfz35_1
            try clear hfz35_2
            try clear hfz35_3
            try clear hfz43_0
            try clear hfz43_1
            try clear hfz43_2
            try clear hfz43_3
            try clear hfz46_0
            try clear hfz46_1
            try clear hfz46_2
            try clear hfz46_3
            try clear hfz5_0
            try clear hfz5_1
            try clear hfz5_2
            try clear hfz5_3
            try clear hfz61_0
            try clear hfz61_1
            try clear hfz61_2
            try clear hfz61_3
            try clear hfz70_0
            try clear hfz70_1
            try clear hfz70_2
            try clear hfz70_3
            try clear hfz73_0
            try clear hfz73_1
            try clear hfz73_2
            try clear hfz73_3
            try clear hfz86_0
            try clear hfz86_1
            try clear hfz86_2
            try clear hfz86_3
            try clear hfz88_0
            try clear hfz88_1
            try clear hfz88_2
            try clear hfz88_3
            try clear hfz92_0
            try clear hfz92_1
            try clear hfz92_2
            try clear hfz92_3
            try clear p2
            obtain ⟨kq, x108_81, rfl, HA, HJ81, HO_223003, HO_230003, HO_239003, HO_268003, BK206, BK222, BK229, BK238, BK267, HB⟩ := hcut
            have hl239003_81 := (Kd.Q_reads' HO_239003.out).1
            rw [hl239003_81] at HO_239003
            (try simp only [hl239003_81])
            (try simp only [hl239003_81] at BK206)
            (try simp only [hl239003_81] at BK222)
            (try simp only [hl239003_81] at BK229)
            (try simp only [hl239003_81] at BK238)
            (try simp only [hl239003_81] at BK267)
            (try simp only [hl239003_81] at HO_223003)
            (try simp only [hl239003_81] at HO_230003)
            (try simp only [hl239003_81] at HO_268003)
            cases kq with
            | zero => exact absurd HA.out (by simp [laws_FnExactLeave.j2])
            | succ kj81 =>
             have H := HA.out
             clear HA
             simp only [laws_FnExactLeave.j2] at H
             by_cases c116 : x108_81 = true
             ·subst c116
              have H1 : (some false) = some true := by rw [if_pos rfl] at H; first | done | exact H
              clear H
              have H := H1
              clear H1
              exact absurd H (by simp)
             ·replace c116 := Bool.eq_false_iff.mpr c116
              subst c116
              have H1 : ((laws_heldBelt.f kj81 t230 t231 t232 t251 1).bind fun t269 => (if t269 < 0 then (some false) else (if t269 = t250 then (some true) else (some false)))) = some true := by rw [if_neg (show ¬ (false = true) by decide)] at H; first | done | exact H
              clear H
              have H := H1
              clear H1
              replace H := Option.bind_eq_some_iff.mp H
              obtain ⟨t269, A1170, H⟩ := H
              replace H : (if t269 < 0 then (some false) else (if t269 = t250 then (some true) else (some false))) = some true := H
              have A117 := uD A1170
              clear A1170
              by_cases c118 : t269 < 0
              ·rw [if_pos c118] at H
               have c118b0 : decide (t269 < 0) = true := decide_eq_true c118
               clear c118
               exact absurd H (by simp)
              ·rw [if_neg c118] at H
               have c118b0 : decide (t269 < 0) = false := decide_eq_false c118
               clear c118
               by_cases c119 : t269 = t250
               ·rw [if_pos c119] at H
                have c119b0 : (t269 == t250) = true := beq_iff_eq.mpr c119
                have c119b1 : (t269 != t250) = false := bne_eq_false_iff_eq.mpr c119
                clear c119
                have HT := Option.some.inj H
                clear H
                have hnb120 := NB238_206.out
                have hnc120 := NB206_238.out
                have hnb121 := NB238_222.out
                have hnc121 := NB222_238.out
                have hnb122 := NB238_229.out
                have hnc122 := NB229_238.out
                have hnb123 := NB238_267.out
                have hnc123 := NB267_238.out
                have hcz124_0 : wc.cell? ⟨gb238, 0, none⟩ = some (.int .i64 t230) := (uF BK238.out 0).trans rfl
                have hcz124_1 : wc.cell? ⟨gb238, 1, none⟩ = some (.int .i64 t231) := (uF BK238.out 1).trans rfl
                have hcz124_2 : wc.cell? ⟨gb238, 2, none⟩ = some (.bool t232) := (uF BK238.out 2).trans rfl
                have hcz124_3 : wc.cell? ⟨gb238, 3, none⟩ = some (.slice Ao36 t251.length co36) := (uF BK238.out 3).trans rfl
                have hfz124_0 := uI BK238.out 0
                have hfz124_1 := uI BK238.out 1
                have hfz124_2 := uI BK238.out 2
                have hfz124_3 := uI BK238.out 3
                go_wp2_with (first | ((with_reducible refine gate_callee (f := 29) rfl ?_); refine goesL_ (some 111) rfl rfl Try.func29 (by kernel_rfl) rfl #[.agg #[.int .i64 t230, .int .i64 t231, .bool t232, .slice Ao36 t251.length co36], .int .i64 1] rfl (by (try simp only [List.map_toArray, List.map_cons, List.map_nil]); first | done | rfl | (simp only [List.length_drop, List.length_take]; rfl)) ?_; (with_reducible refine (laws_heldBelt.calls kj81 t230 t231 t232 _ _ t251 1 t269 _ ?side1 ?side2 A117.out).mono ?_); (case side1 => repeat (first | exact (Kd.Q_reads' HO_239003.out).2.2 | (with_reducible refine Kd.C_alloc ?_ _) | (with_reducible refine Kd.C_drewN ?_ _) | (with_reducible refine Kd.C_drew ?_))); (case side2 => exact (Kd.Q_reads' HO_239003.out).2.1); rintro e w125 ⟨rfl, hb⟩; refine ⟨_, rfl, ?_⟩; replace HO_223003 := uD (Kd.Q_below (by (with_reducible repeat (first | apply Kd.Q_alloc | apply Kd.Q_drewN | apply Kd.Q_drew)); exact HO_223003.out) hb); replace HO_230003 := uD (Kd.Q_below (by (with_reducible repeat (first | apply Kd.Q_alloc | apply Kd.Q_drewN | apply Kd.Q_drew)); exact HO_230003.out) hb); replace HO_239003 := uD (Kd.Q_below (by (with_reducible repeat (first | apply Kd.Q_alloc | apply Kd.Q_drewN | apply Kd.Q_drew)); exact HO_239003.out) hb); replace HO_268003 := uD (Kd.Q_below (by (with_reducible repeat (first | apply Kd.Q_alloc | apply Kd.Q_drewN | apply Kd.Q_drew)); exact HO_268003.out) hb); replace BK206 := uD (blk_below (g := gb206) (o := .cells #[.int .i64 a0_0, .int .i64 a0_1, .bool a0_2, .slice A0_3 l0_3.length c0_3] 24 (0, 0)) (by (with_reducible repeat (first | refine uH ?_ _ | refine uJ ?_ | refine uG ?_ _)); exact BK206.out) hb); replace BK222 := uD (blk_below (g := gb222) (o := .cells #[.int .i64 t214, .int .i64 t215, .bool t216, .slice Ao22 t217.length co22] 29 (0, 0)) (by (with_reducible repeat (first | refine uH ?_ _ | refine uJ ?_ | refine uG ?_ _)); exact BK222.out) hb); replace BK229 := uD (blk_below (g := gb229) (o := .cells #[.int .i64 t223, .int .i64 t224, .bool t225, .slice Ao29 t248.length co29] 29 (0, 0)) (by (with_reducible repeat (first | refine uH ?_ _ | refine uJ ?_ | refine uG ?_ _)); exact BK229.out) hb); replace BK238 := uD (blk_below (g := gb238) (o := .cells #[.int .i64 t230, .int .i64 t231, .bool t232, .slice Ao36 t251.length co36] 29 (0, 0)) (by (with_reducible repeat (first | refine uH ?_ _ | refine uJ ?_ | refine uG ?_ _)); exact BK238.out) hb); replace BK267 := uD (blk_below (g := gb267) (o := .cells #[.int .i64 t259, .int .i64 t260, .bool t261, .slice Ao102 t262.length co102] 29 (0, 0)) (by (with_reducible repeat (first | refine uH ?_ _ | refine uJ ?_ | refine uG ?_ _)); exact BK267.out) hb); replace HB := uD (uO (by repeat (first | (with_reducible first | exact HB.out | apply uL | apply uE | apply uK | refine uM ?_ GE206.out | refine uM ?_ GE222.out | refine uM ?_ GE229.out | refine uM ?_ GE238.out | refine uM ?_ GE267.out) | exact HB.out)) hb); (try clear hb); (try clear hb2); (try clear hk); (try clear hi)))
                go_ret
                exact ⟨by first | rfl | (simp [errW_none, errW_some] <;> rfl) | (simp [*, errW_none, errW_some] <;> rfl), by repeat (first | (with_reducible first | exact HB.out | apply uL | apply uE | apply uK | refine uM ?_ GE206.out | refine uM ?_ GE222.out | refine uM ?_ GE229.out | refine uM ?_ GE238.out | refine uM ?_ GE267.out) | exact HB.out)⟩
               ·rw [if_neg c119] at H
                have c119b0 : (t269 == t250) = false := beq_eq_false_iff_ne.mpr c119
                have c119b1 : (t269 != t250) = true := bne_iff_ne.mpr c119
                exact absurd H (by simp)
          ·rw [if_neg c79] at H
           have c79b0 : (t252 == t250) = false := beq_eq_false_iff_ne.mpr c79
           have c79b1 : (t252 != t250) = true := bne_iff_ne.mpr c79
           exact absurd H (by simp)
     ·replace c51 := Bool.eq_false_iff.mpr c51
      subst c51
      have H1 : (some false) = some true := by rw [if_neg (show ¬ (false = true) by decide)] at H; first | done | exact H
      clear H
      have H := H1
      clear H1
      exact absurd H (by simp)

/-- THE ONE PURE STATEMENT of laws_FnExactLeave. -/
def laws_FnExactLeave.Pure : Prop := ∀ (a0_0 : Int) (a0_1 : Int) (a0_2 : Bool) (l0_3 : List (S78)), (Lit.int .i64 a0_0).wf = true → (Lit.int .i64 a0_1).wf = true → l0_3.length ≤ 9223372036854775807 → (∀ y ∈ l0_3, (Lit.int .i64 y.f0).wf = true ∧ (Lit.int .i64 y.f1).wf = true ∧ (Lit.int .i64 y.f2).wf = true) → ∃ k, laws_FnExactLeave.f k a0_0 a0_1 a0_2 l0_3 = some true

end Go.Proofs.Ytbdjbdoelbmjcaa.PFnExactLeave
