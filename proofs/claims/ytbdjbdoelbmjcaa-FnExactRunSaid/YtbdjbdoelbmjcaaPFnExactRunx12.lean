-- Written by a program of this session (wip/myprint.py: the kit's print with changes): not by print.sh itself.
import Derived.Test.YtbdjbdoelbmjcaaPFnExactRunx0
import Derived.Test.YtbdjbdoelbmjcaaPFnExactRunx1
import Derived.Test.YtbdjbdoelbmjcaaPFnExactRunx2
import Derived.Test.YtbdjbdoelbmjcaaPFnExactRunx5
import Derived.Test.YtbdjbdoelbmjcaaPFnExactRunx10
import Derived.Test.YtbdjbdoelbmjcaaPFnExactRunx11
namespace Go.Proofs.Ytbdjbdoelbmjcaa.PFnExactRun
open Go.RowKit Go.Proofs.YtbdjbdoelbmjcaaW.PrintWords Go.Proofs.YtbdjbdoelbmjcaaW.PrintLast Go.Proofs.YtbdjbdoelbmjcaaW.PrintMore
open Go renaming Act.put → uc
open Go.Proofs.YtbdjbdoelbmjcaaW.PrintLast renaming i64_w → uZ, i32_w → ua, pure_ → ub
open Go.Proofs.YtbdjbdoelbmjcaaW.PrintWords renaming Aside0.mk → uD, pw_below_drewN → uE, blk_cell → uF, blk_alloc → uG, blk_drewN → uH, blk_drew → uJ, below_drew1 → uK, below_alloc → uL, below_set → uM, below_size → uN, below_step → uO, blk_put → uP, blk_far → uQ, Kd.R_drewN → uS, Kd.R_drew → uT, Kd.R_alloc → uU, Kd.R_far → uV, Kd.R_types → uW, Kd.R_mono → uX
open List renaming setIfInBounds_toArray → uA, set_cons_zero → uB, set_cons_succ → uC
open Bool renaming true → T, false → F
attribute [local go_sem] max2_int min2_int max_two min_two max_three min_three max_four min_four   -- for this text's walks alone
set_option linter.unusedVariables false
set_option linter.unusedSimpArgs false

/-! ### laws_FnExactRun: function 10 -/
mutual
def laws_FnExactRun.j0 : Nat → Int → List (S56) → List (S56) → Bool → Int → Int → Bool → List (S78) → Int → Int → Bool → List (S53) → Int → Int → Bool → List (S53) → Int → Int → Bool → List (S53) → Option (Bool)
 | 0, _, _, _, _, _, _, _, _, _, _, _, _, _, _, _, _, _, _, _, _ => none
 | k + 1, x1, x7, x10, x45, x303000, x303001, x303002, x303003, x320000, x320001, x320002, x320003, x327000, x327001, x327002, x327003, x337000, x337001, x337002, x337003 => if x45 = true then (some false) else ((laws_toBelt.f k x303000 x303001 x303002 x303003).bind fun bt339 => ((laws_eqBelt.f k x327000 x327001 x327002 x327003 bt339.1 bt339.2.1 bt339.2.2.1 bt339.2.2.2).bind fun t345 => (if t345 = true then ((laws_markBelt.f k x327000 x327001 x327002 x327003 1).bind fun bt346 => (if bt346.1 < 0 then (laws_FnExactRun.j1 k x1 x7 x10 true x303000 x303001 x303002 x303003 x320000 x320001 x320002 x320003 x337000 x337001 x337002 x337003) else ((laws_eqBelt.f k x337000 x337001 x337002 x337003 x320000 x320001 x320002 x320003).bind fun t348 => (if t348 = true then ((laws_eqExitS.f k x10 x7).bind fun t349 => (laws_FnExactRun.j1 k x1 x7 x10 (!t349) x303000 x303001 x303002 x303003 x320000 x320001 x320002 x320003 x337000 x337001 x337002 x337003)) else (laws_FnExactRun.j1 k x1 x7 x10 true x303000 x303001 x303002 x303003 x320000 x320001 x320002 x320003 x337000 x337001 x337002 x337003))))) else (some false))))
def laws_FnExactRun.j1 : Nat → Int → List (S56) → List (S56) → Bool → Int → Int → Bool → List (S78) → Int → Int → Bool → List (S53) → Int → Int → Bool → List (S53) → Option (Bool)
 | 0, _, _, _, _, _, _, _, _, _, _, _, _, _, _, _, _ => none
 | k + 1, x1, x7, x10, x67, x303000, x303001, x303002, x303003, x320000, x320001, x320002, x320003, x337000, x337001, x337002, x337003 => if x67 = true then (some false) else ((laws_markBelt.f k x337000 x337001 x337002 x337003 1).bind fun bt350 => ((laws_markExitS.f k x10 bt350.1).bind fun bt352 => ((laws_heldBelt.f k x337000 x337001 x337002 bt350.2 1).bind fun t354 => (if t354 < 0 then (some false) else ((laws_heldExitS.f k bt352.2 t354).bind fun t355 => (if t355 < 0 then (some false) else (if t355 = bt352.1 then ((laws_toBelt.f k x303000 x303001 x303002 x303003).bind fun bt356 => ((impl_Run.f k bt356.1 bt356.2.1 bt356.2.2.1 bt356.2.2.2 x1).bind fun bt362 => ((laws_eqBelt.f k bt362.1 bt362.2.1 bt362.2.2.1 bt362.2.2.2.1 x320000 x320001 x320002 x320003).bind fun t372 => (if t372 = true then ((laws_eqExitS.f k bt362.2.2.2.2 x7).bind fun t373 => (laws_FnExactRun.j2 k bt352.2 bt352.1 (!t373) x337000 x337001 x337002 bt350.2)) else (laws_FnExactRun.j2 k bt352.2 bt352.1 true x337000 x337001 x337002 bt350.2))))) else (some false))))))))
def laws_FnExactRun.j2 : Nat → List (S56) → Int → Bool → Int → Int → Bool → List (S53) → Option (Bool)
 | 0, _, _, _, _, _, _, _ => none
 | k + 1, x10, x12, x103, x337000, x337001, x337002, x337003 => if x103 = true then (some false) else ((laws_heldBelt.f k x337000 x337001 x337002 x337003 1).bind fun t374 => (if t374 < 0 then (some false) else ((laws_heldExitS.f k x10 t374).bind fun t375 => (if t375 < 0 then (some false) else (if t375 = x12 then (some true) else (some false))))))
end
def laws_FnExactRun.f (k : Nat) (a0_0 : Int) (a0_1 : Int) (a0_2 : Bool) (l0_3 : List (S78)) (a1 : Int) : Option (Bool) := (laws_szBelt.f a0_0 a0_1 a0_2 l0_3 1048576).bind fun t303 => (if t303 < 0 then (some true) else ((laws_toBelt.f k a0_0 a0_1 a0_2 l0_3).bind fun bt304 => ((spec_Run.f k bt304.1 bt304.2.1 bt304.2.2.1 bt304.2.2.2 a1).bind fun bt310 => ((laws_toBelt.f k a0_0 a0_1 a0_2 l0_3).bind fun bt320 => ((impl_Run.f k bt320.1 bt320.2.1 bt320.2.2.1 bt320.2.2.2 a1).bind fun bt327 => ((laws_eqBelt.f k bt327.1 bt327.2.1 bt327.2.2.1 bt327.2.2.2.1 bt310.1 bt310.2.1 bt310.2.2.1 bt310.2.2.2.1).bind fun t337 => (if t337 = true then ((laws_eqExitS.f k bt327.2.2.2.2 bt310.2.2.2.2).bind fun t338 => (laws_FnExactRun.j0 k a1 bt310.2.2.2.2 bt327.2.2.2.2 (!t338) a0_0 a0_1 a0_2 l0_3 bt310.1 bt310.2.1 bt310.2.2.1 bt310.2.2.2.1 bt320.1 bt320.2.1 bt320.2.2.1 bt320.2.2.2 bt327.1 bt327.2.1 bt327.2.2.1 bt327.2.2.2.1)) else (laws_FnExactRun.j0 k a1 bt310.2.2.2.2 bt327.2.2.2.2 true a0_0 a0_1 a0_2 l0_3 bt310.1 bt310.2.1 bt310.2.2.1 bt310.2.2.2.1 bt320.1 bt320.2.1 bt320.2.2.1 bt320.2.2.2 bt327.1 bt327.2.1 bt327.2.2.1 bt327.2.2.2.1))))))))
theorem laws_FnExactRun.mono_l : ∀ k, (∀ y0 y1 y2 y3 y4 y5 y6 y7 y8 y9 y10 y11 y12 y13 y14 y15 y16 y17 y18 y19, LeO (laws_FnExactRun.j0 k y0 y1 y2 y3 y4 y5 y6 y7 y8 y9 y10 y11 y12 y13 y14 y15 y16 y17 y18 y19) (laws_FnExactRun.j0 (k + 1) y0 y1 y2 y3 y4 y5 y6 y7 y8 y9 y10 y11 y12 y13 y14 y15 y16 y17 y18 y19)) ∧ (∀ y0 y1 y2 y3 y4 y5 y6 y7 y8 y9 y10 y11 y12 y13 y14 y15, LeO (laws_FnExactRun.j1 k y0 y1 y2 y3 y4 y5 y6 y7 y8 y9 y10 y11 y12 y13 y14 y15) (laws_FnExactRun.j1 (k + 1) y0 y1 y2 y3 y4 y5 y6 y7 y8 y9 y10 y11 y12 y13 y14 y15)) ∧ (∀ y0 y1 y2 y3 y4 y5 y6, LeO (laws_FnExactRun.j2 k y0 y1 y2 y3 y4 y5 y6) (laws_FnExactRun.j2 (k + 1) y0 y1 y2 y3 y4 y5 y6))
 | 0 => ⟨fun _ _ _ _ _ _ _ _ _ _ _ _ _ _ _ _ _ _ _ _ r h => by simp [laws_FnExactRun.j0] at h, fun _ _ _ _ _ _ _ _ _ _ _ _ _ _ _ _ r h => by simp [laws_FnExactRun.j1] at h, fun _ _ _ _ _ _ _ r h => by simp [laws_FnExactRun.j2] at h⟩
 | k + 1 => by
  obtain ⟨ih0, ih1, ih2⟩ := laws_FnExactRun.mono_l k
  refine ⟨?_, ?_, ?_⟩
  ·intro y0 y1 y2 y3 y4 y5 y6 y7 y8 y9 y10 y11 y12 y13 y14 y15 y16 y17 y18 y19
   unfold laws_FnExactRun.j0
   repeat' first
   | (with_reducible exact ih0 _ _ _ _ _ _ _ _ _ _ _ _ _ _ _ _ _ _ _ _)
   | (with_reducible exact ih1 _ _ _ _ _ _ _ _ _ _ _ _ _ _ _ _)
   | (with_reducible exact ih2 _ _ _ _ _ _ _)
   | (with_reducible exact impl_Run.mono _ _ _ _ _ _)
   | (with_reducible exact laws_eqBelt.mono _ _ _ _ _ _ _ _ _)
   | (with_reducible exact laws_eqExitS.mono _ _ _)
   | (with_reducible exact laws_heldBelt.mono _ _ _ _ _ _)
   | (with_reducible exact laws_heldExitS.mono _ _ _)
   | (with_reducible exact laws_markBelt.mono _ _ _ _ _ _)
   | (with_reducible exact laws_markExitS.mono _ _ _)
   | (with_reducible exact laws_toBelt.mono _ _ _ _ _)
   | (with_reducible exact spec_Run.mono _ _ _ _ _ _)
   | (with_reducible exact LeO.refl _)
   | (with_reducible exact LeO.none _)
   | (with_reducible refine LeO.ite ?_ ?_)
   | (with_reducible refine LeO.bind ?_ (fun _ => ?_))
   | exact ih0 _ _ _ _ _ _ _ _ _ _ _ _ _ _ _ _ _ _ _ _
   | exact ih1 _ _ _ _ _ _ _ _ _ _ _ _ _ _ _ _
   | exact ih2 _ _ _ _ _ _ _
   | exact impl_Run.mono _ _ _ _ _ _
   | exact laws_eqBelt.mono _ _ _ _ _ _ _ _ _
   | exact laws_eqExitS.mono _ _ _
   | exact laws_heldBelt.mono _ _ _ _ _ _
   | exact laws_heldExitS.mono _ _ _
   | exact laws_markBelt.mono _ _ _ _ _ _
   | exact laws_markExitS.mono _ _ _
   | exact laws_toBelt.mono _ _ _ _ _
   | exact spec_Run.mono _ _ _ _ _ _
   | exact LeO.none _
   | refine LeO.ite ?_ ?_
   | refine LeO.bind ?_ (fun _ => ?_)
  ·intro y0 y1 y2 y3 y4 y5 y6 y7 y8 y9 y10 y11 y12 y13 y14 y15
   unfold laws_FnExactRun.j1
   repeat' first
   | (with_reducible exact ih0 _ _ _ _ _ _ _ _ _ _ _ _ _ _ _ _ _ _ _ _)
   | (with_reducible exact ih1 _ _ _ _ _ _ _ _ _ _ _ _ _ _ _ _)
   | (with_reducible exact ih2 _ _ _ _ _ _ _)
   | (with_reducible exact impl_Run.mono _ _ _ _ _ _)
   | (with_reducible exact laws_eqBelt.mono _ _ _ _ _ _ _ _ _)
   | (with_reducible exact laws_eqExitS.mono _ _ _)
   | (with_reducible exact laws_heldBelt.mono _ _ _ _ _ _)
   | (with_reducible exact laws_heldExitS.mono _ _ _)
   | (with_reducible exact laws_markBelt.mono _ _ _ _ _ _)
   | (with_reducible exact laws_markExitS.mono _ _ _)
   | (with_reducible exact laws_toBelt.mono _ _ _ _ _)
   | (with_reducible exact spec_Run.mono _ _ _ _ _ _)
   | (with_reducible exact LeO.refl _)
   | (with_reducible exact LeO.none _)
   | (with_reducible refine LeO.ite ?_ ?_)
   | (with_reducible refine LeO.bind ?_ (fun _ => ?_))
   | exact ih0 _ _ _ _ _ _ _ _ _ _ _ _ _ _ _ _ _ _ _ _
   | exact ih1 _ _ _ _ _ _ _ _ _ _ _ _ _ _ _ _
   | exact ih2 _ _ _ _ _ _ _
   | exact impl_Run.mono _ _ _ _ _ _
   | exact laws_eqBelt.mono _ _ _ _ _ _ _ _ _
   | exact laws_eqExitS.mono _ _ _
   | exact laws_heldBelt.mono _ _ _ _ _ _
   | exact laws_heldExitS.mono _ _ _
   | exact laws_markBelt.mono _ _ _ _ _ _
   | exact laws_markExitS.mono _ _ _
   | exact laws_toBelt.mono _ _ _ _ _
   | exact spec_Run.mono _ _ _ _ _ _
   | exact LeO.none _
   | refine LeO.ite ?_ ?_
   | refine LeO.bind ?_ (fun _ => ?_)
  ·intro y0 y1 y2 y3 y4 y5 y6
   unfold laws_FnExactRun.j2
   repeat' first
   | (with_reducible exact ih0 _ _ _ _ _ _ _ _ _ _ _ _ _ _ _ _ _ _ _ _)
   | (with_reducible exact ih1 _ _ _ _ _ _ _ _ _ _ _ _ _ _ _ _)
   | (with_reducible exact ih2 _ _ _ _ _ _ _)
   | (with_reducible exact impl_Run.mono _ _ _ _ _ _)
   | (with_reducible exact laws_eqBelt.mono _ _ _ _ _ _ _ _ _)
   | (with_reducible exact laws_eqExitS.mono _ _ _)
   | (with_reducible exact laws_heldBelt.mono _ _ _ _ _ _)
   | (with_reducible exact laws_heldExitS.mono _ _ _)
   | (with_reducible exact laws_markBelt.mono _ _ _ _ _ _)
   | (with_reducible exact laws_markExitS.mono _ _ _)
   | (with_reducible exact laws_toBelt.mono _ _ _ _ _)
   | (with_reducible exact spec_Run.mono _ _ _ _ _ _)
   | (with_reducible exact LeO.refl _)
   | (with_reducible exact LeO.none _)
   | (with_reducible refine LeO.ite ?_ ?_)
   | (with_reducible refine LeO.bind ?_ (fun _ => ?_))
   | exact ih0 _ _ _ _ _ _ _ _ _ _ _ _ _ _ _ _ _ _ _ _
   | exact ih1 _ _ _ _ _ _ _ _ _ _ _ _ _ _ _ _
   | exact ih2 _ _ _ _ _ _ _
   | exact impl_Run.mono _ _ _ _ _ _
   | exact laws_eqBelt.mono _ _ _ _ _ _ _ _ _
   | exact laws_eqExitS.mono _ _ _
   | exact laws_heldBelt.mono _ _ _ _ _ _
   | exact laws_heldExitS.mono _ _ _
   | exact laws_markBelt.mono _ _ _ _ _ _
   | exact laws_markExitS.mono _ _ _
   | exact laws_toBelt.mono _ _ _ _ _
   | exact spec_Run.mono _ _ _ _ _ _
   | exact LeO.none _
   | refine LeO.ite ?_ ?_
   | refine LeO.bind ?_ (fun _ => ?_)
theorem laws_FnExactRun.mono : ∀ a0 a1 a2 a3 a4 k, LeO (laws_FnExactRun.f k a0 a1 a2 a3 a4) (laws_FnExactRun.f (k + 1) a0 a1 a2 a3 a4) := by
 intro a0 a1 a2 a3 a4 k
 obtain ⟨ih0, ih1, ih2⟩ := laws_FnExactRun.mono_l k
 unfold laws_FnExactRun.f
 repeat' first
   | (with_reducible exact ih0 _ _ _ _ _ _ _ _ _ _ _ _ _ _ _ _ _ _ _ _)
   | (with_reducible exact ih1 _ _ _ _ _ _ _ _ _ _ _ _ _ _ _ _)
   | (with_reducible exact ih2 _ _ _ _ _ _ _)
   | (with_reducible exact impl_Run.mono _ _ _ _ _ _)
   | (with_reducible exact laws_eqBelt.mono _ _ _ _ _ _ _ _ _)
   | (with_reducible exact laws_eqExitS.mono _ _ _)
   | (with_reducible exact laws_heldBelt.mono _ _ _ _ _ _)
   | (with_reducible exact laws_heldExitS.mono _ _ _)
   | (with_reducible exact laws_markBelt.mono _ _ _ _ _ _)
   | (with_reducible exact laws_markExitS.mono _ _ _)
   | (with_reducible exact laws_toBelt.mono _ _ _ _ _)
   | (with_reducible exact spec_Run.mono _ _ _ _ _ _)
   | (with_reducible exact LeO.refl _)
   | (with_reducible exact LeO.none _)
   | (with_reducible refine LeO.ite ?_ ?_)
   | (with_reducible refine LeO.bind ?_ (fun _ => ?_))
   | exact ih0 _ _ _ _ _ _ _ _ _ _ _ _ _ _ _ _ _ _ _ _
   | exact ih1 _ _ _ _ _ _ _ _ _ _ _ _ _ _ _ _
   | exact ih2 _ _ _ _ _ _ _
   | exact impl_Run.mono _ _ _ _ _ _
   | exact laws_eqBelt.mono _ _ _ _ _ _ _ _ _
   | exact laws_eqExitS.mono _ _ _
   | exact laws_heldBelt.mono _ _ _ _ _ _
   | exact laws_heldExitS.mono _ _ _
   | exact laws_markBelt.mono _ _ _ _ _ _
   | exact laws_markExitS.mono _ _ _
   | exact laws_toBelt.mono _ _ _ _ _
   | exact spec_Run.mono _ _ _ _ _ _
   | exact LeO.none _
   | refine LeO.ite ?_ ?_
   | refine LeO.bind ?_ (fun _ => ?_)
set_option maxHeartbeats 8000000 in
set_option maxRecDepth 100000 in
theorem laws_FnExactRun.calls (k : Nat) (a0_0 : Int) (a0_1 : Int) (a0_2 : Bool) (A0_3 : Option Addr) (c0_3 : Nat) (l0_3 : List (S78)) (a1 : Int) (w : World) (hr0_3 : Kd.C k78 w A0_3 l0_3.length l0_3) (hc0_3 : l0_3.length ≤ c0_3) (h : laws_FnExactRun.f k a0_0 a0_1 a0_2 l0_3 a1 = some true) :
  Calls Try.prog 10 #[.agg #[.int .i64 a0_0, .int .i64 a0_1, .bool a0_2, .slice A0_3 l0_3.length c0_3], .int .i64 a1] w fun e w' => e = .returned (.bool true) ∧ Below w.heap.size w w' := by
 have hu24 := Try.underlying24
 have hu29 := Try.underlying29
 have HR0_3 := uD hr0_3
 have HC0_3 := uD hc0_3
 clear hr0_3 hc0_3
 have HB := uD (Below.refl w.heap.size w)
 have H : ((laws_szBelt.f a0_0 a0_1 a0_2 l0_3 1048576).bind fun t303 => (if t303 < 0 then (some true) else ((laws_toBelt.f k a0_0 a0_1 a0_2 l0_3).bind fun bt304 => ((spec_Run.f k bt304.1 bt304.2.1 bt304.2.2.1 bt304.2.2.2 a1).bind fun bt310 => ((laws_toBelt.f k a0_0 a0_1 a0_2 l0_3).bind fun bt320 => ((impl_Run.f k bt320.1 bt320.2.1 bt320.2.2.1 bt320.2.2.2 a1).bind fun bt327 => ((laws_eqBelt.f k bt327.1 bt327.2.1 bt327.2.2.1 bt327.2.2.2.1 bt310.1 bt310.2.1 bt310.2.2.1 bt310.2.2.2.1).bind fun t337 => (if t337 = true then ((laws_eqExitS.f k bt327.2.2.2.2 bt310.2.2.2.2).bind fun t338 => (laws_FnExactRun.j0 k a1 bt310.2.2.2.2 bt327.2.2.2.2 (!t338) a0_0 a0_1 a0_2 l0_3 bt310.1 bt310.2.1 bt310.2.2.1 bt310.2.2.2.1 bt320.1 bt320.2.1 bt320.2.2.1 bt320.2.2.2 bt327.1 bt327.2.1 bt327.2.2.1 bt327.2.2.2.1)) else (laws_FnExactRun.j0 k a1 bt310.2.2.2.2 bt327.2.2.2.2 true a0_0 a0_1 a0_2 l0_3 bt310.1 bt310.2.1 bt310.2.2.1 bt310.2.2.2.1 bt320.1 bt320.2.1 bt320.2.2.1 bt320.2.2.2 bt327.1 bt327.2.1 bt327.2.2.1 bt327.2.2.2.1))))))))) = some true := h
 clear h
 replace H := Option.bind_eq_some_iff.mp H
 obtain ⟨t303, A30, H⟩ := H
 replace H : (if t303 < 0 then (some true) else ((laws_toBelt.f k a0_0 a0_1 a0_2 l0_3).bind fun bt304 => ((spec_Run.f k bt304.1 bt304.2.1 bt304.2.2.1 bt304.2.2.2 a1).bind fun bt310 => ((laws_toBelt.f k a0_0 a0_1 a0_2 l0_3).bind fun bt320 => ((impl_Run.f k bt320.1 bt320.2.1 bt320.2.2.1 bt320.2.2.2 a1).bind fun bt327 => ((laws_eqBelt.f k bt327.1 bt327.2.1 bt327.2.2.1 bt327.2.2.2.1 bt310.1 bt310.2.1 bt310.2.2.1 bt310.2.2.2.1).bind fun t337 => (if t337 = true then ((laws_eqExitS.f k bt327.2.2.2.2 bt310.2.2.2.2).bind fun t338 => (laws_FnExactRun.j0 k a1 bt310.2.2.2.2 bt327.2.2.2.2 (!t338) a0_0 a0_1 a0_2 l0_3 bt310.1 bt310.2.1 bt310.2.2.1 bt310.2.2.2.1 bt320.1 bt320.2.1 bt320.2.2.1 bt320.2.2.2 bt327.1 bt327.2.1 bt327.2.2.1 bt327.2.2.2.1)) else (laws_FnExactRun.j0 k a1 bt310.2.2.2.2 bt327.2.2.2.2 true a0_0 a0_1 a0_2 l0_3 bt310.1 bt310.2.1 bt310.2.2.1 bt310.2.2.2.1 bt320.1 bt320.2.1 bt320.2.2.1 bt320.2.2.2 bt327.1 bt327.2.1 bt327.2.2.1 bt327.2.2.2.1)))))))) = some true := H
 have A3 := uD A30
 clear A30
 by_cases c4 : t303 < 0
 ·rw [if_pos c4] at H
  have c4b0 : decide (t303 < 0) = true := decide_eq_true c4
  clear c4
  have HT := Option.some.inj H
  clear H
  go_enter Try.func10, Try.ntmps10
  go_wp2_with (first | ((with_reducible refine gate_dst (N := 2) rfl ?_); refine box_event ?hg (N := 2) ?hd (cs := #[.int .i64 a0_0, .int .i64 a0_1, .bool a0_2, .slice A0_3 l0_3.length c0_3]) (t := 24) ?hr ?_; (case hd => rfl); (case hg => rfl); (case hr => first | (go_simp; done) | (go_simp; rfl)); intro gb302 hg w5 hbox hb; have BK302 := uD (hbox); have GW302 := uD ((by rw [hg]; exact (uN (pb HB)) : w.heap.size ≤ gb302)); have GE302 := uD ((by rw [hg]; exact (uN (pb HB)) : w.heap.size ≤ gb302)); replace HB := uD (uO (pb HB) hb); clear hb hbox hg; obtain ⟨hcz6_0, hcz6_1, hcz6_2, hcz6_3, hfz6_0, hfz6_1, hfz6_2, hfz6_3⟩ := cz4 BK302) | ((with_reducible refine gate_callee (f := 15) rfl ?_); refine goesL_ (some 18) rfl rfl Try.func15 (by kernel_rfl) rfl #[.agg #[.int .i64 a0_0, .int .i64 a0_1, .bool a0_2, .slice A0_3 l0_3.length c0_3], .int .i64 1048576] rfl (by (try simp only [List.map_toArray, List.map_cons, List.map_nil]); first | done | rfl | (simp only [List.length_drop, List.length_take]; rfl)) ?_; (with_reducible refine (laws_szBelt.calls a0_0 a0_1 a0_2 _ _ l0_3 1048576 t303 _ ?side1 ?side2 A3.out).mono ?_); (case side1 => repeat (first | exact (Kd.C_below HR0_3.out HB.out) | (with_reducible refine Kd.C_alloc ?_ _) | (with_reducible refine Kd.C_drewN ?_ _) | (with_reducible refine Kd.C_drew ?_))); (case side2 => exact HC0_3.out); rintro e w7 ⟨rfl, hb⟩; refine ⟨_, rfl, ?_⟩; replace BK302 := uD (blk_below (pk BK302) hb); replace HB := uD (uO (pb HB) hb); (try clear hb); (try clear hb2); (try clear hk); (try clear hi)))
  go_ret
  exact ⟨by first | rfl | (simp [errW_none, errW_some] <;> rfl) | (simp [*, errW_none, errW_some] <;> rfl), pb HB⟩
 ·rw [if_neg c4] at H
  have c4b0 : decide (t303 < 0) = false := decide_eq_false c4
  clear c4
  replace H := Option.bind_eq_some_iff.mp H
  obtain ⟨⟨t304, t305, t306, t307⟩, A80, H⟩ := H
  replace H : ((spec_Run.f k t304 t305 t306 t307 a1).bind fun bt310 => ((laws_toBelt.f k a0_0 a0_1 a0_2 l0_3).bind fun bt320 => ((impl_Run.f k bt320.1 bt320.2.1 bt320.2.2.1 bt320.2.2.2 a1).bind fun bt327 => ((laws_eqBelt.f k bt327.1 bt327.2.1 bt327.2.2.1 bt327.2.2.2.1 bt310.1 bt310.2.1 bt310.2.2.1 bt310.2.2.2.1).bind fun t337 => (if t337 = true then ((laws_eqExitS.f k bt327.2.2.2.2 bt310.2.2.2.2).bind fun t338 => (laws_FnExactRun.j0 k a1 bt310.2.2.2.2 bt327.2.2.2.2 (!t338) a0_0 a0_1 a0_2 l0_3 bt310.1 bt310.2.1 bt310.2.2.1 bt310.2.2.2.1 bt320.1 bt320.2.1 bt320.2.2.1 bt320.2.2.2 bt327.1 bt327.2.1 bt327.2.2.1 bt327.2.2.2.1)) else (laws_FnExactRun.j0 k a1 bt310.2.2.2.2 bt327.2.2.2.2 true a0_0 a0_1 a0_2 l0_3 bt310.1 bt310.2.1 bt310.2.2.1 bt310.2.2.2.1 bt320.1 bt320.2.1 bt320.2.2.1 bt320.2.2.2 bt327.1 bt327.2.1 bt327.2.2.1 bt327.2.2.2.1)))))) = some true := H
  have A8 := uD A80
  clear A80
  replace H := Option.bind_eq_some_iff.mp H
  obtain ⟨⟨t310, t311, t312, t313, t316⟩, A90, H⟩ := H
  replace H : ((laws_toBelt.f k a0_0 a0_1 a0_2 l0_3).bind fun bt320 => ((impl_Run.f k bt320.1 bt320.2.1 bt320.2.2.1 bt320.2.2.2 a1).bind fun bt327 => ((laws_eqBelt.f k bt327.1 bt327.2.1 bt327.2.2.1 bt327.2.2.2.1 t310 t311 t312 t313).bind fun t337 => (if t337 = true then ((laws_eqExitS.f k bt327.2.2.2.2 t316).bind fun t338 => (laws_FnExactRun.j0 k a1 t316 bt327.2.2.2.2 (!t338) a0_0 a0_1 a0_2 l0_3 t310 t311 t312 t313 bt320.1 bt320.2.1 bt320.2.2.1 bt320.2.2.2 bt327.1 bt327.2.1 bt327.2.2.1 bt327.2.2.2.1)) else (laws_FnExactRun.j0 k a1 t316 bt327.2.2.2.2 true a0_0 a0_1 a0_2 l0_3 t310 t311 t312 t313 bt320.1 bt320.2.1 bt320.2.2.1 bt320.2.2.2 bt327.1 bt327.2.1 bt327.2.2.1 bt327.2.2.2.1))))) = some true := H
  have A9 := uD A90
  clear A90
  replace H := Option.bind_eq_some_iff.mp H
  obtain ⟨⟨t320, t321, t322, t323⟩, A100, H⟩ := H
  replace H : ((impl_Run.f k t320 t321 t322 t323 a1).bind fun bt327 => ((laws_eqBelt.f k bt327.1 bt327.2.1 bt327.2.2.1 bt327.2.2.2.1 t310 t311 t312 t313).bind fun t337 => (if t337 = true then ((laws_eqExitS.f k bt327.2.2.2.2 t316).bind fun t338 => (laws_FnExactRun.j0 k a1 t316 bt327.2.2.2.2 (!t338) a0_0 a0_1 a0_2 l0_3 t310 t311 t312 t313 t320 t321 t322 t323 bt327.1 bt327.2.1 bt327.2.2.1 bt327.2.2.2.1)) else (laws_FnExactRun.j0 k a1 t316 bt327.2.2.2.2 true a0_0 a0_1 a0_2 l0_3 t310 t311 t312 t313 t320 t321 t322 t323 bt327.1 bt327.2.1 bt327.2.2.1 bt327.2.2.2.1)))) = some true := H
  have A10 := uD A100
  clear A100
  replace H := Option.bind_eq_some_iff.mp H
  obtain ⟨⟨t327, t328, t329, t330, t333⟩, A110, H⟩ := H
  replace H : ((laws_eqBelt.f k t327 t328 t329 t330 t310 t311 t312 t313).bind fun t337 => (if t337 = true then ((laws_eqExitS.f k t333 t316).bind fun t338 => (laws_FnExactRun.j0 k a1 t316 t333 (!t338) a0_0 a0_1 a0_2 l0_3 t310 t311 t312 t313 t320 t321 t322 t323 t327 t328 t329 t330)) else (laws_FnExactRun.j0 k a1 t316 t333 true a0_0 a0_1 a0_2 l0_3 t310 t311 t312 t313 t320 t321 t322 t323 t327 t328 t329 t330))) = some true := H
  have A11 := uD A110
  clear A110
  have HC12 := uD H
  clear H
  go_enter Try.func10, Try.ntmps10
  go_upto_region 8 with (first | ((with_reducible refine gate_dst (N := 2) rfl ?_); refine box_event ?hg (N := 2) ?hd (cs := #[.int .i64 a0_0, .int .i64 a0_1, .bool a0_2, .slice A0_3 l0_3.length c0_3]) (t := 24) ?hr ?_; (case hd => rfl); (case hg => rfl); (case hr => first | (go_simp; done) | (go_simp; rfl)); intro gb302 hg w13 hbox hb; have BK302 := uD (hbox); have GW302 := uD ((by rw [hg]; exact (uN (pb HB)) : w.heap.size ≤ gb302)); have GE302 := uD ((by rw [hg]; exact (uN (pb HB)) : w.heap.size ≤ gb302)); replace HB := uD (uO (pb HB) hb); clear hb hbox hg; obtain ⟨hcz14_0, hcz14_1, hcz14_2, hcz14_3, hfz14_0, hfz14_1, hfz14_2, hfz14_3⟩ := cz4 BK302) | ((with_reducible refine gate_callee (f := 15) rfl ?_); refine goesL_ (some 18) rfl rfl Try.func15 (by kernel_rfl) rfl #[.agg #[.int .i64 a0_0, .int .i64 a0_1, .bool a0_2, .slice A0_3 l0_3.length c0_3], .int .i64 1048576] rfl (by (try simp only [List.map_toArray, List.map_cons, List.map_nil]); first | done | rfl | (simp only [List.length_drop, List.length_take]; rfl)) ?_; (with_reducible refine (laws_szBelt.calls a0_0 a0_1 a0_2 _ _ l0_3 1048576 t303 _ ?side1 ?side2 A3.out).mono ?_); (case side1 => repeat (first | exact (Kd.C_below HR0_3.out HB.out) | (with_reducible refine Kd.C_alloc ?_ _) | (with_reducible refine Kd.C_drewN ?_ _) | (with_reducible refine Kd.C_drew ?_))); (case side2 => exact HC0_3.out); rintro e w15 ⟨rfl, hb⟩; refine ⟨_, rfl, ?_⟩; replace BK302 := uD (blk_below (pk BK302) hb); replace HB := uD (uO (pb HB) hb); (try clear hb); (try clear hb2); (try clear hk); (try clear hi); obtain ⟨hcz16_0, hcz16_1, hcz16_2, hcz16_3, hfz16_0, hfz16_1, hfz16_2, hfz16_3⟩ := cz4 BK302) | ((with_reducible refine gate_callee (f := 17) rfl ?_); refine goesL_ (some 23) rfl rfl Try.func17 (by kernel_rfl) rfl #[.agg #[.int .i64 a0_0, .int .i64 a0_1, .bool a0_2, .slice A0_3 l0_3.length c0_3]] rfl (by (try simp only [List.map_toArray, List.map_cons, List.map_nil]); first | done | rfl | (simp only [List.length_drop, List.length_take]; rfl)) ?_; (with_reducible refine (laws_toBelt.calls k a0_0 a0_1 a0_2 _ _ l0_3 t304 t305 t306 t307 _ ?side1 ?side2 A8.out).mono ?_); (case side1 => repeat (first | exact (Kd.C_below HR0_3.out HB.out) | (with_reducible refine Kd.C_alloc ?_ _) | (with_reducible refine Kd.C_drewN ?_ _) | (with_reducible refine Kd.C_drew ?_))); (case side2 => exact HC0_3.out); rintro e w17 ⟨v308, rfl, ho0, hb⟩; refine ⟨_, rfl, ?_⟩; have HO309 := uD (Kd.R_lower ho0 (uN (pb HB))); replace BK302 := uD (blk_below (pk BK302) hb); replace HB := uD (uO (pb HB) hb); (try clear hb); (try clear hb2); (try clear hk); (try clear hi); (try clear ho0); obtain ⟨Ao18, co18, eo18⟩ := Kd.R_slice HO309.out; subst eo18) | ((with_reducible refine gate_callee (f := 34) rfl ?_); refine goesL_ (some 25) rfl rfl Try.func34 (by kernel_rfl) rfl #[.agg #[.int .i64 t304, .int .i64 t305, .bool t306, .slice Ao18 t307.length co18], .int .i64 a1] rfl (by (try simp only [List.map_toArray, List.map_cons, List.map_nil]); first | done | rfl | (simp only [List.length_drop, List.length_take]; rfl)) ?_; (with_reducible refine (spec_Run.calls k t304 t305 t306 _ _ t307 a1 t310 t311 t312 t313 t316 _ ?side1 ?side2 A9.out).mono ?_); (case side1 => repeat (first | exact (Kd.R_reads' HO309.out).2.2 | (with_reducible refine Kd.C_alloc ?_ _) | (with_reducible refine Kd.C_drewN ?_ _) | (with_reducible refine Kd.C_drew ?_))); (case side2 => exact (Kd.R_reads' HO309.out).2.1); rintro e w19 ⟨v314, v317, rfl, ho0, ho1, hb⟩; refine ⟨_, rfl, ?_⟩; have HO315 := uD (Kd.R_lower (Kd.R_new' ho0 (Kd.R_lt (pr HO309))) (uN (pb HB))); replace HO309 := uD (Kd.R_elder' (pr HO309) (Kd.R_base ho0) hb); have HO318 := uD (Kd.R_lower ho1 (uN (pb HB))); replace BK302 := uD (blk_below (pk BK302) hb); replace HB := uD (uO (pb HB) hb); (try clear hb); (try clear hb2); (try clear hk); (try clear hi); (try clear ho0); (try clear ho1)) | ((with_reducible refine gate_dst (N := 6) rfl ?_); refine box_event ?hg (N := 6) ?hd (cs := #[.int .i64 0, .int .i64 0, .bool false, .slice none 0 0]) (t := 29) ?hr ?_; (case hd => rfl); (case hg => rfl); (case hr => first | (go_simp; done) | (go_simp; rfl)); intro gb319 hg w20 hbox hb; replace HO309 := uD (Kd.R_below (pr HO309) hb); replace HO315 := uD (Kd.R_below (pr HO315) hb); replace HO318 := uD (Kd.R_below (pr HO318) hb); have BK319 := uD (hbox); have GW319 := uD ((by rw [hg]; exact (uN (pb HB)) : w.heap.size ≤ gb319)); have GE319 := uD ((by rw [hg]; exact (uN (pb HB)) : w.heap.size ≤ gb319)); replace HB := uD (uO (pb HB) hb); have NB302_319 := uD ((by rw [hg]; exact Nat.ne_of_lt (blk_lt (g := gb302) (o := .cells #[.int .i64 a0_0, .int .i64 a0_1, .bool a0_2, .slice A0_3 l0_3.length c0_3] 24 (0, 0)) (pk BK302)) : gb302 ≠ gb319)); have NB319_302 := uD ((by rw [hg]; exact Nat.ne_of_gt (blk_lt (g := gb302) (o := .cells #[.int .i64 a0_0, .int .i64 a0_1, .bool a0_2, .slice A0_3 l0_3.length c0_3] 24 (0, 0)) (pk BK302)) : gb319 ≠ gb302)); replace BK302 := uD (blk_below (pk BK302) hb); clear hb hbox hg; have hnb21 := NB319_302.out; have hnc21 := NB302_319.out; obtain ⟨hcz22_0, hcz22_1, hcz22_2, hcz22_3, hfz22_0, hfz22_1, hfz22_2, hfz22_3⟩ := cz4 BK319; obtain ⟨Ao23, co23, eo23⟩ := Kd.R_slice HO315.out; subst eo23; obtain ⟨hcz24_0, hcz24_1, hcz24_2, hcz24_3, hfz24_0, hfz24_1, hfz24_2, hfz24_3⟩ := cz4 BK302) | ((with_reducible refine gate_callee (f := 17) rfl ?_); refine goesL_ (some 29) rfl rfl Try.func17 (by kernel_rfl) rfl #[.agg #[.int .i64 a0_0, .int .i64 a0_1, .bool a0_2, .slice A0_3 l0_3.length c0_3]] rfl (by (try simp only [List.map_toArray, List.map_cons, List.map_nil]); first | done | rfl | (simp only [List.length_drop, List.length_take]; rfl)) ?_; (with_reducible refine (laws_toBelt.calls k a0_0 a0_1 a0_2 _ _ l0_3 t320 t321 t322 t323 _ ?side1 ?side2 A10.out).mono ?_); (case side1 => exact Kd.C_below HR0_3.out (pb HB)); (case side2 => exact HC0_3.out); rintro e w25 ⟨v324, rfl, ho0, hb⟩; refine ⟨_, rfl, ?_⟩; replace HO318 := uD (Kd.R_below (by (with_reducible repeat (first | apply uU | apply uS | apply uT)); exact (uX (uV (p := ⟨gb319, 3, none⟩) (uV (p := ⟨gb319, 2, none⟩) (uV (p := ⟨gb319, 1, none⟩) (uV (p := ⟨gb319, 0, none⟩) (uW HO318.out BK319.out (by decide)) (fun _ hk => hk.2) (.int .i64 t310)) (fun _ hk => hk.2) (.int .i64 t311)) (fun _ hk => hk.2) (.bool t312)) (fun _ hk => hk.2) (.slice Ao23 t313.length co23)) (fun _ h_ => h_.1))) hb); have HO325 := uD (Kd.R_lower (Kd.R_new' (Kd.R_new' ho0 (Kd.R_lt (by (with_reducible repeat (first | apply uU | apply uS | apply uT)); exact (uX (uV (p := ⟨gb319, 3, none⟩) (uV (p := ⟨gb319, 2, none⟩) (uV (p := ⟨gb319, 1, none⟩) (uV (p := ⟨gb319, 0, none⟩) (uW HO309.out BK319.out (by decide)) (fun _ hk => hk.2) (.int .i64 t310)) (fun _ hk => hk.2) (.int .i64 t311)) (fun _ hk => hk.2) (.bool t312)) (fun _ hk => hk.2) (.slice Ao23 t313.length co23)) (fun _ h_ => h_.1))))) (Kd.R_lt (by (with_reducible repeat (first | apply uU | apply uS | apply uT)); exact (uX (uV (p := ⟨gb319, 3, none⟩) (uV (p := ⟨gb319, 2, none⟩) (uV (p := ⟨gb319, 1, none⟩) (uV (p := ⟨gb319, 0, none⟩) (uW HO315.out BK319.out (by decide)) (fun _ hk => hk.2) (.int .i64 t310)) (fun _ hk => hk.2) (.int .i64 t311)) (fun _ hk => hk.2) (.bool t312)) (fun _ hk => hk.2) (.slice Ao23 t313.length co23)) (fun _ h_ => h_.1))))) (uN (pb HB))); replace HO309 := uD (Kd.R_elder' (by (with_reducible repeat (first | apply uU | apply uS | apply uT)); exact (uX (uV (p := ⟨gb319, 3, none⟩) (uV (p := ⟨gb319, 2, none⟩) (uV (p := ⟨gb319, 1, none⟩) (uV (p := ⟨gb319, 0, none⟩) (uW HO309.out BK319.out (by decide)) (fun _ hk => hk.2) (.int .i64 t310)) (fun _ hk => hk.2) (.int .i64 t311)) (fun _ hk => hk.2) (.bool t312)) (fun _ hk => hk.2) (.slice Ao23 t313.length co23)) (fun _ h_ => h_.1))) (Kd.R_base ho0) hb); replace HO315 := uD (Kd.R_elder' (by (with_reducible repeat (first | apply uU | apply uS | apply uT)); exact (uX (uV (p := ⟨gb319, 3, none⟩) (uV (p := ⟨gb319, 2, none⟩) (uV (p := ⟨gb319, 1, none⟩) (uV (p := ⟨gb319, 0, none⟩) (uW HO315.out BK319.out (by decide)) (fun _ hk => hk.2) (.int .i64 t310)) (fun _ hk => hk.2) (.int .i64 t311)) (fun _ hk => hk.2) (.bool t312)) (fun _ hk => hk.2) (.slice Ao23 t313.length co23)) (fun _ h_ => h_.1))) (Kd.R_base ho0) hb); replace BK302 := uD (blk_below (g := gb302) (o := .cells #[.int .i64 a0_0, .int .i64 a0_1, .bool a0_2, .slice A0_3 l0_3.length c0_3] 24 (0, 0)) (by (with_reducible repeat (first | refine uH ?_ _ | refine uJ ?_ | refine uG ?_ _)); refine uQ ?_ NB302_319.out _; (with_reducible repeat (first | refine uH ?_ _ | refine uJ ?_ | refine uG ?_ _)); refine uQ ?_ NB302_319.out _; (with_reducible repeat (first | refine uH ?_ _ | refine uJ ?_ | refine uG ?_ _)); refine uQ ?_ NB302_319.out _; (with_reducible repeat (first | refine uH ?_ _ | refine uJ ?_ | refine uG ?_ _)); refine uQ ?_ NB302_319.out _; (with_reducible repeat (first | refine uH ?_ _ | refine uJ ?_ | refine uG ?_ _)); exact BK302.out) hb); replace BK319 := uD (blk_below (g := gb319) (o := .cells #[.int .i64 t310, .int .i64 t311, .bool t312, .slice Ao23 t313.length co23] 29 (0, 0)) (by (with_reducible repeat (first | refine uH ?_ _ | refine uJ ?_ | refine uG ?_ _)); refine uP (cs := #[.int .i64 t310, .int .i64 t311, .bool t312, .slice none 0 0]) ?_ 3 _ rfl; (with_reducible repeat (first | refine uH ?_ _ | refine uJ ?_ | refine uG ?_ _)); refine uP (cs := #[.int .i64 t310, .int .i64 t311, .bool false, .slice none 0 0]) ?_ 2 _ rfl; (with_reducible repeat (first | refine uH ?_ _ | refine uJ ?_ | refine uG ?_ _)); refine uP (cs := #[.int .i64 t310, .int .i64 0, .bool false, .slice none 0 0]) ?_ 1 _ rfl; (with_reducible repeat (first | refine uH ?_ _ | refine uJ ?_ | refine uG ?_ _)); refine uP (cs := #[.int .i64 0, .int .i64 0, .bool false, .slice none 0 0]) ?_ 0 _ rfl; (with_reducible repeat (first | refine uH ?_ _ | refine uJ ?_ | refine uG ?_ _)); exact BK319.out) hb); replace HB := uD (uO (pb HB) hb); (try clear hb); (try clear hb2); (try clear hk); (try clear hi); (try clear ho0)) | ((with_reducible refine gate_dst (N := 8) rfl ?_); refine box_event ?hg (N := 8) ?hd (cs := #[.int .i64 0, .int .i64 0, .bool false, .slice none 0 0]) (t := 29) ?hr ?_; (case hd => rfl); (case hg => rfl); (case hr => first | (go_simp; done) | (go_simp; rfl)); intro gb326 hg w26 hbox hb; replace HO309 := uD (Kd.R_below (pr HO309) hb); replace HO315 := uD (Kd.R_below (pr HO315) hb); replace HO318 := uD (Kd.R_below (pr HO318) hb); replace HO325 := uD (Kd.R_below (pr HO325) hb); have BK326 := uD (hbox); have GW326 := uD ((by rw [hg]; exact (uN (pb HB)) : w.heap.size ≤ gb326)); have GE326 := uD ((by rw [hg]; exact (uN (pb HB)) : w.heap.size ≤ gb326)); replace HB := uD (uO (pb HB) hb); have NB302_326 := uD ((by rw [hg]; exact Nat.ne_of_lt (blk_lt (g := gb302) (o := .cells #[.int .i64 a0_0, .int .i64 a0_1, .bool a0_2, .slice A0_3 l0_3.length c0_3] 24 (0, 0)) (pk BK302)) : gb302 ≠ gb326)); have NB326_302 := uD ((by rw [hg]; exact Nat.ne_of_gt (blk_lt (g := gb302) (o := .cells #[.int .i64 a0_0, .int .i64 a0_1, .bool a0_2, .slice A0_3 l0_3.length c0_3] 24 (0, 0)) (pk BK302)) : gb326 ≠ gb302)); replace BK302 := uD (blk_below (pk BK302) hb); have NB319_326 := uD ((by rw [hg]; exact Nat.ne_of_lt (blk_lt (g := gb319) (o := .cells #[.int .i64 t310, .int .i64 t311, .bool t312, .slice Ao23 t313.length co23] 29 (0, 0)) (pk BK319)) : gb319 ≠ gb326)); have NB326_319 := uD ((by rw [hg]; exact Nat.ne_of_gt (blk_lt (g := gb319) (o := .cells #[.int .i64 t310, .int .i64 t311, .bool t312, .slice Ao23 t313.length co23] 29 (0, 0)) (pk BK319)) : gb326 ≠ gb319)); replace BK319 := uD (blk_below (pk BK319) hb); clear hb hbox hg; have hnb27 := NB326_302.out; have hnc27 := NB302_326.out; have hnb28 := NB326_319.out; have hnc28 := NB319_326.out; obtain ⟨hcz29_0, hcz29_1, hcz29_2, hcz29_3, hfz29_0, hfz29_1, hfz29_2, hfz29_3⟩ := cz4 BK326; obtain ⟨Ao30, co30, eo30⟩ := Kd.R_slice HO325.out; subst eo30) | ((with_reducible refine gate_callee (f := 35) rfl ?_); refine goesL_ (some 33) rfl rfl Try.func35 (by kernel_rfl) rfl #[.agg #[.int .i64 t320, .int .i64 t321, .bool t322, .slice Ao30 t323.length co30], .int .i64 a1] rfl (by (try simp only [List.map_toArray, List.map_cons, List.map_nil]); first | done | rfl | (simp only [List.length_drop, List.length_take]; rfl)) ?_; (with_reducible refine (impl_Run.calls k t320 t321 t322 _ _ t323 a1 t327 t328 t329 t330 t333 _ ?side1 ?side2 A11.out).mono ?_); (case side1 => refine (Kd.R_reads' (e := 53) (base := w.heap.size) (ok := fun k_ => ((True ∧ some k_ ≠ (.slice Ao18 t307.length co18 : Value).ownBlock) ∧ some k_ ≠ (.slice Ao23 t313.length co23 : Value).ownBlock)) (n := t323.length) (c := co30) ?_).2.2; exact (by (with_reducible repeat (first | apply uU | apply uS | apply uT)); exact (uX (uV (p := ⟨gb326, 3, none⟩) (uV (p := ⟨gb326, 2, none⟩) (uV (p := ⟨gb326, 1, none⟩) (uV (p := ⟨gb326, 0, none⟩) (uW HO325.out BK326.out (by decide)) (fun _ hk => hk.2) (.int .i64 t320)) (fun _ hk => hk.2) (.int .i64 t321)) (fun _ hk => hk.2) (.bool t322)) (fun _ hk => hk.2) (.slice Ao30 t323.length co30)) (fun _ h_ => h_.1)))); (case side2 => exact (Kd.R_reads' HO325.out).2.1); rintro e w31 ⟨v331, v334, rfl, ho0, ho1, hb⟩; refine ⟨_, rfl, ?_⟩; have HO332 := uD (Kd.Q_lower (Kd.Q_new' (Kd.Q_new' (Kd.Q_new' ho0 (Kd.R_lt (by (with_reducible repeat (first | apply uU | apply uS | apply uT)); exact (uX (uV (p := ⟨gb326, 3, none⟩) (uV (p := ⟨gb326, 2, none⟩) (uV (p := ⟨gb326, 1, none⟩) (uV (p := ⟨gb326, 0, none⟩) (uW HO309.out BK326.out (by decide)) (fun _ hk => hk.2) (.int .i64 t320)) (fun _ hk => hk.2) (.int .i64 t321)) (fun _ hk => hk.2) (.bool t322)) (fun _ hk => hk.2) (.slice Ao30 t323.length co30)) (fun _ h_ => h_.1))))) (Kd.R_lt (by (with_reducible repeat (first | apply uU | apply uS | apply uT)); exact (uX (uV (p := ⟨gb326, 3, none⟩) (uV (p := ⟨gb326, 2, none⟩) (uV (p := ⟨gb326, 1, none⟩) (uV (p := ⟨gb326, 0, none⟩) (uW HO315.out BK326.out (by decide)) (fun _ hk => hk.2) (.int .i64 t320)) (fun _ hk => hk.2) (.int .i64 t321)) (fun _ hk => hk.2) (.bool t322)) (fun _ hk => hk.2) (.slice Ao30 t323.length co30)) (fun _ h_ => h_.1))))) (Kd.R_lt (by (with_reducible repeat (first | apply uU | apply uS | apply uT)); exact (uX (uV (p := ⟨gb326, 3, none⟩) (uV (p := ⟨gb326, 2, none⟩) (uV (p := ⟨gb326, 1, none⟩) (uV (p := ⟨gb326, 0, none⟩) (uW HO325.out BK326.out (by decide)) (fun _ hk => hk.2) (.int .i64 t320)) (fun _ hk => hk.2) (.int .i64 t321)) (fun _ hk => hk.2) (.bool t322)) (fun _ hk => hk.2) (.slice Ao30 t323.length co30)) (fun _ h_ => h_.1))))) (uN (pb HB))); replace HO309 := uD (Kd.R_elder' (by (with_reducible repeat (first | apply uU | apply uS | apply uT)); exact (uX (uV (p := ⟨gb326, 3, none⟩) (uV (p := ⟨gb326, 2, none⟩) (uV (p := ⟨gb326, 1, none⟩) (uV (p := ⟨gb326, 0, none⟩) (uW HO309.out BK326.out (by decide)) (fun _ hk => hk.2) (.int .i64 t320)) (fun _ hk => hk.2) (.int .i64 t321)) (fun _ hk => hk.2) (.bool t322)) (fun _ hk => hk.2) (.slice Ao30 t323.length co30)) (fun _ h_ => h_.1))) (Kd.Q_base ho0) hb); replace HO315 := uD (Kd.R_elder' (by (with_reducible repeat (first | apply uU | apply uS | apply uT)); exact (uX (uV (p := ⟨gb326, 3, none⟩) (uV (p := ⟨gb326, 2, none⟩) (uV (p := ⟨gb326, 1, none⟩) (uV (p := ⟨gb326, 0, none⟩) (uW HO315.out BK326.out (by decide)) (fun _ hk => hk.2) (.int .i64 t320)) (fun _ hk => hk.2) (.int .i64 t321)) (fun _ hk => hk.2) (.bool t322)) (fun _ hk => hk.2) (.slice Ao30 t323.length co30)) (fun _ h_ => h_.1))) (Kd.Q_base ho0) hb); replace HO325 := uD (Kd.R_elder' (by (with_reducible repeat (first | apply uU | apply uS | apply uT)); exact (uX (uV (p := ⟨gb326, 3, none⟩) (uV (p := ⟨gb326, 2, none⟩) (uV (p := ⟨gb326, 1, none⟩) (uV (p := ⟨gb326, 0, none⟩) (uW HO325.out BK326.out (by decide)) (fun _ hk => hk.2) (.int .i64 t320)) (fun _ hk => hk.2) (.int .i64 t321)) (fun _ hk => hk.2) (.bool t322)) (fun _ hk => hk.2) (.slice Ao30 t323.length co30)) (fun _ h_ => h_.1))) (Kd.Q_base ho0) hb); have HO335 := uD (Kd.R_lower (Kd.R_new' ho1 (Kd.R_lt (by (with_reducible repeat (first | apply uU | apply uS | apply uT)); exact (uX (uV (p := ⟨gb326, 3, none⟩) (uV (p := ⟨gb326, 2, none⟩) (uV (p := ⟨gb326, 1, none⟩) (uV (p := ⟨gb326, 0, none⟩) (uW HO318.out BK326.out (by decide)) (fun _ hk => hk.2) (.int .i64 t320)) (fun _ hk => hk.2) (.int .i64 t321)) (fun _ hk => hk.2) (.bool t322)) (fun _ hk => hk.2) (.slice Ao30 t323.length co30)) (fun _ h_ => h_.1))))) (uN (pb HB))); replace HO318 := uD (Kd.R_elder' (by (with_reducible repeat (first | apply uU | apply uS | apply uT)); exact (uX (uV (p := ⟨gb326, 3, none⟩) (uV (p := ⟨gb326, 2, none⟩) (uV (p := ⟨gb326, 1, none⟩) (uV (p := ⟨gb326, 0, none⟩) (uW HO318.out BK326.out (by decide)) (fun _ hk => hk.2) (.int .i64 t320)) (fun _ hk => hk.2) (.int .i64 t321)) (fun _ hk => hk.2) (.bool t322)) (fun _ hk => hk.2) (.slice Ao30 t323.length co30)) (fun _ h_ => h_.1))) (Kd.R_base ho1) hb); replace BK302 := uD (blk_below (g := gb302) (o := .cells #[.int .i64 a0_0, .int .i64 a0_1, .bool a0_2, .slice A0_3 l0_3.length c0_3] 24 (0, 0)) (by (with_reducible repeat (first | refine uH ?_ _ | refine uJ ?_ | refine uG ?_ _)); refine uQ ?_ NB302_326.out _; (with_reducible repeat (first | refine uH ?_ _ | refine uJ ?_ | refine uG ?_ _)); refine uQ ?_ NB302_326.out _; (with_reducible repeat (first | refine uH ?_ _ | refine uJ ?_ | refine uG ?_ _)); refine uQ ?_ NB302_326.out _; (with_reducible repeat (first | refine uH ?_ _ | refine uJ ?_ | refine uG ?_ _)); refine uQ ?_ NB302_326.out _; (with_reducible repeat (first | refine uH ?_ _ | refine uJ ?_ | refine uG ?_ _)); exact BK302.out) hb); replace BK319 := uD (blk_below (g := gb319) (o := .cells #[.int .i64 t310, .int .i64 t311, .bool t312, .slice Ao23 t313.length co23] 29 (0, 0)) (by (with_reducible repeat (first | refine uH ?_ _ | refine uJ ?_ | refine uG ?_ _)); refine uQ ?_ NB319_326.out _; (with_reducible repeat (first | refine uH ?_ _ | refine uJ ?_ | refine uG ?_ _)); refine uQ ?_ NB319_326.out _; (with_reducible repeat (first | refine uH ?_ _ | refine uJ ?_ | refine uG ?_ _)); refine uQ ?_ NB319_326.out _; (with_reducible repeat (first | refine uH ?_ _ | refine uJ ?_ | refine uG ?_ _)); refine uQ ?_ NB319_326.out _; (with_reducible repeat (first | refine uH ?_ _ | refine uJ ?_ | refine uG ?_ _)); exact BK319.out) hb); replace BK326 := uD (blk_below (g := gb326) (o := .cells #[.int .i64 t320, .int .i64 t321, .bool t322, .slice Ao30 t323.length co30] 29 (0, 0)) (by (with_reducible repeat (first | refine uH ?_ _ | refine uJ ?_ | refine uG ?_ _)); refine uP (cs := #[.int .i64 t320, .int .i64 t321, .bool t322, .slice none 0 0]) ?_ 3 _ rfl; (with_reducible repeat (first | refine uH ?_ _ | refine uJ ?_ | refine uG ?_ _)); refine uP (cs := #[.int .i64 t320, .int .i64 t321, .bool false, .slice none 0 0]) ?_ 2 _ rfl; (with_reducible repeat (first | refine uH ?_ _ | refine uJ ?_ | refine uG ?_ _)); refine uP (cs := #[.int .i64 t320, .int .i64 0, .bool false, .slice none 0 0]) ?_ 1 _ rfl; (with_reducible repeat (first | refine uH ?_ _ | refine uJ ?_ | refine uG ?_ _)); refine uP (cs := #[.int .i64 0, .int .i64 0, .bool false, .slice none 0 0]) ?_ 0 _ rfl; (with_reducible repeat (first | refine uH ?_ _ | refine uJ ?_ | refine uG ?_ _)); exact BK326.out) hb); replace HB := uD (uO (pb HB) hb); (try clear hb); (try clear hb2); (try clear hk); (try clear hi); (try clear ho0); (try clear ho1)) | ((with_reducible refine gate_dst (N := 9) rfl ?_); refine box_event ?hg (N := 9) ?hd (cs := #[.int .i64 0, .int .i64 0, .bool false, .slice none 0 0]) (t := 29) ?hr ?_; (case hd => rfl); (case hg => rfl); (case hr => first | (go_simp; done) | (go_simp; rfl)); intro gb336 hg w32 hbox hb; replace HO309 := uD (Kd.R_below (pr HO309) hb); replace HO315 := uD (Kd.R_below (pr HO315) hb); replace HO318 := uD (Kd.R_below (pr HO318) hb); replace HO325 := uD (Kd.R_below (pr HO325) hb); replace HO332 := uD (Kd.Q_below (pq HO332) hb); replace HO335 := uD (Kd.R_below (pr HO335) hb); have BK336 := uD (hbox); have GW336 := uD ((by rw [hg]; exact (uN (pb HB)) : w.heap.size ≤ gb336)); have GE336 := uD ((by rw [hg]; exact (uN (pb HB)) : w.heap.size ≤ gb336)); replace HB := uD (uO (pb HB) hb); have NB302_336 := uD ((by rw [hg]; exact Nat.ne_of_lt (blk_lt (g := gb302) (o := .cells #[.int .i64 a0_0, .int .i64 a0_1, .bool a0_2, .slice A0_3 l0_3.length c0_3] 24 (0, 0)) (pk BK302)) : gb302 ≠ gb336)); have NB336_302 := uD ((by rw [hg]; exact Nat.ne_of_gt (blk_lt (g := gb302) (o := .cells #[.int .i64 a0_0, .int .i64 a0_1, .bool a0_2, .slice A0_3 l0_3.length c0_3] 24 (0, 0)) (pk BK302)) : gb336 ≠ gb302)); replace BK302 := uD (blk_below (pk BK302) hb); have NB319_336 := uD ((by rw [hg]; exact Nat.ne_of_lt (blk_lt (g := gb319) (o := .cells #[.int .i64 t310, .int .i64 t311, .bool t312, .slice Ao23 t313.length co23] 29 (0, 0)) (pk BK319)) : gb319 ≠ gb336)); have NB336_319 := uD ((by rw [hg]; exact Nat.ne_of_gt (blk_lt (g := gb319) (o := .cells #[.int .i64 t310, .int .i64 t311, .bool t312, .slice Ao23 t313.length co23] 29 (0, 0)) (pk BK319)) : gb336 ≠ gb319)); replace BK319 := uD (blk_below (pk BK319) hb); have NB326_336 := uD ((by rw [hg]; exact Nat.ne_of_lt (blk_lt (g := gb326) (o := .cells #[.int .i64 t320, .int .i64 t321, .bool t322, .slice Ao30 t323.length co30] 29 (0, 0)) (pk BK326)) : gb326 ≠ gb336)); have NB336_326 := uD ((by rw [hg]; exact Nat.ne_of_gt (blk_lt (g := gb326) (o := .cells #[.int .i64 t320, .int .i64 t321, .bool t322, .slice Ao30 t323.length co30] 29 (0, 0)) (pk BK326)) : gb336 ≠ gb326)); replace BK326 := uD (blk_below (pk BK326) hb); clear hb hbox hg; have hnb33 := NB336_302.out; have hnc33 := NB302_336.out; have hnb34 := NB336_319.out; have hnc34 := NB319_336.out; have hnb35 := NB336_326.out; have hnc35 := NB326_336.out; obtain ⟨hcz36_0, hcz36_1, hcz36_2, hcz36_3, hfz36_0, hfz36_1, hfz36_2, hfz36_3⟩ := cz4 BK336; obtain ⟨Ao37, co37, eo37, _⟩ := Kd.Q_slice HO332.out; subst eo37))
  (try simp only [uc, uA, uB, uC])
  go_cut [45] (fun v45 wc => ∃ (kq : Nat) (x45_11 : Bool), v45 = .bool x45_11 ∧ Aside0 (laws_FnExactRun.j0 kq a1 t316 t333 x45_11 a0_0 a0_1 a0_2 l0_3 t310 t311 t312 t313 t320 t321 t322 t323 t327 t328 t329 t330 = some true) ∧ Aside0 (kq ≤ k) ∧ Aside0 (Kd.R k56 56 wc w.heap.size (fun k_ => some k_ ≠ (v334 : Value).ownBlock) v317 t316) ∧ Aside0 (Kd.R k56 56 wc w.heap.size (fun k_ => some k_ ≠ (v317 : Value).ownBlock) v334 t333) ∧ Aside0 (Kd.Q k53 53 wc w.heap.size (fun k_ => some k_ ≠ ((.slice Ao30 t323.length co30) : Value).ownBlock ∧ some k_ ≠ ((.slice Ao37 t330.length co37) : Value).ownBlock) (.slice Ao23 t313.length co23) t313) ∧ Aside0 (Kd.Q k53 53 wc w.heap.size (fun k_ => some k_ ≠ ((.slice Ao23 t313.length co23) : Value).ownBlock ∧ some k_ ≠ ((.slice Ao37 t330.length co37) : Value).ownBlock) (.slice Ao30 t323.length co30) t323) ∧ Aside0 (Kd.Q k53 53 wc w.heap.size (fun k_ => some k_ ≠ ((.slice Ao23 t313.length co23) : Value).ownBlock ∧ some k_ ≠ ((.slice Ao30 t323.length co30) : Value).ownBlock) (.slice Ao37 t330.length co37) t330) ∧ Aside0 (wc.heap[gb302]? = some (.cells #[.int .i64 a0_0, .int .i64 a0_1, .bool a0_2, (.slice A0_3 l0_3.length c0_3)] 24 (0, 0))) ∧ Aside0 (wc.heap[gb319]? = some (.cells #[.int .i64 t310, .int .i64 t311, .bool t312, (.slice Ao23 t313.length co23)] 29 (0, 0))) ∧ Aside0 (wc.heap[gb326]? = some (.cells #[.int .i64 t320, .int .i64 t321, .bool t322, (.slice Ao30 t323.length co30)] 29 (0, 0))) ∧ Aside0 (wc.heap[gb336]? = some (.cells #[.int .i64 t327, .int .i64 t328, .bool t329, (.slice Ao37 t330.length co37)] 29 (0, 0))) ∧ Aside0 (Below w.heap.size w wc))
  case first =>
   have H := HC12.out
   clear HC12
   replace H := Option.bind_eq_some_iff.mp H
   obtain ⟨t337, A380, H⟩ := H
   replace H : (if t337 = true then ((laws_eqExitS.f k t333 t316).bind fun t338 => (laws_FnExactRun.j0 k a1 t316 t333 (!t338) a0_0 a0_1 a0_2 l0_3 t310 t311 t312 t313 t320 t321 t322 t323 t327 t328 t329 t330)) else (laws_FnExactRun.j0 k a1 t316 t333 true a0_0 a0_1 a0_2 l0_3 t310 t311 t312 t313 t320 t321 t322 t323 t327 t328 t329 t330)) = some true := H
   have A38 := uD A380
   clear A380
   by_cases c39 : t337 = true
   ·subst c39
    have H1 : ((laws_eqExitS.f k t333 t316).bind fun t338 => (laws_FnExactRun.j0 k a1 t316 t333 (!t338) a0_0 a0_1 a0_2 l0_3 t310 t311 t312 t313 t320 t321 t322 t323 t327 t328 t329 t330)) = some true := by rw [if_pos rfl] at H; first | done | exact H
    clear H
    have H := H1
    clear H1
    replace H := Option.bind_eq_some_iff.mp H
    obtain ⟨t338, A400, H⟩ := H
    replace H : (laws_FnExactRun.j0 k a1 t316 t333 (!t338) a0_0 a0_1 a0_2 l0_3 t310 t311 t312 t313 t320 t321 t322 t323 t327 t328 t329 t330) = some true := H
    have A40 := uD A400
    clear A400
    have H' := uD H
    clear H
    have hnb41 := NB336_302.out
    have hnc41 := NB302_336.out
    have hnb42 := NB336_319.out
    have hnc42 := NB319_336.out
    have hnb43 := NB336_326.out
    have hnc43 := NB326_336.out
    obtain ⟨hcz44_0, hcz44_1, hcz44_2, hcz44_3, hfz44_0, hfz44_1, hfz44_2, hfz44_3⟩ := cz4 BK336
    have hnb45 := NB319_302.out
    have hnc45 := NB302_319.out
    have hnb46 := NB319_326.out
    have hnc46 := NB326_319.out
    obtain ⟨hcz47_0, hcz47_1, hcz47_2, hcz47_3, hfz47_0, hfz47_1, hfz47_2, hfz47_3⟩ := cz4 BK319
    go_wp2_with (first | ((with_reducible refine gate_callee (f := 19) rfl ?_); refine goesL_ (some 38) rfl rfl Try.func19 (by kernel_rfl) rfl #[.agg #[.int .i64 t327, .int .i64 t328, .bool t329, .slice Ao37 t330.length co37], .agg #[.int .i64 t310, .int .i64 t311, .bool t312, .slice Ao23 t313.length co23]] rfl (by (try simp only [List.map_toArray, List.map_cons, List.map_nil]); first | done | rfl | (simp only [List.length_drop, List.length_take]; rfl)) ?_; (with_reducible refine (laws_eqBelt.calls k t327 t328 t329 _ _ t330 t310 t311 t312 _ _ t313 true _ ?side1 ?side2 ?side3 ?side4 A38.out).mono ?_); (case side1 => refine (Kd.Q_reads' (e := 53) (base := w.heap.size) (ok := fun k_ => (((True ∧ some k_ ≠ (.slice Ao18 t307.length co18 : Value).ownBlock) ∧ some k_ ≠ (.slice Ao23 t313.length co23 : Value).ownBlock) ∧ some k_ ≠ (.slice Ao30 t323.length co30 : Value).ownBlock)) (n := t330.length) (c := co37) ?_).2.2; exact (by (with_reducible repeat (first | apply Kd.Q_alloc | apply Kd.Q_drewN | apply Kd.Q_drew)); exact (Kd.Q_mono (Kd.Q_far (p := ⟨gb336, 3, none⟩) (Kd.Q_far (p := ⟨gb336, 2, none⟩) (Kd.Q_far (p := ⟨gb336, 1, none⟩) (Kd.Q_far (p := ⟨gb336, 0, none⟩) (Kd.Q_types HO332.out BK336.out (by decide)) (fun _ hk => hk.2) (.int .i64 t327)) (fun _ hk => hk.2) (.int .i64 t328)) (fun _ hk => hk.2) (.bool t329)) (fun _ hk => hk.2) (.slice Ao37 t330.length co37)) (fun _ h_ => h_.1)))); (case side2 => exact (Kd.Q_reads' HO332.out).2.1); (case side3 => refine (Kd.R_reads' (e := 53) (base := w.heap.size) (ok := fun k_ => (((True ∧ some k_ ≠ (.slice Ao18 t307.length co18 : Value).ownBlock) ∧ some k_ ≠ (.slice Ao30 t323.length co30 : Value).ownBlock) ∧ some k_ ≠ (.slice Ao37 t330.length co37 : Value).ownBlock)) (n := t313.length) (c := co23) ?_).2.2; exact (by (with_reducible repeat (first | apply uU | apply uS | apply uT)); exact (uX (uV (p := ⟨gb336, 3, none⟩) (uV (p := ⟨gb336, 2, none⟩) (uV (p := ⟨gb336, 1, none⟩) (uV (p := ⟨gb336, 0, none⟩) (uW HO315.out BK336.out (by decide)) (fun _ hk => hk.2) (.int .i64 t327)) (fun _ hk => hk.2) (.int .i64 t328)) (fun _ hk => hk.2) (.bool t329)) (fun _ hk => hk.2) (.slice Ao37 t330.length co37)) (fun _ h_ => h_.1)))); (case side4 => exact (Kd.R_reads' HO315.out).2.1); rintro e w48 ⟨rfl, hb⟩; refine ⟨_, rfl, ?_⟩; replace HO309 := uD (Kd.R_below (by (with_reducible repeat (first | apply uU | apply uS | apply uT)); exact (uX (uV (p := ⟨gb336, 3, none⟩) (uV (p := ⟨gb336, 2, none⟩) (uV (p := ⟨gb336, 1, none⟩) (uV (p := ⟨gb336, 0, none⟩) (uW HO309.out BK336.out (by decide)) (fun _ hk => hk.2) (.int .i64 t327)) (fun _ hk => hk.2) (.int .i64 t328)) (fun _ hk => hk.2) (.bool t329)) (fun _ hk => hk.2) (.slice Ao37 t330.length co37)) (fun _ h_ => h_.1))) hb); replace HO315 := uD (Kd.R_below (by (with_reducible repeat (first | apply uU | apply uS | apply uT)); exact (uX (uV (p := ⟨gb336, 3, none⟩) (uV (p := ⟨gb336, 2, none⟩) (uV (p := ⟨gb336, 1, none⟩) (uV (p := ⟨gb336, 0, none⟩) (uW HO315.out BK336.out (by decide)) (fun _ hk => hk.2) (.int .i64 t327)) (fun _ hk => hk.2) (.int .i64 t328)) (fun _ hk => hk.2) (.bool t329)) (fun _ hk => hk.2) (.slice Ao37 t330.length co37)) (fun _ h_ => h_.1))) hb); replace HO318 := uD (Kd.R_below (by (with_reducible repeat (first | apply uU | apply uS | apply uT)); exact (uX (uV (p := ⟨gb336, 3, none⟩) (uV (p := ⟨gb336, 2, none⟩) (uV (p := ⟨gb336, 1, none⟩) (uV (p := ⟨gb336, 0, none⟩) (uW HO318.out BK336.out (by decide)) (fun _ hk => hk.2) (.int .i64 t327)) (fun _ hk => hk.2) (.int .i64 t328)) (fun _ hk => hk.2) (.bool t329)) (fun _ hk => hk.2) (.slice Ao37 t330.length co37)) (fun _ h_ => h_.1))) hb); replace HO325 := uD (Kd.R_below (by (with_reducible repeat (first | apply uU | apply uS | apply uT)); exact (uX (uV (p := ⟨gb336, 3, none⟩) (uV (p := ⟨gb336, 2, none⟩) (uV (p := ⟨gb336, 1, none⟩) (uV (p := ⟨gb336, 0, none⟩) (uW HO325.out BK336.out (by decide)) (fun _ hk => hk.2) (.int .i64 t327)) (fun _ hk => hk.2) (.int .i64 t328)) (fun _ hk => hk.2) (.bool t329)) (fun _ hk => hk.2) (.slice Ao37 t330.length co37)) (fun _ h_ => h_.1))) hb); replace HO332 := uD (Kd.Q_below (by (with_reducible repeat (first | apply Kd.Q_alloc | apply Kd.Q_drewN | apply Kd.Q_drew)); exact (Kd.Q_mono (Kd.Q_far (p := ⟨gb336, 3, none⟩) (Kd.Q_far (p := ⟨gb336, 2, none⟩) (Kd.Q_far (p := ⟨gb336, 1, none⟩) (Kd.Q_far (p := ⟨gb336, 0, none⟩) (Kd.Q_types HO332.out BK336.out (by decide)) (fun _ hk => hk.2) (.int .i64 t327)) (fun _ hk => hk.2) (.int .i64 t328)) (fun _ hk => hk.2) (.bool t329)) (fun _ hk => hk.2) (.slice Ao37 t330.length co37)) (fun _ h_ => h_.1))) hb); replace HO335 := uD (Kd.R_below (by (with_reducible repeat (first | apply uU | apply uS | apply uT)); exact (uX (uV (p := ⟨gb336, 3, none⟩) (uV (p := ⟨gb336, 2, none⟩) (uV (p := ⟨gb336, 1, none⟩) (uV (p := ⟨gb336, 0, none⟩) (uW HO335.out BK336.out (by decide)) (fun _ hk => hk.2) (.int .i64 t327)) (fun _ hk => hk.2) (.int .i64 t328)) (fun _ hk => hk.2) (.bool t329)) (fun _ hk => hk.2) (.slice Ao37 t330.length co37)) (fun _ h_ => h_.1))) hb); replace BK302 := uD (blk_below (g := gb302) (o := .cells #[.int .i64 a0_0, .int .i64 a0_1, .bool a0_2, .slice A0_3 l0_3.length c0_3] 24 (0, 0)) (by (with_reducible repeat (first | refine uH ?_ _ | refine uJ ?_ | refine uG ?_ _)); refine uQ ?_ NB302_336.out _; (with_reducible repeat (first | refine uH ?_ _ | refine uJ ?_ | refine uG ?_ _)); refine uQ ?_ NB302_336.out _; (with_reducible repeat (first | refine uH ?_ _ | refine uJ ?_ | refine uG ?_ _)); refine uQ ?_ NB302_336.out _; (with_reducible repeat (first | refine uH ?_ _ | refine uJ ?_ | refine uG ?_ _)); refine uQ ?_ NB302_336.out _; (with_reducible repeat (first | refine uH ?_ _ | refine uJ ?_ | refine uG ?_ _)); exact BK302.out) hb); replace BK319 := uD (blk_below (g := gb319) (o := .cells #[.int .i64 t310, .int .i64 t311, .bool t312, .slice Ao23 t313.length co23] 29 (0, 0)) (by (with_reducible repeat (first | refine uH ?_ _ | refine uJ ?_ | refine uG ?_ _)); refine uQ ?_ NB319_336.out _; (with_reducible repeat (first | refine uH ?_ _ | refine uJ ?_ | refine uG ?_ _)); refine uQ ?_ NB319_336.out _; (with_reducible repeat (first | refine uH ?_ _ | refine uJ ?_ | refine uG ?_ _)); refine uQ ?_ NB319_336.out _; (with_reducible repeat (first | refine uH ?_ _ | refine uJ ?_ | refine uG ?_ _)); refine uQ ?_ NB319_336.out _; (with_reducible repeat (first | refine uH ?_ _ | refine uJ ?_ | refine uG ?_ _)); exact BK319.out) hb); replace BK326 := uD (blk_below (g := gb326) (o := .cells #[.int .i64 t320, .int .i64 t321, .bool t322, .slice Ao30 t323.length co30] 29 (0, 0)) (by (with_reducible repeat (first | refine uH ?_ _ | refine uJ ?_ | refine uG ?_ _)); refine uQ ?_ NB326_336.out _; (with_reducible repeat (first | refine uH ?_ _ | refine uJ ?_ | refine uG ?_ _)); refine uQ ?_ NB326_336.out _; (with_reducible repeat (first | refine uH ?_ _ | refine uJ ?_ | refine uG ?_ _)); refine uQ ?_ NB326_336.out _; (with_reducible repeat (first | refine uH ?_ _ | refine uJ ?_ | refine uG ?_ _)); refine uQ ?_ NB326_336.out _; (with_reducible repeat (first | refine uH ?_ _ | refine uJ ?_ | refine uG ?_ _)); exact BK326.out) hb); replace BK336 := uD (blk_below (g := gb336) (o := .cells #[.int .i64 t327, .int .i64 t328, .bool t329, .slice Ao37 t330.length co37] 29 (0, 0)) (by (with_reducible repeat (first | refine uH ?_ _ | refine uJ ?_ | refine uG ?_ _)); refine uP (cs := #[.int .i64 t327, .int .i64 t328, .bool t329, .slice none 0 0]) ?_ 3 _ rfl; (with_reducible repeat (first | refine uH ?_ _ | refine uJ ?_ | refine uG ?_ _)); refine uP (cs := #[.int .i64 t327, .int .i64 t328, .bool false, .slice none 0 0]) ?_ 2 _ rfl; (with_reducible repeat (first | refine uH ?_ _ | refine uJ ?_ | refine uG ?_ _)); refine uP (cs := #[.int .i64 t327, .int .i64 0, .bool false, .slice none 0 0]) ?_ 1 _ rfl; (with_reducible repeat (first | refine uH ?_ _ | refine uJ ?_ | refine uG ?_ _)); refine uP (cs := #[.int .i64 0, .int .i64 0, .bool false, .slice none 0 0]) ?_ 0 _ rfl; (with_reducible repeat (first | refine uH ?_ _ | refine uJ ?_ | refine uG ?_ _)); exact BK336.out) hb); replace HB := uD (uO (pb HB) hb); (try clear hb); (try clear hb2); (try clear hk); (try clear hi); obtain ⟨Ao49, co49, eo49⟩ := Kd.R_slice HO335.out; subst eo49; obtain ⟨Ao50, co50, eo50⟩ := Kd.R_slice HO318.out; subst eo50) | (go_at_call 36; (with_reducible refine (laws_eqExitS.calls k _ _ t333 _ _ t316 t338 _ ?side1 ?side2 ?side3 ?side4 A40.out).mono ?_); (case side1 => repeat (first | exact (Kd.R_reads' HO335.out).2.2 | (with_reducible refine Kd.C_alloc ?_ _) | (with_reducible refine Kd.C_drewN ?_ _) | (with_reducible refine Kd.C_drew ?_))); (case side2 => exact (Kd.R_reads' HO335.out).2.1); (case side3 => repeat (first | exact (Kd.R_reads' HO318.out).2.2 | (with_reducible refine Kd.C_alloc ?_ _) | (with_reducible refine Kd.C_drewN ?_ _) | (with_reducible refine Kd.C_drew ?_))); (case side4 => exact (Kd.R_reads' HO318.out).2.1); rintro e w51 ⟨rfl, hb⟩; replace HO309 := uD (Kd.R_below (pr HO309) hb); replace HO315 := uD (Kd.R_below (pr HO315) hb); replace HO318 := uD (Kd.R_below (pr HO318) hb); replace HO325 := uD (Kd.R_below (pr HO325) hb); replace HO332 := uD (Kd.Q_below (pq HO332) hb); replace HO335 := uD (Kd.R_below (pr HO335) hb); replace BK302 := uD (blk_below (pk BK302) hb); replace BK319 := uD (blk_below (pk BK319) hb); replace BK326 := uD (blk_below (pk BK326) hb); replace BK336 := uD (blk_below (pk BK336) hb); replace HB := uD (uO (pb HB) hb); (try clear hb); (try clear hb2); (try clear hk); (try clear hi)))
    go_meet
    case rel => exact ⟨_, (!t338), (by first | rfl | (simp; done) | (simp [*]; done)), H', ⟨by first | omega | exact Nat.le_refl _⟩, ⟨by (with_reducible repeat (first | apply uU | apply uS | apply uT)); exact uX HO318.out (fun _ hk => hk.2)⟩, ⟨by (with_reducible repeat (first | apply uU | apply uS | apply uT)); exact uX HO335.out (fun _ hk => hk.2)⟩, ⟨Kd.Q_of_R (by (with_reducible repeat (first | apply uU | apply uS | apply uT)); exact uX HO315.out (fun _ hk => ⟨hk.1.2, hk.2⟩))⟩, ⟨Kd.Q_of_R (by (with_reducible repeat (first | apply uU | apply uS | apply uT)); exact uX HO325.out (fun _ hk => ⟨hk.1.2, hk.2⟩))⟩, ⟨by (with_reducible repeat (first | apply Kd.Q_alloc | apply Kd.Q_drewN | apply Kd.Q_drew)); exact Kd.Q_mono HO332.out (fun _ hk => ⟨hk.1.2, hk.2⟩)⟩, ⟨by (with_reducible repeat (first | refine uH ?_ _ | refine uJ ?_ | refine uG ?_ _)); exact BK302.out⟩, ⟨by (with_reducible repeat (first | refine uH ?_ _ | refine uJ ?_ | refine uG ?_ _)); exact BK319.out⟩, ⟨by (with_reducible repeat (first | refine uH ?_ _ | refine uJ ?_ | refine uG ?_ _)); exact BK326.out⟩, ⟨by (with_reducible repeat (first | refine uH ?_ _ | refine uJ ?_ | refine uG ?_ _)); exact BK336.out⟩, ⟨pb HB⟩⟩
   ·replace c39 := Bool.eq_false_iff.mpr c39
    subst c39
    have H1 : (laws_FnExactRun.j0 k a1 t316 t333 true a0_0 a0_1 a0_2 l0_3 t310 t311 t312 t313 t320 t321 t322 t323 t327 t328 t329 t330) = some true := by rw [if_neg (show ¬ (false = true) by decide)] at H; first | done | exact H
    clear H
    have H := H1
    clear H1
    exact absurd H (by cases k <;> simp [laws_FnExactRun.j0])
  case rest =>
   clear HC12
   try clear c1
   try clear c2
   try clear p2
   try clear c3
   try clear c4
   try clear c4b0
   try clear c10
   try clear c15
   try clear c17
   try clear c19
   try clear c21
   try clear c27
   try clear c28
   try clear c33
   try clear c34
   try clear c35
   try clear c39
   try clear c41
   try clear c42
   try clear c43
   try clear c45
   try clear c46
   try clear hcz14_0
   try clear hcz14_1
   try clear hcz14_2
   try clear hcz14_3
   try clear hcz16_0
   try clear hcz16_1
   try clear hcz16_2
   try clear hcz16_3
   try clear hcz22_0
   try clear hcz22_1
   try clear hcz22_2
   try clear hcz22_3
   try clear hcz24_0
   try clear hcz24_1
   try clear hcz24_2
   try clear hcz24_3
   try clear hcz29_0
   try clear hcz29_1
   try clear hcz29_2
   try clear hcz29_3
   try clear hcz36_0
   try clear hcz36_1
   try clear hcz36_2
   try clear hcz36_3
   try clear hcz44_0
   try clear hcz44_1
   try clear hcz44_2
   try clear hcz44_3
   try clear hcz47_0
   try clear hcz47_1
   try clear hcz47_2
   try clear hcz47_3
   try clear hcz6_0
   try clear hcz6_1
   try clear hcz6_2
   try clear hcz6_3
   try clear hfz14_0
   try clear hfz14_1
   try clear hfz14_2
   try clear hfz14_3
   try clear hfz16_0
   try clear hfz16_1
   try clear hfz16_2
   try clear hfz16_3
   try clear hfz22_0
   try clear hfz22_1
   try clear hfz22_2
   try clear hfz22_3
   try clear hfz24_0
   try clear hfz24_1
   try clear hfz24_2
   try clear hfz24_3
   try clear hfz29_0
   try clear hfz29_1
   try clear hfz29_2
   try clear hfz29_3
   try clear hfz36_0
   try clear hfz36_1
   try clear hfz36_2
   try clear hfz36_3
   try clear hfz44_0
   try clear hfz44_1
   try clear hfz44_2
   try clear hfz44_3
   try clear hfz47_0
   try clear hfz47_1
   try clear hfz47_2
   try clear hfz47_3
   try clear hfz6_0
   try clear hfz6_1
   try clear hfz6_2
   try clear hfz6_3
   obtain ⟨kq, x45_11, rfl, HA, HJ11, HO_7, HO_10, HO_320003, HO_327003, HO_337003, BK302, BK319, BK326, BK336, HB⟩ := hcut
   cases kq with
   | zero => exact absurd HA.out (by simp [laws_FnExactRun.j0])
   | succ kj11 =>
    have H := HA.out
    clear HA
    simp only [laws_FnExactRun.j0] at H
    by_cases c52 : x45_11 = true
    ·subst c52
     have H1 : (some false) = some true := by rw [if_pos rfl] at H; first | done | exact H
     clear H
     have H := H1
     clear H1
     exact absurd H (by simp)
    ·replace c52 := Bool.eq_false_iff.mpr c52
     subst c52
     have H1 : ((laws_toBelt.f kj11 a0_0 a0_1 a0_2 l0_3).bind fun bt339 => ((laws_eqBelt.f kj11 t320 t321 t322 t323 bt339.1 bt339.2.1 bt339.2.2.1 bt339.2.2.2).bind fun t345 => (if t345 = true then ((laws_markBelt.f kj11 t320 t321 t322 t323 1).bind fun bt346 => (if bt346.1 < 0 then (laws_FnExactRun.j1 kj11 a1 t316 t333 true a0_0 a0_1 a0_2 l0_3 t310 t311 t312 t313 t327 t328 t329 t330) else ((laws_eqBelt.f kj11 t327 t328 t329 t330 t310 t311 t312 t313).bind fun t348 => (if t348 = true then ((laws_eqExitS.f kj11 t333 t316).bind fun t349 => (laws_FnExactRun.j1 kj11 a1 t316 t333 (!t349) a0_0 a0_1 a0_2 l0_3 t310 t311 t312 t313 t327 t328 t329 t330)) else (laws_FnExactRun.j1 kj11 a1 t316 t333 true a0_0 a0_1 a0_2 l0_3 t310 t311 t312 t313 t327 t328 t329 t330))))) else (some false)))) = some true := by rw [if_neg (show ¬ (false = true) by decide)] at H; first | done | exact H
     clear H
     have H := H1
     clear H1
     replace H := Option.bind_eq_some_iff.mp H
     obtain ⟨⟨t339, t340, t341, t342⟩, A530, H⟩ := H
     replace H : ((laws_eqBelt.f kj11 t320 t321 t322 t323 t339 t340 t341 t342).bind fun t345 => (if t345 = true then ((laws_markBelt.f kj11 t320 t321 t322 t323 1).bind fun bt346 => (if bt346.1 < 0 then (laws_FnExactRun.j1 kj11 a1 t316 t333 true a0_0 a0_1 a0_2 l0_3 t310 t311 t312 t313 t327 t328 t329 t330) else ((laws_eqBelt.f kj11 t327 t328 t329 t330 t310 t311 t312 t313).bind fun t348 => (if t348 = true then ((laws_eqExitS.f kj11 t333 t316).bind fun t349 => (laws_FnExactRun.j1 kj11 a1 t316 t333 (!t349) a0_0 a0_1 a0_2 l0_3 t310 t311 t312 t313 t327 t328 t329 t330)) else (laws_FnExactRun.j1 kj11 a1 t316 t333 true a0_0 a0_1 a0_2 l0_3 t310 t311 t312 t313 t327 t328 t329 t330))))) else (some false))) = some true := H
     have A53 := uD A530
     clear A530
     replace H := Option.bind_eq_some_iff.mp H
     obtain ⟨t345, A540, H⟩ := H
     replace H : (if t345 = true then ((laws_markBelt.f kj11 t320 t321 t322 t323 1).bind fun bt346 => (if bt346.1 < 0 then (laws_FnExactRun.j1 kj11 a1 t316 t333 true a0_0 a0_1 a0_2 l0_3 t310 t311 t312 t313 t327 t328 t329 t330) else ((laws_eqBelt.f kj11 t327 t328 t329 t330 t310 t311 t312 t313).bind fun t348 => (if t348 = true then ((laws_eqExitS.f kj11 t333 t316).bind fun t349 => (laws_FnExactRun.j1 kj11 a1 t316 t333 (!t349) a0_0 a0_1 a0_2 l0_3 t310 t311 t312 t313 t327 t328 t329 t330)) else (laws_FnExactRun.j1 kj11 a1 t316 t333 true a0_0 a0_1 a0_2 l0_3 t310 t311 t312 t313 t327 t328 t329 t330))))) else (some false)) = some true := H
     have A54 := uD A540
     clear A540
     by_cases c55 : t345 = true
     ·subst c55
      have H1 : ((laws_markBelt.f kj11 t320 t321 t322 t323 1).bind fun bt346 => (if bt346.1 < 0 then (laws_FnExactRun.j1 kj11 a1 t316 t333 true a0_0 a0_1 a0_2 l0_3 t310 t311 t312 t313 t327 t328 t329 t330) else ((laws_eqBelt.f kj11 t327 t328 t329 t330 t310 t311 t312 t313).bind fun t348 => (if t348 = true then ((laws_eqExitS.f kj11 t333 t316).bind fun t349 => (laws_FnExactRun.j1 kj11 a1 t316 t333 (!t349) a0_0 a0_1 a0_2 l0_3 t310 t311 t312 t313 t327 t328 t329 t330)) else (laws_FnExactRun.j1 kj11 a1 t316 t333 true a0_0 a0_1 a0_2 l0_3 t310 t311 t312 t313 t327 t328 t329 t330))))) = some true := by rw [if_pos rfl] at H; first | done | exact H
      clear H
      have H := H1
      clear H1
      replace H := Option.bind_eq_some_iff.mp H
      obtain ⟨⟨t346, t347⟩, A560, H⟩ := H
      replace H : (if t346 < 0 then (laws_FnExactRun.j1 kj11 a1 t316 t333 true a0_0 a0_1 a0_2 l0_3 t310 t311 t312 t313 t327 t328 t329 t330) else ((laws_eqBelt.f kj11 t327 t328 t329 t330 t310 t311 t312 t313).bind fun t348 => (if t348 = true then ((laws_eqExitS.f kj11 t333 t316).bind fun t349 => (laws_FnExactRun.j1 kj11 a1 t316 t333 (!t349) a0_0 a0_1 a0_2 l0_3 t310 t311 t312 t313 t327 t328 t329 t330)) else (laws_FnExactRun.j1 kj11 a1 t316 t333 true a0_0 a0_1 a0_2 l0_3 t310 t311 t312 t313 t327 t328 t329 t330)))) = some true := H
      have A56 := uD A560
      clear A560
      have HC57 := uD H
      clear H
      try go_wp2
      replace HO_7 := uD (uT HO_7.out)
      replace HO_10 := uD (uT HO_10.out)
      replace HO_320003 := uD (Kd.Q_drew HO_320003.out)
      replace HO_327003 := uD (Kd.Q_drew HO_327003.out)
      replace HO_337003 := uD (Kd.Q_drew HO_337003.out)
      replace BK302 := uD (uJ BK302.out)
      replace BK319 := uD (uJ BK319.out)
      replace BK326 := uD (uJ BK326.out)
      replace BK336 := uD (uJ BK336.out)
      replace HB := uD (uK HB.out)
      refine start_ (n := 5) (S := fun w' => w'.cell? ⟨gb326, 0, none⟩ = some (.int .i64 t320) ∧ w'.cell? ⟨gb326, 1, none⟩ = some (.int .i64 t321) ∧ w'.cell? ⟨gb326, 2, none⟩ = some (.bool t322) ∧ w'.cell? ⟨gb326, 3, none⟩ = some (.slice Ao30 t323.length co30) ∧ w'.cell? ⟨gb302, 0, none⟩ = some (.int .i64 a0_0) ∧ w'.cell? ⟨gb302, 1, none⟩ = some (.int .i64 a0_1) ∧ w'.cell? ⟨gb302, 2, none⟩ = some (.bool a0_2) ∧ w'.cell? ⟨gb302, 3, none⟩ = some (.slice A0_3 l0_3.length c0_3)) (ds := []) #[F,F,F,F,F] (by kernel_rfl) rfl rfl ⟨(uF BK326.out 0).trans rfl, (uF BK326.out 1).trans rfl, (uF BK326.out 2).trans rfl, (uF BK326.out 3).trans rfl, (uF BK302.out 0).trans rfl, (uF BK302.out 1).trans rfl, (uF BK302.out 2).trans rfl, (uF BK302.out 3).trans rfl⟩ (fun hHeld => ?_)
      generalize wc.drew = w58 at HO_7 HO_10 HO_320003 HO_327003 HO_337003 BK302 BK319 BK326 BK336 HB hHeld ⊢
      refine take_ (i := 0) (N := some 46) (v := ?_) (a' := ?_) #[T,F,F,F,F] rfl rfl (by kernel_rfl) (fun _ _ _ h => h) (Or.inl ⟨by rfl, ?_⟩) hHeld ?_ ?_
      rotate_left;(rintro w' ⟨s0, s1, s2, s3, s4, s5, s6, s7⟩;go_simp;with_reducible rfl);rotate_left;(simp only [uc,uA,uB,uC,uZ,ua];rfl)
      refine take_ (i := 1) (N := some 47) (v := ?_) (a' := ?_) #[T,T,F,F,F] rfl rfl (by kernel_rfl) (fun _ _ _ h => h) (Or.inl ⟨by rfl, ?_⟩) hHeld ?_ ?_
      rotate_left;(rintro w' ⟨s0, s1, s2, s3, s4, s5, s6, s7⟩;go_simp;with_reducible rfl);rotate_left;(simp only [uc,uA,uB,uC,uZ,ua];rfl)
      refine one_ (i := 2) (N := some 48) #[T,T,T,F,F] rfl rfl (by kernel_rfl) (by decide) (fun K hK => ?_)
      refine goes_ Try.func17 (by kernel_rfl) rfl #[.agg #[.int .i64 a0_0, .int .i64 a0_1, .bool a0_2, .slice A0_3 l0_3.length c0_3]] (by rfl) rfl rfl (by (try simp only [List.map_toArray, List.map_cons, List.map_nil]); first | done | rfl | (simp only [List.length_drop, List.length_take]; rfl)) ?_
      with_reducible refine (laws_toBelt.calls kj11 a0_0 a0_1 a0_2 _ _ l0_3 t339 t340 t341 t342 _ ?side1 ?side2 A53.out).mono ?_
      (case side1 => repeat (first | exact (Kd.C_below HR0_3.out HB.out) | (with_reducible refine Kd.C_alloc ?_ _) | (with_reducible refine Kd.C_drewN ?_ _) | (with_reducible refine Kd.C_drew ?_)))
      (case side2 => exact HC0_3.out)
      rintro e w59 ⟨v343, rfl, ho0, hb⟩
      refine ⟨_, rfl, ?_⟩
      replace HO_7 := uD (Kd.R_below (pr HO_7) hb)
      replace HO_10 := uD (Kd.R_below (pr HO_10) hb)
      have HO344 := uD (Kd.R_lower (Kd.R_new' (Kd.R_new' (Kd.R_new' ho0 (Kd.Q_lt (pq HO_320003))) (Kd.Q_lt (pq HO_327003))) (Kd.Q_lt (pq HO_337003))) (uN (pb HB)))
      replace HO_320003 := uD (Kd.Q_elder' (pq HO_320003) (Kd.R_base ho0) hb)
      replace HO_327003 := uD (Kd.Q_elder' (pq HO_327003) (Kd.R_base ho0) hb)
      replace HO_337003 := uD (Kd.Q_elder' (pq HO_337003) (Kd.R_base ho0) hb)
      replace BK302 := uD (blk_below (pk BK302) hb)
      replace BK319 := uD (blk_below (pk BK319) hb)
      replace BK326 := uD (blk_below (pk BK326) hb)
      replace BK336 := uD (blk_below (pk BK336) hb)
      replace HB := uD (uO (pb HB) hb)
      (try clear hb)
      (try clear hb2)
      (try clear hk)
      (try clear hi)
      (try clear ho0)
      obtain ⟨Ao60, co60, eo60⟩ := Kd.R_slice HO344.out
      (first | subst eo60 | (injection eo60 with f1_ f2_ f3_; have f4_ := f1_.symm; have f5_ := f3_.symm; clear f1_ f2_ f3_; subst f4_; subst f5_))
      refine hK.out _ _ ⟨(uF BK326.out 0).trans rfl, (uF BK326.out 1).trans rfl, (uF BK326.out 2).trans rfl, (uF BK326.out 3).trans rfl, (uF BK302.out 0).trans rfl, (uF BK302.out 1).trans rfl, (uF BK302.out 2).trans rfl, (uF BK302.out 3).trans rfl⟩ (fun hHeld => ?_)
      clear hK K
      refine norm_ (a' := ?_) ?_ ?_
      rotate_left
      ·show uc _ (some 48) _ = _
       simp only [uc, uA, uB, uC, uZ, ua]
       rfl
      refine one_ (i := 3) (N := some 49) #[T,T,T,T,F] rfl rfl (by kernel_rfl) (by decide) (fun K hK => ?_)
      refine goes_ Try.func19 (by kernel_rfl) rfl #[.agg #[.int .i64 t320, .int .i64 t321, .bool t322, .slice Ao30 t323.length co30], .agg #[.int .i64 t339, .int .i64 t340, .bool t341, .slice Ao60 t342.length co60]] (by rfl) rfl rfl (by (try simp only [List.map_toArray, List.map_cons, List.map_nil]); first | done | rfl | (simp only [List.length_drop, List.length_take]; rfl)) ?_
      with_reducible refine (laws_eqBelt.calls kj11 t320 t321 t322 _ _ t323 t339 t340 t341 _ _ t342 true _ ?side1 ?side2 ?side3 ?side4 A54.out).mono ?_
      (case side1 => repeat (first | exact (Kd.Q_reads' HO_327003.out).2.2 | (with_reducible refine Kd.C_alloc ?_ _) | (with_reducible refine Kd.C_drewN ?_ _) | (with_reducible refine Kd.C_drew ?_)))
      (case side2 => exact (Kd.Q_reads' HO_327003.out).2.1)
      (case side3 => repeat (first | exact (Kd.R_reads' HO344.out).2.2 | (with_reducible refine Kd.C_alloc ?_ _) | (with_reducible refine Kd.C_drewN ?_ _) | (with_reducible refine Kd.C_drew ?_)))
      (case side4 => exact (Kd.R_reads' HO344.out).2.1)
      rintro e w61 ⟨rfl, hb⟩
      refine ⟨_, rfl, ?_⟩
      replace HO_7 := uD (Kd.R_below (pr HO_7) hb)
      replace HO_10 := uD (Kd.R_below (pr HO_10) hb)
      replace HO_320003 := uD (Kd.Q_below (pq HO_320003) hb)
      replace HO_327003 := uD (Kd.Q_below (pq HO_327003) hb)
      replace HO_337003 := uD (Kd.Q_below (pq HO_337003) hb)
      replace HO344 := uD (Kd.R_below (pr HO344) hb)
      replace BK302 := uD (blk_below (pk BK302) hb)
      replace BK319 := uD (blk_below (pk BK319) hb)
      replace BK326 := uD (blk_below (pk BK326) hb)
      replace BK336 := uD (blk_below (pk BK336) hb)
      replace HB := uD (uO (pb HB) hb)
      (try clear hb)
      (try clear hb2)
      (try clear hk)
      (try clear hi)
      refine hK.out _ _ ⟨(uF BK326.out 0).trans rfl, (uF BK326.out 1).trans rfl, (uF BK326.out 2).trans rfl, (uF BK326.out 3).trans rfl, (uF BK302.out 0).trans rfl, (uF BK302.out 1).trans rfl, (uF BK302.out 2).trans rfl, (uF BK302.out 3).trans rfl⟩ (fun hHeld => ?_)
      clear hK K
      refine norm_ (a' := ?_) ?_ ?_
      rotate_left
      ·show uc _ (some 49) _ = _
       simp only [uc, uA, uB, uC, uZ, ua]
       rfl
      refine ub (i := 4) (N := some 50) (v := ?_) (a' := ?_) #[T,T,T,T,T] rfl rfl (by kernel_rfl) (fun _ _ _ h => h) (Or.inl ⟨by rfl, ?_⟩) ?_ ?_
      rotate_left;(intro w';go_simp;with_reducible rfl);rotate_left;(simp only [uc,uA,uB,uC,uZ,ua];rfl)
      refine done_ (by kernel_rfl) ?_
      have hnb62 := NB326_302.out
      have hnc62 := NB302_326.out
      have hnb63 := NB326_319.out
      have hnc63 := NB319_326.out
      have hnb64 := NB326_336.out
      have hnc64 := NB336_326.out
      obtain ⟨hcz65_0, hcz65_1, hcz65_2, hcz65_3, hfz65_0, hfz65_1, hfz65_2, hfz65_3⟩ := cz4 BK326
      go_upto_region 14 with (first | ((with_reducible refine gate_callee (f := 28) rfl ?_); refine goesL_ (some 53) rfl rfl Try.func28 (by kernel_rfl) rfl #[.agg #[.int .i64 t320, .int .i64 t321, .bool t322, .slice Ao30 t323.length co30], .int .i64 1] rfl (by (try simp only [List.map_toArray, List.map_cons, List.map_nil]); first | done | rfl | (simp only [List.length_drop, List.length_take]; rfl)) ?_; (with_reducible refine (laws_markBelt.calls kj11 t320 t321 t322 (fun k_ => some k_ = (.slice Ao30 t323.length co30 : Value).ownBlock) (.slice Ao30 t323.length co30) t323 1 t346 t347 w _ ?side1 ?side2 A56.out).mono ?_); (case side1 => repeat (first | (with_reducible first | exact HB.out | apply uL | apply uE | apply uK | refine uM ?_ GE302.out | refine uM ?_ GE319.out | refine uM ?_ GE326.out | refine uM ?_ GE336.out) | exact HB.out)); (case side2 => exact (Kd.Q_tight rfl HO_327003.out)); rintro e w66 ⟨rfl, hy0, hb, hkp⟩; refine ⟨_, rfl, ?_⟩; replace HO_7 := uD (uX (ok' := fun k_ => some k_ ≠ (v334 : Value).ownBlock) (Kd.R_keptB ((Kd.R_apart' HO_7.out (Kd.Q_typed HO_327003.out) (by decide))) hkp (fun k_ hk_ hs_ => (hk_.2) hs_)) (fun k_ hk_ => hk_.1.1)); replace HO_10 := uD (uX (ok' := fun k_ => some k_ ≠ (v317 : Value).ownBlock) (Kd.R_keptB ((Kd.R_apart' HO_10.out (Kd.Q_typed HO_327003.out) (by decide))) hkp (fun k_ hk_ hs_ => (hk_.2) hs_)) (fun k_ hk_ => hk_.1.1)); replace HO_320003 := uD (Kd.Q_mono (ok' := fun k_ => some k_ ≠ (.slice Ao30 t323.length co30 : Value).ownBlock ∧ some k_ ≠ (.slice Ao37 t330.length co37 : Value).ownBlock ∧ some k_ ≠ (.slice Ao60 t342.length co60 : Value).ownBlock) (Kd.Q_keptB (HO_320003.out) hkp (fun k_ hk_ hs_ => (hk_.1.1) hs_)) (fun k_ hk_ => ⟨hk_.1.1.1, hk_.1.1.2, hk_.1.2⟩)); replace HO_337003 := uD (Kd.Q_mono (ok' := fun k_ => some k_ ≠ (.slice Ao23 t313.length co23 : Value).ownBlock ∧ some k_ ≠ (.slice Ao30 t323.length co30 : Value).ownBlock ∧ some k_ ≠ (.slice Ao60 t342.length co60 : Value).ownBlock) (Kd.Q_keptB (HO_337003.out) hkp (fun k_ hk_ hs_ => (hk_.1.2) hs_)) (fun k_ hk_ => ⟨hk_.1.1.1, hk_.1.1.2, hk_.1.2⟩)); replace BK302 := uD (blk_kept (pk BK302) hkp (fun hs_ => (fun e_ => (Kd.Q_ne HO_327003.out BK302.out (by decide)) e_) hs_)); replace BK319 := uD (blk_kept (pk BK319) hkp (fun hs_ => (fun e_ => (Kd.Q_ne HO_327003.out BK319.out (by decide)) e_) hs_)); replace BK326 := uD (blk_kept (pk BK326) hkp (fun hs_ => (fun e_ => (Kd.Q_ne HO_327003.out BK326.out (by decide)) e_) hs_)); replace BK336 := uD (blk_kept (pk BK336) hkp (fun hs_ => (fun e_ => (Kd.Q_ne HO_327003.out BK336.out (by decide)) e_) hs_)); replace HO_327003 := uD (Kd.Q_mono (Kd.Q_tight rfl hy0) (fun k_ e_ => HO_327003.out.1 k_ e_.symm)); replace HO344 := uD (uX (ok' := fun k_ => some k_ ≠ (.slice Ao23 t313.length co23 : Value).ownBlock ∧ some k_ ≠ (.slice Ao30 t323.length co30 : Value).ownBlock ∧ some k_ ≠ (.slice Ao37 t330.length co37 : Value).ownBlock) (Kd.R_keptB (HO344.out) hkp (fun k_ hk_ hs_ => (hk_.1.2) hs_)) (fun k_ hk_ => ⟨hk_.1.1.1.2, hk_.1.1.2, hk_.1.2⟩)); replace HB := uD (hb); (try clear hb); (try clear hkp); (try clear hy0)))
      (try simp only [uc, uA, uB, uC])
      go_cut [67] (fun v67 wc => ∃ (kq : Nat) (x67_56 : Bool), v67 = .bool x67_56 ∧ Aside0 (laws_FnExactRun.j1 kq a1 t316 t333 x67_56 a0_0 a0_1 a0_2 l0_3 t310 t311 t312 t313 t327 t328 t329 t330 = some true) ∧ Aside0 (kq ≤ kj11) ∧ Aside0 (Kd.R k56 56 wc w.heap.size (fun k_ => some k_ ≠ (v334 : Value).ownBlock) v317 t316) ∧ Aside0 (Kd.R k56 56 wc w.heap.size (fun k_ => some k_ ≠ (v317 : Value).ownBlock) v334 t333) ∧ Aside0 (Kd.Q k53 53 wc w.heap.size (fun k_ => some k_ ≠ ((.slice Ao30 t323.length co30) : Value).ownBlock ∧ some k_ ≠ ((.slice Ao37 t330.length co37) : Value).ownBlock) (.slice Ao23 t313.length co23) t313) ∧ Aside0 (Kd.Q k53 53 wc w.heap.size (fun k_ => some k_ ≠ ((.slice Ao23 t313.length co23) : Value).ownBlock ∧ some k_ ≠ ((.slice Ao37 t330.length co37) : Value).ownBlock) (.slice Ao30 t323.length co30) t347) ∧ Aside0 (Kd.Q k53 53 wc w.heap.size (fun k_ => some k_ ≠ ((.slice Ao23 t313.length co23) : Value).ownBlock ∧ some k_ ≠ ((.slice Ao30 t323.length co30) : Value).ownBlock) (.slice Ao37 t330.length co37) t330) ∧ Aside0 (wc.heap[gb302]? = some (.cells #[.int .i64 a0_0, .int .i64 a0_1, .bool a0_2, (.slice A0_3 l0_3.length c0_3)] 24 (0, 0))) ∧ Aside0 (wc.heap[gb319]? = some (.cells #[.int .i64 t310, .int .i64 t311, .bool t312, (.slice Ao23 t313.length co23)] 29 (0, 0))) ∧ Aside0 (wc.heap[gb326]? = some (.cells #[.int .i64 t320, .int .i64 t321, .bool t322, (.slice Ao30 t323.length co30)] 29 (0, 0))) ∧ Aside0 (wc.heap[gb336]? = some (.cells #[.int .i64 t327, .int .i64 t328, .bool t329, (.slice Ao37 t330.length co37)] 29 (0, 0))) ∧ Aside0 (Below w.heap.size w wc))
      case first =>
       have H := HC57.out
       clear HC57
       by_cases c67 : t346 < 0
       ·rw [if_pos c67] at H
        have c67b0 : decide (t346 < 0) = true := decide_eq_true c67
        clear c67
        (first | rw [c67b0] | (simp only [uZ, ua]; rw [c67b0]) | skip)
        exact absurd H (by cases kj11 <;> simp [laws_FnExactRun.j1])
       ·rw [if_neg c67] at H
        have c67b0 : decide (t346 < 0) = false := decide_eq_false c67
        clear c67
        (first | rw [c67b0] | (simp only [uZ, ua]; rw [c67b0]) | skip)
        replace H := Option.bind_eq_some_iff.mp H
        obtain ⟨t348, A680, H⟩ := H
        replace H : (if t348 = true then ((laws_eqExitS.f kj11 t333 t316).bind fun t349 => (laws_FnExactRun.j1 kj11 a1 t316 t333 (!t349) a0_0 a0_1 a0_2 l0_3 t310 t311 t312 t313 t327 t328 t329 t330)) else (laws_FnExactRun.j1 kj11 a1 t316 t333 true a0_0 a0_1 a0_2 l0_3 t310 t311 t312 t313 t327 t328 t329 t330)) = some true := H
        have A68 := uD A680
        clear A680
        by_cases c69 : t348 = true
        ·subst c69
         have H1 : ((laws_eqExitS.f kj11 t333 t316).bind fun t349 => (laws_FnExactRun.j1 kj11 a1 t316 t333 (!t349) a0_0 a0_1 a0_2 l0_3 t310 t311 t312 t313 t327 t328 t329 t330)) = some true := by rw [if_pos rfl] at H; first | done | exact H
         clear H
         have H := H1
         clear H1
         replace H := Option.bind_eq_some_iff.mp H
         obtain ⟨t349, A700, H⟩ := H
         replace H : (laws_FnExactRun.j1 kj11 a1 t316 t333 (!t349) a0_0 a0_1 a0_2 l0_3 t310 t311 t312 t313 t327 t328 t329 t330) = some true := H
         have A70 := uD A700
         clear A700
         have H' := uD H
         clear H
         have hnb71 := NB336_302.out
         have hnc71 := NB302_336.out
         have hnb72 := NB336_319.out
         have hnc72 := NB319_336.out
         have hnb73 := NB336_326.out
         have hnc73 := NB326_336.out
         obtain ⟨hcz74_0, hcz74_1, hcz74_2, hcz74_3, hfz74_0, hfz74_1, hfz74_2, hfz74_3⟩ := cz4 BK336
         have hnb75 := NB319_302.out
         have hnc75 := NB302_319.out
         have hnb76 := NB319_326.out
         have hnc76 := NB326_319.out
         obtain ⟨hcz77_0, hcz77_1, hcz77_2, hcz77_3, hfz77_0, hfz77_1, hfz77_2, hfz77_3⟩ := cz4 BK319
         go_wp2_with (first | (go_at_call 19; (with_reducible refine (laws_eqBelt.calls kj11 t327 t328 t329 _ _ t330 t310 t311 t312 _ _ t313 true _ ?side1 ?side2 ?side3 ?side4 A68.out).mono ?_); (case side1 => repeat (first | exact (Kd.Q_reads' HO_337003.out).2.2 | (with_reducible refine Kd.C_alloc ?_ _) | (with_reducible refine Kd.C_drewN ?_ _) | (with_reducible refine Kd.C_drew ?_))); (case side2 => exact (Kd.Q_reads' HO_337003.out).2.1); (case side3 => repeat (first | exact (Kd.Q_reads' HO_320003.out).2.2 | (with_reducible refine Kd.C_alloc ?_ _) | (with_reducible refine Kd.C_drewN ?_ _) | (with_reducible refine Kd.C_drew ?_))); (case side4 => exact (Kd.Q_reads' HO_320003.out).2.1); rintro e w78 ⟨rfl, hb⟩; replace HO_7 := uD (Kd.R_below (pr HO_7) hb); replace HO_10 := uD (Kd.R_below (pr HO_10) hb); replace HO_320003 := uD (Kd.Q_below (pq HO_320003) hb); replace HO_327003 := uD (Kd.Q_below (pq HO_327003) hb); replace HO_337003 := uD (Kd.Q_below (pq HO_337003) hb); replace HO344 := uD (Kd.R_below (pr HO344) hb); replace BK302 := uD (blk_below (pk BK302) hb); replace BK319 := uD (blk_below (pk BK319) hb); replace BK326 := uD (blk_below (pk BK326) hb); replace BK336 := uD (blk_below (pk BK336) hb); replace HB := uD (uO (pb HB) hb); (try clear hb); (try clear hb2); (try clear hk); (try clear hi); obtain ⟨Ao79, co79, eo79⟩ := Kd.R_slice HO_10.out; subst eo79; obtain ⟨Ao80, co80, eo80⟩ := Kd.R_slice HO_7.out; subst eo80) | (go_at_call 36; (with_reducible refine (laws_eqExitS.calls kj11 _ _ t333 _ _ t316 t349 _ ?side1 ?side2 ?side3 ?side4 A70.out).mono ?_); (case side1 => repeat (first | exact (Kd.R_reads' HO_10.out).2.2 | (with_reducible refine Kd.C_alloc ?_ _) | (with_reducible refine Kd.C_drewN ?_ _) | (with_reducible refine Kd.C_drew ?_))); (case side2 => exact (Kd.R_reads' HO_10.out).2.1); (case side3 => repeat (first | exact (Kd.R_reads' HO_7.out).2.2 | (with_reducible refine Kd.C_alloc ?_ _) | (with_reducible refine Kd.C_drewN ?_ _) | (with_reducible refine Kd.C_drew ?_))); (case side4 => exact (Kd.R_reads' HO_7.out).2.1); rintro e w81 ⟨rfl, hb⟩; replace HO_7 := uD (Kd.R_below (pr HO_7) hb); replace HO_10 := uD (Kd.R_below (pr HO_10) hb); replace HO_320003 := uD (Kd.Q_below (pq HO_320003) hb); replace HO_327003 := uD (Kd.Q_below (pq HO_327003) hb); replace HO_337003 := uD (Kd.Q_below (pq HO_337003) hb); replace HO344 := uD (Kd.R_below (pr HO344) hb); replace BK302 := uD (blk_below (pk BK302) hb); replace BK319 := uD (blk_below (pk BK319) hb); replace BK326 := uD (blk_below (pk BK326) hb); replace BK336 := uD (blk_below (pk BK336) hb); replace HB := uD (uO (pb HB) hb); (try clear hb); (try clear hb2); (try clear hk); (try clear hi)))
         go_meet
         case rel => exact ⟨_, (!t349), (by first | rfl | (simp; done) | (simp [*]; done)), H', ⟨by have := HJ11.out; first | omega | exact Nat.le_refl _⟩, ⟨by (with_reducible repeat (first | apply uU | apply uS | apply uT)); exact HO_7.out⟩, ⟨by (with_reducible repeat (first | apply uU | apply uS | apply uT)); exact HO_10.out⟩, ⟨by (with_reducible repeat (first | apply Kd.Q_alloc | apply Kd.Q_drewN | apply Kd.Q_drew)); exact Kd.Q_mono HO_320003.out (fun _ hk => ⟨hk.1, hk.2.1⟩)⟩, ⟨by (with_reducible repeat (first | apply Kd.Q_alloc | apply Kd.Q_drewN | apply Kd.Q_drew)); exact Kd.Q_mono HO_327003.out (fun _ hk => ⟨hk.1.1, hk.1.2⟩)⟩, ⟨by (with_reducible repeat (first | apply Kd.Q_alloc | apply Kd.Q_drewN | apply Kd.Q_drew)); exact Kd.Q_mono HO_337003.out (fun _ hk => ⟨hk.1, hk.2.1⟩)⟩, ⟨by (with_reducible repeat (first | refine uH ?_ _ | refine uJ ?_ | refine uG ?_ _)); exact BK302.out⟩, ⟨by (with_reducible repeat (first | refine uH ?_ _ | refine uJ ?_ | refine uG ?_ _)); exact BK319.out⟩, ⟨by (with_reducible repeat (first | refine uH ?_ _ | refine uJ ?_ | refine uG ?_ _)); exact BK326.out⟩, ⟨by (with_reducible repeat (first | refine uH ?_ _ | refine uJ ?_ | refine uG ?_ _)); exact BK336.out⟩, ⟨pb HB⟩⟩
        ·replace c69 := Bool.eq_false_iff.mpr c69
         subst c69
         have H1 : (laws_FnExactRun.j1 kj11 a1 t316 t333 true a0_0 a0_1 a0_2 l0_3 t310 t311 t312 t313 t327 t328 t329 t330) = some true := by rw [if_neg (show ¬ (false = true) by decide)] at H; first | done | exact H
         clear H
         have H := H1
         clear H1
         exact absurd H (by cases kj11 <;> simp [laws_FnExactRun.j1])
      case rest =>
       clear HC57
       try clear c1
       try clear c2
       try clear p2
       try clear c3
       try clear c4
       try clear c4b0
       try clear c5
       try clear c6
       try clear c7
       try clear c10
       try clear c15
       try clear c17
       try clear c19
       try clear c21
       try clear c27
       try clear c28
       try clear c33
       try clear c34
       try clear c35
       try clear c39
       try clear c41
       try clear c42
       try clear c43
       try clear c45
       try clear c46
       try clear c52
       try clear c55
       try clear c62
       try clear c63
       try clear c64
       try clear c67
       try clear c67b0
       try clear c69
       try clear c71
       try clear c72
       try clear c73
       try clear c75
       try clear c76
       try clear hcz14_0
       try clear hcz14_1
       try clear hcz14_2
       try clear hcz14_3
       try clear hcz16_0
       try clear hcz16_1
       try clear hcz16_2
       try clear hcz16_3
       try clear hcz22_0
       try clear hcz22_1
       try clear hcz22_2
       try clear hcz22_3
       try clear hcz24_0
       try clear hcz24_1
       try clear hcz24_2
       try clear hcz24_3
       try clear hcz29_0
       try clear hcz29_1
       try clear hcz29_2
       try clear hcz29_3
       try clear hcz36_0
       try clear hcz36_1
       try clear hcz36_2
       try clear hcz36_3
       try clear hcz44_0
       try clear hcz44_1
       try clear hcz44_2
       try clear hcz44_3
       try clear hcz47_0
       try clear hcz47_1
       try clear hcz47_2
       try clear hcz47_3
       try clear hcz65_0
       try clear hcz65_1
       try clear hcz65_2
       try clear hcz65_3
       try clear hcz6_0
       try clear hcz6_1
       try clear hcz6_2
       try clear hcz6_3
       try clear hcz74_0
       try clear hcz74_1
       try clear hcz74_2
       try clear hcz74_3
       try clear hcz77_0
       try clear hcz77_1
       try clear hcz77_2
       try clear hcz77_3
       try clear hfz14_0
       try clear hfz14_1
       try clear hfz14_2
       try clear hfz14_3
       try clear hfz16_0
       try clear hfz16_1
       try clear hfz16_2
       try clear hfz16_3
       try clear hfz22_0
       try clear hfz22_1
       try clear hfz22_2
       try clear hfz22_3
       try clear hfz24_0
       try clear hfz24_1
       try clear hfz24_2
       try clear hfz24_3
       try clear hfz29_0
       try clear hfz29_1
       try clear hfz29_2
       try clear hfz29_3
       try clear hfz36_0
       try clear hfz36_1
       try clear hfz36_2
       try clear hfz36_3
       try clear hfz44_0
       try clear hfz44_1
       try clear hfz44_2
       try clear hfz44_3
       try clear hfz47_0
       try clear hfz47_1
       try clear hfz47_2
       try clear hfz47_3
       try clear hfz65_0
       try clear hfz65_1
       try clear hfz65_2
       try clear hfz65_3
       try clear hfz6_0
       try clear hfz6_1
       try clear hfz6_2
       try clear hfz6_3
       try clear hfz74_0
       try clear hfz74_1
       try clear hfz74_2
       try clear hfz74_3
       try clear hfz77_0
       try clear hfz77_1
       try clear hfz77_2
       try clear hfz77_3
       try clear p2
       obtain ⟨kq, x67_56, rfl, HA, HJ56, HO_7, HO_10, HO_320003, HO_327003, HO_337003, BK302, BK319, BK326, BK336, HB⟩ := hcut
       have hl327003_56 := (Kd.Q_reads' HO_327003.out).1
       rw [hl327003_56] at HO_327003
       (try simp only [hl327003_56])
       (try simp only [hl327003_56] at BK302)
       (try simp only [hl327003_56] at BK319)
       (try simp only [hl327003_56] at BK326)
       (try simp only [hl327003_56] at BK336)
       (try simp only [hl327003_56] at HO_7)
       (try simp only [hl327003_56] at HO_10)
       (try simp only [hl327003_56] at HO_320003)
       (try simp only [hl327003_56] at HO_337003)
       cases kq with
       | zero => exact absurd HA.out (by simp [laws_FnExactRun.j1])
       | succ kj56 =>
        have H := HA.out
        clear HA
        simp only [laws_FnExactRun.j1] at H
        by_cases c82 : x67_56 = true
        ·subst c82
         have H1 : (some false) = some true := by rw [if_pos rfl] at H; first | done | exact H
         clear H
         have H := H1
         clear H1
         exact absurd H (by simp)
        ·replace c82 := Bool.eq_false_iff.mpr c82
         subst c82
         have H1 : ((laws_markBelt.f kj56 t327 t328 t329 t330 1).bind fun bt350 => ((laws_markExitS.f kj56 t333 bt350.1).bind fun bt352 => ((laws_heldBelt.f kj56 t327 t328 t329 bt350.2 1).bind fun t354 => (if t354 < 0 then (some false) else ((laws_heldExitS.f kj56 bt352.2 t354).bind fun t355 => (if t355 < 0 then (some false) else (if t355 = bt352.1 then ((laws_toBelt.f kj56 a0_0 a0_1 a0_2 l0_3).bind fun bt356 => ((impl_Run.f kj56 bt356.1 bt356.2.1 bt356.2.2.1 bt356.2.2.2 a1).bind fun bt362 => ((laws_eqBelt.f kj56 bt362.1 bt362.2.1 bt362.2.2.1 bt362.2.2.2.1 t310 t311 t312 t313).bind fun t372 => (if t372 = true then ((laws_eqExitS.f kj56 bt362.2.2.2.2 t316).bind fun t373 => (laws_FnExactRun.j2 kj56 bt352.2 bt352.1 (!t373) t327 t328 t329 bt350.2)) else (laws_FnExactRun.j2 kj56 bt352.2 bt352.1 true t327 t328 t329 bt350.2))))) else (some false)))))))) = some true := by rw [if_neg (show ¬ (false = true) by decide)] at H; first | done | exact H
         clear H
         have H := H1
         clear H1
         replace H := Option.bind_eq_some_iff.mp H
         obtain ⟨⟨t350, t351⟩, A830, H⟩ := H
         replace H : ((laws_markExitS.f kj56 t333 t350).bind fun bt352 => ((laws_heldBelt.f kj56 t327 t328 t329 t351 1).bind fun t354 => (if t354 < 0 then (some false) else ((laws_heldExitS.f kj56 bt352.2 t354).bind fun t355 => (if t355 < 0 then (some false) else (if t355 = bt352.1 then ((laws_toBelt.f kj56 a0_0 a0_1 a0_2 l0_3).bind fun bt356 => ((impl_Run.f kj56 bt356.1 bt356.2.1 bt356.2.2.1 bt356.2.2.2 a1).bind fun bt362 => ((laws_eqBelt.f kj56 bt362.1 bt362.2.1 bt362.2.2.1 bt362.2.2.2.1 t310 t311 t312 t313).bind fun t372 => (if t372 = true then ((laws_eqExitS.f kj56 bt362.2.2.2.2 t316).bind fun t373 => (laws_FnExactRun.j2 kj56 bt352.2 bt352.1 (!t373) t327 t328 t329 t351)) else (laws_FnExactRun.j2 kj56 bt352.2 bt352.1 true t327 t328 t329 t351))))) else (some false))))))) = some true := H
         have A83 := uD A830
         clear A830
         replace H := Option.bind_eq_some_iff.mp H
         obtain ⟨⟨t352, t353⟩, A840, H⟩ := H
         replace H : ((laws_heldBelt.f kj56 t327 t328 t329 t351 1).bind fun t354 => (if t354 < 0 then (some false) else ((laws_heldExitS.f kj56 t353 t354).bind fun t355 => (if t355 < 0 then (some false) else (if t355 = t352 then ((laws_toBelt.f kj56 a0_0 a0_1 a0_2 l0_3).bind fun bt356 => ((impl_Run.f kj56 bt356.1 bt356.2.1 bt356.2.2.1 bt356.2.2.2 a1).bind fun bt362 => ((laws_eqBelt.f kj56 bt362.1 bt362.2.1 bt362.2.2.1 bt362.2.2.2.1 t310 t311 t312 t313).bind fun t372 => (if t372 = true then ((laws_eqExitS.f kj56 bt362.2.2.2.2 t316).bind fun t373 => (laws_FnExactRun.j2 kj56 t353 t352 (!t373) t327 t328 t329 t351)) else (laws_FnExactRun.j2 kj56 t353 t352 true t327 t328 t329 t351))))) else (some false)))))) = some true := H
         have A84 := uD A840
         clear A840
         replace H := Option.bind_eq_some_iff.mp H
         obtain ⟨t354, A850, H⟩ := H
         replace H : (if t354 < 0 then (some false) else ((laws_heldExitS.f kj56 t353 t354).bind fun t355 => (if t355 < 0 then (some false) else (if t355 = t352 then ((laws_toBelt.f kj56 a0_0 a0_1 a0_2 l0_3).bind fun bt356 => ((impl_Run.f kj56 bt356.1 bt356.2.1 bt356.2.2.1 bt356.2.2.2 a1).bind fun bt362 => ((laws_eqBelt.f kj56 bt362.1 bt362.2.1 bt362.2.2.1 bt362.2.2.2.1 t310 t311 t312 t313).bind fun t372 => (if t372 = true then ((laws_eqExitS.f kj56 bt362.2.2.2.2 t316).bind fun t373 => (laws_FnExactRun.j2 kj56 t353 t352 (!t373) t327 t328 t329 t351)) else (laws_FnExactRun.j2 kj56 t353 t352 true t327 t328 t329 t351))))) else (some false))))) = some true := H
         have A85 := uD A850
         clear A850
         by_cases c86 : t354 < 0
         ·rw [if_pos c86] at H
          have c86b0 : decide (t354 < 0) = true := decide_eq_true c86
          clear c86
          exact absurd H (by simp)
         ·rw [if_neg c86] at H
          have c86b0 : decide (t354 < 0) = false := decide_eq_false c86
          clear c86
          replace H := Option.bind_eq_some_iff.mp H
          obtain ⟨t355, A870, H⟩ := H
          replace H : (if t355 < 0 then (some false) else (if t355 = t352 then ((laws_toBelt.f kj56 a0_0 a0_1 a0_2 l0_3).bind fun bt356 => ((impl_Run.f kj56 bt356.1 bt356.2.1 bt356.2.2.1 bt356.2.2.2 a1).bind fun bt362 => ((laws_eqBelt.f kj56 bt362.1 bt362.2.1 bt362.2.2.1 bt362.2.2.2.1 t310 t311 t312 t313).bind fun t372 => (if t372 = true then ((laws_eqExitS.f kj56 bt362.2.2.2.2 t316).bind fun t373 => (laws_FnExactRun.j2 kj56 t353 t352 (!t373) t327 t328 t329 t351)) else (laws_FnExactRun.j2 kj56 t353 t352 true t327 t328 t329 t351))))) else (some false))) = some true := H
          have A87 := uD A870
          clear A870
          by_cases c88 : t355 < 0
          ·rw [if_pos c88] at H
           have c88b0 : decide (t355 < 0) = true := decide_eq_true c88
           clear c88
           exact absurd H (by simp)
          ·rw [if_neg c88] at H
           have c88b0 : decide (t355 < 0) = false := decide_eq_false c88
           clear c88
           by_cases c89 : t355 = t352
           ·rw [if_pos c89] at H
            have c89b0 : (t355 == t352) = true := beq_iff_eq.mpr c89
            have c89b1 : (t355 != t352) = false := bne_eq_false_iff_eq.mpr c89
            clear c89
            replace H := Option.bind_eq_some_iff.mp H
            obtain ⟨⟨t356, t357, t358, t359⟩, A900, H⟩ := H
            replace H : ((impl_Run.f kj56 t356 t357 t358 t359 a1).bind fun bt362 => ((laws_eqBelt.f kj56 bt362.1 bt362.2.1 bt362.2.2.1 bt362.2.2.2.1 t310 t311 t312 t313).bind fun t372 => (if t372 = true then ((laws_eqExitS.f kj56 bt362.2.2.2.2 t316).bind fun t373 => (laws_FnExactRun.j2 kj56 t353 t352 (!t373) t327 t328 t329 t351)) else (laws_FnExactRun.j2 kj56 t353 t352 true t327 t328 t329 t351)))) = some true := H
            have A90 := uD A900
            clear A900
            replace H := Option.bind_eq_some_iff.mp H
            obtain ⟨⟨t362, t363, t364, t365, t368⟩, A910, H⟩ := H
            replace H : ((laws_eqBelt.f kj56 t362 t363 t364 t365 t310 t311 t312 t313).bind fun t372 => (if t372 = true then ((laws_eqExitS.f kj56 t368 t316).bind fun t373 => (laws_FnExactRun.j2 kj56 t353 t352 (!t373) t327 t328 t329 t351)) else (laws_FnExactRun.j2 kj56 t353 t352 true t327 t328 t329 t351))) = some true := H
            have A91 := uD A910
            clear A910
            have HC92 := uD H
            clear H
            have hnb93 := NB336_302.out
            have hnc93 := NB302_336.out
            have hnb94 := NB336_319.out
            have hnc94 := NB319_336.out
            have hnb95 := NB336_326.out
            have hnc95 := NB326_336.out
            obtain ⟨hcz96_0, hcz96_1, hcz96_2, hcz96_3, hfz96_0, hfz96_1, hfz96_2, hfz96_3⟩ := cz4 BK336
            go_upto_region 29 with (first | ((with_reducible refine gate_callee (f := 28) rfl ?_); refine goesL_ (some 70) rfl rfl Try.func28 (by kernel_rfl) rfl #[.agg #[.int .i64 t327, .int .i64 t328, .bool t329, .slice Ao37 t330.length co37], .int .i64 1] rfl (by (try simp only [List.map_toArray, List.map_cons, List.map_nil]); first | done | rfl | (simp only [List.length_drop, List.length_take]; rfl)) ?_; (with_reducible refine (laws_markBelt.calls kj56 t327 t328 t329 (fun k_ => some k_ = (.slice Ao37 t330.length co37 : Value).ownBlock) (.slice Ao37 t330.length co37) t330 1 t350 t351 w _ ?side1 ?side2 A83.out).mono ?_); (case side1 => repeat (first | (with_reducible first | exact HB.out | apply uL | apply uE | apply uK | refine uM ?_ GE302.out | refine uM ?_ GE319.out | refine uM ?_ GE326.out | refine uM ?_ GE336.out) | exact HB.out)); (case side2 => exact (Kd.Q_tight rfl HO_337003.out)); rintro e w97 ⟨rfl, hy0, hb, hkp⟩; refine ⟨_, rfl, ?_⟩; replace HO_7 := uD (uX (ok' := fun k_ => some k_ ≠ (v334 : Value).ownBlock) (Kd.R_keptB ((Kd.R_apart' HO_7.out (Kd.Q_typed HO_337003.out) (by decide))) hkp (fun k_ hk_ hs_ => (hk_.2) hs_)) (fun k_ hk_ => hk_.1.1)); replace HO_10 := uD (uX (ok' := fun k_ => some k_ ≠ (v317 : Value).ownBlock) (Kd.R_keptB ((Kd.R_apart' HO_10.out (Kd.Q_typed HO_337003.out) (by decide))) hkp (fun k_ hk_ hs_ => (hk_.2) hs_)) (fun k_ hk_ => hk_.1.1)); replace HO_320003 := uD (Kd.Q_mono (ok' := fun k_ => some k_ ≠ (.slice Ao30 t347.length co30 : Value).ownBlock ∧ some k_ ≠ (.slice Ao37 t330.length co37 : Value).ownBlock) (Kd.Q_keptB (HO_320003.out) hkp (fun k_ hk_ hs_ => (hk_.2) hs_)) (fun k_ hk_ => ⟨hk_.1.1, hk_.1.2⟩)); replace HO_327003 := uD (Kd.Q_mono (ok' := fun k_ => some k_ ≠ (.slice Ao23 t313.length co23 : Value).ownBlock ∧ some k_ ≠ (.slice Ao37 t330.length co37 : Value).ownBlock) (Kd.Q_keptB (HO_327003.out) hkp (fun k_ hk_ hs_ => (hk_.2) hs_)) (fun k_ hk_ => ⟨hk_.1.1, hk_.1.2⟩)); replace BK302 := uD (blk_kept (pk BK302) hkp (fun hs_ => (fun e_ => (Kd.Q_ne HO_337003.out BK302.out (by decide)) e_) hs_)); replace BK319 := uD (blk_kept (pk BK319) hkp (fun hs_ => (fun e_ => (Kd.Q_ne HO_337003.out BK319.out (by decide)) e_) hs_)); replace BK326 := uD (blk_kept (pk BK326) hkp (fun hs_ => (fun e_ => (Kd.Q_ne HO_337003.out BK326.out (by decide)) e_) hs_)); replace BK336 := uD (blk_kept (pk BK336) hkp (fun hs_ => (fun e_ => (Kd.Q_ne HO_337003.out BK336.out (by decide)) e_) hs_)); replace HO_337003 := uD (Kd.Q_mono (Kd.Q_tight rfl hy0) (fun k_ e_ => HO_337003.out.1 k_ e_.symm)); replace HB := uD (hb); (try clear hb); (try clear hkp); (try clear hy0); obtain ⟨Ao98, co98, eo98⟩ := Kd.R_slice HO_10.out; subst eo98) | ((with_reducible refine gate_callee (f := 37) rfl ?_); refine goesL_ (some 73) rfl rfl Try.func37 (by kernel_rfl) rfl #[.slice Ao98 t333.length co98, .int .i64 t350] rfl (by (try simp only [List.map_toArray, List.map_cons, List.map_nil]); first | done | rfl | (simp only [List.length_drop, List.length_take]; rfl)) ?_; (with_reducible refine (laws_markExitS.calls kj56 (fun k_ => some k_ = (.slice Ao98 t333.length co98 : Value).ownBlock) (.slice Ao98 t333.length co98) t333 t350 t352 t353 w _ ?side1 ?side2 A84.out).mono ?_); (case side1 => repeat (first | (with_reducible first | exact HB.out | apply uL | apply uE | apply uK | refine uM ?_ GE302.out | refine uM ?_ GE319.out | refine uM ?_ GE326.out | refine uM ?_ GE336.out) | exact HB.out)); (case side2 => exact Kd.R_tight rfl HO_10.out); rintro e w99 ⟨rfl, hy0, hb, hkp⟩; refine ⟨_, rfl, ?_⟩; replace HO_7 := uD (uX (ok' := fun k_ => some k_ ≠ (.slice Ao98 t333.length co98 : Value).ownBlock) (Kd.R_keptB (HO_7.out) hkp (fun k_ hk_ hs_ => (hk_) hs_)) (fun k_ hk_ => hk_.1)); replace HO_320003 := uD (Kd.Q_mono (ok' := fun k_ => some k_ ≠ (.slice Ao30 t347.length co30 : Value).ownBlock ∧ some k_ ≠ (.slice Ao37 t330.length co37 : Value).ownBlock) (Kd.Q_keptB ((Kd.Q_apart' HO_320003.out (Kd.R_typed HO_10.out) (by decide))) hkp (fun k_ hk_ hs_ => (hk_.2) hs_)) (fun k_ hk_ => ⟨hk_.1.1.1, hk_.1.1.2⟩)); replace HO_327003 := uD (Kd.Q_mono (ok' := fun k_ => some k_ ≠ (.slice Ao23 t313.length co23 : Value).ownBlock ∧ some k_ ≠ (.slice Ao37 t330.length co37 : Value).ownBlock) (Kd.Q_keptB ((Kd.Q_apart' HO_327003.out (Kd.R_typed HO_10.out) (by decide))) hkp (fun k_ hk_ hs_ => (hk_.2) hs_)) (fun k_ hk_ => ⟨hk_.1.1.1, hk_.1.1.2⟩)); replace HO_337003 := uD (Kd.Q_mono (ok' := fun k_ => some k_ ≠ (.slice Ao23 t313.length co23 : Value).ownBlock ∧ some k_ ≠ (.slice Ao30 t347.length co30 : Value).ownBlock) (Kd.Q_keptB ((Kd.Q_apart' HO_337003.out (Kd.R_typed HO_10.out) (by decide))) hkp (fun k_ hk_ hs_ => (hk_.2) hs_)) (fun k_ hk_ => ⟨hk_.1.1.1, hk_.1.1.2⟩)); replace BK302 := uD (blk_kept (pk BK302) hkp (fun hs_ => (fun e_ => (Kd.R_ne HO_10.out BK302.out (by decide)) e_) hs_)); replace BK319 := uD (blk_kept (pk BK319) hkp (fun hs_ => (fun e_ => (Kd.R_ne HO_10.out BK319.out (by decide)) e_) hs_)); replace BK326 := uD (blk_kept (pk BK326) hkp (fun hs_ => (fun e_ => (Kd.R_ne HO_10.out BK326.out (by decide)) e_) hs_)); replace BK336 := uD (blk_kept (pk BK336) hkp (fun hs_ => (fun e_ => (Kd.R_ne HO_10.out BK336.out (by decide)) e_) hs_)); replace HO_10 := uD (Kd.R_reok rfl hy0 (fun k_ e_ => HO_10.out.1 k_ e_)); replace HB := uD (hb); (try clear hb); (try clear hkp); (try clear hy0); obtain ⟨hcz100_0, hcz100_1, hcz100_2, hcz100_3, hfz100_0, hfz100_1, hfz100_2, hfz100_3⟩ := cz4 BK336) | ((with_reducible refine gate_callee (f := 29) rfl ?_); refine goesL_ (some 76) rfl rfl Try.func29 (by kernel_rfl) rfl #[.agg #[.int .i64 t327, .int .i64 t328, .bool t329, .slice Ao37 t351.length co37], .int .i64 1] rfl (by (try simp only [List.map_toArray, List.map_cons, List.map_nil]); first | done | (rw [show t351.length = t330.length from (Kd.Q_reads' HO_337003.out).1.symm] <;> rfl) | rfl | (simp only [List.length_drop, List.length_take]; rfl)) ?_; (with_reducible refine (laws_heldBelt.calls kj56 t327 t328 t329 _ _ t351 1 t354 _ ?side1 ?side2 A85.out).mono ?_); (case side1 => repeat (first | exact (Kd.Q_reads' HO_337003.out).2.2 | (with_reducible refine Kd.C_alloc ?_ _) | (with_reducible refine Kd.C_drewN ?_ _) | (with_reducible refine Kd.C_drew ?_))); (case side2 => rw [show t351.length = t330.length from (Kd.Q_reads' HO_337003.out).1.symm]; exact (Kd.Q_reads' HO_337003.out).2.1); rintro e w101 ⟨rfl, hb⟩; refine ⟨_, rfl, ?_⟩; replace HO_7 := uD (Kd.R_below (pr HO_7) hb); replace HO_10 := uD (Kd.R_below (pr HO_10) hb); replace HO_320003 := uD (Kd.Q_below (pq HO_320003) hb); replace HO_327003 := uD (Kd.Q_below (pq HO_327003) hb); replace HO_337003 := uD (Kd.Q_below (pq HO_337003) hb); replace BK302 := uD (blk_below (pk BK302) hb); replace BK319 := uD (blk_below (pk BK319) hb); replace BK326 := uD (blk_below (pk BK326) hb); replace BK336 := uD (blk_below (pk BK336) hb); replace HB := uD (uO (pb HB) hb); (try clear hb); (try clear hb2); (try clear hk); (try clear hi)) | ((with_reducible refine gate_callee (f := 38) rfl ?_); refine goesL_ (some 81) rfl rfl Try.func38 (by kernel_rfl) rfl #[.slice Ao98 t353.length co98, .int .i64 t354] rfl (by (try simp only [List.map_toArray, List.map_cons, List.map_nil]); first | done | (rw [show t353.length = t333.length from (Kd.R_reads' HO_10.out).1.symm] <;> rfl) | rfl | (simp only [List.length_drop, List.length_take]; rfl)) ?_; (with_reducible refine (laws_heldExitS.calls kj56 _ _ t353 t354 t355 _ ?side1 ?side2 A87.out).mono ?_); (case side1 => repeat (first | exact (Kd.R_reads' HO_10.out).2.2 | (with_reducible refine Kd.C_alloc ?_ _) | (with_reducible refine Kd.C_drewN ?_ _) | (with_reducible refine Kd.C_drew ?_))); (case side2 => rw [show t353.length = t333.length from (Kd.R_reads' HO_10.out).1.symm]; exact (Kd.R_reads' HO_10.out).2.1); rintro e w' ⟨rfl, ⟨nd, rfl⟩⟩; refine ⟨_, rfl, ?_⟩; (try (rw [drewN_self w101]; generalize hq_ : World.drewN w101 _ = w101; have n0_ : Aside0 (Kd.R k56 56 w101 w.heap.size (fun k_ => some k_ ≠ (v317 : Value).ownBlock) (.slice Ao98 t333.length co98) t353) := ⟨by rw [← hq_]; exact (pr HO_10)⟩; have n1_ : Aside0 (Kd.Q k53 53 w101 w.heap.size (fun k_ => some k_ ≠ (.slice Ao30 t347.length co30 : Value).ownBlock ∧ some k_ ≠ (.slice Ao37 t330.length co37 : Value).ownBlock) (.slice Ao23 t313.length co23) t313) := ⟨by rw [← hq_]; exact (pq HO_320003)⟩; have n2_ : Aside0 (Kd.Q k53 53 w101 w.heap.size (fun k_ => some k_ ≠ (.slice Ao23 t313.length co23 : Value).ownBlock ∧ some k_ ≠ (.slice Ao37 t330.length co37 : Value).ownBlock) (.slice Ao30 t347.length co30) t347) := ⟨by rw [← hq_]; exact (pq HO_327003)⟩; have n3_ : Aside0 (Kd.Q k53 53 w101 w.heap.size (fun k_ => some k_ ≠ (.slice Ao23 t313.length co23 : Value).ownBlock ∧ some k_ ≠ (.slice Ao30 t347.length co30 : Value).ownBlock) (.slice Ao37 t330.length co37) t351) := ⟨by rw [← hq_]; exact (pq HO_337003)⟩; have n4_ : Aside0 (Kd.R k56 56 w101 w.heap.size (fun k_ => some k_ ≠ (.slice Ao98 t333.length co98 : Value).ownBlock) v317 t316) := ⟨by rw [← hq_]; exact (pr HO_7)⟩; have n5_ : Aside0 (w101.heap[gb302]? = some (.cells #[.int .i64 a0_0, .int .i64 a0_1, .bool a0_2, .slice A0_3 l0_3.length c0_3] 24 (0, 0))) := ⟨by rw [← hq_]; exact (pk BK302)⟩; have n6_ : Aside0 (w101.heap[gb319]? = some (.cells #[.int .i64 t310, .int .i64 t311, .bool t312, .slice Ao23 t313.length co23] 29 (0, 0))) := ⟨by rw [← hq_]; exact (pk BK319)⟩; have n7_ : Aside0 (w101.heap[gb326]? = some (.cells #[.int .i64 t320, .int .i64 t321, .bool t322, .slice Ao30 t347.length co30] 29 (0, 0))) := ⟨by rw [← hq_]; exact (pk BK326)⟩; have n8_ : Aside0 (w101.heap[gb336]? = some (.cells #[.int .i64 t327, .int .i64 t328, .bool t329, .slice Ao37 t330.length co37] 29 (0, 0))) := ⟨by rw [← hq_]; exact (pk BK336)⟩; have n9_ : Aside0 (Below w.heap.size w w101) := ⟨by rw [← hq_]; exact (pb HB)⟩; clear HO_10 HO_320003 HO_327003 HO_337003 HO_7 BK302 BK319 BK326 BK336 HB hq_; have HO_10 := n0_; have HO_320003 := n1_; have HO_327003 := n2_; have HO_337003 := n3_; have HO_7 := n4_; have BK302 := n5_; have BK319 := n6_; have BK326 := n7_; have BK336 := n8_; have HB := n9_; clear n0_ n1_ n2_ n3_ n4_ n5_ n6_ n7_ n8_ n9_)); have hnb102 := NB302_319.out; have hnc102 := NB319_302.out; have hnb103 := NB302_326.out; have hnc103 := NB326_302.out; obtain ⟨hcz104_0, hcz104_1, hcz104_2, hcz104_3, hfz104_0, hfz104_1, hfz104_2, hfz104_3⟩ := cz4 BK302) | ((with_reducible refine gate_callee (f := 17) rfl ?_); refine goesL_ (some 89) rfl rfl Try.func17 (by kernel_rfl) rfl #[.agg #[.int .i64 a0_0, .int .i64 a0_1, .bool a0_2, .slice A0_3 l0_3.length c0_3]] rfl (by (try simp only [List.map_toArray, List.map_cons, List.map_nil]); first | done | rfl | (simp only [List.length_drop, List.length_take]; rfl)) ?_; (with_reducible refine (laws_toBelt.calls kj56 a0_0 a0_1 a0_2 _ _ l0_3 t356 t357 t358 t359 _ ?side1 ?side2 A90.out).mono ?_); (case side1 => repeat (first | exact (Kd.C_below HR0_3.out HB.out) | (with_reducible refine Kd.C_alloc ?_ _) | (with_reducible refine Kd.C_drewN ?_ _) | (with_reducible refine Kd.C_drew ?_))); (case side2 => exact HC0_3.out); rintro e w105 ⟨v360, rfl, ho0, hb⟩; refine ⟨_, rfl, ?_⟩; replace HO_7 := uD (Kd.R_below (pr HO_7) hb); replace HO_10 := uD (Kd.R_below (pr HO_10) hb); have HO361 := uD (Kd.R_lower (Kd.R_new' (Kd.R_new' (Kd.R_new' ho0 (Kd.Q_lt (pq HO_320003))) (Kd.Q_lt (pq HO_327003))) (Kd.Q_lt (pq HO_337003))) (uN (pb HB))); replace HO_320003 := uD (Kd.Q_elder' (pq HO_320003) (Kd.R_base ho0) hb); replace HO_327003 := uD (Kd.Q_elder' (pq HO_327003) (Kd.R_base ho0) hb); replace HO_337003 := uD (Kd.Q_elder' (pq HO_337003) (Kd.R_base ho0) hb); replace BK302 := uD (blk_below (pk BK302) hb); replace BK319 := uD (blk_below (pk BK319) hb); replace BK326 := uD (blk_below (pk BK326) hb); replace BK336 := uD (blk_below (pk BK336) hb); replace HB := uD (uO (pb HB) hb); (try clear hb); (try clear hb2); (try clear hk); (try clear hi); (try clear ho0); obtain ⟨Ao106, co106, eo106⟩ := Kd.R_slice HO361.out; subst eo106) | ((with_reducible refine gate_callee (f := 35) rfl ?_); refine goesL_ (some 91) rfl rfl Try.func35 (by kernel_rfl) rfl #[.agg #[.int .i64 t356, .int .i64 t357, .bool t358, .slice Ao106 t359.length co106], .int .i64 a1] rfl (by (try simp only [List.map_toArray, List.map_cons, List.map_nil]); first | done | rfl | (simp only [List.length_drop, List.length_take]; rfl)) ?_; (with_reducible refine (impl_Run.calls kj56 t356 t357 t358 _ _ t359 a1 t362 t363 t364 t365 t368 _ ?side1 ?side2 A91.out).mono ?_); (case side1 => repeat (first | exact (Kd.R_reads' HO361.out).2.2 | (with_reducible refine Kd.C_alloc ?_ _) | (with_reducible refine Kd.C_drewN ?_ _) | (with_reducible refine Kd.C_drew ?_))); (case side2 => exact (Kd.R_reads' HO361.out).2.1); rintro e w107 ⟨v366, v369, rfl, ho0, ho1, hb⟩; refine ⟨_, rfl, ?_⟩; have HO367 := uD (Kd.Q_lower (Kd.Q_new' (Kd.Q_new' (Kd.Q_new' (Kd.Q_new' ho0 (Kd.Q_lt (pq HO_320003))) (Kd.Q_lt (pq HO_327003))) (Kd.Q_lt (pq HO_337003))) (Kd.R_lt (pr HO361))) (uN (pb HB))); replace HO_320003 := uD (Kd.Q_elder' (pq HO_320003) (Kd.Q_base ho0) hb); replace HO_327003 := uD (Kd.Q_elder' (pq HO_327003) (Kd.Q_base ho0) hb); replace HO_337003 := uD (Kd.Q_elder' (pq HO_337003) (Kd.Q_base ho0) hb); replace HO361 := uD (Kd.R_elder' (pr HO361) (Kd.Q_base ho0) hb); have HO370 := uD (Kd.R_lower (Kd.R_new' (Kd.R_new' ho1 (Kd.R_lt (pr HO_7))) (Kd.R_lt (pr HO_10))) (uN (pb HB))); replace HO_7 := uD (Kd.R_elder' (pr HO_7) (Kd.R_base ho1) hb); replace HO_10 := uD (Kd.R_elder' (pr HO_10) (Kd.R_base ho1) hb); replace BK302 := uD (blk_below (pk BK302) hb); replace BK319 := uD (blk_below (pk BK319) hb); replace BK326 := uD (blk_below (pk BK326) hb); replace BK336 := uD (blk_below (pk BK336) hb); replace HB := uD (uO (pb HB) hb); (try clear hb); (try clear hb2); (try clear hk); (try clear hi); (try clear ho0); (try clear ho1)) | ((with_reducible refine gate_dst (N := 14) rfl ?_); refine box_event ?hg (N := 14) ?hd (cs := #[.int .i64 0, .int .i64 0, .bool false, .slice none 0 0]) (t := 29) ?hr ?_; (case hd => rfl); (case hg => rfl); (case hr => first | (go_simp; done) | (go_simp; rfl)); intro gb371 hg w108 hbox hb; replace HO_7 := uD (Kd.R_below (pr HO_7) hb); replace HO_10 := uD (Kd.R_below (pr HO_10) hb); replace HO_320003 := uD (Kd.Q_below (pq HO_320003) hb); replace HO_327003 := uD (Kd.Q_below (pq HO_327003) hb); replace HO_337003 := uD (Kd.Q_below (pq HO_337003) hb); replace HO361 := uD (Kd.R_below (pr HO361) hb); replace HO367 := uD (Kd.Q_below (pq HO367) hb); replace HO370 := uD (Kd.R_below (pr HO370) hb); have BK371 := uD (hbox); have GW371 := uD ((by rw [hg]; exact (uN (pb HB)) : w.heap.size ≤ gb371)); have GE371 := uD ((by rw [hg]; exact (uN (pb HB)) : w.heap.size ≤ gb371)); replace HB := uD (uO (pb HB) hb); have NB302_371 := uD ((by rw [hg]; exact Nat.ne_of_lt (blk_lt (g := gb302) (o := .cells #[.int .i64 a0_0, .int .i64 a0_1, .bool a0_2, .slice A0_3 l0_3.length c0_3] 24 (0, 0)) (pk BK302)) : gb302 ≠ gb371)); have NB371_302 := uD ((by rw [hg]; exact Nat.ne_of_gt (blk_lt (g := gb302) (o := .cells #[.int .i64 a0_0, .int .i64 a0_1, .bool a0_2, .slice A0_3 l0_3.length c0_3] 24 (0, 0)) (pk BK302)) : gb371 ≠ gb302)); replace BK302 := uD (blk_below (pk BK302) hb); have NB319_371 := uD ((by rw [hg]; exact Nat.ne_of_lt (blk_lt (g := gb319) (o := .cells #[.int .i64 t310, .int .i64 t311, .bool t312, .slice Ao23 t313.length co23] 29 (0, 0)) (pk BK319)) : gb319 ≠ gb371)); have NB371_319 := uD ((by rw [hg]; exact Nat.ne_of_gt (blk_lt (g := gb319) (o := .cells #[.int .i64 t310, .int .i64 t311, .bool t312, .slice Ao23 t313.length co23] 29 (0, 0)) (pk BK319)) : gb371 ≠ gb319)); replace BK319 := uD (blk_below (pk BK319) hb); have NB326_371 := uD ((by rw [hg]; exact Nat.ne_of_lt (blk_lt (g := gb326) (o := .cells #[.int .i64 t320, .int .i64 t321, .bool t322, .slice Ao30 t347.length co30] 29 (0, 0)) (pk BK326)) : gb326 ≠ gb371)); have NB371_326 := uD ((by rw [hg]; exact Nat.ne_of_gt (blk_lt (g := gb326) (o := .cells #[.int .i64 t320, .int .i64 t321, .bool t322, .slice Ao30 t347.length co30] 29 (0, 0)) (pk BK326)) : gb371 ≠ gb326)); replace BK326 := uD (blk_below (pk BK326) hb); have NB336_371 := uD ((by rw [hg]; exact Nat.ne_of_lt (blk_lt (g := gb336) (o := .cells #[.int .i64 t327, .int .i64 t328, .bool t329, .slice Ao37 t330.length co37] 29 (0, 0)) (pk BK336)) : gb336 ≠ gb371)); have NB371_336 := uD ((by rw [hg]; exact Nat.ne_of_gt (blk_lt (g := gb336) (o := .cells #[.int .i64 t327, .int .i64 t328, .bool t329, .slice Ao37 t330.length co37] 29 (0, 0)) (pk BK336)) : gb371 ≠ gb336)); replace BK336 := uD (blk_below (pk BK336) hb); clear hb hbox hg; have hnb109 := NB371_302.out; have hnc109 := NB302_371.out; have hnb110 := NB371_319.out; have hnc110 := NB319_371.out; have hnb111 := NB371_326.out; have hnc111 := NB326_371.out; have hnb112 := NB371_336.out; have hnc112 := NB336_371.out; obtain ⟨hcz113_0, hcz113_1, hcz113_2, hcz113_3, hfz113_0, hfz113_1, hfz113_2, hfz113_3⟩ := cz4 BK371; obtain ⟨Ao114, co114, eo114, _⟩ := Kd.Q_slice HO367.out; subst eo114))
            (try simp only [uc, uA, uB, uC])
            go_cut [103] (fun v103 wc => ∃ (kq : Nat) (x103_91 : Bool), v103 = .bool x103_91 ∧ Aside0 (laws_FnExactRun.j2 kq t353 t352 x103_91 t327 t328 t329 t351 = some true) ∧ Aside0 (kq ≤ kj56) ∧ Aside0 (Kd.R k56 56 wc w.heap.size (fun _ => True) (.slice Ao98 t333.length co98) t353) ∧ Aside0 (Kd.Q k53 53 wc w.heap.size (fun k_ => some k_ ≠ ((.slice Ao30 t347.length co30) : Value).ownBlock ∧ some k_ ≠ ((.slice Ao37 t330.length co37) : Value).ownBlock ∧ some k_ ≠ ((.slice Ao114 t365.length co114) : Value).ownBlock) (.slice Ao23 t313.length co23) t313) ∧ Aside0 (Kd.Q k53 53 wc w.heap.size (fun k_ => some k_ ≠ ((.slice Ao23 t313.length co23) : Value).ownBlock ∧ some k_ ≠ ((.slice Ao37 t330.length co37) : Value).ownBlock ∧ some k_ ≠ ((.slice Ao114 t365.length co114) : Value).ownBlock) (.slice Ao30 t347.length co30) t347) ∧ Aside0 (Kd.Q k53 53 wc w.heap.size (fun k_ => some k_ ≠ ((.slice Ao23 t313.length co23) : Value).ownBlock ∧ some k_ ≠ ((.slice Ao30 t347.length co30) : Value).ownBlock ∧ some k_ ≠ ((.slice Ao114 t365.length co114) : Value).ownBlock) (.slice Ao37 t330.length co37) t351) ∧ Aside0 (Kd.Q k53 53 wc w.heap.size (fun k_ => some k_ ≠ ((.slice Ao23 t313.length co23) : Value).ownBlock ∧ some k_ ≠ ((.slice Ao30 t347.length co30) : Value).ownBlock ∧ some k_ ≠ ((.slice Ao37 t330.length co37) : Value).ownBlock) (.slice Ao114 t365.length co114) t365) ∧ Aside0 (wc.heap[gb302]? = some (.cells #[.int .i64 a0_0, .int .i64 a0_1, .bool a0_2, (.slice A0_3 l0_3.length c0_3)] 24 (0, 0))) ∧ Aside0 (wc.heap[gb319]? = some (.cells #[.int .i64 t310, .int .i64 t311, .bool t312, (.slice Ao23 t313.length co23)] 29 (0, 0))) ∧ Aside0 (wc.heap[gb326]? = some (.cells #[.int .i64 t320, .int .i64 t321, .bool t322, (.slice Ao30 t347.length co30)] 29 (0, 0))) ∧ Aside0 (wc.heap[gb336]? = some (.cells #[.int .i64 t327, .int .i64 t328, .bool t329, (.slice Ao37 t330.length co37)] 29 (0, 0))) ∧ Aside0 (wc.heap[gb371]? = some (.cells #[.int .i64 t362, .int .i64 t363, .bool t364, (.slice Ao114 t365.length co114)] 29 (0, 0))) ∧ Aside0 (Below w.heap.size w wc))
            case first =>
             have H := HC92.out
             clear HC92
             replace H := Option.bind_eq_some_iff.mp H
             obtain ⟨t372, A1150, H⟩ := H
             replace H : (if t372 = true then ((laws_eqExitS.f kj56 t368 t316).bind fun t373 => (laws_FnExactRun.j2 kj56 t353 t352 (!t373) t327 t328 t329 t351)) else (laws_FnExactRun.j2 kj56 t353 t352 true t327 t328 t329 t351)) = some true := H
             have A115 := uD A1150
             clear A1150
             by_cases c116 : t372 = true
             ·subst c116
              have H1 : ((laws_eqExitS.f kj56 t368 t316).bind fun t373 => (laws_FnExactRun.j2 kj56 t353 t352 (!t373) t327 t328 t329 t351)) = some true := by rw [if_pos rfl] at H; first | done | exact H
              clear H
              have H := H1
              clear H1
              replace H := Option.bind_eq_some_iff.mp H
              obtain ⟨t373, A1170, H⟩ := H
              replace H : (laws_FnExactRun.j2 kj56 t353 t352 (!t373) t327 t328 t329 t351) = some true := H
              have A117 := uD A1170
              clear A1170
              have H' := uD H
              clear H
              have hnb118 := NB371_302.out
              have hnc118 := NB302_371.out
              have hnb119 := NB371_319.out
              have hnc119 := NB319_371.out
              have hnb120 := NB371_326.out
              have hnc120 := NB326_371.out
              have hnb121 := NB371_336.out
              have hnc121 := NB336_371.out
              obtain ⟨hcz122_0, hcz122_1, hcz122_2, hcz122_3, hfz122_0, hfz122_1, hfz122_2, hfz122_3⟩ := cz4 BK371
              have hnb123 := NB319_302.out
              have hnc123 := NB302_319.out
              have hnb124 := NB319_326.out
              have hnc124 := NB326_319.out
              have hnb125 := NB319_336.out
              have hnc125 := NB336_319.out
              obtain ⟨hcz126_0, hcz126_1, hcz126_2, hcz126_3, hfz126_0, hfz126_1, hfz126_2, hfz126_3⟩ := cz4 BK319
              go_wp2_with (first | ((with_reducible refine gate_callee (f := 19) rfl ?_); refine goesL_ (some 96) rfl rfl Try.func19 (by kernel_rfl) rfl #[.agg #[.int .i64 t362, .int .i64 t363, .bool t364, .slice Ao114 t365.length co114], .agg #[.int .i64 t310, .int .i64 t311, .bool t312, .slice Ao23 t313.length co23]] rfl (by (try simp only [List.map_toArray, List.map_cons, List.map_nil]); first | done | rfl | (simp only [List.length_drop, List.length_take]; rfl)) ?_; (with_reducible refine (laws_eqBelt.calls kj56 t362 t363 t364 _ _ t365 t310 t311 t312 _ _ t313 true _ ?side1 ?side2 ?side3 ?side4 A115.out).mono ?_); (case side1 => refine (Kd.Q_reads' (e := 53) (base := w.heap.size) (ok := fun k_ => ((((True ∧ some k_ ≠ (.slice Ao23 t313.length co23 : Value).ownBlock) ∧ some k_ ≠ (.slice Ao30 t347.length co30 : Value).ownBlock) ∧ some k_ ≠ (.slice Ao37 t330.length co37 : Value).ownBlock) ∧ some k_ ≠ (.slice Ao106 t359.length co106 : Value).ownBlock)) (n := t365.length) (c := co114) ?_).2.2; exact (by (with_reducible repeat (first | apply Kd.Q_alloc | apply Kd.Q_drewN | apply Kd.Q_drew)); exact (Kd.Q_mono (Kd.Q_far (p := ⟨gb371, 3, none⟩) (Kd.Q_far (p := ⟨gb371, 2, none⟩) (Kd.Q_far (p := ⟨gb371, 1, none⟩) (Kd.Q_far (p := ⟨gb371, 0, none⟩) (Kd.Q_types HO367.out BK371.out (by decide)) (fun _ hk => hk.2) (.int .i64 t362)) (fun _ hk => hk.2) (.int .i64 t363)) (fun _ hk => hk.2) (.bool t364)) (fun _ hk => hk.2) (.slice Ao114 t365.length co114)) (fun _ h_ => h_.1)))); (case side2 => exact (Kd.Q_reads' HO367.out).2.1); (case side3 => refine (Kd.Q_reads' (e := 53) (base := w.heap.size) (ok := fun k_ => (((some k_ ≠ (.slice Ao30 t347.length co30 : Value).ownBlock ∧ some k_ ≠ (.slice Ao37 t330.length co37 : Value).ownBlock) ∧ some k_ ≠ (.slice Ao106 t359.length co106 : Value).ownBlock) ∧ some k_ ≠ (.slice Ao114 t365.length co114 : Value).ownBlock)) (n := t313.length) (c := co23) ?_).2.2; exact (by (with_reducible repeat (first | apply Kd.Q_alloc | apply Kd.Q_drewN | apply Kd.Q_drew)); exact (Kd.Q_mono (Kd.Q_far (p := ⟨gb371, 3, none⟩) (Kd.Q_far (p := ⟨gb371, 2, none⟩) (Kd.Q_far (p := ⟨gb371, 1, none⟩) (Kd.Q_far (p := ⟨gb371, 0, none⟩) (Kd.Q_types HO_320003.out BK371.out (by decide)) (fun _ hk => hk.2) (.int .i64 t362)) (fun _ hk => hk.2) (.int .i64 t363)) (fun _ hk => hk.2) (.bool t364)) (fun _ hk => hk.2) (.slice Ao114 t365.length co114)) (fun _ h_ => h_.1)))); (case side4 => exact (Kd.Q_reads' HO_320003.out).2.1); rintro e w127 ⟨rfl, hb⟩; refine ⟨_, rfl, ?_⟩; replace HO_7 := uD (Kd.R_below (by (with_reducible repeat (first | apply uU | apply uS | apply uT)); exact (uX (uV (p := ⟨gb371, 3, none⟩) (uV (p := ⟨gb371, 2, none⟩) (uV (p := ⟨gb371, 1, none⟩) (uV (p := ⟨gb371, 0, none⟩) (uW HO_7.out BK371.out (by decide)) (fun _ hk => hk.2) (.int .i64 t362)) (fun _ hk => hk.2) (.int .i64 t363)) (fun _ hk => hk.2) (.bool t364)) (fun _ hk => hk.2) (.slice Ao114 t365.length co114)) (fun _ h_ => h_.1))) hb); replace HO_10 := uD (Kd.R_below (by (with_reducible repeat (first | apply uU | apply uS | apply uT)); exact (uX (uV (p := ⟨gb371, 3, none⟩) (uV (p := ⟨gb371, 2, none⟩) (uV (p := ⟨gb371, 1, none⟩) (uV (p := ⟨gb371, 0, none⟩) (uW HO_10.out BK371.out (by decide)) (fun _ hk => hk.2) (.int .i64 t362)) (fun _ hk => hk.2) (.int .i64 t363)) (fun _ hk => hk.2) (.bool t364)) (fun _ hk => hk.2) (.slice Ao114 t365.length co114)) (fun _ h_ => h_.1))) hb); replace HO_320003 := uD (Kd.Q_below (by (with_reducible repeat (first | apply Kd.Q_alloc | apply Kd.Q_drewN | apply Kd.Q_drew)); exact (Kd.Q_mono (Kd.Q_far (p := ⟨gb371, 3, none⟩) (Kd.Q_far (p := ⟨gb371, 2, none⟩) (Kd.Q_far (p := ⟨gb371, 1, none⟩) (Kd.Q_far (p := ⟨gb371, 0, none⟩) (Kd.Q_types HO_320003.out BK371.out (by decide)) (fun _ hk => hk.2) (.int .i64 t362)) (fun _ hk => hk.2) (.int .i64 t363)) (fun _ hk => hk.2) (.bool t364)) (fun _ hk => hk.2) (.slice Ao114 t365.length co114)) (fun _ h_ => h_.1))) hb); replace HO_327003 := uD (Kd.Q_below (by (with_reducible repeat (first | apply Kd.Q_alloc | apply Kd.Q_drewN | apply Kd.Q_drew)); exact (Kd.Q_mono (Kd.Q_far (p := ⟨gb371, 3, none⟩) (Kd.Q_far (p := ⟨gb371, 2, none⟩) (Kd.Q_far (p := ⟨gb371, 1, none⟩) (Kd.Q_far (p := ⟨gb371, 0, none⟩) (Kd.Q_types HO_327003.out BK371.out (by decide)) (fun _ hk => hk.2) (.int .i64 t362)) (fun _ hk => hk.2) (.int .i64 t363)) (fun _ hk => hk.2) (.bool t364)) (fun _ hk => hk.2) (.slice Ao114 t365.length co114)) (fun _ h_ => h_.1))) hb); replace HO_337003 := uD (Kd.Q_below (by (with_reducible repeat (first | apply Kd.Q_alloc | apply Kd.Q_drewN | apply Kd.Q_drew)); exact (Kd.Q_mono (Kd.Q_far (p := ⟨gb371, 3, none⟩) (Kd.Q_far (p := ⟨gb371, 2, none⟩) (Kd.Q_far (p := ⟨gb371, 1, none⟩) (Kd.Q_far (p := ⟨gb371, 0, none⟩) (Kd.Q_types HO_337003.out BK371.out (by decide)) (fun _ hk => hk.2) (.int .i64 t362)) (fun _ hk => hk.2) (.int .i64 t363)) (fun _ hk => hk.2) (.bool t364)) (fun _ hk => hk.2) (.slice Ao114 t365.length co114)) (fun _ h_ => h_.1))) hb); replace HO361 := uD (Kd.R_below (by (with_reducible repeat (first | apply uU | apply uS | apply uT)); exact (uX (uV (p := ⟨gb371, 3, none⟩) (uV (p := ⟨gb371, 2, none⟩) (uV (p := ⟨gb371, 1, none⟩) (uV (p := ⟨gb371, 0, none⟩) (uW HO361.out BK371.out (by decide)) (fun _ hk => hk.2) (.int .i64 t362)) (fun _ hk => hk.2) (.int .i64 t363)) (fun _ hk => hk.2) (.bool t364)) (fun _ hk => hk.2) (.slice Ao114 t365.length co114)) (fun _ h_ => h_.1))) hb); replace HO367 := uD (Kd.Q_below (by (with_reducible repeat (first | apply Kd.Q_alloc | apply Kd.Q_drewN | apply Kd.Q_drew)); exact (Kd.Q_mono (Kd.Q_far (p := ⟨gb371, 3, none⟩) (Kd.Q_far (p := ⟨gb371, 2, none⟩) (Kd.Q_far (p := ⟨gb371, 1, none⟩) (Kd.Q_far (p := ⟨gb371, 0, none⟩) (Kd.Q_types HO367.out BK371.out (by decide)) (fun _ hk => hk.2) (.int .i64 t362)) (fun _ hk => hk.2) (.int .i64 t363)) (fun _ hk => hk.2) (.bool t364)) (fun _ hk => hk.2) (.slice Ao114 t365.length co114)) (fun _ h_ => h_.1))) hb); replace HO370 := uD (Kd.R_below (by (with_reducible repeat (first | apply uU | apply uS | apply uT)); exact (uX (uV (p := ⟨gb371, 3, none⟩) (uV (p := ⟨gb371, 2, none⟩) (uV (p := ⟨gb371, 1, none⟩) (uV (p := ⟨gb371, 0, none⟩) (uW HO370.out BK371.out (by decide)) (fun _ hk => hk.2) (.int .i64 t362)) (fun _ hk => hk.2) (.int .i64 t363)) (fun _ hk => hk.2) (.bool t364)) (fun _ hk => hk.2) (.slice Ao114 t365.length co114)) (fun _ h_ => h_.1))) hb); replace BK302 := uD (blk_below (g := gb302) (o := .cells #[.int .i64 a0_0, .int .i64 a0_1, .bool a0_2, .slice A0_3 l0_3.length c0_3] 24 (0, 0)) (by (with_reducible repeat (first | refine uH ?_ _ | refine uJ ?_ | refine uG ?_ _)); refine uQ ?_ NB302_371.out _; (with_reducible repeat (first | refine uH ?_ _ | refine uJ ?_ | refine uG ?_ _)); refine uQ ?_ NB302_371.out _; (with_reducible repeat (first | refine uH ?_ _ | refine uJ ?_ | refine uG ?_ _)); refine uQ ?_ NB302_371.out _; (with_reducible repeat (first | refine uH ?_ _ | refine uJ ?_ | refine uG ?_ _)); refine uQ ?_ NB302_371.out _; (with_reducible repeat (first | refine uH ?_ _ | refine uJ ?_ | refine uG ?_ _)); exact BK302.out) hb); replace BK319 := uD (blk_below (g := gb319) (o := .cells #[.int .i64 t310, .int .i64 t311, .bool t312, .slice Ao23 t313.length co23] 29 (0, 0)) (by (with_reducible repeat (first | refine uH ?_ _ | refine uJ ?_ | refine uG ?_ _)); refine uQ ?_ NB319_371.out _; (with_reducible repeat (first | refine uH ?_ _ | refine uJ ?_ | refine uG ?_ _)); refine uQ ?_ NB319_371.out _; (with_reducible repeat (first | refine uH ?_ _ | refine uJ ?_ | refine uG ?_ _)); refine uQ ?_ NB319_371.out _; (with_reducible repeat (first | refine uH ?_ _ | refine uJ ?_ | refine uG ?_ _)); refine uQ ?_ NB319_371.out _; (with_reducible repeat (first | refine uH ?_ _ | refine uJ ?_ | refine uG ?_ _)); exact BK319.out) hb); replace BK326 := uD (blk_below (g := gb326) (o := .cells #[.int .i64 t320, .int .i64 t321, .bool t322, .slice Ao30 t347.length co30] 29 (0, 0)) (by (with_reducible repeat (first | refine uH ?_ _ | refine uJ ?_ | refine uG ?_ _)); refine uQ ?_ NB326_371.out _; (with_reducible repeat (first | refine uH ?_ _ | refine uJ ?_ | refine uG ?_ _)); refine uQ ?_ NB326_371.out _; (with_reducible repeat (first | refine uH ?_ _ | refine uJ ?_ | refine uG ?_ _)); refine uQ ?_ NB326_371.out _; (with_reducible repeat (first | refine uH ?_ _ | refine uJ ?_ | refine uG ?_ _)); refine uQ ?_ NB326_371.out _; (with_reducible repeat (first | refine uH ?_ _ | refine uJ ?_ | refine uG ?_ _)); exact BK326.out) hb); replace BK336 := uD (blk_below (g := gb336) (o := .cells #[.int .i64 t327, .int .i64 t328, .bool t329, .slice Ao37 t330.length co37] 29 (0, 0)) (by (with_reducible repeat (first | refine uH ?_ _ | refine uJ ?_ | refine uG ?_ _)); refine uQ ?_ NB336_371.out _; (with_reducible repeat (first | refine uH ?_ _ | refine uJ ?_ | refine uG ?_ _)); refine uQ ?_ NB336_371.out _; (with_reducible repeat (first | refine uH ?_ _ | refine uJ ?_ | refine uG ?_ _)); refine uQ ?_ NB336_371.out _; (with_reducible repeat (first | refine uH ?_ _ | refine uJ ?_ | refine uG ?_ _)); refine uQ ?_ NB336_371.out _; (with_reducible repeat (first | refine uH ?_ _ | refine uJ ?_ | refine uG ?_ _)); exact BK336.out) hb); replace BK371 := uD (blk_below (g := gb371) (o := .cells #[.int .i64 t362, .int .i64 t363, .bool t364, .slice Ao114 t365.length co114] 29 (0, 0)) (by (with_reducible repeat (first | refine uH ?_ _ | refine uJ ?_ | refine uG ?_ _)); refine uP (cs := #[.int .i64 t362, .int .i64 t363, .bool t364, .slice none 0 0]) ?_ 3 _ rfl; (with_reducible repeat (first | refine uH ?_ _ | refine uJ ?_ | refine uG ?_ _)); refine uP (cs := #[.int .i64 t362, .int .i64 t363, .bool false, .slice none 0 0]) ?_ 2 _ rfl; (with_reducible repeat (first | refine uH ?_ _ | refine uJ ?_ | refine uG ?_ _)); refine uP (cs := #[.int .i64 t362, .int .i64 0, .bool false, .slice none 0 0]) ?_ 1 _ rfl; (with_reducible repeat (first | refine uH ?_ _ | refine uJ ?_ | refine uG ?_ _)); refine uP (cs := #[.int .i64 0, .int .i64 0, .bool false, .slice none 0 0]) ?_ 0 _ rfl; (with_reducible repeat (first | refine uH ?_ _ | refine uJ ?_ | refine uG ?_ _)); exact BK371.out) hb); replace HB := uD (uO (pb HB) hb); (try clear hb); (try clear hb2); (try clear hk); (try clear hi); obtain ⟨Ao128, co128, eo128⟩ := Kd.R_slice HO370.out; subst eo128; obtain ⟨Ao129, co129, eo129⟩ := Kd.R_slice HO_7.out; subst eo129) | (go_at_call 36; (with_reducible refine (laws_eqExitS.calls kj56 _ _ t368 _ _ t316 t373 _ ?side1 ?side2 ?side3 ?side4 A117.out).mono ?_); (case side1 => repeat (first | exact (Kd.R_reads' HO370.out).2.2 | (with_reducible refine Kd.C_alloc ?_ _) | (with_reducible refine Kd.C_drewN ?_ _) | (with_reducible refine Kd.C_drew ?_))); (case side2 => exact (Kd.R_reads' HO370.out).2.1); (case side3 => repeat (first | exact (Kd.R_reads' HO_7.out).2.2 | (with_reducible refine Kd.C_alloc ?_ _) | (with_reducible refine Kd.C_drewN ?_ _) | (with_reducible refine Kd.C_drew ?_))); (case side4 => exact (Kd.R_reads' HO_7.out).2.1); rintro e w130 ⟨rfl, hb⟩; replace HO_7 := uD (Kd.R_below (pr HO_7) hb); replace HO_10 := uD (Kd.R_below (pr HO_10) hb); replace HO_320003 := uD (Kd.Q_below (pq HO_320003) hb); replace HO_327003 := uD (Kd.Q_below (pq HO_327003) hb); replace HO_337003 := uD (Kd.Q_below (pq HO_337003) hb); replace HO361 := uD (Kd.R_below (pr HO361) hb); replace HO367 := uD (Kd.Q_below (pq HO367) hb); replace HO370 := uD (Kd.R_below (pr HO370) hb); replace BK302 := uD (blk_below (pk BK302) hb); replace BK319 := uD (blk_below (pk BK319) hb); replace BK326 := uD (blk_below (pk BK326) hb); replace BK336 := uD (blk_below (pk BK336) hb); replace BK371 := uD (blk_below (pk BK371) hb); replace HB := uD (uO (pb HB) hb); (try clear hb); (try clear hb2); (try clear hk); (try clear hi)))
              go_meet
              case rel => exact ⟨_, (!t373), (by first | rfl | (simp; done) | (simp [*]; done)), H', ⟨by have := HJ11.out; have := HJ56.out; first | omega | exact Nat.le_refl _⟩, ⟨by (try simp only [hl327003_56]); (with_reducible repeat (first | apply uU | apply uS | apply uT)); exact uX HO_10.out (fun _ hk => trivial)⟩, ⟨by (try simp only [hl327003_56]); (with_reducible repeat (first | apply Kd.Q_alloc | apply Kd.Q_drewN | apply Kd.Q_drew)); exact Kd.Q_mono HO_320003.out (fun _ hk => ⟨hk.1.1.1, ⟨hk.1.1.2, hk.2⟩⟩)⟩, ⟨by (try simp only [hl327003_56]); (with_reducible repeat (first | apply Kd.Q_alloc | apply Kd.Q_drewN | apply Kd.Q_drew)); exact Kd.Q_mono HO_327003.out (fun _ hk => ⟨hk.1.1.1, ⟨hk.1.1.2, hk.2⟩⟩)⟩, ⟨by (try simp only [hl327003_56]); (with_reducible repeat (first | apply Kd.Q_alloc | apply Kd.Q_drewN | apply Kd.Q_drew)); exact Kd.Q_mono HO_337003.out (fun _ hk => ⟨hk.1.1.1, ⟨hk.1.1.2, hk.2⟩⟩)⟩, ⟨by (try simp only [hl327003_56]); (with_reducible repeat (first | apply Kd.Q_alloc | apply Kd.Q_drewN | apply Kd.Q_drew)); exact Kd.Q_mono HO367.out (fun _ hk => ⟨hk.1.1.1.2, ⟨hk.1.1.2, hk.1.2⟩⟩)⟩, ⟨by (try simp only [hl327003_56]); (with_reducible repeat (first | refine uH ?_ _ | refine uJ ?_ | refine uG ?_ _)); exact BK302.out⟩, ⟨by (try simp only [hl327003_56]); (with_reducible repeat (first | refine uH ?_ _ | refine uJ ?_ | refine uG ?_ _)); exact BK319.out⟩, ⟨by (try simp only [hl327003_56]); (with_reducible repeat (first | refine uH ?_ _ | refine uJ ?_ | refine uG ?_ _)); exact BK326.out⟩, ⟨by (try simp only [hl327003_56]); (with_reducible repeat (first | refine uH ?_ _ | refine uJ ?_ | refine uG ?_ _)); exact BK336.out⟩, ⟨by (try simp only [hl327003_56]); (with_reducible repeat (first | refine uH ?_ _ | refine uJ ?_ | refine uG ?_ _)); exact BK371.out⟩, ⟨pb HB⟩⟩
             ·replace c116 := Bool.eq_false_iff.mpr c116
              subst c116
              have H1 : (laws_FnExactRun.j2 kj56 t353 t352 true t327 t328 t329 t351) = some true := by rw [if_neg (show ¬ (false = true) by decide)] at H; first | done | exact H
              clear H
              have H := H1
              clear H1
              exact absurd H (by cases kj56 <;> simp [laws_FnExactRun.j2])
            case rest =>
             clear HC92
             try clear c1
             try clear c2
             try clear p2
             try clear c3
             try clear c4
             try clear c4b0
             try clear c5
             try clear c6
             try clear c7
             try clear c8
             try clear c9
             try clear c10
             try clear c11
             try clear c12
             try clear c15
             try clear c17
             try clear c19
             try clear c21
             try clear c27
             try clear c28
             try clear c29
             try clear c33
             try clear c34
             try clear c35
             try clear c37
             try clear c38
             try clear c39
             try clear c41
             try clear c42
             try clear c43
             try clear c45
             try clear c46
             try clear c52
             try clear c55
             try clear c62
             try clear c63
             try clear c64
             try clear c67
             try clear c67b0
             try clear c69
             try clear c71
             try clear c72
             try clear c73
             try clear c75
             try clear c76
             try clear c82
             try clear c86
             try clear c86b0
             try clear c88
             try clear c88b0
             try clear c89
             try clear c89b0
             try clear c89b1
             try clear c93
             try clear c94
             try clear c95
             try clear c102
             try clear c103
             try clear c109
             try clear c110
             try clear c111
             try clear c112
             try clear c116
             try clear c118
             try clear c119
             try clear c120
             try clear c121
             try clear c123
             try clear c124
             try clear c125
             try clear hcz100_0
             try clear hcz100_1
             try clear hcz100_2
             try clear hcz100_3
             try clear hcz104_0
             try clear hcz104_1
             try clear hcz104_2
             try clear hcz104_3
             try clear hcz113_0
             try clear hcz113_1
             try clear hcz113_2
             try clear hcz113_3
             try clear hcz122_0
             try clear hcz122_1
             try clear hcz122_2
             try clear hcz122_3
             try clear hcz126_0
             try clear hcz126_1
             try clear hcz126_2
             try clear hcz126_3
             try clear hcz14_0
             try clear hcz14_1
             try clear hcz14_2
             try clear hcz14_3
             try clear hcz16_0
             try clear hcz16_1
             try clear hcz16_2
             try clear hcz16_3
             try clear hcz22_0
             try clear hcz22_1
             try clear hcz22_2
             try clear hcz22_3
             try clear hcz24_0
             try clear hcz24_1
             try clear hcz24_2
             try clear hcz24_3
             try clear hcz29_0
             try clear hcz29_1
             try clear hcz29_2
             try clear hcz29_3
             try clear hcz36_0
             try clear hcz36_1
             try clear hcz36_2
             try clear hcz36_3
             try clear hcz44_0
             try clear hcz44_1
             try clear hcz44_2
             try clear hcz44_3
             try clear hcz47_0
             try clear hcz47_1
             try clear hcz47_2
             try clear hcz47_3
             try clear hcz65_0
             try clear hcz65_1
             try clear hcz65_2
             try clear hcz65_3
             try clear hcz6_0
             try clear hcz6_1
             try clear hcz6_2
             try clear hcz6_3
             try clear hcz74_0
             try clear hcz74_1
             try clear hcz74_2
             try clear hcz74_3
             try clear hcz77_0
             try clear hcz77_1
             try clear hcz77_2
             try clear hcz77_3
             try clear hcz96_0
             try clear hcz96_1
             try clear hcz96_2
             try clear hcz96_3
             try clear hfz100_0
             try clear hfz100_1
             try clear hfz100_2
             try clear hfz100_3
             try clear hfz104_0
             try clear hfz104_1
             try clear hfz104_2
             try clear hfz104_3
             try clear hfz113_0
             try clear hfz113_1
             try clear hfz113_2
             try clear hfz113_3
             try clear hfz122_0
             try clear hfz122_1
             try clear hfz122_2
             try clear hfz122_3
             try clear hfz126_0
             try clear hfz126_1
             try clear hfz126_2
             try clear hfz126_3
             try clear hfz14_0
             try clear hfz14_1
             try clear hfz14_2
             try clear hfz14_3
             try clear hfz16_0
             try clear hfz16_1
             try clear hfz16_2
             try clear hfz16_3
             try clear hfz22_0
             try clear hfz22_1
             try clear hfz22_2
             try clear hfz22_3
             try clear hfz24_0
             try clear hfz24_1
             try clear hfz24_2
             try clear hfz24_3
             try clear hfz29_0
             try clear hfz29_1
             try clear hfz29_2
             try clear hfz29_3
             try clear hfz36_0
             try clear hfz36_1
             try clear hfz36_2
             try clear hfz36_3
             try clear hfz44_0
             try clear hfz44_1
             try clear hfz44_2
             try clear hfz44_3
             try clear hfz47_0
             try clear hfz47_1
             try clear hfz47_2
             try clear hfz47_3
             try clear hfz65_0
             try clear hfz65_1
             try clear hfz65_2
             try clear hfz65_3
             try clear hfz6_0
             try clear hfz6_1
             try clear hfz6_2
             try clear hfz6_3
             try clear hfz74_0
             try clear hfz74_1
             try clear hfz74_2
             try clear hfz74_3
             try clear hfz77_0
             try clear hfz77_1
             try clear hfz77_2
             try clear hfz77_3
             try clear hfz96_0
             try clear hfz96_1
             try clear hfz96_2
             try clear hfz96_3
             try clear p2
             obtain ⟨kq, x103_91, rfl, HA, HJ91, HO_10, HO_320003, HO_327003, HO_337003, HO_372003, BK302, BK319, BK326, BK336, BK371, HB⟩ := hcut
             have hl10_91 := (Kd.R_reads' HO_10.out).1
             rw [hl10_91] at HO_10
             (try simp only [hl10_91])
             (try simp only [hl10_91] at BK302)
             (try simp only [hl10_91] at BK319)
             (try simp only [hl10_91] at BK326)
             (try simp only [hl10_91] at BK336)
             (try simp only [hl10_91] at BK371)
             (try simp only [hl10_91] at HO_320003)
             (try simp only [hl10_91] at HO_327003)
             (try simp only [hl10_91] at HO_337003)
             (try simp only [hl10_91] at HO_372003)
             have hl337003_91 := (Kd.Q_reads' HO_337003.out).1
             rw [hl337003_91] at HO_337003
             (try simp only [hl337003_91])
             (try simp only [hl337003_91] at BK302)
             (try simp only [hl337003_91] at BK319)
             (try simp only [hl337003_91] at BK326)
             (try simp only [hl337003_91] at BK336)
             (try simp only [hl337003_91] at BK371)
             (try simp only [hl337003_91] at HO_10)
             (try simp only [hl337003_91] at HO_320003)
             (try simp only [hl337003_91] at HO_327003)
             (try simp only [hl337003_91] at HO_372003)
             cases kq with
             | zero => exact absurd HA.out (by simp [laws_FnExactRun.j2])
             | succ kj91 =>
              have H := HA.out
              clear HA
              simp only [laws_FnExactRun.j2] at H
              by_cases c131 : x103_91 = true
              ·subst c131
               have H1 : (some false) = some true := by rw [if_pos rfl] at H; first | done | exact H
               clear H
               have H := H1
               clear H1
               exact absurd H (by simp)
              ·replace c131 := Bool.eq_false_iff.mpr c131
               subst c131
               have H1 : ((laws_heldBelt.f kj91 t327 t328 t329 t351 1).bind fun t374 => (if t374 < 0 then (some false) else ((laws_heldExitS.f kj91 t353 t374).bind fun t375 => (if t375 < 0 then (some false) else (if t375 = t352 then (some true) else (some false)))))) = some true := by rw [if_neg (show ¬ (false = true) by decide)] at H; first | done | exact H
               clear H
               have H := H1
               clear H1
               replace H := Option.bind_eq_some_iff.mp H
               obtain ⟨t374, A1320, H⟩ := H
               replace H : (if t374 < 0 then (some false) else ((laws_heldExitS.f kj91 t353 t374).bind fun t375 => (if t375 < 0 then (some false) else (if t375 = t352 then (some true) else (some false))))) = some true := H
               have A132 := uD A1320
               clear A1320
               by_cases c133 : t374 < 0
               ·rw [if_pos c133] at H
                have c133b0 : decide (t374 < 0) = true := decide_eq_true c133
                clear c133
                exact absurd H (by simp)
               ·rw [if_neg c133] at H
                have c133b0 : decide (t374 < 0) = false := decide_eq_false c133
                clear c133
                replace H := Option.bind_eq_some_iff.mp H
                obtain ⟨t375, A1340, H⟩ := H
                replace H : (if t375 < 0 then (some false) else (if t375 = t352 then (some true) else (some false))) = some true := H
                have A134 := uD A1340
                clear A1340
                by_cases c135 : t375 < 0
                ·rw [if_pos c135] at H
                 have c135b0 : decide (t375 < 0) = true := decide_eq_true c135
                 clear c135
                 exact absurd H (by simp)
                ·rw [if_neg c135] at H
                 have c135b0 : decide (t375 < 0) = false := decide_eq_false c135
                 clear c135
                 by_cases c136 : t375 = t352
                 ·rw [if_pos c136] at H
                  have c136b0 : (t375 == t352) = true := beq_iff_eq.mpr c136
                  have c136b1 : (t375 != t352) = false := bne_eq_false_iff_eq.mpr c136
                  clear c136
                  have HT := Option.some.inj H
                  clear H
                  have hnb137 := NB336_302.out
                  have hnc137 := NB302_336.out
                  have hnb138 := NB336_319.out
                  have hnc138 := NB319_336.out
                  have hnb139 := NB336_326.out
                  have hnc139 := NB326_336.out
                  have hnb140 := NB336_371.out
                  have hnc140 := NB371_336.out
                  obtain ⟨hcz141_0, hcz141_1, hcz141_2, hcz141_3, hfz141_0, hfz141_1, hfz141_2, hfz141_3⟩ := cz4 BK336
                  go_wp2_with (first | ((with_reducible refine gate_callee (f := 29) rfl ?_); refine goesL_ (some 106) rfl rfl Try.func29 (by kernel_rfl) rfl #[.agg #[.int .i64 t327, .int .i64 t328, .bool t329, .slice Ao37 t351.length co37], .int .i64 1] rfl (by (try simp only [List.map_toArray, List.map_cons, List.map_nil]); first | done | rfl | (simp only [List.length_drop, List.length_take]; rfl)) ?_; (with_reducible refine (laws_heldBelt.calls kj91 t327 t328 t329 _ _ t351 1 t374 _ ?side1 ?side2 A132.out).mono ?_); (case side1 => repeat (first | exact (Kd.Q_reads' HO_337003.out).2.2 | (with_reducible refine Kd.C_alloc ?_ _) | (with_reducible refine Kd.C_drewN ?_ _) | (with_reducible refine Kd.C_drew ?_))); (case side2 => exact (Kd.Q_reads' HO_337003.out).2.1); rintro e w142 ⟨rfl, hb⟩; refine ⟨_, rfl, ?_⟩; replace HO_10 := uD (Kd.R_below (pr HO_10) hb); replace HO_320003 := uD (Kd.Q_below (pq HO_320003) hb); replace HO_327003 := uD (Kd.Q_below (pq HO_327003) hb); replace HO_337003 := uD (Kd.Q_below (pq HO_337003) hb); replace HO_372003 := uD (Kd.Q_below (pq HO_372003) hb); replace BK302 := uD (blk_below (pk BK302) hb); replace BK319 := uD (blk_below (pk BK319) hb); replace BK326 := uD (blk_below (pk BK326) hb); replace BK336 := uD (blk_below (pk BK336) hb); replace BK371 := uD (blk_below (pk BK371) hb); replace HB := uD (uO (pb HB) hb); (try clear hb); (try clear hb2); (try clear hk); (try clear hi)) | ((with_reducible refine gate_callee (f := 38) rfl ?_); refine goesL_ (some 111) rfl rfl Try.func38 (by kernel_rfl) rfl #[.slice Ao98 t353.length co98, .int .i64 t374] rfl (by (try simp only [List.map_toArray, List.map_cons, List.map_nil]); first | done | rfl | (simp only [List.length_drop, List.length_take]; rfl)) ?_; (with_reducible refine (laws_heldExitS.calls kj91 _ _ t353 t374 t375 _ ?side1 ?side2 A134.out).mono ?_); (case side1 => repeat (first | exact (Kd.R_reads' HO_10.out).2.2 | (with_reducible refine Kd.C_alloc ?_ _) | (with_reducible refine Kd.C_drewN ?_ _) | (with_reducible refine Kd.C_drew ?_))); (case side2 => exact (Kd.R_reads' HO_10.out).2.1); rintro e w' ⟨rfl, ⟨nd, rfl⟩⟩; refine ⟨_, rfl, ?_⟩))
                  go_ret
                  exact ⟨by first | rfl | (simp [errW_none, errW_some] <;> rfl) | (simp [*, errW_none, errW_some] <;> rfl), pb HB⟩
                 ·rw [if_neg c136] at H
                  have c136b0 : (t375 == t352) = false := beq_eq_false_iff_ne.mpr c136
                  have c136b1 : (t375 != t352) = true := bne_iff_ne.mpr c136
                  exact absurd H (by simp)
           ·rw [if_neg c89] at H
            have c89b0 : (t355 == t352) = false := beq_eq_false_iff_ne.mpr c89
            have c89b1 : (t355 != t352) = true := bne_iff_ne.mpr c89
            exact absurd H (by simp)
     ·replace c55 := Bool.eq_false_iff.mpr c55
      subst c55
      have H1 : (some false) = some true := by rw [if_neg (show ¬ (false = true) by decide)] at H; first | done | exact H
      clear H
      have H := H1
      clear H1
      exact absurd H (by simp)

/-- THE ONE PURE STATEMENT of laws_FnExactRun. -/
def laws_FnExactRun.Pure : Prop := ∀ (a0_0 : Int) (a0_1 : Int) (a0_2 : Bool) (l0_3 : List (S78)) (a1 : Int), (Lit.int .i64 a0_0).wf = true → (Lit.int .i64 a0_1).wf = true → l0_3.length ≤ 9223372036854775807 → (∀ y ∈ l0_3, (Lit.int .i64 y.f0).wf = true ∧ (Lit.int .i64 y.f1).wf = true ∧ (Lit.int .i64 y.f2).wf = true) → (Lit.int .i64 a1).wf = true → ∃ k, laws_FnExactRun.f k a0_0 a0_1 a0_2 l0_3 a1 = some true

end Go.Proofs.Ytbdjbdoelbmjcaa.PFnExactRun
