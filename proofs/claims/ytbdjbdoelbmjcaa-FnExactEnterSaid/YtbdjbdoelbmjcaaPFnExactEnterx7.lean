-- Written by a program of this session (wip/myprint.py: the kit's print with changes): not by print.sh itself.
import Derived.Test.YtbdjbdoelbmjcaaPFnExactEnterx0
import Derived.Test.YtbdjbdoelbmjcaaPFnExactEnterx1
import Derived.Test.YtbdjbdoelbmjcaaPFnExactEnterx2
import Derived.Test.YtbdjbdoelbmjcaaPFnExactEnterx4
import Derived.Test.YtbdjbdoelbmjcaaPFnExactEnterx6
namespace Go.Proofs.Ytbdjbdoelbmjcaa.PFnExactEnter
open Go.RowKit Go.Proofs.YtbdjbdoelbmjcaaW.PrintWords Go.Proofs.YtbdjbdoelbmjcaaW.PrintLast Go.Proofs.YtbdjbdoelbmjcaaW.PrintMore
attribute [local go_sem] max2_int min2_int max_two min_two max_three min_three max_four min_four   -- for this text's walks alone
set_option linter.unusedVariables false
set_option linter.unusedSimpArgs false

/-! ### laws_FnExactEnter: function 8 -/
mutual
def laws_FnExactEnter.j0 : Nat → Int → Int → Bool → Bool → Bool → Int → Int → Bool → List (S78) → Int → Int → Bool → List (S53) → Int → Int → Bool → List (S53) → Int → Int → Bool → List (S53) → Option (Bool)
 | 0, _, _, _, _, _, _, _, _, _, _, _, _, _, _, _, _, _, _, _, _, _ => none
 | k + 1, x1, x2, x9, x12, x48, x215000, x215001, x215002, x215003, x230000, x230001, x230002, x230003, x237000, x237001, x237002, x237003, x245000, x245001, x245002, x245003 => if x48 = true then (some false) else ((laws_toBelt.f k x215000 x215001 x215002 x215003).bind fun bt246 => ((laws_eqBelt.f k x237000 x237001 x237002 x237003 bt246.1 bt246.2.1 bt246.2.2.1 bt246.2.2.2).bind fun t252 => (if t252 = true then ((laws_markBelt.f k x237000 x237001 x237002 x237003 1).bind fun bt253 => (if bt253.1 < 0 then (laws_FnExactEnter.j1 k x1 x2 x9 true x215000 x215001 x215002 x215003 x230000 x230001 x230002 x230003 x245000 x245001 x245002 x245003) else ((laws_eqBelt.f k x245000 x245001 x245002 x245003 x230000 x230001 x230002 x230003).bind fun t255 => (if t255 = true then (laws_FnExactEnter.j1 k x1 x2 x9 (x12 != x9) x215000 x215001 x215002 x215003 x230000 x230001 x230002 x230003 x245000 x245001 x245002 x245003) else (laws_FnExactEnter.j1 k x1 x2 x9 true x215000 x215001 x215002 x215003 x230000 x230001 x230002 x230003 x245000 x245001 x245002 x245003))))) else (some false))))
def laws_FnExactEnter.j1 : Nat → Int → Int → Bool → Bool → Int → Int → Bool → List (S78) → Int → Int → Bool → List (S53) → Int → Int → Bool → List (S53) → Option (Bool)
 | 0, _, _, _, _, _, _, _, _, _, _, _, _, _, _, _, _ => none
 | k + 1, x1, x2, x9, x69, x215000, x215001, x215002, x215003, x230000, x230001, x230002, x230003, x245000, x245001, x245002, x245003 => if x69 = true then (some false) else ((laws_markBelt.f k x245000 x245001 x245002 x245003 1).bind fun bt256 => ((laws_heldBelt.f k x245000 x245001 x245002 bt256.2 1).bind fun t258 => (if t258 < 0 then (some false) else (if t258 = bt256.1 then ((laws_toBelt.f k x215000 x215001 x215002 x215003).bind fun bt259 => ((impl_Enter.f k bt259.1 bt259.2.1 bt259.2.2.1 bt259.2.2.2 x1 x2).bind fun bt265 => ((laws_eqBelt.f k bt265.1 bt265.2.1 bt265.2.2.1 bt265.2.2.2.1 x230000 x230001 x230002 x230003).bind fun t273 => (if t273 = true then (laws_FnExactEnter.j2 k bt256.1 (bt265.2.2.2.2 != x9) x245000 x245001 x245002 bt256.2) else (laws_FnExactEnter.j2 k bt256.1 true x245000 x245001 x245002 bt256.2))))) else (some false)))))
def laws_FnExactEnter.j2 : Nat → Int → Bool → Int → Int → Bool → List (S53) → Option (Bool)
 | 0, _, _, _, _, _, _ => none
 | k + 1, x14, x97, x245000, x245001, x245002, x245003 => if x97 = true then (some false) else ((laws_heldBelt.f k x245000 x245001 x245002 x245003 1).bind fun t274 => (if t274 < 0 then (some false) else (if t274 = x14 then (some true) else (some false))))
end
def laws_FnExactEnter.f (k : Nat) (a0_0 : Int) (a0_1 : Int) (a0_2 : Bool) (l0_3 : List (S78)) (a1 : Int) (a2 : Int) : Option (Bool) := (laws_szBelt.f a0_0 a0_1 a0_2 l0_3 1048576).bind fun t215 => (if t215 < 0 then (some true) else ((laws_toBelt.f k a0_0 a0_1 a0_2 l0_3).bind fun bt216 => ((spec_Enter.f k bt216.1 bt216.2.1 bt216.2.2.1 bt216.2.2.2 a1 a2).bind fun bt222 => ((laws_toBelt.f k a0_0 a0_1 a0_2 l0_3).bind fun bt230 => ((impl_Enter.f k bt230.1 bt230.2.1 bt230.2.2.1 bt230.2.2.2 a1 a2).bind fun bt237 => ((laws_eqBelt.f k bt237.1 bt237.2.1 bt237.2.2.1 bt237.2.2.2.1 bt222.1 bt222.2.1 bt222.2.2.1 bt222.2.2.2.1).bind fun t245 => (if t245 = true then (laws_FnExactEnter.j0 k a1 a2 bt222.2.2.2.2 bt237.2.2.2.2 (bt237.2.2.2.2 != bt222.2.2.2.2) a0_0 a0_1 a0_2 l0_3 bt222.1 bt222.2.1 bt222.2.2.1 bt222.2.2.2.1 bt230.1 bt230.2.1 bt230.2.2.1 bt230.2.2.2 bt237.1 bt237.2.1 bt237.2.2.1 bt237.2.2.2.1) else (laws_FnExactEnter.j0 k a1 a2 bt222.2.2.2.2 bt237.2.2.2.2 true a0_0 a0_1 a0_2 l0_3 bt222.1 bt222.2.1 bt222.2.2.1 bt222.2.2.2.1 bt230.1 bt230.2.1 bt230.2.2.1 bt230.2.2.2 bt237.1 bt237.2.1 bt237.2.2.1 bt237.2.2.2.1))))))))
theorem laws_FnExactEnter.mono_l : ∀ k, (∀ y0 y1 y2 y3 y4 y5 y6 y7 y8 y9 y10 y11 y12 y13 y14 y15 y16 y17 y18 y19 y20, LeO (laws_FnExactEnter.j0 k y0 y1 y2 y3 y4 y5 y6 y7 y8 y9 y10 y11 y12 y13 y14 y15 y16 y17 y18 y19 y20) (laws_FnExactEnter.j0 (k + 1) y0 y1 y2 y3 y4 y5 y6 y7 y8 y9 y10 y11 y12 y13 y14 y15 y16 y17 y18 y19 y20)) ∧ (∀ y0 y1 y2 y3 y4 y5 y6 y7 y8 y9 y10 y11 y12 y13 y14 y15, LeO (laws_FnExactEnter.j1 k y0 y1 y2 y3 y4 y5 y6 y7 y8 y9 y10 y11 y12 y13 y14 y15) (laws_FnExactEnter.j1 (k + 1) y0 y1 y2 y3 y4 y5 y6 y7 y8 y9 y10 y11 y12 y13 y14 y15)) ∧ (∀ y0 y1 y2 y3 y4 y5, LeO (laws_FnExactEnter.j2 k y0 y1 y2 y3 y4 y5) (laws_FnExactEnter.j2 (k + 1) y0 y1 y2 y3 y4 y5))
 | 0 => ⟨fun _ _ _ _ _ _ _ _ _ _ _ _ _ _ _ _ _ _ _ _ _ r h => by simp [laws_FnExactEnter.j0] at h, fun _ _ _ _ _ _ _ _ _ _ _ _ _ _ _ _ r h => by simp [laws_FnExactEnter.j1] at h, fun _ _ _ _ _ _ r h => by simp [laws_FnExactEnter.j2] at h⟩
 | k + 1 => by
  obtain ⟨ih0, ih1, ih2⟩ := laws_FnExactEnter.mono_l k
  refine ⟨?_, ?_, ?_⟩
  ·intro y0 y1 y2 y3 y4 y5 y6 y7 y8 y9 y10 y11 y12 y13 y14 y15 y16 y17 y18 y19 y20
   unfold laws_FnExactEnter.j0
   repeat' first
   | (with_reducible exact ih0 _ _ _ _ _ _ _ _ _ _ _ _ _ _ _ _ _ _ _ _ _)
   | (with_reducible exact ih1 _ _ _ _ _ _ _ _ _ _ _ _ _ _ _ _)
   | (with_reducible exact ih2 _ _ _ _ _ _)
   | (with_reducible exact impl_Enter.mono _ _ _ _ _ _ _)
   | (with_reducible exact laws_eqBelt.mono _ _ _ _ _ _ _ _ _)
   | (with_reducible exact laws_heldBelt.mono _ _ _ _ _ _)
   | (with_reducible exact laws_markBelt.mono _ _ _ _ _ _)
   | (with_reducible exact laws_toBelt.mono _ _ _ _ _)
   | (with_reducible exact spec_Enter.mono _ _ _ _ _ _ _)
   | (with_reducible exact LeO.refl _)
   | (with_reducible exact LeO.none _)
   | (with_reducible refine LeO.ite ?_ ?_)
   | (with_reducible refine LeO.bind ?_ (fun _ => ?_))
   | exact ih0 _ _ _ _ _ _ _ _ _ _ _ _ _ _ _ _ _ _ _ _ _
   | exact ih1 _ _ _ _ _ _ _ _ _ _ _ _ _ _ _ _
   | exact ih2 _ _ _ _ _ _
   | exact impl_Enter.mono _ _ _ _ _ _ _
   | exact laws_eqBelt.mono _ _ _ _ _ _ _ _ _
   | exact laws_heldBelt.mono _ _ _ _ _ _
   | exact laws_markBelt.mono _ _ _ _ _ _
   | exact laws_toBelt.mono _ _ _ _ _
   | exact spec_Enter.mono _ _ _ _ _ _ _
   | exact LeO.none _
   | refine LeO.ite ?_ ?_
   | refine LeO.bind ?_ (fun _ => ?_)
  ·intro y0 y1 y2 y3 y4 y5 y6 y7 y8 y9 y10 y11 y12 y13 y14 y15
   unfold laws_FnExactEnter.j1
   repeat' first
   | (with_reducible exact ih0 _ _ _ _ _ _ _ _ _ _ _ _ _ _ _ _ _ _ _ _ _)
   | (with_reducible exact ih1 _ _ _ _ _ _ _ _ _ _ _ _ _ _ _ _)
   | (with_reducible exact ih2 _ _ _ _ _ _)
   | (with_reducible exact impl_Enter.mono _ _ _ _ _ _ _)
   | (with_reducible exact laws_eqBelt.mono _ _ _ _ _ _ _ _ _)
   | (with_reducible exact laws_heldBelt.mono _ _ _ _ _ _)
   | (with_reducible exact laws_markBelt.mono _ _ _ _ _ _)
   | (with_reducible exact laws_toBelt.mono _ _ _ _ _)
   | (with_reducible exact spec_Enter.mono _ _ _ _ _ _ _)
   | (with_reducible exact LeO.refl _)
   | (with_reducible exact LeO.none _)
   | (with_reducible refine LeO.ite ?_ ?_)
   | (with_reducible refine LeO.bind ?_ (fun _ => ?_))
   | exact ih0 _ _ _ _ _ _ _ _ _ _ _ _ _ _ _ _ _ _ _ _ _
   | exact ih1 _ _ _ _ _ _ _ _ _ _ _ _ _ _ _ _
   | exact ih2 _ _ _ _ _ _
   | exact impl_Enter.mono _ _ _ _ _ _ _
   | exact laws_eqBelt.mono _ _ _ _ _ _ _ _ _
   | exact laws_heldBelt.mono _ _ _ _ _ _
   | exact laws_markBelt.mono _ _ _ _ _ _
   | exact laws_toBelt.mono _ _ _ _ _
   | exact spec_Enter.mono _ _ _ _ _ _ _
   | exact LeO.none _
   | refine LeO.ite ?_ ?_
   | refine LeO.bind ?_ (fun _ => ?_)
  ·intro y0 y1 y2 y3 y4 y5
   unfold laws_FnExactEnter.j2
   repeat' first
   | (with_reducible exact ih0 _ _ _ _ _ _ _ _ _ _ _ _ _ _ _ _ _ _ _ _ _)
   | (with_reducible exact ih1 _ _ _ _ _ _ _ _ _ _ _ _ _ _ _ _)
   | (with_reducible exact ih2 _ _ _ _ _ _)
   | (with_reducible exact impl_Enter.mono _ _ _ _ _ _ _)
   | (with_reducible exact laws_eqBelt.mono _ _ _ _ _ _ _ _ _)
   | (with_reducible exact laws_heldBelt.mono _ _ _ _ _ _)
   | (with_reducible exact laws_markBelt.mono _ _ _ _ _ _)
   | (with_reducible exact laws_toBelt.mono _ _ _ _ _)
   | (with_reducible exact spec_Enter.mono _ _ _ _ _ _ _)
   | (with_reducible exact LeO.refl _)
   | (with_reducible exact LeO.none _)
   | (with_reducible refine LeO.ite ?_ ?_)
   | (with_reducible refine LeO.bind ?_ (fun _ => ?_))
   | exact ih0 _ _ _ _ _ _ _ _ _ _ _ _ _ _ _ _ _ _ _ _ _
   | exact ih1 _ _ _ _ _ _ _ _ _ _ _ _ _ _ _ _
   | exact ih2 _ _ _ _ _ _
   | exact impl_Enter.mono _ _ _ _ _ _ _
   | exact laws_eqBelt.mono _ _ _ _ _ _ _ _ _
   | exact laws_heldBelt.mono _ _ _ _ _ _
   | exact laws_markBelt.mono _ _ _ _ _ _
   | exact laws_toBelt.mono _ _ _ _ _
   | exact spec_Enter.mono _ _ _ _ _ _ _
   | exact LeO.none _
   | refine LeO.ite ?_ ?_
   | refine LeO.bind ?_ (fun _ => ?_)
theorem laws_FnExactEnter.mono : ∀ a0 a1 a2 a3 a4 a5 k, LeO (laws_FnExactEnter.f k a0 a1 a2 a3 a4 a5) (laws_FnExactEnter.f (k + 1) a0 a1 a2 a3 a4 a5) := by
 intro a0 a1 a2 a3 a4 a5 k
 obtain ⟨ih0, ih1, ih2⟩ := laws_FnExactEnter.mono_l k
 unfold laws_FnExactEnter.f
 repeat' first
   | (with_reducible exact ih0 _ _ _ _ _ _ _ _ _ _ _ _ _ _ _ _ _ _ _ _ _)
   | (with_reducible exact ih1 _ _ _ _ _ _ _ _ _ _ _ _ _ _ _ _)
   | (with_reducible exact ih2 _ _ _ _ _ _)
   | (with_reducible exact impl_Enter.mono _ _ _ _ _ _ _)
   | (with_reducible exact laws_eqBelt.mono _ _ _ _ _ _ _ _ _)
   | (with_reducible exact laws_heldBelt.mono _ _ _ _ _ _)
   | (with_reducible exact laws_markBelt.mono _ _ _ _ _ _)
   | (with_reducible exact laws_toBelt.mono _ _ _ _ _)
   | (with_reducible exact spec_Enter.mono _ _ _ _ _ _ _)
   | (with_reducible exact LeO.refl _)
   | (with_reducible exact LeO.none _)
   | (with_reducible refine LeO.ite ?_ ?_)
   | (with_reducible refine LeO.bind ?_ (fun _ => ?_))
   | exact ih0 _ _ _ _ _ _ _ _ _ _ _ _ _ _ _ _ _ _ _ _ _
   | exact ih1 _ _ _ _ _ _ _ _ _ _ _ _ _ _ _ _
   | exact ih2 _ _ _ _ _ _
   | exact impl_Enter.mono _ _ _ _ _ _ _
   | exact laws_eqBelt.mono _ _ _ _ _ _ _ _ _
   | exact laws_heldBelt.mono _ _ _ _ _ _
   | exact laws_markBelt.mono _ _ _ _ _ _
   | exact laws_toBelt.mono _ _ _ _ _
   | exact spec_Enter.mono _ _ _ _ _ _ _
   | exact LeO.none _
   | refine LeO.ite ?_ ?_
   | refine LeO.bind ?_ (fun _ => ?_)
set_option maxHeartbeats 8000000 in
set_option maxRecDepth 100000 in
theorem laws_FnExactEnter.calls (k : Nat) (a0_0 : Int) (a0_1 : Int) (a0_2 : Bool) (A0_3 : Option Addr) (c0_3 : Nat) (l0_3 : List (S78)) (a1 : Int) (a2 : Int) (w : World) (hr0_3 : Kd.C k78 w A0_3 l0_3.length l0_3) (hc0_3 : l0_3.length ≤ c0_3) (h : laws_FnExactEnter.f k a0_0 a0_1 a0_2 l0_3 a1 a2 = some true) :
  Calls Try.prog 8 #[.agg #[.int .i64 a0_0, .int .i64 a0_1, .bool a0_2, .slice A0_3 l0_3.length c0_3], .int .i64 a1, .int .i64 a2] w fun e w' => e = .returned (.bool true) ∧ Below w.heap.size w w' := by
 have hu24 := Try.underlying24
 have hu29 := Try.underlying29
 have HR0_3 := Aside0.mk hr0_3
 have HC0_3 := Aside0.mk hc0_3
 clear hr0_3 hc0_3
 have HB := Aside0.mk (Below.refl w.heap.size w)
 have H : ((laws_szBelt.f a0_0 a0_1 a0_2 l0_3 1048576).bind fun t215 => (if t215 < 0 then (some true) else ((laws_toBelt.f k a0_0 a0_1 a0_2 l0_3).bind fun bt216 => ((spec_Enter.f k bt216.1 bt216.2.1 bt216.2.2.1 bt216.2.2.2 a1 a2).bind fun bt222 => ((laws_toBelt.f k a0_0 a0_1 a0_2 l0_3).bind fun bt230 => ((impl_Enter.f k bt230.1 bt230.2.1 bt230.2.2.1 bt230.2.2.2 a1 a2).bind fun bt237 => ((laws_eqBelt.f k bt237.1 bt237.2.1 bt237.2.2.1 bt237.2.2.2.1 bt222.1 bt222.2.1 bt222.2.2.1 bt222.2.2.2.1).bind fun t245 => (if t245 = true then (laws_FnExactEnter.j0 k a1 a2 bt222.2.2.2.2 bt237.2.2.2.2 (bt237.2.2.2.2 != bt222.2.2.2.2) a0_0 a0_1 a0_2 l0_3 bt222.1 bt222.2.1 bt222.2.2.1 bt222.2.2.2.1 bt230.1 bt230.2.1 bt230.2.2.1 bt230.2.2.2 bt237.1 bt237.2.1 bt237.2.2.1 bt237.2.2.2.1) else (laws_FnExactEnter.j0 k a1 a2 bt222.2.2.2.2 bt237.2.2.2.2 true a0_0 a0_1 a0_2 l0_3 bt222.1 bt222.2.1 bt222.2.2.1 bt222.2.2.2.1 bt230.1 bt230.2.1 bt230.2.2.1 bt230.2.2.2 bt237.1 bt237.2.1 bt237.2.2.1 bt237.2.2.2.1))))))))) = some true := h
 clear h
 replace H := Option.bind_eq_some_iff.mp H
 obtain ⟨t215, A40, H⟩ := H
 replace H : (if t215 < 0 then (some true) else ((laws_toBelt.f k a0_0 a0_1 a0_2 l0_3).bind fun bt216 => ((spec_Enter.f k bt216.1 bt216.2.1 bt216.2.2.1 bt216.2.2.2 a1 a2).bind fun bt222 => ((laws_toBelt.f k a0_0 a0_1 a0_2 l0_3).bind fun bt230 => ((impl_Enter.f k bt230.1 bt230.2.1 bt230.2.2.1 bt230.2.2.2 a1 a2).bind fun bt237 => ((laws_eqBelt.f k bt237.1 bt237.2.1 bt237.2.2.1 bt237.2.2.2.1 bt222.1 bt222.2.1 bt222.2.2.1 bt222.2.2.2.1).bind fun t245 => (if t245 = true then (laws_FnExactEnter.j0 k a1 a2 bt222.2.2.2.2 bt237.2.2.2.2 (bt237.2.2.2.2 != bt222.2.2.2.2) a0_0 a0_1 a0_2 l0_3 bt222.1 bt222.2.1 bt222.2.2.1 bt222.2.2.2.1 bt230.1 bt230.2.1 bt230.2.2.1 bt230.2.2.2 bt237.1 bt237.2.1 bt237.2.2.1 bt237.2.2.2.1) else (laws_FnExactEnter.j0 k a1 a2 bt222.2.2.2.2 bt237.2.2.2.2 true a0_0 a0_1 a0_2 l0_3 bt222.1 bt222.2.1 bt222.2.2.1 bt222.2.2.2.1 bt230.1 bt230.2.1 bt230.2.2.1 bt230.2.2.2 bt237.1 bt237.2.1 bt237.2.2.1 bt237.2.2.2.1)))))))) = some true := H
 have A4 := Aside0.mk A40
 clear A40
 by_cases c5 : t215 < 0
 ·rw [if_pos c5] at H
  have c5b0 : decide (t215 < 0) = true := decide_eq_true c5
  clear c5
  have HT := Option.some.inj H
  clear H
  go_enter Try.func8, Try.ntmps8
  go_wp2_with (first | ((with_reducible refine gate_dst (N := 3) rfl ?_); refine box_event ?hg (N := 3) ?hd (cs := #[.int .i64 a0_0, .int .i64 a0_1, .bool a0_2, .slice A0_3 l0_3.length c0_3]) (t := 24) ?hr ?_; (case hd => rfl); (case hg => rfl); (case hr => first | (go_simp; done) | (go_simp; rfl)); intro gb214 hg w6 hbox hb; have n0_ := Aside0.mk (below_step (by repeat (first | (with_reducible first | exact HB.out | apply below_alloc | apply pw_below_drewN | apply below_drew1) | exact HB.out)) hb); have n1_ := Aside0.mk (hbox); have n2_ := Aside0.mk ((by rw [hg]; exact (below_size (by repeat (first | (with_reducible first | exact HB.out | apply below_alloc | apply pw_below_drewN | apply below_drew1) | exact HB.out))) : w.heap.size ≤ gb214)); have n3_ := Aside0.mk ((by rw [hg]; exact (below_size (by repeat (first | (with_reducible first | exact HB.out | apply below_alloc | apply pw_below_drewN | apply below_drew1) | exact HB.out))) : w.heap.size ≤ gb214)); clear HB; have HB := n0_; have BK214 := n1_; have GW214 := n2_; have GE214 := n3_; clear n0_ n1_ n2_ n3_; clear hb hbox hg; have hcz7_0 : w6.cell? ⟨gb214, 0, none⟩ = some (.int .i64 a0_0) := (blk_cell BK214.out 0).trans rfl; have hcz7_1 : w6.cell? ⟨gb214, 1, none⟩ = some (.int .i64 a0_1) := (blk_cell BK214.out 1).trans rfl; have hcz7_2 : w6.cell? ⟨gb214, 2, none⟩ = some (.bool a0_2) := (blk_cell BK214.out 2).trans rfl; have hcz7_3 : w6.cell? ⟨gb214, 3, none⟩ = some (.slice A0_3 l0_3.length c0_3) := (blk_cell BK214.out 3).trans rfl; have hfz7_0 := blk_frozen BK214.out 0; have hfz7_1 := blk_frozen BK214.out 1; have hfz7_2 := blk_frozen BK214.out 2; have hfz7_3 := blk_frozen BK214.out 3) | ((with_reducible refine gate_callee (f := 15) rfl ?_); refine goesL_ (some 20) rfl rfl Try.func15 (by kernel_rfl) rfl #[.agg #[.int .i64 a0_0, .int .i64 a0_1, .bool a0_2, .slice A0_3 l0_3.length c0_3], .int .i64 1048576] rfl (by (try simp only [List.map_toArray, List.map_cons, List.map_nil]); first | done | rfl | (simp only [List.length_drop, List.length_take]; rfl)) ?_; (with_reducible refine (laws_szBelt.calls a0_0 a0_1 a0_2 _ _ l0_3 1048576 t215 _ ?side1 ?side2 A4.out).mono ?_); (case side1 => repeat (first | exact (Kd.C_below HR0_3.out HB.out) | (with_reducible refine Kd.C_alloc ?_ _) | (with_reducible refine Kd.C_drewN ?_ _) | (with_reducible refine Kd.C_drew ?_))); (case side2 => exact HC0_3.out); rintro e w8 ⟨rfl, hb⟩; refine ⟨_, rfl, ?_⟩; have n0_ := Aside0.mk (blk_below (g := gb214) (o := .cells #[.int .i64 a0_0, .int .i64 a0_1, .bool a0_2, .slice A0_3 l0_3.length c0_3] 24 (0, 0)) (by (with_reducible repeat (first | refine blk_drewN ?_ _ | refine blk_drew ?_ | refine blk_alloc ?_ _)); exact BK214.out) hb); have n1_ := Aside0.mk (below_step (by repeat (first | (with_reducible first | exact HB.out | apply below_alloc | apply pw_below_drewN | apply below_drew1 | refine below_set ?_ GE214.out) | exact HB.out)) hb); clear BK214; clear HB; have BK214 := n0_; have HB := n1_; clear n0_ n1_; (try clear hb); (try clear hb2); (try clear hk); (try clear hi)))
  go_ret
  exact ⟨by first | rfl | (simp [errW_none, errW_some] <;> rfl) | (simp [*, errW_none, errW_some] <;> rfl), by repeat (first | (with_reducible first | exact HB.out | apply below_alloc | apply pw_below_drewN | apply below_drew1 | refine below_set ?_ GE214.out) | exact HB.out)⟩
 ·rw [if_neg c5] at H
  have c5b0 : decide (t215 < 0) = false := decide_eq_false c5
  clear c5
  replace H := Option.bind_eq_some_iff.mp H
  obtain ⟨⟨t216, t217, t218, t219⟩, A90, H⟩ := H
  replace H : ((spec_Enter.f k t216 t217 t218 t219 a1 a2).bind fun bt222 => ((laws_toBelt.f k a0_0 a0_1 a0_2 l0_3).bind fun bt230 => ((impl_Enter.f k bt230.1 bt230.2.1 bt230.2.2.1 bt230.2.2.2 a1 a2).bind fun bt237 => ((laws_eqBelt.f k bt237.1 bt237.2.1 bt237.2.2.1 bt237.2.2.2.1 bt222.1 bt222.2.1 bt222.2.2.1 bt222.2.2.2.1).bind fun t245 => (if t245 = true then (laws_FnExactEnter.j0 k a1 a2 bt222.2.2.2.2 bt237.2.2.2.2 (bt237.2.2.2.2 != bt222.2.2.2.2) a0_0 a0_1 a0_2 l0_3 bt222.1 bt222.2.1 bt222.2.2.1 bt222.2.2.2.1 bt230.1 bt230.2.1 bt230.2.2.1 bt230.2.2.2 bt237.1 bt237.2.1 bt237.2.2.1 bt237.2.2.2.1) else (laws_FnExactEnter.j0 k a1 a2 bt222.2.2.2.2 bt237.2.2.2.2 true a0_0 a0_1 a0_2 l0_3 bt222.1 bt222.2.1 bt222.2.2.1 bt222.2.2.2.1 bt230.1 bt230.2.1 bt230.2.2.1 bt230.2.2.2 bt237.1 bt237.2.1 bt237.2.2.1 bt237.2.2.2.1)))))) = some true := H
  have A9 := Aside0.mk A90
  clear A90
  replace H := Option.bind_eq_some_iff.mp H
  obtain ⟨⟨t222, t223, t224, t225, t228⟩, A100, H⟩ := H
  replace H : ((laws_toBelt.f k a0_0 a0_1 a0_2 l0_3).bind fun bt230 => ((impl_Enter.f k bt230.1 bt230.2.1 bt230.2.2.1 bt230.2.2.2 a1 a2).bind fun bt237 => ((laws_eqBelt.f k bt237.1 bt237.2.1 bt237.2.2.1 bt237.2.2.2.1 t222 t223 t224 t225).bind fun t245 => (if t245 = true then (laws_FnExactEnter.j0 k a1 a2 t228 bt237.2.2.2.2 (bt237.2.2.2.2 != t228) a0_0 a0_1 a0_2 l0_3 t222 t223 t224 t225 bt230.1 bt230.2.1 bt230.2.2.1 bt230.2.2.2 bt237.1 bt237.2.1 bt237.2.2.1 bt237.2.2.2.1) else (laws_FnExactEnter.j0 k a1 a2 t228 bt237.2.2.2.2 true a0_0 a0_1 a0_2 l0_3 t222 t223 t224 t225 bt230.1 bt230.2.1 bt230.2.2.1 bt230.2.2.2 bt237.1 bt237.2.1 bt237.2.2.1 bt237.2.2.2.1))))) = some true := H
  have A10 := Aside0.mk A100
  clear A100
  replace H := Option.bind_eq_some_iff.mp H
  obtain ⟨⟨t230, t231, t232, t233⟩, A110, H⟩ := H
  replace H : ((impl_Enter.f k t230 t231 t232 t233 a1 a2).bind fun bt237 => ((laws_eqBelt.f k bt237.1 bt237.2.1 bt237.2.2.1 bt237.2.2.2.1 t222 t223 t224 t225).bind fun t245 => (if t245 = true then (laws_FnExactEnter.j0 k a1 a2 t228 bt237.2.2.2.2 (bt237.2.2.2.2 != t228) a0_0 a0_1 a0_2 l0_3 t222 t223 t224 t225 t230 t231 t232 t233 bt237.1 bt237.2.1 bt237.2.2.1 bt237.2.2.2.1) else (laws_FnExactEnter.j0 k a1 a2 t228 bt237.2.2.2.2 true a0_0 a0_1 a0_2 l0_3 t222 t223 t224 t225 t230 t231 t232 t233 bt237.1 bt237.2.1 bt237.2.2.1 bt237.2.2.2.1)))) = some true := H
  have A11 := Aside0.mk A110
  clear A110
  replace H := Option.bind_eq_some_iff.mp H
  obtain ⟨⟨t237, t238, t239, t240, t243⟩, A120, H⟩ := H
  replace H : ((laws_eqBelt.f k t237 t238 t239 t240 t222 t223 t224 t225).bind fun t245 => (if t245 = true then (laws_FnExactEnter.j0 k a1 a2 t228 t243 (t243 != t228) a0_0 a0_1 a0_2 l0_3 t222 t223 t224 t225 t230 t231 t232 t233 t237 t238 t239 t240) else (laws_FnExactEnter.j0 k a1 a2 t228 t243 true a0_0 a0_1 a0_2 l0_3 t222 t223 t224 t225 t230 t231 t232 t233 t237 t238 t239 t240))) = some true := H
  have A12 := Aside0.mk A120
  clear A120
  have HC13 := Aside0.mk H
  clear H
  go_enter Try.func8, Try.ntmps8
  go_upto_region 8 with (first | ((with_reducible refine gate_dst (N := 3) rfl ?_); refine box_event ?hg (N := 3) ?hd (cs := #[.int .i64 a0_0, .int .i64 a0_1, .bool a0_2, .slice A0_3 l0_3.length c0_3]) (t := 24) ?hr ?_; (case hd => rfl); (case hg => rfl); (case hr => first | (go_simp; done) | (go_simp; rfl)); intro gb214 hg w14 hbox hb; have n0_ := Aside0.mk (below_step (by repeat (first | (with_reducible first | exact HB.out | apply below_alloc | apply pw_below_drewN | apply below_drew1) | exact HB.out)) hb); have n1_ := Aside0.mk (hbox); have n2_ := Aside0.mk ((by rw [hg]; exact (below_size (by repeat (first | (with_reducible first | exact HB.out | apply below_alloc | apply pw_below_drewN | apply below_drew1) | exact HB.out))) : w.heap.size ≤ gb214)); have n3_ := Aside0.mk ((by rw [hg]; exact (below_size (by repeat (first | (with_reducible first | exact HB.out | apply below_alloc | apply pw_below_drewN | apply below_drew1) | exact HB.out))) : w.heap.size ≤ gb214)); clear HB; have HB := n0_; have BK214 := n1_; have GW214 := n2_; have GE214 := n3_; clear n0_ n1_ n2_ n3_; clear hb hbox hg; have hcz15_0 : w14.cell? ⟨gb214, 0, none⟩ = some (.int .i64 a0_0) := (blk_cell BK214.out 0).trans rfl; have hcz15_1 : w14.cell? ⟨gb214, 1, none⟩ = some (.int .i64 a0_1) := (blk_cell BK214.out 1).trans rfl; have hcz15_2 : w14.cell? ⟨gb214, 2, none⟩ = some (.bool a0_2) := (blk_cell BK214.out 2).trans rfl; have hcz15_3 : w14.cell? ⟨gb214, 3, none⟩ = some (.slice A0_3 l0_3.length c0_3) := (blk_cell BK214.out 3).trans rfl; have hfz15_0 := blk_frozen BK214.out 0; have hfz15_1 := blk_frozen BK214.out 1; have hfz15_2 := blk_frozen BK214.out 2; have hfz15_3 := blk_frozen BK214.out 3) | ((with_reducible refine gate_callee (f := 15) rfl ?_); refine goesL_ (some 20) rfl rfl Try.func15 (by kernel_rfl) rfl #[.agg #[.int .i64 a0_0, .int .i64 a0_1, .bool a0_2, .slice A0_3 l0_3.length c0_3], .int .i64 1048576] rfl (by (try simp only [List.map_toArray, List.map_cons, List.map_nil]); first | done | rfl | (simp only [List.length_drop, List.length_take]; rfl)) ?_; (with_reducible refine (laws_szBelt.calls a0_0 a0_1 a0_2 _ _ l0_3 1048576 t215 _ ?side1 ?side2 A4.out).mono ?_); (case side1 => repeat (first | exact (Kd.C_below HR0_3.out HB.out) | (with_reducible refine Kd.C_alloc ?_ _) | (with_reducible refine Kd.C_drewN ?_ _) | (with_reducible refine Kd.C_drew ?_))); (case side2 => exact HC0_3.out); rintro e w16 ⟨rfl, hb⟩; refine ⟨_, rfl, ?_⟩; have n0_ := Aside0.mk (blk_below (g := gb214) (o := .cells #[.int .i64 a0_0, .int .i64 a0_1, .bool a0_2, .slice A0_3 l0_3.length c0_3] 24 (0, 0)) (by (with_reducible repeat (first | refine blk_drewN ?_ _ | refine blk_drew ?_ | refine blk_alloc ?_ _)); exact BK214.out) hb); have n1_ := Aside0.mk (below_step (by repeat (first | (with_reducible first | exact HB.out | apply below_alloc | apply pw_below_drewN | apply below_drew1 | refine below_set ?_ GE214.out) | exact HB.out)) hb); clear BK214; clear HB; have BK214 := n0_; have HB := n1_; clear n0_ n1_; (try clear hb); (try clear hb2); (try clear hk); (try clear hi); have hcz17_0 : w16.cell? ⟨gb214, 0, none⟩ = some (.int .i64 a0_0) := (blk_cell BK214.out 0).trans rfl; have hcz17_1 : w16.cell? ⟨gb214, 1, none⟩ = some (.int .i64 a0_1) := (blk_cell BK214.out 1).trans rfl; have hcz17_2 : w16.cell? ⟨gb214, 2, none⟩ = some (.bool a0_2) := (blk_cell BK214.out 2).trans rfl; have hcz17_3 : w16.cell? ⟨gb214, 3, none⟩ = some (.slice A0_3 l0_3.length c0_3) := (blk_cell BK214.out 3).trans rfl; have hfz17_0 := blk_frozen BK214.out 0; have hfz17_1 := blk_frozen BK214.out 1; have hfz17_2 := blk_frozen BK214.out 2; have hfz17_3 := blk_frozen BK214.out 3) | ((with_reducible refine gate_callee (f := 17) rfl ?_); refine goesL_ (some 25) rfl rfl Try.func17 (by kernel_rfl) rfl #[.agg #[.int .i64 a0_0, .int .i64 a0_1, .bool a0_2, .slice A0_3 l0_3.length c0_3]] rfl (by (try simp only [List.map_toArray, List.map_cons, List.map_nil]); first | done | rfl | (simp only [List.length_drop, List.length_take]; rfl)) ?_; (with_reducible refine (laws_toBelt.calls k a0_0 a0_1 a0_2 _ _ l0_3 t216 t217 t218 t219 _ ?side1 ?side2 A9.out).mono ?_); (case side1 => repeat (first | exact (Kd.C_below HR0_3.out HB.out) | (with_reducible refine Kd.C_alloc ?_ _) | (with_reducible refine Kd.C_drewN ?_ _) | (with_reducible refine Kd.C_drew ?_))); (case side2 => exact HC0_3.out); rintro e w18 ⟨v220, rfl, ho0, hb⟩; refine ⟨_, rfl, ?_⟩; have n0_ := Aside0.mk (Kd.R_lower ho0 (below_size (by repeat (first | (with_reducible first | exact HB.out | apply below_alloc | apply pw_below_drewN | apply below_drew1 | refine below_set ?_ GE214.out) | exact HB.out)))); have n1_ := Aside0.mk (blk_below (g := gb214) (o := .cells #[.int .i64 a0_0, .int .i64 a0_1, .bool a0_2, .slice A0_3 l0_3.length c0_3] 24 (0, 0)) (by (with_reducible repeat (first | refine blk_drewN ?_ _ | refine blk_drew ?_ | refine blk_alloc ?_ _)); exact BK214.out) hb); have n2_ := Aside0.mk (below_step (by repeat (first | (with_reducible first | exact HB.out | apply below_alloc | apply pw_below_drewN | apply below_drew1 | refine below_set ?_ GE214.out) | exact HB.out)) hb); clear BK214; clear HB; have HO221 := n0_; have BK214 := n1_; have HB := n2_; clear n0_ n1_ n2_; (try clear hb); (try clear hb2); (try clear hk); (try clear hi); (try clear ho0); obtain ⟨Ao19, co19, eo19⟩ := Kd.R_slice HO221.out; subst eo19) | ((with_reducible refine gate_callee (f := 30) rfl ?_); refine goesL_ (some 28) rfl rfl Try.func30 (by kernel_rfl) rfl #[.agg #[.int .i64 t216, .int .i64 t217, .bool t218, .slice Ao19 t219.length co19], .int .i64 a1, .int .i64 a2] rfl (by (try simp only [List.map_toArray, List.map_cons, List.map_nil]); first | done | rfl | (simp only [List.length_drop, List.length_take]; rfl)) ?_; (with_reducible refine (spec_Enter.calls k t216 t217 t218 _ _ t219 a1 a2 t222 t223 t224 t225 t228 _ ?side1 ?side2 A10.out).mono ?_); (case side1 => repeat (first | exact (Kd.R_reads' HO221.out).2.2 | (with_reducible refine Kd.C_alloc ?_ _) | (with_reducible refine Kd.C_drewN ?_ _) | (with_reducible refine Kd.C_drew ?_))); (case side2 => exact (Kd.R_reads' HO221.out).2.1); rintro e w20 ⟨v226, rfl, ho0, hb⟩; refine ⟨_, rfl, ?_⟩; have n0_ := Aside0.mk (Kd.R_elder' (by (with_reducible repeat (first | apply Kd.R_alloc | apply Kd.R_drewN | apply Kd.R_drew)); exact HO221.out) (Kd.R_base ho0) hb); have n1_ := Aside0.mk (Kd.R_lower (Kd.R_new' ho0 (Kd.R_lt (by (with_reducible repeat (first | apply Kd.R_alloc | apply Kd.R_drewN | apply Kd.R_drew)); exact HO221.out))) (below_size (by repeat (first | (with_reducible first | exact HB.out | apply below_alloc | apply pw_below_drewN | apply below_drew1 | refine below_set ?_ GE214.out) | exact HB.out)))); have n2_ := Aside0.mk (blk_below (g := gb214) (o := .cells #[.int .i64 a0_0, .int .i64 a0_1, .bool a0_2, .slice A0_3 l0_3.length c0_3] 24 (0, 0)) (by (with_reducible repeat (first | refine blk_drewN ?_ _ | refine blk_drew ?_ | refine blk_alloc ?_ _)); exact BK214.out) hb); have n3_ := Aside0.mk (below_step (by repeat (first | (with_reducible first | exact HB.out | apply below_alloc | apply pw_below_drewN | apply below_drew1 | refine below_set ?_ GE214.out) | exact HB.out)) hb); clear HO221; clear BK214; clear HB; have HO221 := n0_; have HO227 := n1_; have BK214 := n2_; have HB := n3_; clear n0_ n1_ n2_ n3_; (try clear hb); (try clear hb2); (try clear hk); (try clear hi); (try clear ho0)) | ((with_reducible refine gate_dst (N := 8) rfl ?_); refine box_event ?hg (N := 8) ?hd (cs := #[.int .i64 0, .int .i64 0, .bool false, .slice none 0 0]) (t := 29) ?hr ?_; (case hd => rfl); (case hg => rfl); (case hr => first | (go_simp; done) | (go_simp; rfl)); intro gb229 hg w21 hbox hb; have n0_ := Aside0.mk (Kd.R_below (by (with_reducible repeat (first | apply Kd.R_alloc | apply Kd.R_drewN | apply Kd.R_drew)); exact HO221.out) hb); have n1_ := Aside0.mk (Kd.R_below (by (with_reducible repeat (first | apply Kd.R_alloc | apply Kd.R_drewN | apply Kd.R_drew)); exact HO227.out) hb); have n2_ := Aside0.mk (blk_below (g := gb214) (o := .cells #[.int .i64 a0_0, .int .i64 a0_1, .bool a0_2, .slice A0_3 l0_3.length c0_3] 24 (0, 0)) (by (with_reducible repeat (first | refine blk_drewN ?_ _ | refine blk_drew ?_ | refine blk_alloc ?_ _)); exact BK214.out) hb); have n3_ := Aside0.mk (below_step (by repeat (first | (with_reducible first | exact HB.out | apply below_alloc | apply pw_below_drewN | apply below_drew1 | refine below_set ?_ GE214.out) | exact HB.out)) hb); have n4_ := Aside0.mk (hbox); have n5_ := Aside0.mk ((by rw [hg]; exact (below_size (by repeat (first | (with_reducible first | exact HB.out | apply below_alloc | apply pw_below_drewN | apply below_drew1 | refine below_set ?_ GE214.out) | exact HB.out))) : w.heap.size ≤ gb229)); have n6_ := Aside0.mk ((by rw [hg]; exact (below_size (by repeat (first | (with_reducible first | exact HB.out | apply below_alloc | apply pw_below_drewN | apply below_drew1 | refine below_set ?_ GE214.out) | exact HB.out))) : w.heap.size ≤ gb229)); have n7_ := Aside0.mk ((by rw [hg]; exact Nat.ne_of_lt (blk_lt (g := gb214) (o := .cells #[.int .i64 a0_0, .int .i64 a0_1, .bool a0_2, .slice A0_3 l0_3.length c0_3] 24 (0, 0)) (by (with_reducible repeat (first | refine blk_drewN ?_ _ | refine blk_drew ?_ | refine blk_alloc ?_ _)); exact BK214.out)) : gb214 ≠ gb229)); have n8_ := Aside0.mk ((by rw [hg]; exact Nat.ne_of_gt (blk_lt (g := gb214) (o := .cells #[.int .i64 a0_0, .int .i64 a0_1, .bool a0_2, .slice A0_3 l0_3.length c0_3] 24 (0, 0)) (by (with_reducible repeat (first | refine blk_drewN ?_ _ | refine blk_drew ?_ | refine blk_alloc ?_ _)); exact BK214.out)) : gb229 ≠ gb214)); clear HO221; clear HO227; clear BK214; clear HB; have HO221 := n0_; have HO227 := n1_; have BK214 := n2_; have HB := n3_; have BK229 := n4_; have GW229 := n5_; have GE229 := n6_; have NB214_229 := n7_; have NB229_214 := n8_; clear n0_ n1_ n2_ n3_ n4_ n5_ n6_ n7_ n8_; clear hb hbox hg; have hnb22 := NB229_214.out; have hnc22 := NB214_229.out; have hcz23_0 : w21.cell? ⟨gb229, 0, none⟩ = some (.int .i64 0) := (blk_cell BK229.out 0).trans rfl; have hcz23_1 : w21.cell? ⟨gb229, 1, none⟩ = some (.int .i64 0) := (blk_cell BK229.out 1).trans rfl; have hcz23_2 : w21.cell? ⟨gb229, 2, none⟩ = some (.bool false) := (blk_cell BK229.out 2).trans rfl; have hcz23_3 : w21.cell? ⟨gb229, 3, none⟩ = some (.slice none 0 0) := (blk_cell BK229.out 3).trans rfl; have hfz23_0 := blk_frozen BK229.out 0; have hfz23_1 := blk_frozen BK229.out 1; have hfz23_2 := blk_frozen BK229.out 2; have hfz23_3 := blk_frozen BK229.out 3; obtain ⟨Ao24, co24, eo24⟩ := Kd.R_slice HO227.out; subst eo24; have hcz25_0 : w21.cell? ⟨gb214, 0, none⟩ = some (.int .i64 a0_0) := (blk_cell BK214.out 0).trans rfl; have hcz25_1 : w21.cell? ⟨gb214, 1, none⟩ = some (.int .i64 a0_1) := (blk_cell BK214.out 1).trans rfl; have hcz25_2 : w21.cell? ⟨gb214, 2, none⟩ = some (.bool a0_2) := (blk_cell BK214.out 2).trans rfl; have hcz25_3 : w21.cell? ⟨gb214, 3, none⟩ = some (.slice A0_3 l0_3.length c0_3) := (blk_cell BK214.out 3).trans rfl; have hfz25_0 := blk_frozen BK214.out 0; have hfz25_1 := blk_frozen BK214.out 1; have hfz25_2 := blk_frozen BK214.out 2; have hfz25_3 := blk_frozen BK214.out 3) | ((with_reducible refine gate_callee (f := 17) rfl ?_); refine goesL_ (some 32) rfl rfl Try.func17 (by kernel_rfl) rfl #[.agg #[.int .i64 a0_0, .int .i64 a0_1, .bool a0_2, .slice A0_3 l0_3.length c0_3]] rfl (by (try simp only [List.map_toArray, List.map_cons, List.map_nil]); first | done | rfl | (simp only [List.length_drop, List.length_take]; rfl)) ?_; (with_reducible refine (laws_toBelt.calls k a0_0 a0_1 a0_2 _ _ l0_3 t230 t231 t232 t233 _ ?side1 ?side2 A11.out).mono ?_); (case side1 => exact Kd.C_below HR0_3.out (by repeat (first | (with_reducible first | exact HB.out | apply below_alloc | apply pw_below_drewN | apply below_drew1 | refine below_set ?_ GE214.out | refine below_set ?_ GE229.out) | exact HB.out))); (case side2 => exact HC0_3.out); rintro e w26 ⟨v234, rfl, ho0, hb⟩; refine ⟨_, rfl, ?_⟩; have n0_ := Aside0.mk (Kd.R_elder' (by (with_reducible repeat (first | apply Kd.R_alloc | apply Kd.R_drewN | apply Kd.R_drew)); exact (Kd.R_mono (Kd.R_far (p := ⟨gb229, 3, none⟩) (Kd.R_far (p := ⟨gb229, 2, none⟩) (Kd.R_far (p := ⟨gb229, 1, none⟩) (Kd.R_far (p := ⟨gb229, 0, none⟩) (Kd.R_types HO221.out BK229.out (by decide)) (fun _ hk => hk.2) (.int .i64 t222)) (fun _ hk => hk.2) (.int .i64 t223)) (fun _ hk => hk.2) (.bool t224)) (fun _ hk => hk.2) (.slice Ao24 t225.length co24)) (fun _ h_ => h_.1))) (Kd.R_base ho0) hb); have n1_ := Aside0.mk (Kd.R_elder' (by (with_reducible repeat (first | apply Kd.R_alloc | apply Kd.R_drewN | apply Kd.R_drew)); exact (Kd.R_mono (Kd.R_far (p := ⟨gb229, 3, none⟩) (Kd.R_far (p := ⟨gb229, 2, none⟩) (Kd.R_far (p := ⟨gb229, 1, none⟩) (Kd.R_far (p := ⟨gb229, 0, none⟩) (Kd.R_types HO227.out BK229.out (by decide)) (fun _ hk => hk.2) (.int .i64 t222)) (fun _ hk => hk.2) (.int .i64 t223)) (fun _ hk => hk.2) (.bool t224)) (fun _ hk => hk.2) (.slice Ao24 t225.length co24)) (fun _ h_ => h_.1))) (Kd.R_base ho0) hb); have n2_ := Aside0.mk (Kd.R_lower (Kd.R_new' (Kd.R_new' ho0 (Kd.R_lt (by (with_reducible repeat (first | apply Kd.R_alloc | apply Kd.R_drewN | apply Kd.R_drew)); exact (Kd.R_mono (Kd.R_far (p := ⟨gb229, 3, none⟩) (Kd.R_far (p := ⟨gb229, 2, none⟩) (Kd.R_far (p := ⟨gb229, 1, none⟩) (Kd.R_far (p := ⟨gb229, 0, none⟩) (Kd.R_types HO221.out BK229.out (by decide)) (fun _ hk => hk.2) (.int .i64 t222)) (fun _ hk => hk.2) (.int .i64 t223)) (fun _ hk => hk.2) (.bool t224)) (fun _ hk => hk.2) (.slice Ao24 t225.length co24)) (fun _ h_ => h_.1))))) (Kd.R_lt (by (with_reducible repeat (first | apply Kd.R_alloc | apply Kd.R_drewN | apply Kd.R_drew)); exact (Kd.R_mono (Kd.R_far (p := ⟨gb229, 3, none⟩) (Kd.R_far (p := ⟨gb229, 2, none⟩) (Kd.R_far (p := ⟨gb229, 1, none⟩) (Kd.R_far (p := ⟨gb229, 0, none⟩) (Kd.R_types HO227.out BK229.out (by decide)) (fun _ hk => hk.2) (.int .i64 t222)) (fun _ hk => hk.2) (.int .i64 t223)) (fun _ hk => hk.2) (.bool t224)) (fun _ hk => hk.2) (.slice Ao24 t225.length co24)) (fun _ h_ => h_.1))))) (below_size (by repeat (first | (with_reducible first | exact HB.out | apply below_alloc | apply pw_below_drewN | apply below_drew1 | refine below_set ?_ GE214.out | refine below_set ?_ GE229.out) | exact HB.out)))); have n3_ := Aside0.mk (blk_below (g := gb214) (o := .cells #[.int .i64 a0_0, .int .i64 a0_1, .bool a0_2, .slice A0_3 l0_3.length c0_3] 24 (0, 0)) (by (with_reducible repeat (first | refine blk_drewN ?_ _ | refine blk_drew ?_ | refine blk_alloc ?_ _)); refine blk_far ?_ NB214_229.out _; (with_reducible repeat (first | refine blk_drewN ?_ _ | refine blk_drew ?_ | refine blk_alloc ?_ _)); refine blk_far ?_ NB214_229.out _; (with_reducible repeat (first | refine blk_drewN ?_ _ | refine blk_drew ?_ | refine blk_alloc ?_ _)); refine blk_far ?_ NB214_229.out _; (with_reducible repeat (first | refine blk_drewN ?_ _ | refine blk_drew ?_ | refine blk_alloc ?_ _)); refine blk_far ?_ NB214_229.out _; (with_reducible repeat (first | refine blk_drewN ?_ _ | refine blk_drew ?_ | refine blk_alloc ?_ _)); exact BK214.out) hb); have n4_ := Aside0.mk (blk_below (g := gb229) (o := .cells #[.int .i64 t222, .int .i64 t223, .bool t224, .slice Ao24 t225.length co24] 29 (0, 0)) (by (with_reducible repeat (first | refine blk_drewN ?_ _ | refine blk_drew ?_ | refine blk_alloc ?_ _)); refine blk_put (cs := #[.int .i64 t222, .int .i64 t223, .bool t224, .slice none 0 0]) ?_ 3 _ rfl; (with_reducible repeat (first | refine blk_drewN ?_ _ | refine blk_drew ?_ | refine blk_alloc ?_ _)); refine blk_put (cs := #[.int .i64 t222, .int .i64 t223, .bool false, .slice none 0 0]) ?_ 2 _ rfl; (with_reducible repeat (first | refine blk_drewN ?_ _ | refine blk_drew ?_ | refine blk_alloc ?_ _)); refine blk_put (cs := #[.int .i64 t222, .int .i64 0, .bool false, .slice none 0 0]) ?_ 1 _ rfl; (with_reducible repeat (first | refine blk_drewN ?_ _ | refine blk_drew ?_ | refine blk_alloc ?_ _)); refine blk_put (cs := #[.int .i64 0, .int .i64 0, .bool false, .slice none 0 0]) ?_ 0 _ rfl; (with_reducible repeat (first | refine blk_drewN ?_ _ | refine blk_drew ?_ | refine blk_alloc ?_ _)); exact BK229.out) hb); have n5_ := Aside0.mk (below_step (by repeat (first | (with_reducible first | exact HB.out | apply below_alloc | apply pw_below_drewN | apply below_drew1 | refine below_set ?_ GE214.out | refine below_set ?_ GE229.out) | exact HB.out)) hb); clear HO221; clear HO227; clear BK214; clear BK229; clear HB; have HO221 := n0_; have HO227 := n1_; have HO235 := n2_; have BK214 := n3_; have BK229 := n4_; have HB := n5_; clear n0_ n1_ n2_ n3_ n4_ n5_; (try clear hb); (try clear hb2); (try clear hk); (try clear hi); (try clear ho0)) | ((with_reducible refine gate_dst (N := 10) rfl ?_); refine box_event ?hg (N := 10) ?hd (cs := #[.int .i64 0, .int .i64 0, .bool false, .slice none 0 0]) (t := 29) ?hr ?_; (case hd => rfl); (case hg => rfl); (case hr => first | (go_simp; done) | (go_simp; rfl)); intro gb236 hg w27 hbox hb; have n0_ := Aside0.mk (Kd.R_below (by (with_reducible repeat (first | apply Kd.R_alloc | apply Kd.R_drewN | apply Kd.R_drew)); exact HO221.out) hb); have n1_ := Aside0.mk (Kd.R_below (by (with_reducible repeat (first | apply Kd.R_alloc | apply Kd.R_drewN | apply Kd.R_drew)); exact HO227.out) hb); have n2_ := Aside0.mk (Kd.R_below (by (with_reducible repeat (first | apply Kd.R_alloc | apply Kd.R_drewN | apply Kd.R_drew)); exact HO235.out) hb); have n3_ := Aside0.mk (blk_below (g := gb214) (o := .cells #[.int .i64 a0_0, .int .i64 a0_1, .bool a0_2, .slice A0_3 l0_3.length c0_3] 24 (0, 0)) (by (with_reducible repeat (first | refine blk_drewN ?_ _ | refine blk_drew ?_ | refine blk_alloc ?_ _)); exact BK214.out) hb); have n4_ := Aside0.mk (blk_below (g := gb229) (o := .cells #[.int .i64 t222, .int .i64 t223, .bool t224, .slice Ao24 t225.length co24] 29 (0, 0)) (by (with_reducible repeat (first | refine blk_drewN ?_ _ | refine blk_drew ?_ | refine blk_alloc ?_ _)); exact BK229.out) hb); have n5_ := Aside0.mk (below_step (by repeat (first | (with_reducible first | exact HB.out | apply below_alloc | apply pw_below_drewN | apply below_drew1 | refine below_set ?_ GE214.out | refine below_set ?_ GE229.out) | exact HB.out)) hb); have n6_ := Aside0.mk (hbox); have n7_ := Aside0.mk ((by rw [hg]; exact (below_size (by repeat (first | (with_reducible first | exact HB.out | apply below_alloc | apply pw_below_drewN | apply below_drew1 | refine below_set ?_ GE214.out | refine below_set ?_ GE229.out) | exact HB.out))) : w.heap.size ≤ gb236)); have n8_ := Aside0.mk ((by rw [hg]; exact (below_size (by repeat (first | (with_reducible first | exact HB.out | apply below_alloc | apply pw_below_drewN | apply below_drew1 | refine below_set ?_ GE214.out | refine below_set ?_ GE229.out) | exact HB.out))) : w.heap.size ≤ gb236)); have n9_ := Aside0.mk ((by rw [hg]; exact Nat.ne_of_lt (blk_lt (g := gb214) (o := .cells #[.int .i64 a0_0, .int .i64 a0_1, .bool a0_2, .slice A0_3 l0_3.length c0_3] 24 (0, 0)) (by (with_reducible repeat (first | refine blk_drewN ?_ _ | refine blk_drew ?_ | refine blk_alloc ?_ _)); exact BK214.out)) : gb214 ≠ gb236)); have n10_ := Aside0.mk ((by rw [hg]; exact Nat.ne_of_gt (blk_lt (g := gb214) (o := .cells #[.int .i64 a0_0, .int .i64 a0_1, .bool a0_2, .slice A0_3 l0_3.length c0_3] 24 (0, 0)) (by (with_reducible repeat (first | refine blk_drewN ?_ _ | refine blk_drew ?_ | refine blk_alloc ?_ _)); exact BK214.out)) : gb236 ≠ gb214)); have n11_ := Aside0.mk ((by rw [hg]; exact Nat.ne_of_lt (blk_lt (g := gb229) (o := .cells #[.int .i64 t222, .int .i64 t223, .bool t224, .slice Ao24 t225.length co24] 29 (0, 0)) (by (with_reducible repeat (first | refine blk_drewN ?_ _ | refine blk_drew ?_ | refine blk_alloc ?_ _)); exact BK229.out)) : gb229 ≠ gb236)); have n12_ := Aside0.mk ((by rw [hg]; exact Nat.ne_of_gt (blk_lt (g := gb229) (o := .cells #[.int .i64 t222, .int .i64 t223, .bool t224, .slice Ao24 t225.length co24] 29 (0, 0)) (by (with_reducible repeat (first | refine blk_drewN ?_ _ | refine blk_drew ?_ | refine blk_alloc ?_ _)); exact BK229.out)) : gb236 ≠ gb229)); clear HO221; clear HO227; clear HO235; clear BK214; clear BK229; clear HB; have HO221 := n0_; have HO227 := n1_; have HO235 := n2_; have BK214 := n3_; have BK229 := n4_; have HB := n5_; have BK236 := n6_; have GW236 := n7_; have GE236 := n8_; have NB214_236 := n9_; have NB236_214 := n10_; have NB229_236 := n11_; have NB236_229 := n12_; clear n0_ n1_ n2_ n3_ n4_ n5_ n6_ n7_ n8_ n9_ n10_ n11_ n12_; clear hb hbox hg; have hnb28 := NB236_214.out; have hnc28 := NB214_236.out; have hnb29 := NB236_229.out; have hnc29 := NB229_236.out; have hcz30_0 : w27.cell? ⟨gb236, 0, none⟩ = some (.int .i64 0) := (blk_cell BK236.out 0).trans rfl; have hcz30_1 : w27.cell? ⟨gb236, 1, none⟩ = some (.int .i64 0) := (blk_cell BK236.out 1).trans rfl; have hcz30_2 : w27.cell? ⟨gb236, 2, none⟩ = some (.bool false) := (blk_cell BK236.out 2).trans rfl; have hcz30_3 : w27.cell? ⟨gb236, 3, none⟩ = some (.slice none 0 0) := (blk_cell BK236.out 3).trans rfl; have hfz30_0 := blk_frozen BK236.out 0; have hfz30_1 := blk_frozen BK236.out 1; have hfz30_2 := blk_frozen BK236.out 2; have hfz30_3 := blk_frozen BK236.out 3; obtain ⟨Ao31, co31, eo31⟩ := Kd.R_slice HO235.out; subst eo31) | ((with_reducible refine gate_callee (f := 31) rfl ?_); refine goesL_ (some 37) rfl rfl Try.func31 (by kernel_rfl) rfl #[.agg #[.int .i64 t230, .int .i64 t231, .bool t232, .slice Ao31 t233.length co31], .int .i64 a1, .int .i64 a2] rfl (by (try simp only [List.map_toArray, List.map_cons, List.map_nil]); first | done | rfl | (simp only [List.length_drop, List.length_take]; rfl)) ?_; (with_reducible refine (impl_Enter.calls k t230 t231 t232 _ _ t233 a1 a2 t237 t238 t239 t240 t243 _ ?side1 ?side2 A12.out).mono ?_); (case side1 => refine (Kd.R_reads' (e := 53) (base := w.heap.size) (ok := fun k_ => ((True ∧ some k_ ≠ (.slice Ao19 t219.length co19 : Value).ownBlock) ∧ some k_ ≠ (.slice Ao24 t225.length co24 : Value).ownBlock)) (n := t233.length) (c := co31) ?_).2.2; exact (by (with_reducible repeat (first | apply Kd.R_alloc | apply Kd.R_drewN | apply Kd.R_drew)); exact (Kd.R_mono (Kd.R_far (p := ⟨gb236, 3, none⟩) (Kd.R_far (p := ⟨gb236, 2, none⟩) (Kd.R_far (p := ⟨gb236, 1, none⟩) (Kd.R_far (p := ⟨gb236, 0, none⟩) (Kd.R_types HO235.out BK236.out (by decide)) (fun _ hk => hk.2) (.int .i64 t230)) (fun _ hk => hk.2) (.int .i64 t231)) (fun _ hk => hk.2) (.bool t232)) (fun _ hk => hk.2) (.slice Ao31 t233.length co31)) (fun _ h_ => h_.1)))); (case side2 => exact (Kd.R_reads' HO235.out).2.1); rintro e w32 ⟨v241, rfl, ho0, hb⟩; refine ⟨_, rfl, ?_⟩; have n0_ := Aside0.mk (Kd.R_elder' (by (with_reducible repeat (first | apply Kd.R_alloc | apply Kd.R_drewN | apply Kd.R_drew)); exact (Kd.R_mono (Kd.R_far (p := ⟨gb236, 3, none⟩) (Kd.R_far (p := ⟨gb236, 2, none⟩) (Kd.R_far (p := ⟨gb236, 1, none⟩) (Kd.R_far (p := ⟨gb236, 0, none⟩) (Kd.R_types HO221.out BK236.out (by decide)) (fun _ hk => hk.2) (.int .i64 t230)) (fun _ hk => hk.2) (.int .i64 t231)) (fun _ hk => hk.2) (.bool t232)) (fun _ hk => hk.2) (.slice Ao31 t233.length co31)) (fun _ h_ => h_.1))) (Kd.R_base ho0) hb); have n1_ := Aside0.mk (Kd.R_elder' (by (with_reducible repeat (first | apply Kd.R_alloc | apply Kd.R_drewN | apply Kd.R_drew)); exact (Kd.R_mono (Kd.R_far (p := ⟨gb236, 3, none⟩) (Kd.R_far (p := ⟨gb236, 2, none⟩) (Kd.R_far (p := ⟨gb236, 1, none⟩) (Kd.R_far (p := ⟨gb236, 0, none⟩) (Kd.R_types HO227.out BK236.out (by decide)) (fun _ hk => hk.2) (.int .i64 t230)) (fun _ hk => hk.2) (.int .i64 t231)) (fun _ hk => hk.2) (.bool t232)) (fun _ hk => hk.2) (.slice Ao31 t233.length co31)) (fun _ h_ => h_.1))) (Kd.R_base ho0) hb); have n2_ := Aside0.mk (Kd.R_elder' (by (with_reducible repeat (first | apply Kd.R_alloc | apply Kd.R_drewN | apply Kd.R_drew)); exact (Kd.R_mono (Kd.R_far (p := ⟨gb236, 3, none⟩) (Kd.R_far (p := ⟨gb236, 2, none⟩) (Kd.R_far (p := ⟨gb236, 1, none⟩) (Kd.R_far (p := ⟨gb236, 0, none⟩) (Kd.R_types HO235.out BK236.out (by decide)) (fun _ hk => hk.2) (.int .i64 t230)) (fun _ hk => hk.2) (.int .i64 t231)) (fun _ hk => hk.2) (.bool t232)) (fun _ hk => hk.2) (.slice Ao31 t233.length co31)) (fun _ h_ => h_.1))) (Kd.R_base ho0) hb); have n3_ := Aside0.mk (Kd.R_lower (Kd.R_new' (Kd.R_new' (Kd.R_new' ho0 (Kd.R_lt (by (with_reducible repeat (first | apply Kd.R_alloc | apply Kd.R_drewN | apply Kd.R_drew)); exact (Kd.R_mono (Kd.R_far (p := ⟨gb236, 3, none⟩) (Kd.R_far (p := ⟨gb236, 2, none⟩) (Kd.R_far (p := ⟨gb236, 1, none⟩) (Kd.R_far (p := ⟨gb236, 0, none⟩) (Kd.R_types HO221.out BK236.out (by decide)) (fun _ hk => hk.2) (.int .i64 t230)) (fun _ hk => hk.2) (.int .i64 t231)) (fun _ hk => hk.2) (.bool t232)) (fun _ hk => hk.2) (.slice Ao31 t233.length co31)) (fun _ h_ => h_.1))))) (Kd.R_lt (by (with_reducible repeat (first | apply Kd.R_alloc | apply Kd.R_drewN | apply Kd.R_drew)); exact (Kd.R_mono (Kd.R_far (p := ⟨gb236, 3, none⟩) (Kd.R_far (p := ⟨gb236, 2, none⟩) (Kd.R_far (p := ⟨gb236, 1, none⟩) (Kd.R_far (p := ⟨gb236, 0, none⟩) (Kd.R_types HO227.out BK236.out (by decide)) (fun _ hk => hk.2) (.int .i64 t230)) (fun _ hk => hk.2) (.int .i64 t231)) (fun _ hk => hk.2) (.bool t232)) (fun _ hk => hk.2) (.slice Ao31 t233.length co31)) (fun _ h_ => h_.1))))) (Kd.R_lt (by (with_reducible repeat (first | apply Kd.R_alloc | apply Kd.R_drewN | apply Kd.R_drew)); exact (Kd.R_mono (Kd.R_far (p := ⟨gb236, 3, none⟩) (Kd.R_far (p := ⟨gb236, 2, none⟩) (Kd.R_far (p := ⟨gb236, 1, none⟩) (Kd.R_far (p := ⟨gb236, 0, none⟩) (Kd.R_types HO235.out BK236.out (by decide)) (fun _ hk => hk.2) (.int .i64 t230)) (fun _ hk => hk.2) (.int .i64 t231)) (fun _ hk => hk.2) (.bool t232)) (fun _ hk => hk.2) (.slice Ao31 t233.length co31)) (fun _ h_ => h_.1))))) (below_size (by repeat (first | (with_reducible first | exact HB.out | apply below_alloc | apply pw_below_drewN | apply below_drew1 | refine below_set ?_ GE214.out | refine below_set ?_ GE229.out | refine below_set ?_ GE236.out) | exact HB.out)))); have n4_ := Aside0.mk (blk_below (g := gb214) (o := .cells #[.int .i64 a0_0, .int .i64 a0_1, .bool a0_2, .slice A0_3 l0_3.length c0_3] 24 (0, 0)) (by (with_reducible repeat (first | refine blk_drewN ?_ _ | refine blk_drew ?_ | refine blk_alloc ?_ _)); refine blk_far ?_ NB214_236.out _; (with_reducible repeat (first | refine blk_drewN ?_ _ | refine blk_drew ?_ | refine blk_alloc ?_ _)); refine blk_far ?_ NB214_236.out _; (with_reducible repeat (first | refine blk_drewN ?_ _ | refine blk_drew ?_ | refine blk_alloc ?_ _)); refine blk_far ?_ NB214_236.out _; (with_reducible repeat (first | refine blk_drewN ?_ _ | refine blk_drew ?_ | refine blk_alloc ?_ _)); refine blk_far ?_ NB214_236.out _; (with_reducible repeat (first | refine blk_drewN ?_ _ | refine blk_drew ?_ | refine blk_alloc ?_ _)); exact BK214.out) hb); have n5_ := Aside0.mk (blk_below (g := gb229) (o := .cells #[.int .i64 t222, .int .i64 t223, .bool t224, .slice Ao24 t225.length co24] 29 (0, 0)) (by (with_reducible repeat (first | refine blk_drewN ?_ _ | refine blk_drew ?_ | refine blk_alloc ?_ _)); refine blk_far ?_ NB229_236.out _; (with_reducible repeat (first | refine blk_drewN ?_ _ | refine blk_drew ?_ | refine blk_alloc ?_ _)); refine blk_far ?_ NB229_236.out _; (with_reducible repeat (first | refine blk_drewN ?_ _ | refine blk_drew ?_ | refine blk_alloc ?_ _)); refine blk_far ?_ NB229_236.out _; (with_reducible repeat (first | refine blk_drewN ?_ _ | refine blk_drew ?_ | refine blk_alloc ?_ _)); refine blk_far ?_ NB229_236.out _; (with_reducible repeat (first | refine blk_drewN ?_ _ | refine blk_drew ?_ | refine blk_alloc ?_ _)); exact BK229.out) hb); have n6_ := Aside0.mk (blk_below (g := gb236) (o := .cells #[.int .i64 t230, .int .i64 t231, .bool t232, .slice Ao31 t233.length co31] 29 (0, 0)) (by (with_reducible repeat (first | refine blk_drewN ?_ _ | refine blk_drew ?_ | refine blk_alloc ?_ _)); refine blk_put (cs := #[.int .i64 t230, .int .i64 t231, .bool t232, .slice none 0 0]) ?_ 3 _ rfl; (with_reducible repeat (first | refine blk_drewN ?_ _ | refine blk_drew ?_ | refine blk_alloc ?_ _)); refine blk_put (cs := #[.int .i64 t230, .int .i64 t231, .bool false, .slice none 0 0]) ?_ 2 _ rfl; (with_reducible repeat (first | refine blk_drewN ?_ _ | refine blk_drew ?_ | refine blk_alloc ?_ _)); refine blk_put (cs := #[.int .i64 t230, .int .i64 0, .bool false, .slice none 0 0]) ?_ 1 _ rfl; (with_reducible repeat (first | refine blk_drewN ?_ _ | refine blk_drew ?_ | refine blk_alloc ?_ _)); refine blk_put (cs := #[.int .i64 0, .int .i64 0, .bool false, .slice none 0 0]) ?_ 0 _ rfl; (with_reducible repeat (first | refine blk_drewN ?_ _ | refine blk_drew ?_ | refine blk_alloc ?_ _)); exact BK236.out) hb); have n7_ := Aside0.mk (below_step (by repeat (first | (with_reducible first | exact HB.out | apply below_alloc | apply pw_below_drewN | apply below_drew1 | refine below_set ?_ GE214.out | refine below_set ?_ GE229.out | refine below_set ?_ GE236.out) | exact HB.out)) hb); clear HO221; clear HO227; clear HO235; clear BK214; clear BK229; clear BK236; clear HB; have HO221 := n0_; have HO227 := n1_; have HO235 := n2_; have HO242 := n3_; have BK214 := n4_; have BK229 := n5_; have BK236 := n6_; have HB := n7_; clear n0_ n1_ n2_ n3_ n4_ n5_ n6_ n7_; (try clear hb); (try clear hb2); (try clear hk); (try clear hi); (try clear ho0)) | ((with_reducible refine gate_dst (N := 11) rfl ?_); refine box_event ?hg (N := 11) ?hd (cs := #[.int .i64 0, .int .i64 0, .bool false, .slice none 0 0]) (t := 29) ?hr ?_; (case hd => rfl); (case hg => rfl); (case hr => first | (go_simp; done) | (go_simp; rfl)); intro gb244 hg w33 hbox hb; have n0_ := Aside0.mk (Kd.R_below (by (with_reducible repeat (first | apply Kd.R_alloc | apply Kd.R_drewN | apply Kd.R_drew)); exact HO221.out) hb); have n1_ := Aside0.mk (Kd.R_below (by (with_reducible repeat (first | apply Kd.R_alloc | apply Kd.R_drewN | apply Kd.R_drew)); exact HO227.out) hb); have n2_ := Aside0.mk (Kd.R_below (by (with_reducible repeat (first | apply Kd.R_alloc | apply Kd.R_drewN | apply Kd.R_drew)); exact HO235.out) hb); have n3_ := Aside0.mk (Kd.R_below (by (with_reducible repeat (first | apply Kd.R_alloc | apply Kd.R_drewN | apply Kd.R_drew)); exact HO242.out) hb); have n4_ := Aside0.mk (blk_below (g := gb214) (o := .cells #[.int .i64 a0_0, .int .i64 a0_1, .bool a0_2, .slice A0_3 l0_3.length c0_3] 24 (0, 0)) (by (with_reducible repeat (first | refine blk_drewN ?_ _ | refine blk_drew ?_ | refine blk_alloc ?_ _)); exact BK214.out) hb); have n5_ := Aside0.mk (blk_below (g := gb229) (o := .cells #[.int .i64 t222, .int .i64 t223, .bool t224, .slice Ao24 t225.length co24] 29 (0, 0)) (by (with_reducible repeat (first | refine blk_drewN ?_ _ | refine blk_drew ?_ | refine blk_alloc ?_ _)); exact BK229.out) hb); have n6_ := Aside0.mk (blk_below (g := gb236) (o := .cells #[.int .i64 t230, .int .i64 t231, .bool t232, .slice Ao31 t233.length co31] 29 (0, 0)) (by (with_reducible repeat (first | refine blk_drewN ?_ _ | refine blk_drew ?_ | refine blk_alloc ?_ _)); exact BK236.out) hb); have n7_ := Aside0.mk (below_step (by repeat (first | (with_reducible first | exact HB.out | apply below_alloc | apply pw_below_drewN | apply below_drew1 | refine below_set ?_ GE214.out | refine below_set ?_ GE229.out | refine below_set ?_ GE236.out) | exact HB.out)) hb); have n8_ := Aside0.mk (hbox); have n9_ := Aside0.mk ((by rw [hg]; exact (below_size (by repeat (first | (with_reducible first | exact HB.out | apply below_alloc | apply pw_below_drewN | apply below_drew1 | refine below_set ?_ GE214.out | refine below_set ?_ GE229.out | refine below_set ?_ GE236.out) | exact HB.out))) : w.heap.size ≤ gb244)); have n10_ := Aside0.mk ((by rw [hg]; exact (below_size (by repeat (first | (with_reducible first | exact HB.out | apply below_alloc | apply pw_below_drewN | apply below_drew1 | refine below_set ?_ GE214.out | refine below_set ?_ GE229.out | refine below_set ?_ GE236.out) | exact HB.out))) : w.heap.size ≤ gb244)); have n11_ := Aside0.mk ((by rw [hg]; exact Nat.ne_of_lt (blk_lt (g := gb214) (o := .cells #[.int .i64 a0_0, .int .i64 a0_1, .bool a0_2, .slice A0_3 l0_3.length c0_3] 24 (0, 0)) (by (with_reducible repeat (first | refine blk_drewN ?_ _ | refine blk_drew ?_ | refine blk_alloc ?_ _)); exact BK214.out)) : gb214 ≠ gb244)); have n12_ := Aside0.mk ((by rw [hg]; exact Nat.ne_of_gt (blk_lt (g := gb214) (o := .cells #[.int .i64 a0_0, .int .i64 a0_1, .bool a0_2, .slice A0_3 l0_3.length c0_3] 24 (0, 0)) (by (with_reducible repeat (first | refine blk_drewN ?_ _ | refine blk_drew ?_ | refine blk_alloc ?_ _)); exact BK214.out)) : gb244 ≠ gb214)); have n13_ := Aside0.mk ((by rw [hg]; exact Nat.ne_of_lt (blk_lt (g := gb229) (o := .cells #[.int .i64 t222, .int .i64 t223, .bool t224, .slice Ao24 t225.length co24] 29 (0, 0)) (by (with_reducible repeat (first | refine blk_drewN ?_ _ | refine blk_drew ?_ | refine blk_alloc ?_ _)); exact BK229.out)) : gb229 ≠ gb244)); have n14_ := Aside0.mk ((by rw [hg]; exact Nat.ne_of_gt (blk_lt (g := gb229) (o := .cells #[.int .i64 t222, .int .i64 t223, .bool t224, .slice Ao24 t225.length co24] 29 (0, 0)) (by (with_reducible repeat (first | refine blk_drewN ?_ _ | refine blk_drew ?_ | refine blk_alloc ?_ _)); exact BK229.out)) : gb244 ≠ gb229)); have n15_ := Aside0.mk ((by rw [hg]; exact Nat.ne_of_lt (blk_lt (g := gb236) (o := .cells #[.int .i64 t230, .int .i64 t231, .bool t232, .slice Ao31 t233.length co31] 29 (0, 0)) (by (with_reducible repeat (first | refine blk_drewN ?_ _ | refine blk_drew ?_ | refine blk_alloc ?_ _)); exact BK236.out)) : gb236 ≠ gb244)); have n16_ := Aside0.mk ((by rw [hg]; exact Nat.ne_of_gt (blk_lt (g := gb236) (o := .cells #[.int .i64 t230, .int .i64 t231, .bool t232, .slice Ao31 t233.length co31] 29 (0, 0)) (by (with_reducible repeat (first | refine blk_drewN ?_ _ | refine blk_drew ?_ | refine blk_alloc ?_ _)); exact BK236.out)) : gb244 ≠ gb236)); clear HO221; clear HO227; clear HO235; clear HO242; clear BK214; clear BK229; clear BK236; clear HB; have HO221 := n0_; have HO227 := n1_; have HO235 := n2_; have HO242 := n3_; have BK214 := n4_; have BK229 := n5_; have BK236 := n6_; have HB := n7_; have BK244 := n8_; have GW244 := n9_; have GE244 := n10_; have NB214_244 := n11_; have NB244_214 := n12_; have NB229_244 := n13_; have NB244_229 := n14_; have NB236_244 := n15_; have NB244_236 := n16_; clear n0_ n1_ n2_ n3_ n4_ n5_ n6_ n7_ n8_ n9_ n10_ n11_ n12_ n13_ n14_ n15_ n16_; clear hb hbox hg; have hnb34 := NB244_214.out; have hnc34 := NB214_244.out; have hnb35 := NB244_229.out; have hnc35 := NB229_244.out; have hnb36 := NB244_236.out; have hnc36 := NB236_244.out; have hcz37_0 : w33.cell? ⟨gb244, 0, none⟩ = some (.int .i64 0) := (blk_cell BK244.out 0).trans rfl; have hcz37_1 : w33.cell? ⟨gb244, 1, none⟩ = some (.int .i64 0) := (blk_cell BK244.out 1).trans rfl; have hcz37_2 : w33.cell? ⟨gb244, 2, none⟩ = some (.bool false) := (blk_cell BK244.out 2).trans rfl; have hcz37_3 : w33.cell? ⟨gb244, 3, none⟩ = some (.slice none 0 0) := (blk_cell BK244.out 3).trans rfl; have hfz37_0 := blk_frozen BK244.out 0; have hfz37_1 := blk_frozen BK244.out 1; have hfz37_2 := blk_frozen BK244.out 2; have hfz37_3 := blk_frozen BK244.out 3; obtain ⟨Ao38, co38, eo38⟩ := Kd.R_slice HO242.out; subst eo38))
  (try simp only [Act.put, List.setIfInBounds_toArray, List.set_cons_zero, List.set_cons_succ])
  go_cut [48] (fun v48 wc => ∃ (kq : Nat) (x48_12 : Bool), v48 = .bool x48_12 ∧ Aside0 (laws_FnExactEnter.j0 kq a1 a2 t228 t243 x48_12 a0_0 a0_1 a0_2 l0_3 t222 t223 t224 t225 t230 t231 t232 t233 t237 t238 t239 t240 = some true) ∧ Aside0 (kq ≤ k) ∧ Aside0 (Kd.R k53 53 wc w.heap.size (fun k_ => some k_ ≠ ((.slice Ao31 t233.length co31) : Value).ownBlock ∧ some k_ ≠ ((.slice Ao38 t240.length co38) : Value).ownBlock) (.slice Ao24 t225.length co24) t225) ∧ Aside0 (Kd.R k53 53 wc w.heap.size (fun k_ => some k_ ≠ ((.slice Ao24 t225.length co24) : Value).ownBlock ∧ some k_ ≠ ((.slice Ao38 t240.length co38) : Value).ownBlock) (.slice Ao31 t233.length co31) t233) ∧ Aside0 (Kd.R k53 53 wc w.heap.size (fun k_ => some k_ ≠ ((.slice Ao24 t225.length co24) : Value).ownBlock ∧ some k_ ≠ ((.slice Ao31 t233.length co31) : Value).ownBlock) (.slice Ao38 t240.length co38) t240) ∧ Aside0 (wc.heap[gb214]? = some (.cells #[.int .i64 a0_0, .int .i64 a0_1, .bool a0_2, (.slice A0_3 l0_3.length c0_3)] 24 (0, 0))) ∧ Aside0 (wc.heap[gb229]? = some (.cells #[.int .i64 t222, .int .i64 t223, .bool t224, (.slice Ao24 t225.length co24)] 29 (0, 0))) ∧ Aside0 (wc.heap[gb236]? = some (.cells #[.int .i64 t230, .int .i64 t231, .bool t232, (.slice Ao31 t233.length co31)] 29 (0, 0))) ∧ Aside0 (wc.heap[gb244]? = some (.cells #[.int .i64 t237, .int .i64 t238, .bool t239, (.slice Ao38 t240.length co38)] 29 (0, 0))) ∧ Aside0 (Below w.heap.size w wc))
  case first =>
   have H := HC13.out
   clear HC13
   replace H := Option.bind_eq_some_iff.mp H
   obtain ⟨t245, A390, H⟩ := H
   replace H : (if t245 = true then (laws_FnExactEnter.j0 k a1 a2 t228 t243 (t243 != t228) a0_0 a0_1 a0_2 l0_3 t222 t223 t224 t225 t230 t231 t232 t233 t237 t238 t239 t240) else (laws_FnExactEnter.j0 k a1 a2 t228 t243 true a0_0 a0_1 a0_2 l0_3 t222 t223 t224 t225 t230 t231 t232 t233 t237 t238 t239 t240)) = some true := H
   have A39 := Aside0.mk A390
   clear A390
   by_cases c40 : t245 = true
   ·subst c40
    have H1 : (laws_FnExactEnter.j0 k a1 a2 t228 t243 (t243 != t228) a0_0 a0_1 a0_2 l0_3 t222 t223 t224 t225 t230 t231 t232 t233 t237 t238 t239 t240) = some true := by rw [if_pos rfl] at H; first | done | exact H
    clear H
    have H := H1
    clear H1
    have H' := Aside0.mk H
    clear H
    have hnb41 := NB244_214.out
    have hnc41 := NB214_244.out
    have hnb42 := NB244_229.out
    have hnc42 := NB229_244.out
    have hnb43 := NB244_236.out
    have hnc43 := NB236_244.out
    have hcz44_0 : w33.cell? ⟨gb244, 0, none⟩ = some (.int .i64 0) := (blk_cell BK244.out 0).trans rfl
    have hcz44_1 : w33.cell? ⟨gb244, 1, none⟩ = some (.int .i64 0) := (blk_cell BK244.out 1).trans rfl
    have hcz44_2 : w33.cell? ⟨gb244, 2, none⟩ = some (.bool false) := (blk_cell BK244.out 2).trans rfl
    have hcz44_3 : w33.cell? ⟨gb244, 3, none⟩ = some (.slice none 0 0) := (blk_cell BK244.out 3).trans rfl
    have hfz44_0 := blk_frozen BK244.out 0
    have hfz44_1 := blk_frozen BK244.out 1
    have hfz44_2 := blk_frozen BK244.out 2
    have hfz44_3 := blk_frozen BK244.out 3
    have hnb45 := NB229_214.out
    have hnc45 := NB214_229.out
    have hnb46 := NB229_236.out
    have hnc46 := NB236_229.out
    have hcz47_0 : w33.cell? ⟨gb229, 0, none⟩ = some (.int .i64 t222) := (blk_cell BK229.out 0).trans rfl
    have hcz47_1 : w33.cell? ⟨gb229, 1, none⟩ = some (.int .i64 t223) := (blk_cell BK229.out 1).trans rfl
    have hcz47_2 : w33.cell? ⟨gb229, 2, none⟩ = some (.bool t224) := (blk_cell BK229.out 2).trans rfl
    have hcz47_3 : w33.cell? ⟨gb229, 3, none⟩ = some (.slice Ao24 t225.length co24) := (blk_cell BK229.out 3).trans rfl
    have hfz47_0 := blk_frozen BK229.out 0
    have hfz47_1 := blk_frozen BK229.out 1
    have hfz47_2 := blk_frozen BK229.out 2
    have hfz47_3 := blk_frozen BK229.out 3
    go_wp2_with (first | ((with_reducible refine gate_callee (f := 19) rfl ?_); refine goesL_ (some 42) rfl rfl Try.func19 (by kernel_rfl) rfl #[.agg #[.int .i64 t237, .int .i64 t238, .bool t239, .slice Ao38 t240.length co38], .agg #[.int .i64 t222, .int .i64 t223, .bool t224, .slice Ao24 t225.length co24]] rfl (by (try simp only [List.map_toArray, List.map_cons, List.map_nil]); first | done | rfl | (simp only [List.length_drop, List.length_take]; rfl)) ?_; (with_reducible refine (laws_eqBelt.calls k t237 t238 t239 _ _ t240 t222 t223 t224 _ _ t225 true _ ?side1 ?side2 ?side3 ?side4 A39.out).mono ?_); (case side1 => refine (Kd.R_reads' (e := 53) (base := w.heap.size) (ok := fun k_ => (((True ∧ some k_ ≠ (.slice Ao19 t219.length co19 : Value).ownBlock) ∧ some k_ ≠ (.slice Ao24 t225.length co24 : Value).ownBlock) ∧ some k_ ≠ (.slice Ao31 t233.length co31 : Value).ownBlock)) (n := t240.length) (c := co38) ?_).2.2; exact (by (with_reducible repeat (first | apply Kd.R_alloc | apply Kd.R_drewN | apply Kd.R_drew)); exact (Kd.R_mono (Kd.R_far (p := ⟨gb244, 3, none⟩) (Kd.R_far (p := ⟨gb244, 2, none⟩) (Kd.R_far (p := ⟨gb244, 1, none⟩) (Kd.R_far (p := ⟨gb244, 0, none⟩) (Kd.R_types HO242.out BK244.out (by decide)) (fun _ hk => hk.2) (.int .i64 t237)) (fun _ hk => hk.2) (.int .i64 t238)) (fun _ hk => hk.2) (.bool t239)) (fun _ hk => hk.2) (.slice Ao38 t240.length co38)) (fun _ h_ => h_.1)))); (case side2 => exact (Kd.R_reads' HO242.out).2.1); (case side3 => refine (Kd.R_reads' (e := 53) (base := w.heap.size) (ok := fun k_ => (((True ∧ some k_ ≠ (.slice Ao19 t219.length co19 : Value).ownBlock) ∧ some k_ ≠ (.slice Ao31 t233.length co31 : Value).ownBlock) ∧ some k_ ≠ (.slice Ao38 t240.length co38 : Value).ownBlock)) (n := t225.length) (c := co24) ?_).2.2; exact (by (with_reducible repeat (first | apply Kd.R_alloc | apply Kd.R_drewN | apply Kd.R_drew)); exact (Kd.R_mono (Kd.R_far (p := ⟨gb244, 3, none⟩) (Kd.R_far (p := ⟨gb244, 2, none⟩) (Kd.R_far (p := ⟨gb244, 1, none⟩) (Kd.R_far (p := ⟨gb244, 0, none⟩) (Kd.R_types HO227.out BK244.out (by decide)) (fun _ hk => hk.2) (.int .i64 t237)) (fun _ hk => hk.2) (.int .i64 t238)) (fun _ hk => hk.2) (.bool t239)) (fun _ hk => hk.2) (.slice Ao38 t240.length co38)) (fun _ h_ => h_.1)))); (case side4 => exact (Kd.R_reads' HO227.out).2.1); rintro e w48 ⟨rfl, hb⟩; refine ⟨_, rfl, ?_⟩; have n0_ := Aside0.mk (Kd.R_below (by (with_reducible repeat (first | apply Kd.R_alloc | apply Kd.R_drewN | apply Kd.R_drew)); exact (Kd.R_mono (Kd.R_far (p := ⟨gb244, 3, none⟩) (Kd.R_far (p := ⟨gb244, 2, none⟩) (Kd.R_far (p := ⟨gb244, 1, none⟩) (Kd.R_far (p := ⟨gb244, 0, none⟩) (Kd.R_types HO221.out BK244.out (by decide)) (fun _ hk => hk.2) (.int .i64 t237)) (fun _ hk => hk.2) (.int .i64 t238)) (fun _ hk => hk.2) (.bool t239)) (fun _ hk => hk.2) (.slice Ao38 t240.length co38)) (fun _ h_ => h_.1))) hb); have n1_ := Aside0.mk (Kd.R_below (by (with_reducible repeat (first | apply Kd.R_alloc | apply Kd.R_drewN | apply Kd.R_drew)); exact (Kd.R_mono (Kd.R_far (p := ⟨gb244, 3, none⟩) (Kd.R_far (p := ⟨gb244, 2, none⟩) (Kd.R_far (p := ⟨gb244, 1, none⟩) (Kd.R_far (p := ⟨gb244, 0, none⟩) (Kd.R_types HO227.out BK244.out (by decide)) (fun _ hk => hk.2) (.int .i64 t237)) (fun _ hk => hk.2) (.int .i64 t238)) (fun _ hk => hk.2) (.bool t239)) (fun _ hk => hk.2) (.slice Ao38 t240.length co38)) (fun _ h_ => h_.1))) hb); have n2_ := Aside0.mk (Kd.R_below (by (with_reducible repeat (first | apply Kd.R_alloc | apply Kd.R_drewN | apply Kd.R_drew)); exact (Kd.R_mono (Kd.R_far (p := ⟨gb244, 3, none⟩) (Kd.R_far (p := ⟨gb244, 2, none⟩) (Kd.R_far (p := ⟨gb244, 1, none⟩) (Kd.R_far (p := ⟨gb244, 0, none⟩) (Kd.R_types HO235.out BK244.out (by decide)) (fun _ hk => hk.2) (.int .i64 t237)) (fun _ hk => hk.2) (.int .i64 t238)) (fun _ hk => hk.2) (.bool t239)) (fun _ hk => hk.2) (.slice Ao38 t240.length co38)) (fun _ h_ => h_.1))) hb); have n3_ := Aside0.mk (Kd.R_below (by (with_reducible repeat (first | apply Kd.R_alloc | apply Kd.R_drewN | apply Kd.R_drew)); exact (Kd.R_mono (Kd.R_far (p := ⟨gb244, 3, none⟩) (Kd.R_far (p := ⟨gb244, 2, none⟩) (Kd.R_far (p := ⟨gb244, 1, none⟩) (Kd.R_far (p := ⟨gb244, 0, none⟩) (Kd.R_types HO242.out BK244.out (by decide)) (fun _ hk => hk.2) (.int .i64 t237)) (fun _ hk => hk.2) (.int .i64 t238)) (fun _ hk => hk.2) (.bool t239)) (fun _ hk => hk.2) (.slice Ao38 t240.length co38)) (fun _ h_ => h_.1))) hb); have n4_ := Aside0.mk (blk_below (g := gb214) (o := .cells #[.int .i64 a0_0, .int .i64 a0_1, .bool a0_2, .slice A0_3 l0_3.length c0_3] 24 (0, 0)) (by (with_reducible repeat (first | refine blk_drewN ?_ _ | refine blk_drew ?_ | refine blk_alloc ?_ _)); refine blk_far ?_ NB214_244.out _; (with_reducible repeat (first | refine blk_drewN ?_ _ | refine blk_drew ?_ | refine blk_alloc ?_ _)); refine blk_far ?_ NB214_244.out _; (with_reducible repeat (first | refine blk_drewN ?_ _ | refine blk_drew ?_ | refine blk_alloc ?_ _)); refine blk_far ?_ NB214_244.out _; (with_reducible repeat (first | refine blk_drewN ?_ _ | refine blk_drew ?_ | refine blk_alloc ?_ _)); refine blk_far ?_ NB214_244.out _; (with_reducible repeat (first | refine blk_drewN ?_ _ | refine blk_drew ?_ | refine blk_alloc ?_ _)); exact BK214.out) hb); have n5_ := Aside0.mk (blk_below (g := gb229) (o := .cells #[.int .i64 t222, .int .i64 t223, .bool t224, .slice Ao24 t225.length co24] 29 (0, 0)) (by (with_reducible repeat (first | refine blk_drewN ?_ _ | refine blk_drew ?_ | refine blk_alloc ?_ _)); refine blk_far ?_ NB229_244.out _; (with_reducible repeat (first | refine blk_drewN ?_ _ | refine blk_drew ?_ | refine blk_alloc ?_ _)); refine blk_far ?_ NB229_244.out _; (with_reducible repeat (first | refine blk_drewN ?_ _ | refine blk_drew ?_ | refine blk_alloc ?_ _)); refine blk_far ?_ NB229_244.out _; (with_reducible repeat (first | refine blk_drewN ?_ _ | refine blk_drew ?_ | refine blk_alloc ?_ _)); refine blk_far ?_ NB229_244.out _; (with_reducible repeat (first | refine blk_drewN ?_ _ | refine blk_drew ?_ | refine blk_alloc ?_ _)); exact BK229.out) hb); have n6_ := Aside0.mk (blk_below (g := gb236) (o := .cells #[.int .i64 t230, .int .i64 t231, .bool t232, .slice Ao31 t233.length co31] 29 (0, 0)) (by (with_reducible repeat (first | refine blk_drewN ?_ _ | refine blk_drew ?_ | refine blk_alloc ?_ _)); refine blk_far ?_ NB236_244.out _; (with_reducible repeat (first | refine blk_drewN ?_ _ | refine blk_drew ?_ | refine blk_alloc ?_ _)); refine blk_far ?_ NB236_244.out _; (with_reducible repeat (first | refine blk_drewN ?_ _ | refine blk_drew ?_ | refine blk_alloc ?_ _)); refine blk_far ?_ NB236_244.out _; (with_reducible repeat (first | refine blk_drewN ?_ _ | refine blk_drew ?_ | refine blk_alloc ?_ _)); refine blk_far ?_ NB236_244.out _; (with_reducible repeat (first | refine blk_drewN ?_ _ | refine blk_drew ?_ | refine blk_alloc ?_ _)); exact BK236.out) hb); have n7_ := Aside0.mk (blk_below (g := gb244) (o := .cells #[.int .i64 t237, .int .i64 t238, .bool t239, .slice Ao38 t240.length co38] 29 (0, 0)) (by (with_reducible repeat (first | refine blk_drewN ?_ _ | refine blk_drew ?_ | refine blk_alloc ?_ _)); refine blk_put (cs := #[.int .i64 t237, .int .i64 t238, .bool t239, .slice none 0 0]) ?_ 3 _ rfl; (with_reducible repeat (first | refine blk_drewN ?_ _ | refine blk_drew ?_ | refine blk_alloc ?_ _)); refine blk_put (cs := #[.int .i64 t237, .int .i64 t238, .bool false, .slice none 0 0]) ?_ 2 _ rfl; (with_reducible repeat (first | refine blk_drewN ?_ _ | refine blk_drew ?_ | refine blk_alloc ?_ _)); refine blk_put (cs := #[.int .i64 t237, .int .i64 0, .bool false, .slice none 0 0]) ?_ 1 _ rfl; (with_reducible repeat (first | refine blk_drewN ?_ _ | refine blk_drew ?_ | refine blk_alloc ?_ _)); refine blk_put (cs := #[.int .i64 0, .int .i64 0, .bool false, .slice none 0 0]) ?_ 0 _ rfl; (with_reducible repeat (first | refine blk_drewN ?_ _ | refine blk_drew ?_ | refine blk_alloc ?_ _)); exact BK244.out) hb); have n8_ := Aside0.mk (below_step (by repeat (first | (with_reducible first | exact HB.out | apply below_alloc | apply pw_below_drewN | apply below_drew1 | refine below_set ?_ GE214.out | refine below_set ?_ GE229.out | refine below_set ?_ GE236.out | refine below_set ?_ GE244.out) | exact HB.out)) hb); clear HO221; clear HO227; clear HO235; clear HO242; clear BK214; clear BK229; clear BK236; clear BK244; clear HB; have HO221 := n0_; have HO227 := n1_; have HO235 := n2_; have HO242 := n3_; have BK214 := n4_; have BK229 := n5_; have BK236 := n6_; have BK244 := n7_; have HB := n8_; clear n0_ n1_ n2_ n3_ n4_ n5_ n6_ n7_ n8_; (try clear hb); (try clear hb2); (try clear hk); (try clear hi)))
    go_meet
    case rel => exact ⟨_, ((t243 != t228)), (by first | rfl | (simp; done) | (simp [*]; done)), H', ⟨by first | omega | exact Nat.le_refl _⟩, ⟨by (with_reducible repeat (first | apply Kd.R_alloc | apply Kd.R_drewN | apply Kd.R_drew)); exact Kd.R_mono HO227.out (fun _ hk => ⟨hk.1.2, hk.2⟩)⟩, ⟨by (with_reducible repeat (first | apply Kd.R_alloc | apply Kd.R_drewN | apply Kd.R_drew)); exact Kd.R_mono HO235.out (fun _ hk => ⟨hk.1.2, hk.2⟩)⟩, ⟨by (with_reducible repeat (first | apply Kd.R_alloc | apply Kd.R_drewN | apply Kd.R_drew)); exact Kd.R_mono HO242.out (fun _ hk => ⟨hk.1.2, hk.2⟩)⟩, ⟨by (with_reducible repeat (first | refine blk_drewN ?_ _ | refine blk_drew ?_ | refine blk_alloc ?_ _)); exact BK214.out⟩, ⟨by (with_reducible repeat (first | refine blk_drewN ?_ _ | refine blk_drew ?_ | refine blk_alloc ?_ _)); exact BK229.out⟩, ⟨by (with_reducible repeat (first | refine blk_drewN ?_ _ | refine blk_drew ?_ | refine blk_alloc ?_ _)); exact BK236.out⟩, ⟨by (with_reducible repeat (first | refine blk_drewN ?_ _ | refine blk_drew ?_ | refine blk_alloc ?_ _)); exact BK244.out⟩, ⟨by repeat (first | (with_reducible first | exact HB.out | apply below_alloc | apply pw_below_drewN | apply below_drew1 | refine below_set ?_ GE214.out | refine below_set ?_ GE229.out | refine below_set ?_ GE236.out | refine below_set ?_ GE244.out) | exact HB.out)⟩⟩
   ·replace c40 := Bool.eq_false_iff.mpr c40
    subst c40
    have H1 : (laws_FnExactEnter.j0 k a1 a2 t228 t243 true a0_0 a0_1 a0_2 l0_3 t222 t223 t224 t225 t230 t231 t232 t233 t237 t238 t239 t240) = some true := by rw [if_neg (show ¬ (false = true) by decide)] at H; first | done | exact H
    clear H
    have H := H1
    clear H1
    exact absurd H (by cases k <;> simp [laws_FnExactEnter.j0])
  case rest =>
   clear HC13
   try clear c1
   try clear c2
   try clear p2
   try clear c3
   try clear c4
   try clear c5
   try clear c5b0
   try clear c8
   try clear c15
   try clear c17
   try clear c19
   try clear c22
   try clear c28
   try clear c29
   try clear c30
   try clear c31
   try clear c34
   try clear c35
   try clear c36
   try clear c40
   try clear c41
   try clear c42
   try clear c43
   try clear c45
   try clear c46
   try clear hcz15_0
   try clear hcz15_1
   try clear hcz15_2
   try clear hcz15_3
   try clear hcz17_0
   try clear hcz17_1
   try clear hcz17_2
   try clear hcz17_3
   try clear hcz23_0
   try clear hcz23_1
   try clear hcz23_2
   try clear hcz23_3
   try clear hcz25_0
   try clear hcz25_1
   try clear hcz25_2
   try clear hcz25_3
   try clear hcz30_0
   try clear hcz30_1
   try clear hcz30_2
   try clear hcz30_3
   try clear hcz37_0
   try clear hcz37_1
   try clear hcz37_2
   try clear hcz37_3
   try clear hcz44_0
   try clear hcz44_1
   try clear hcz44_2
   try clear hcz44_3
   try clear hcz47_0
   try clear hcz47_1
   try clear hcz47_2
   try clear hcz47_3
   try clear hcz7_0
   try clear hcz7_1
   try clear hcz7_2
   try clear hcz7_3
   try clear hfz15_0
   try clear hfz15_1
   try clear hfz15_2
   try clear hfz15_3
   try clear hfz17_0
   try clear hfz17_1
   try clear hfz17_2
   try clear hfz17_3
   try clear hfz23_0
   try clear hfz23_1
   try clear hfz23_2
   try clear hfz23_3
   try clear hfz25_0
   try clear hfz25_1
   try clear hfz25_2
   try clear hfz25_3
   try clear hfz30_0
   try clear hfz30_1
   try clear hfz30_2
   try clear hfz30_3
   try clear hfz37_0
   try clear hfz37_1
   try clear hfz37_2
   try clear hfz37_3
   try clear hfz44_0
   try clear hfz44_1
   try clear hfz44_2
   try clear hfz44_3
   try clear hfz47_0
   try clear hfz47_1
   try clear hfz47_2
   try clear hfz47_3
   try clear hfz7_0
   try clear hfz7_1
   try clear hfz7_2
   try clear hfz7_3
   obtain ⟨kq, x48_12, rfl, HA, HJ12, HO_230003, HO_237003, HO_245003, BK214, BK229, BK236, BK244, HB⟩ := hcut
   cases kq with
   | zero => exact absurd HA.out (by simp [laws_FnExactEnter.j0])
   | succ kj12 =>
    have H := HA.out
    clear HA
    simp only [laws_FnExactEnter.j0] at H
    by_cases c49 : x48_12 = true
    ·subst c49
     have H1 : (some false) = some true := by rw [if_pos rfl] at H; first | done | exact H
     clear H
     have H := H1
     clear H1
     exact absurd H (by simp)
    ·replace c49 := Bool.eq_false_iff.mpr c49
     subst c49
     have H1 : ((laws_toBelt.f kj12 a0_0 a0_1 a0_2 l0_3).bind fun bt246 => ((laws_eqBelt.f kj12 t230 t231 t232 t233 bt246.1 bt246.2.1 bt246.2.2.1 bt246.2.2.2).bind fun t252 => (if t252 = true then ((laws_markBelt.f kj12 t230 t231 t232 t233 1).bind fun bt253 => (if bt253.1 < 0 then (laws_FnExactEnter.j1 kj12 a1 a2 t228 true a0_0 a0_1 a0_2 l0_3 t222 t223 t224 t225 t237 t238 t239 t240) else ((laws_eqBelt.f kj12 t237 t238 t239 t240 t222 t223 t224 t225).bind fun t255 => (if t255 = true then (laws_FnExactEnter.j1 kj12 a1 a2 t228 (t243 != t228) a0_0 a0_1 a0_2 l0_3 t222 t223 t224 t225 t237 t238 t239 t240) else (laws_FnExactEnter.j1 kj12 a1 a2 t228 true a0_0 a0_1 a0_2 l0_3 t222 t223 t224 t225 t237 t238 t239 t240))))) else (some false)))) = some true := by rw [if_neg (show ¬ (false = true) by decide)] at H; first | done | exact H
     clear H
     have H := H1
     clear H1
     replace H := Option.bind_eq_some_iff.mp H
     obtain ⟨⟨t246, t247, t248, t249⟩, A500, H⟩ := H
     replace H : ((laws_eqBelt.f kj12 t230 t231 t232 t233 t246 t247 t248 t249).bind fun t252 => (if t252 = true then ((laws_markBelt.f kj12 t230 t231 t232 t233 1).bind fun bt253 => (if bt253.1 < 0 then (laws_FnExactEnter.j1 kj12 a1 a2 t228 true a0_0 a0_1 a0_2 l0_3 t222 t223 t224 t225 t237 t238 t239 t240) else ((laws_eqBelt.f kj12 t237 t238 t239 t240 t222 t223 t224 t225).bind fun t255 => (if t255 = true then (laws_FnExactEnter.j1 kj12 a1 a2 t228 (t243 != t228) a0_0 a0_1 a0_2 l0_3 t222 t223 t224 t225 t237 t238 t239 t240) else (laws_FnExactEnter.j1 kj12 a1 a2 t228 true a0_0 a0_1 a0_2 l0_3 t222 t223 t224 t225 t237 t238 t239 t240))))) else (some false))) = some true := H
     have A50 := Aside0.mk A500
     clear A500
     replace H := Option.bind_eq_some_iff.mp H
     obtain ⟨t252, A510, H⟩ := H
     replace H : (if t252 = true then ((laws_markBelt.f kj12 t230 t231 t232 t233 1).bind fun bt253 => (if bt253.1 < 0 then (laws_FnExactEnter.j1 kj12 a1 a2 t228 true a0_0 a0_1 a0_2 l0_3 t222 t223 t224 t225 t237 t238 t239 t240) else ((laws_eqBelt.f kj12 t237 t238 t239 t240 t222 t223 t224 t225).bind fun t255 => (if t255 = true then (laws_FnExactEnter.j1 kj12 a1 a2 t228 (t243 != t228) a0_0 a0_1 a0_2 l0_3 t222 t223 t224 t225 t237 t238 t239 t240) else (laws_FnExactEnter.j1 kj12 a1 a2 t228 true a0_0 a0_1 a0_2 l0_3 t222 t223 t224 t225 t237 t238 t239 t240))))) else (some false)) = some true := H
     have A51 := Aside0.mk A510
     clear A510
     by_cases c52 : t252 = true
     ·subst c52
      have H1 : ((laws_markBelt.f kj12 t230 t231 t232 t233 1).bind fun bt253 => (if bt253.1 < 0 then (laws_FnExactEnter.j1 kj12 a1 a2 t228 true a0_0 a0_1 a0_2 l0_3 t222 t223 t224 t225 t237 t238 t239 t240) else ((laws_eqBelt.f kj12 t237 t238 t239 t240 t222 t223 t224 t225).bind fun t255 => (if t255 = true then (laws_FnExactEnter.j1 kj12 a1 a2 t228 (t243 != t228) a0_0 a0_1 a0_2 l0_3 t222 t223 t224 t225 t237 t238 t239 t240) else (laws_FnExactEnter.j1 kj12 a1 a2 t228 true a0_0 a0_1 a0_2 l0_3 t222 t223 t224 t225 t237 t238 t239 t240))))) = some true := by rw [if_pos rfl] at H; first | done | exact H
      clear H
      have H := H1
      clear H1
      replace H := Option.bind_eq_some_iff.mp H
      obtain ⟨⟨t253, t254⟩, A530, H⟩ := H
      replace H : (if t253 < 0 then (laws_FnExactEnter.j1 kj12 a1 a2 t228 true a0_0 a0_1 a0_2 l0_3 t222 t223 t224 t225 t237 t238 t239 t240) else ((laws_eqBelt.f kj12 t237 t238 t239 t240 t222 t223 t224 t225).bind fun t255 => (if t255 = true then (laws_FnExactEnter.j1 kj12 a1 a2 t228 (t243 != t228) a0_0 a0_1 a0_2 l0_3 t222 t223 t224 t225 t237 t238 t239 t240) else (laws_FnExactEnter.j1 kj12 a1 a2 t228 true a0_0 a0_1 a0_2 l0_3 t222 t223 t224 t225 t237 t238 t239 t240)))) = some true := H
      have A53 := Aside0.mk A530
      clear A530
      have HC54 := Aside0.mk H
      clear H
      try go_wp2
      have n0_ := Aside0.mk (Kd.R_drew HO_230003.out)
      have n1_ := Aside0.mk (Kd.R_drew HO_237003.out)
      have n2_ := Aside0.mk (Kd.R_drew HO_245003.out)
      have n3_ := Aside0.mk (blk_drew BK214.out)
      have n4_ := Aside0.mk (blk_drew BK229.out)
      have n5_ := Aside0.mk (blk_drew BK236.out)
      have n6_ := Aside0.mk (blk_drew BK244.out)
      have n7_ := Aside0.mk (below_drew1 HB.out)
      clear HO_230003
      clear HO_237003
      clear HO_245003
      clear BK214
      clear BK229
      clear BK236
      clear BK244
      clear HB
      have HO_230003 := n0_
      have HO_237003 := n1_
      have HO_245003 := n2_
      have BK214 := n3_
      have BK229 := n4_
      have BK236 := n5_
      have BK244 := n6_
      have HB := n7_
      clear n0_ n1_ n2_ n3_ n4_ n5_ n6_ n7_
      refine start_ (n := 5) (S := fun w' => w'.cell? ⟨gb236, 0, none⟩ = some (.int .i64 t230) ∧ w'.cell? ⟨gb236, 1, none⟩ = some (.int .i64 t231) ∧ w'.cell? ⟨gb236, 2, none⟩ = some (.bool t232) ∧ w'.cell? ⟨gb236, 3, none⟩ = some (.slice Ao31 t233.length co31) ∧ w'.cell? ⟨gb214, 0, none⟩ = some (.int .i64 a0_0) ∧ w'.cell? ⟨gb214, 1, none⟩ = some (.int .i64 a0_1) ∧ w'.cell? ⟨gb214, 2, none⟩ = some (.bool a0_2) ∧ w'.cell? ⟨gb214, 3, none⟩ = some (.slice A0_3 l0_3.length c0_3)) (ds := []) #[false, false, false, false, false] (by kernel_rfl) rfl rfl ⟨(blk_cell BK236.out 0).trans rfl, (blk_cell BK236.out 1).trans rfl, (blk_cell BK236.out 2).trans rfl, (blk_cell BK236.out 3).trans rfl, (blk_cell BK214.out 0).trans rfl, (blk_cell BK214.out 1).trans rfl, (blk_cell BK214.out 2).trans rfl, (blk_cell BK214.out 3).trans rfl⟩ (fun hHeld => ?_)
      generalize wc.drew = w55 at HO_230003 HO_237003 HO_245003 BK214 BK229 BK236 BK244 HB hHeld ⊢
      refine take_ (i := 0) (N := some 49) (v := ?_) (a' := ?_) #[true, false, false, false, false] rfl rfl (by kernel_rfl) (fun _ _ _ h => h) (Or.inl ⟨by rfl, ?_⟩) hHeld ?_ ?_
      rotate_left
      ·rintro w' ⟨s0, s1, s2, s3, s4, s5, s6, s7⟩
       go_simp
       with_reducible rfl
      rotate_left
      ·simp only [Act.put, List.setIfInBounds_toArray, List.set_cons_zero, List.set_cons_succ, i64_w, i32_w]
       rfl
      refine take_ (i := 1) (N := some 50) (v := ?_) (a' := ?_) #[true, true, false, false, false] rfl rfl (by kernel_rfl) (fun _ _ _ h => h) (Or.inl ⟨by rfl, ?_⟩) hHeld ?_ ?_
      rotate_left
      ·rintro w' ⟨s0, s1, s2, s3, s4, s5, s6, s7⟩
       go_simp
       with_reducible rfl
      rotate_left
      ·simp only [Act.put, List.setIfInBounds_toArray, List.set_cons_zero, List.set_cons_succ, i64_w, i32_w]
       rfl
      refine one_ (i := 2) (N := some 51) #[true, true, true, false, false] rfl rfl (by kernel_rfl) (by decide) (fun K hK => ?_)
      refine goes_ Try.func17 (by kernel_rfl) rfl #[.agg #[.int .i64 a0_0, .int .i64 a0_1, .bool a0_2, .slice A0_3 l0_3.length c0_3]] (by rfl) rfl rfl (by (try simp only [List.map_toArray, List.map_cons, List.map_nil]); first | done | rfl | (simp only [List.length_drop, List.length_take]; rfl)) ?_
      with_reducible refine (laws_toBelt.calls kj12 a0_0 a0_1 a0_2 _ _ l0_3 t246 t247 t248 t249 _ ?side1 ?side2 A50.out).mono ?_
      (case side1 => repeat (first | exact (Kd.C_below HR0_3.out HB.out) | (with_reducible refine Kd.C_alloc ?_ _) | (with_reducible refine Kd.C_drewN ?_ _) | (with_reducible refine Kd.C_drew ?_)))
      (case side2 => exact HC0_3.out)
      rintro e w56 ⟨v250, rfl, ho0, hb⟩
      refine ⟨_, rfl, ?_⟩
      have n0_ := Aside0.mk (Kd.R_elder' (by (with_reducible repeat (first | apply Kd.R_alloc | apply Kd.R_drewN | apply Kd.R_drew)); exact HO_230003.out) (Kd.R_base ho0) hb)
      have n1_ := Aside0.mk (Kd.R_elder' (by (with_reducible repeat (first | apply Kd.R_alloc | apply Kd.R_drewN | apply Kd.R_drew)); exact HO_237003.out) (Kd.R_base ho0) hb)
      have n2_ := Aside0.mk (Kd.R_elder' (by (with_reducible repeat (first | apply Kd.R_alloc | apply Kd.R_drewN | apply Kd.R_drew)); exact HO_245003.out) (Kd.R_base ho0) hb)
      have n3_ := Aside0.mk (Kd.R_lower (Kd.R_new' (Kd.R_new' (Kd.R_new' ho0 (Kd.R_lt (by (with_reducible repeat (first | apply Kd.R_alloc | apply Kd.R_drewN | apply Kd.R_drew)); exact HO_230003.out))) (Kd.R_lt (by (with_reducible repeat (first | apply Kd.R_alloc | apply Kd.R_drewN | apply Kd.R_drew)); exact HO_237003.out))) (Kd.R_lt (by (with_reducible repeat (first | apply Kd.R_alloc | apply Kd.R_drewN | apply Kd.R_drew)); exact HO_245003.out))) (below_size (by repeat (first | (with_reducible first | exact HB.out | apply below_alloc | apply pw_below_drewN | apply below_drew1 | refine below_set ?_ GE214.out | refine below_set ?_ GE229.out | refine below_set ?_ GE236.out | refine below_set ?_ GE244.out) | exact HB.out))))
      have n4_ := Aside0.mk (blk_below (g := gb214) (o := .cells #[.int .i64 a0_0, .int .i64 a0_1, .bool a0_2, .slice A0_3 l0_3.length c0_3] 24 (0, 0)) (by (with_reducible repeat (first | refine blk_drewN ?_ _ | refine blk_drew ?_ | refine blk_alloc ?_ _)); exact BK214.out) hb)
      have n5_ := Aside0.mk (blk_below (g := gb229) (o := .cells #[.int .i64 t222, .int .i64 t223, .bool t224, .slice Ao24 t225.length co24] 29 (0, 0)) (by (with_reducible repeat (first | refine blk_drewN ?_ _ | refine blk_drew ?_ | refine blk_alloc ?_ _)); exact BK229.out) hb)
      have n6_ := Aside0.mk (blk_below (g := gb236) (o := .cells #[.int .i64 t230, .int .i64 t231, .bool t232, .slice Ao31 t233.length co31] 29 (0, 0)) (by (with_reducible repeat (first | refine blk_drewN ?_ _ | refine blk_drew ?_ | refine blk_alloc ?_ _)); exact BK236.out) hb)
      have n7_ := Aside0.mk (blk_below (g := gb244) (o := .cells #[.int .i64 t237, .int .i64 t238, .bool t239, .slice Ao38 t240.length co38] 29 (0, 0)) (by (with_reducible repeat (first | refine blk_drewN ?_ _ | refine blk_drew ?_ | refine blk_alloc ?_ _)); exact BK244.out) hb)
      have n8_ := Aside0.mk (below_step (by repeat (first | (with_reducible first | exact HB.out | apply below_alloc | apply pw_below_drewN | apply below_drew1 | refine below_set ?_ GE214.out | refine below_set ?_ GE229.out | refine below_set ?_ GE236.out | refine below_set ?_ GE244.out) | exact HB.out)) hb)
      clear HO_230003
      clear HO_237003
      clear HO_245003
      clear BK214
      clear BK229
      clear BK236
      clear BK244
      clear HB
      have HO_230003 := n0_
      have HO_237003 := n1_
      have HO_245003 := n2_
      have HO251 := n3_
      have BK214 := n4_
      have BK229 := n5_
      have BK236 := n6_
      have BK244 := n7_
      have HB := n8_
      clear n0_ n1_ n2_ n3_ n4_ n5_ n6_ n7_ n8_
      (try clear hb)
      (try clear hb2)
      (try clear hk)
      (try clear hi)
      (try clear ho0)
      obtain ⟨Ao57, co57, eo57⟩ := Kd.R_slice HO251.out
      (first | subst eo57 | (injection eo57 with f1_ f2_ f3_; have f4_ := f1_.symm; have f5_ := f3_.symm; clear f1_ f2_ f3_; subst f4_; subst f5_))
      refine hK.out _ _ ⟨(blk_cell BK236.out 0).trans rfl, (blk_cell BK236.out 1).trans rfl, (blk_cell BK236.out 2).trans rfl, (blk_cell BK236.out 3).trans rfl, (blk_cell BK214.out 0).trans rfl, (blk_cell BK214.out 1).trans rfl, (blk_cell BK214.out 2).trans rfl, (blk_cell BK214.out 3).trans rfl⟩ (fun hHeld => ?_)
      clear hK K
      refine norm_ (a' := ?_) ?_ ?_
      rotate_left
      ·show Act.put _ (some 51) _ = _
       simp only [Act.put, List.setIfInBounds_toArray, List.set_cons_zero, List.set_cons_succ, i64_w, i32_w]
       rfl
      refine one_ (i := 3) (N := some 52) #[true, true, true, true, false] rfl rfl (by kernel_rfl) (by decide) (fun K hK => ?_)
      refine goes_ Try.func19 (by kernel_rfl) rfl #[.agg #[.int .i64 t230, .int .i64 t231, .bool t232, .slice Ao31 t233.length co31], .agg #[.int .i64 t246, .int .i64 t247, .bool t248, .slice Ao57 t249.length co57]] (by rfl) rfl rfl (by (try simp only [List.map_toArray, List.map_cons, List.map_nil]); first | done | rfl | (simp only [List.length_drop, List.length_take]; rfl)) ?_
      with_reducible refine (laws_eqBelt.calls kj12 t230 t231 t232 _ _ t233 t246 t247 t248 _ _ t249 true _ ?side1 ?side2 ?side3 ?side4 A51.out).mono ?_
      (case side1 => repeat (first | exact (Kd.R_reads' HO_237003.out).2.2 | (with_reducible refine Kd.C_alloc ?_ _) | (with_reducible refine Kd.C_drewN ?_ _) | (with_reducible refine Kd.C_drew ?_)))
      (case side2 => exact (Kd.R_reads' HO_237003.out).2.1)
      (case side3 => repeat (first | exact (Kd.R_reads' HO251.out).2.2 | (with_reducible refine Kd.C_alloc ?_ _) | (with_reducible refine Kd.C_drewN ?_ _) | (with_reducible refine Kd.C_drew ?_)))
      (case side4 => exact (Kd.R_reads' HO251.out).2.1)
      rintro e w58 ⟨rfl, hb⟩
      refine ⟨_, rfl, ?_⟩
      have n0_ := Aside0.mk (Kd.R_below (by (with_reducible repeat (first | apply Kd.R_alloc | apply Kd.R_drewN | apply Kd.R_drew)); exact HO_230003.out) hb)
      have n1_ := Aside0.mk (Kd.R_below (by (with_reducible repeat (first | apply Kd.R_alloc | apply Kd.R_drewN | apply Kd.R_drew)); exact HO_237003.out) hb)
      have n2_ := Aside0.mk (Kd.R_below (by (with_reducible repeat (first | apply Kd.R_alloc | apply Kd.R_drewN | apply Kd.R_drew)); exact HO_245003.out) hb)
      have n3_ := Aside0.mk (Kd.R_below (by (with_reducible repeat (first | apply Kd.R_alloc | apply Kd.R_drewN | apply Kd.R_drew)); exact HO251.out) hb)
      have n4_ := Aside0.mk (blk_below (g := gb214) (o := .cells #[.int .i64 a0_0, .int .i64 a0_1, .bool a0_2, .slice A0_3 l0_3.length c0_3] 24 (0, 0)) (by (with_reducible repeat (first | refine blk_drewN ?_ _ | refine blk_drew ?_ | refine blk_alloc ?_ _)); exact BK214.out) hb)
      have n5_ := Aside0.mk (blk_below (g := gb229) (o := .cells #[.int .i64 t222, .int .i64 t223, .bool t224, .slice Ao24 t225.length co24] 29 (0, 0)) (by (with_reducible repeat (first | refine blk_drewN ?_ _ | refine blk_drew ?_ | refine blk_alloc ?_ _)); exact BK229.out) hb)
      have n6_ := Aside0.mk (blk_below (g := gb236) (o := .cells #[.int .i64 t230, .int .i64 t231, .bool t232, .slice Ao31 t233.length co31] 29 (0, 0)) (by (with_reducible repeat (first | refine blk_drewN ?_ _ | refine blk_drew ?_ | refine blk_alloc ?_ _)); exact BK236.out) hb)
      have n7_ := Aside0.mk (blk_below (g := gb244) (o := .cells #[.int .i64 t237, .int .i64 t238, .bool t239, .slice Ao38 t240.length co38] 29 (0, 0)) (by (with_reducible repeat (first | refine blk_drewN ?_ _ | refine blk_drew ?_ | refine blk_alloc ?_ _)); exact BK244.out) hb)
      have n8_ := Aside0.mk (below_step (by repeat (first | (with_reducible first | exact HB.out | apply below_alloc | apply pw_below_drewN | apply below_drew1 | refine below_set ?_ GE214.out | refine below_set ?_ GE229.out | refine below_set ?_ GE236.out | refine below_set ?_ GE244.out) | exact HB.out)) hb)
      clear HO_230003
      clear HO_237003
      clear HO_245003
      clear HO251
      clear BK214
      clear BK229
      clear BK236
      clear BK244
      clear HB
      have HO_230003 := n0_
      have HO_237003 := n1_
      have HO_245003 := n2_
      have HO251 := n3_
      have BK214 := n4_
      have BK229 := n5_
      have BK236 := n6_
      have BK244 := n7_
      have HB := n8_
      clear n0_ n1_ n2_ n3_ n4_ n5_ n6_ n7_ n8_
      (try clear hb)
      (try clear hb2)
      (try clear hk)
      (try clear hi)
      refine hK.out _ _ ⟨(blk_cell BK236.out 0).trans rfl, (blk_cell BK236.out 1).trans rfl, (blk_cell BK236.out 2).trans rfl, (blk_cell BK236.out 3).trans rfl, (blk_cell BK214.out 0).trans rfl, (blk_cell BK214.out 1).trans rfl, (blk_cell BK214.out 2).trans rfl, (blk_cell BK214.out 3).trans rfl⟩ (fun hHeld => ?_)
      clear hK K
      refine norm_ (a' := ?_) ?_ ?_
      rotate_left
      ·show Act.put _ (some 52) _ = _
       simp only [Act.put, List.setIfInBounds_toArray, List.set_cons_zero, List.set_cons_succ, i64_w, i32_w]
       rfl
      refine pure_ (i := 4) (N := some 53) (v := ?_) (a' := ?_) #[true, true, true, true, true] rfl rfl (by kernel_rfl) (fun _ _ _ h => h) (Or.inl ⟨by rfl, ?_⟩) ?_ ?_
      rotate_left
      ·intro w'
       go_simp
       with_reducible rfl
      rotate_left
      ·simp only [Act.put, List.setIfInBounds_toArray, List.set_cons_zero, List.set_cons_succ, i64_w, i32_w]
       rfl
      refine done_ (by kernel_rfl) ?_
      have hnb59 := NB236_214.out
      have hnc59 := NB214_236.out
      have hnb60 := NB236_229.out
      have hnc60 := NB229_236.out
      have hnb61 := NB236_244.out
      have hnc61 := NB244_236.out
      have hcz62_0 : w58.cell? ⟨gb236, 0, none⟩ = some (.int .i64 t230) := (blk_cell BK236.out 0).trans rfl
      have hcz62_1 : w58.cell? ⟨gb236, 1, none⟩ = some (.int .i64 t231) := (blk_cell BK236.out 1).trans rfl
      have hcz62_2 : w58.cell? ⟨gb236, 2, none⟩ = some (.bool t232) := (blk_cell BK236.out 2).trans rfl
      have hcz62_3 : w58.cell? ⟨gb236, 3, none⟩ = some (.slice Ao31 t233.length co31) := (blk_cell BK236.out 3).trans rfl
      have hfz62_0 := blk_frozen BK236.out 0
      have hfz62_1 := blk_frozen BK236.out 1
      have hfz62_2 := blk_frozen BK236.out 2
      have hfz62_3 := blk_frozen BK236.out 3
      go_upto_region 14 with (first | ((with_reducible refine gate_callee (f := 28) rfl ?_); refine goesL_ (some 56) rfl rfl Try.func28 (by kernel_rfl) rfl #[.agg #[.int .i64 t230, .int .i64 t231, .bool t232, .slice Ao31 t233.length co31], .int .i64 1] rfl (by (try simp only [List.map_toArray, List.map_cons, List.map_nil]); first | done | rfl | (simp only [List.length_drop, List.length_take]; rfl)) ?_; (with_reducible refine (laws_markBelt.calls kj12 t230 t231 t232 (fun k_ => some k_ = (.slice Ao31 t233.length co31 : Value).ownBlock) (.slice Ao31 t233.length co31) t233 1 t253 t254 w _ ?side1 ?side2 A53.out).mono ?_); (case side1 => repeat (first | (with_reducible first | exact HB.out | apply below_alloc | apply pw_below_drewN | apply below_drew1 | refine below_set ?_ GE214.out | refine below_set ?_ GE229.out | refine below_set ?_ GE236.out | refine below_set ?_ GE244.out) | exact HB.out)); (case side2 => exact Kd.R_tight rfl HO_237003.out); rintro e w63 ⟨rfl, hy0, hb, hkp⟩; refine ⟨_, rfl, ?_⟩; have n0_ := Aside0.mk (Kd.R_mono (ok' := fun k_ => some k_ ≠ (.slice Ao31 t233.length co31 : Value).ownBlock ∧ some k_ ≠ (.slice Ao38 t240.length co38 : Value).ownBlock ∧ some k_ ≠ (.slice Ao57 t249.length co57 : Value).ownBlock) (Kd.R_keptB (HO_230003.out) hkp (fun k_ hk_ hs_ => (hk_.1.1) hs_)) (fun k_ hk_ => ⟨hk_.1.1.1, hk_.1.1.2, hk_.1.2⟩)); have n1_ := Aside0.mk (Kd.R_reok rfl hy0 (fun k_ e_ => HO_237003.out.1 k_ e_)); have n2_ := Aside0.mk (Kd.R_mono (ok' := fun k_ => some k_ ≠ (.slice Ao24 t225.length co24 : Value).ownBlock ∧ some k_ ≠ (.slice Ao31 t233.length co31 : Value).ownBlock ∧ some k_ ≠ (.slice Ao57 t249.length co57 : Value).ownBlock) (Kd.R_keptB (HO_245003.out) hkp (fun k_ hk_ hs_ => (hk_.1.2) hs_)) (fun k_ hk_ => ⟨hk_.1.1.1, hk_.1.1.2, hk_.1.2⟩)); have n3_ := Aside0.mk (blk_kept (by (with_reducible repeat (first | refine blk_drewN ?_ _ | refine blk_drew ?_ | refine blk_alloc ?_ _)); exact BK214.out) hkp (fun hs_ => (fun e_ => (Kd.R_ne HO_237003.out BK214.out (by decide)) e_) hs_)); have n4_ := Aside0.mk (blk_kept (by (with_reducible repeat (first | refine blk_drewN ?_ _ | refine blk_drew ?_ | refine blk_alloc ?_ _)); exact BK229.out) hkp (fun hs_ => (fun e_ => (Kd.R_ne HO_237003.out BK229.out (by decide)) e_) hs_)); have n5_ := Aside0.mk (blk_kept (by (with_reducible repeat (first | refine blk_drewN ?_ _ | refine blk_drew ?_ | refine blk_alloc ?_ _)); exact BK236.out) hkp (fun hs_ => (fun e_ => (Kd.R_ne HO_237003.out BK236.out (by decide)) e_) hs_)); have n6_ := Aside0.mk (blk_kept (by (with_reducible repeat (first | refine blk_drewN ?_ _ | refine blk_drew ?_ | refine blk_alloc ?_ _)); exact BK244.out) hkp (fun hs_ => (fun e_ => (Kd.R_ne HO_237003.out BK244.out (by decide)) e_) hs_)); have n7_ := Aside0.mk (Kd.R_mono (ok' := fun k_ => some k_ ≠ (.slice Ao24 t225.length co24 : Value).ownBlock ∧ some k_ ≠ (.slice Ao31 t233.length co31 : Value).ownBlock ∧ some k_ ≠ (.slice Ao38 t240.length co38 : Value).ownBlock) (Kd.R_keptB (HO251.out) hkp (fun k_ hk_ hs_ => (hk_.1.2) hs_)) (fun k_ hk_ => ⟨hk_.1.1.1.2, hk_.1.1.2, hk_.1.2⟩)); have n8_ := Aside0.mk (hb); clear HO_230003; clear HO_237003; clear HO_245003; clear BK214; clear BK229; clear BK236; clear BK244; clear HO251; clear HB; have HO_230003 := n0_; have HO_237003 := n1_; have HO_245003 := n2_; have BK214 := n3_; have BK229 := n4_; have BK236 := n5_; have BK244 := n6_; have HO251 := n7_; have HB := n8_; clear n0_ n1_ n2_ n3_ n4_ n5_ n6_ n7_ n8_; (try clear hb); (try clear hkp); (try clear hy0)))
      (try simp only [Act.put, List.setIfInBounds_toArray, List.set_cons_zero, List.set_cons_succ])
      go_cut [69] (fun v69 wc => ∃ (kq : Nat) (x69_53 : Bool), v69 = .bool x69_53 ∧ Aside0 (laws_FnExactEnter.j1 kq a1 a2 t228 x69_53 a0_0 a0_1 a0_2 l0_3 t222 t223 t224 t225 t237 t238 t239 t240 = some true) ∧ Aside0 (kq ≤ kj12) ∧ Aside0 (Kd.R k53 53 wc w.heap.size (fun k_ => some k_ ≠ ((.slice Ao31 t233.length co31) : Value).ownBlock ∧ some k_ ≠ ((.slice Ao38 t240.length co38) : Value).ownBlock) (.slice Ao24 t225.length co24) t225) ∧ Aside0 (Kd.R k53 53 wc w.heap.size (fun k_ => some k_ ≠ ((.slice Ao24 t225.length co24) : Value).ownBlock ∧ some k_ ≠ ((.slice Ao38 t240.length co38) : Value).ownBlock) (.slice Ao31 t233.length co31) t254) ∧ Aside0 (Kd.R k53 53 wc w.heap.size (fun k_ => some k_ ≠ ((.slice Ao24 t225.length co24) : Value).ownBlock ∧ some k_ ≠ ((.slice Ao31 t233.length co31) : Value).ownBlock) (.slice Ao38 t240.length co38) t240) ∧ Aside0 (wc.heap[gb214]? = some (.cells #[.int .i64 a0_0, .int .i64 a0_1, .bool a0_2, (.slice A0_3 l0_3.length c0_3)] 24 (0, 0))) ∧ Aside0 (wc.heap[gb229]? = some (.cells #[.int .i64 t222, .int .i64 t223, .bool t224, (.slice Ao24 t225.length co24)] 29 (0, 0))) ∧ Aside0 (wc.heap[gb236]? = some (.cells #[.int .i64 t230, .int .i64 t231, .bool t232, (.slice Ao31 t233.length co31)] 29 (0, 0))) ∧ Aside0 (wc.heap[gb244]? = some (.cells #[.int .i64 t237, .int .i64 t238, .bool t239, (.slice Ao38 t240.length co38)] 29 (0, 0))) ∧ Aside0 (Below w.heap.size w wc))
      case first =>
       have H := HC54.out
       clear HC54
       by_cases c64 : t253 < 0
       ·rw [if_pos c64] at H
        have c64b0 : decide (t253 < 0) = true := decide_eq_true c64
        clear c64
        (first | rw [c64b0] | (simp only [i64_w, i32_w]; rw [c64b0]) | skip)
        exact absurd H (by cases kj12 <;> simp [laws_FnExactEnter.j1])
       ·rw [if_neg c64] at H
        have c64b0 : decide (t253 < 0) = false := decide_eq_false c64
        clear c64
        (first | rw [c64b0] | (simp only [i64_w, i32_w]; rw [c64b0]) | skip)
        replace H := Option.bind_eq_some_iff.mp H
        obtain ⟨t255, A650, H⟩ := H
        replace H : (if t255 = true then (laws_FnExactEnter.j1 kj12 a1 a2 t228 (t243 != t228) a0_0 a0_1 a0_2 l0_3 t222 t223 t224 t225 t237 t238 t239 t240) else (laws_FnExactEnter.j1 kj12 a1 a2 t228 true a0_0 a0_1 a0_2 l0_3 t222 t223 t224 t225 t237 t238 t239 t240)) = some true := H
        have A65 := Aside0.mk A650
        clear A650
        by_cases c66 : t255 = true
        ·subst c66
         have H1 : (laws_FnExactEnter.j1 kj12 a1 a2 t228 (t243 != t228) a0_0 a0_1 a0_2 l0_3 t222 t223 t224 t225 t237 t238 t239 t240) = some true := by rw [if_pos rfl] at H; first | done | exact H
         clear H
         have H := H1
         clear H1
         have H' := Aside0.mk H
         clear H
         have hnb67 := NB244_214.out
         have hnc67 := NB214_244.out
         have hnb68 := NB244_229.out
         have hnc68 := NB229_244.out
         have hnb69 := NB244_236.out
         have hnc69 := NB236_244.out
         have hcz70_0 : w63.cell? ⟨gb244, 0, none⟩ = some (.int .i64 t237) := (blk_cell BK244.out 0).trans rfl
         have hcz70_1 : w63.cell? ⟨gb244, 1, none⟩ = some (.int .i64 t238) := (blk_cell BK244.out 1).trans rfl
         have hcz70_2 : w63.cell? ⟨gb244, 2, none⟩ = some (.bool t239) := (blk_cell BK244.out 2).trans rfl
         have hcz70_3 : w63.cell? ⟨gb244, 3, none⟩ = some (.slice Ao38 t240.length co38) := (blk_cell BK244.out 3).trans rfl
         have hfz70_0 := blk_frozen BK244.out 0
         have hfz70_1 := blk_frozen BK244.out 1
         have hfz70_2 := blk_frozen BK244.out 2
         have hfz70_3 := blk_frozen BK244.out 3
         have hnb71 := NB229_214.out
         have hnc71 := NB214_229.out
         have hnb72 := NB229_236.out
         have hnc72 := NB236_229.out
         have hcz73_0 : w63.cell? ⟨gb229, 0, none⟩ = some (.int .i64 t222) := (blk_cell BK229.out 0).trans rfl
         have hcz73_1 : w63.cell? ⟨gb229, 1, none⟩ = some (.int .i64 t223) := (blk_cell BK229.out 1).trans rfl
         have hcz73_2 : w63.cell? ⟨gb229, 2, none⟩ = some (.bool t224) := (blk_cell BK229.out 2).trans rfl
         have hcz73_3 : w63.cell? ⟨gb229, 3, none⟩ = some (.slice Ao24 t225.length co24) := (blk_cell BK229.out 3).trans rfl
         have hfz73_0 := blk_frozen BK229.out 0
         have hfz73_1 := blk_frozen BK229.out 1
         have hfz73_2 := blk_frozen BK229.out 2
         have hfz73_3 := blk_frozen BK229.out 3
         go_wp2_with (first | (go_at_call 19; (with_reducible refine (laws_eqBelt.calls kj12 t237 t238 t239 _ _ t240 t222 t223 t224 _ _ t225 true _ ?side1 ?side2 ?side3 ?side4 A65.out).mono ?_); (case side1 => repeat (first | exact (Kd.R_reads' HO_245003.out).2.2 | (with_reducible refine Kd.C_alloc ?_ _) | (with_reducible refine Kd.C_drewN ?_ _) | (with_reducible refine Kd.C_drew ?_))); (case side2 => exact (Kd.R_reads' HO_245003.out).2.1); (case side3 => repeat (first | exact (Kd.R_reads' HO_230003.out).2.2 | (with_reducible refine Kd.C_alloc ?_ _) | (with_reducible refine Kd.C_drewN ?_ _) | (with_reducible refine Kd.C_drew ?_))); (case side4 => exact (Kd.R_reads' HO_230003.out).2.1); rintro e w74 ⟨rfl, hb⟩; have n0_ := Aside0.mk (Kd.R_below (by (with_reducible repeat (first | apply Kd.R_alloc | apply Kd.R_drewN | apply Kd.R_drew)); exact HO_230003.out) hb); have n1_ := Aside0.mk (Kd.R_below (by (with_reducible repeat (first | apply Kd.R_alloc | apply Kd.R_drewN | apply Kd.R_drew)); exact HO_237003.out) hb); have n2_ := Aside0.mk (Kd.R_below (by (with_reducible repeat (first | apply Kd.R_alloc | apply Kd.R_drewN | apply Kd.R_drew)); exact HO_245003.out) hb); have n3_ := Aside0.mk (Kd.R_below (by (with_reducible repeat (first | apply Kd.R_alloc | apply Kd.R_drewN | apply Kd.R_drew)); exact HO251.out) hb); have n4_ := Aside0.mk (blk_below (g := gb214) (o := .cells #[.int .i64 a0_0, .int .i64 a0_1, .bool a0_2, .slice A0_3 l0_3.length c0_3] 24 (0, 0)) (by (with_reducible repeat (first | refine blk_drewN ?_ _ | refine blk_drew ?_ | refine blk_alloc ?_ _)); exact BK214.out) hb); have n5_ := Aside0.mk (blk_below (g := gb229) (o := .cells #[.int .i64 t222, .int .i64 t223, .bool t224, .slice Ao24 t225.length co24] 29 (0, 0)) (by (with_reducible repeat (first | refine blk_drewN ?_ _ | refine blk_drew ?_ | refine blk_alloc ?_ _)); exact BK229.out) hb); have n6_ := Aside0.mk (blk_below (g := gb236) (o := .cells #[.int .i64 t230, .int .i64 t231, .bool t232, .slice Ao31 t233.length co31] 29 (0, 0)) (by (with_reducible repeat (first | refine blk_drewN ?_ _ | refine blk_drew ?_ | refine blk_alloc ?_ _)); exact BK236.out) hb); have n7_ := Aside0.mk (blk_below (g := gb244) (o := .cells #[.int .i64 t237, .int .i64 t238, .bool t239, .slice Ao38 t240.length co38] 29 (0, 0)) (by (with_reducible repeat (first | refine blk_drewN ?_ _ | refine blk_drew ?_ | refine blk_alloc ?_ _)); exact BK244.out) hb); have n8_ := Aside0.mk (below_step (by repeat (first | (with_reducible first | exact HB.out | apply below_alloc | apply pw_below_drewN | apply below_drew1 | refine below_set ?_ GE214.out | refine below_set ?_ GE229.out | refine below_set ?_ GE236.out | refine below_set ?_ GE244.out) | exact HB.out)) hb); clear HO_230003; clear HO_237003; clear HO_245003; clear HO251; clear BK214; clear BK229; clear BK236; clear BK244; clear HB; have HO_230003 := n0_; have HO_237003 := n1_; have HO_245003 := n2_; have HO251 := n3_; have BK214 := n4_; have BK229 := n5_; have BK236 := n6_; have BK244 := n7_; have HB := n8_; clear n0_ n1_ n2_ n3_ n4_ n5_ n6_ n7_ n8_; (try clear hb); (try clear hb2); (try clear hk); (try clear hi)))
         go_meet
         case rel => exact ⟨_, ((t243 != t228)), (by first | rfl | (simp; done) | (simp [*]; done)), H', ⟨by have := HJ12.out; first | omega | exact Nat.le_refl _⟩, ⟨by (with_reducible repeat (first | apply Kd.R_alloc | apply Kd.R_drewN | apply Kd.R_drew)); exact Kd.R_mono HO_230003.out (fun _ hk => ⟨hk.1, hk.2.1⟩)⟩, ⟨by (with_reducible repeat (first | apply Kd.R_alloc | apply Kd.R_drewN | apply Kd.R_drew)); exact Kd.R_mono HO_237003.out (fun _ hk => ⟨hk.1.1, hk.1.2⟩)⟩, ⟨by (with_reducible repeat (first | apply Kd.R_alloc | apply Kd.R_drewN | apply Kd.R_drew)); exact Kd.R_mono HO_245003.out (fun _ hk => ⟨hk.1, hk.2.1⟩)⟩, ⟨by (with_reducible repeat (first | refine blk_drewN ?_ _ | refine blk_drew ?_ | refine blk_alloc ?_ _)); exact BK214.out⟩, ⟨by (with_reducible repeat (first | refine blk_drewN ?_ _ | refine blk_drew ?_ | refine blk_alloc ?_ _)); exact BK229.out⟩, ⟨by (with_reducible repeat (first | refine blk_drewN ?_ _ | refine blk_drew ?_ | refine blk_alloc ?_ _)); exact BK236.out⟩, ⟨by (with_reducible repeat (first | refine blk_drewN ?_ _ | refine blk_drew ?_ | refine blk_alloc ?_ _)); exact BK244.out⟩, ⟨by repeat (first | (with_reducible first | exact HB.out | apply below_alloc | apply pw_below_drewN | apply below_drew1 | refine below_set ?_ GE214.out | refine below_set ?_ GE229.out | refine below_set ?_ GE236.out | refine below_set ?_ GE244.out) | exact HB.out)⟩⟩
        ·replace c66 := Bool.eq_false_iff.mpr c66
         subst c66
         have H1 : (laws_FnExactEnter.j1 kj12 a1 a2 t228 true a0_0 a0_1 a0_2 l0_3 t222 t223 t224 t225 t237 t238 t239 t240) = some true := by rw [if_neg (show ¬ (false = true) by decide)] at H; first | done | exact H
         clear H
         have H := H1
         clear H1
         exact absurd H (by cases kj12 <;> simp [laws_FnExactEnter.j1])
      case rest =>
       clear HC54
       try clear c1
       try clear c2
       try clear p2
       try clear c3
       try clear c4
       try clear c5
       try clear c5b0
       try clear c6
       try clear c7
       try clear c8
       try clear c15
       try clear c17
       try clear c19
       try clear c22
       try clear c28
       try clear c29
       try clear c30
       try clear c31
       try clear c34
       try clear c35
       try clear c36
       try clear c40
       try clear c41
       try clear c42
       try clear c43
       try clear c45
       try clear c46
       try clear c49
       try clear c52
       try clear c59
       try clear c60
       try clear c61
       try clear c64
       try clear c64b0
       try clear c66
       try clear c67
       try clear c68
       try clear c69
       try clear c71
       try clear c72
       try clear hcz15_0
       try clear hcz15_1
       try clear hcz15_2
       try clear hcz15_3
       try clear hcz17_0
       try clear hcz17_1
       try clear hcz17_2
       try clear hcz17_3
       try clear hcz23_0
       try clear hcz23_1
       try clear hcz23_2
       try clear hcz23_3
       try clear hcz25_0
       try clear hcz25_1
       try clear hcz25_2
       try clear hcz25_3
       try clear hcz30_0
       try clear hcz30_1
       try clear hcz30_2
       try clear hcz30_3
       try clear hcz37_0
       try clear hcz37_1
       try clear hcz37_2
       try clear hcz37_3
       try clear hcz44_0
       try clear hcz44_1
       try clear hcz44_2
       try clear hcz44_3
       try clear hcz47_0
       try clear hcz47_1
       try clear hcz47_2
       try clear hcz47_3
       try clear hcz62_0
       try clear hcz62_1
       try clear hcz62_2
       try clear hcz62_3
       try clear hcz70_0
       try clear hcz70_1
       try clear hcz70_2
       try clear hcz70_3
       try clear hcz73_0
       try clear hcz73_1
       try clear hcz73_2
       try clear hcz73_3
       try clear hcz7_0
       try clear hcz7_1
       try clear hcz7_2
       try clear hcz7_3
       try clear hfz15_0
       try clear hfz15_1
       try clear hfz15_2
       try clear hfz15_3
       try clear hfz17_0
       try clear hfz17_1
       try clear hfz17_2
       try clear hfz17_3
       try clear hfz23_0
       try clear hfz23_1
       try clear hfz23_2
       try clear hfz23_3
       try clear hfz25_0
       try clear hfz25_1
       try clear hfz25_2
       try clear hfz25_3
       try clear hfz30_0
       try clear hfz30_1
       try clear hfz30_2
       try clear hfz30_3
       try clear hfz37_0
       try clear hfz37_1
       try clear hfz37_2
       try clear hfz37_3
       try clear hfz44_0
       try clear hfz44_1
       try clear hfz44_2
       try clear hfz44_3
       try clear hfz47_0
       try clear hfz47_1
       try clear hfz47_2
       try clear hfz47_3
       try clear hfz62_0
       try clear hfz62_1
       try clear hfz62_2
       try clear hfz62_3
       try clear hfz70_0
       try clear hfz70_1
       try clear hfz70_2
       try clear hfz70_3
       try clear hfz73_0
       try clear hfz73_1
       try clear hfz73_2
       try clear hfz73_3
       try clear hfz7_0
       try clear hfz7_1
       try clear hfz7_2
       try clear hfz7_3
       try clear p2
       obtain ⟨kq, x69_53, rfl, HA, HJ53, HO_230003, HO_237003, HO_245003, BK214, BK229, BK236, BK244, HB⟩ := hcut
       have hl237003_53 := (Kd.R_reads' HO_237003.out).1
       rw [hl237003_53] at HO_237003
       (try simp only [hl237003_53])
       (try simp only [hl237003_53] at BK214)
       (try simp only [hl237003_53] at BK229)
       (try simp only [hl237003_53] at BK236)
       (try simp only [hl237003_53] at BK244)
       (try simp only [hl237003_53] at HO_230003)
       (try simp only [hl237003_53] at HO_245003)
       cases kq with
       | zero => exact absurd HA.out (by simp [laws_FnExactEnter.j1])
       | succ kj53 =>
        have H := HA.out
        clear HA
        simp only [laws_FnExactEnter.j1] at H
        by_cases c75 : x69_53 = true
        ·subst c75
         have H1 : (some false) = some true := by rw [if_pos rfl] at H; first | done | exact H
         clear H
         have H := H1
         clear H1
         exact absurd H (by simp)
        ·replace c75 := Bool.eq_false_iff.mpr c75
         subst c75
         have H1 : ((laws_markBelt.f kj53 t237 t238 t239 t240 1).bind fun bt256 => ((laws_heldBelt.f kj53 t237 t238 t239 bt256.2 1).bind fun t258 => (if t258 < 0 then (some false) else (if t258 = bt256.1 then ((laws_toBelt.f kj53 a0_0 a0_1 a0_2 l0_3).bind fun bt259 => ((impl_Enter.f kj53 bt259.1 bt259.2.1 bt259.2.2.1 bt259.2.2.2 a1 a2).bind fun bt265 => ((laws_eqBelt.f kj53 bt265.1 bt265.2.1 bt265.2.2.1 bt265.2.2.2.1 t222 t223 t224 t225).bind fun t273 => (if t273 = true then (laws_FnExactEnter.j2 kj53 bt256.1 (bt265.2.2.2.2 != t228) t237 t238 t239 bt256.2) else (laws_FnExactEnter.j2 kj53 bt256.1 true t237 t238 t239 bt256.2))))) else (some false))))) = some true := by rw [if_neg (show ¬ (false = true) by decide)] at H; first | done | exact H
         clear H
         have H := H1
         clear H1
         replace H := Option.bind_eq_some_iff.mp H
         obtain ⟨⟨t256, t257⟩, A760, H⟩ := H
         replace H : ((laws_heldBelt.f kj53 t237 t238 t239 t257 1).bind fun t258 => (if t258 < 0 then (some false) else (if t258 = t256 then ((laws_toBelt.f kj53 a0_0 a0_1 a0_2 l0_3).bind fun bt259 => ((impl_Enter.f kj53 bt259.1 bt259.2.1 bt259.2.2.1 bt259.2.2.2 a1 a2).bind fun bt265 => ((laws_eqBelt.f kj53 bt265.1 bt265.2.1 bt265.2.2.1 bt265.2.2.2.1 t222 t223 t224 t225).bind fun t273 => (if t273 = true then (laws_FnExactEnter.j2 kj53 t256 (bt265.2.2.2.2 != t228) t237 t238 t239 t257) else (laws_FnExactEnter.j2 kj53 t256 true t237 t238 t239 t257))))) else (some false)))) = some true := H
         have A76 := Aside0.mk A760
         clear A760
         replace H := Option.bind_eq_some_iff.mp H
         obtain ⟨t258, A770, H⟩ := H
         replace H : (if t258 < 0 then (some false) else (if t258 = t256 then ((laws_toBelt.f kj53 a0_0 a0_1 a0_2 l0_3).bind fun bt259 => ((impl_Enter.f kj53 bt259.1 bt259.2.1 bt259.2.2.1 bt259.2.2.2 a1 a2).bind fun bt265 => ((laws_eqBelt.f kj53 bt265.1 bt265.2.1 bt265.2.2.1 bt265.2.2.2.1 t222 t223 t224 t225).bind fun t273 => (if t273 = true then (laws_FnExactEnter.j2 kj53 t256 (bt265.2.2.2.2 != t228) t237 t238 t239 t257) else (laws_FnExactEnter.j2 kj53 t256 true t237 t238 t239 t257))))) else (some false))) = some true := H
         have A77 := Aside0.mk A770
         clear A770
         by_cases c78 : t258 < 0
         ·rw [if_pos c78] at H
          have c78b0 : decide (t258 < 0) = true := decide_eq_true c78
          clear c78
          exact absurd H (by simp)
         ·rw [if_neg c78] at H
          have c78b0 : decide (t258 < 0) = false := decide_eq_false c78
          clear c78
          by_cases c79 : t258 = t256
          ·rw [if_pos c79] at H
           have c79b0 : (t258 == t256) = true := beq_iff_eq.mpr c79
           have c79b1 : (t258 != t256) = false := bne_eq_false_iff_eq.mpr c79
           clear c79
           replace H := Option.bind_eq_some_iff.mp H
           obtain ⟨⟨t259, t260, t261, t262⟩, A800, H⟩ := H
           replace H : ((impl_Enter.f kj53 t259 t260 t261 t262 a1 a2).bind fun bt265 => ((laws_eqBelt.f kj53 bt265.1 bt265.2.1 bt265.2.2.1 bt265.2.2.2.1 t222 t223 t224 t225).bind fun t273 => (if t273 = true then (laws_FnExactEnter.j2 kj53 t256 (bt265.2.2.2.2 != t228) t237 t238 t239 t257) else (laws_FnExactEnter.j2 kj53 t256 true t237 t238 t239 t257)))) = some true := H
           have A80 := Aside0.mk A800
           clear A800
           replace H := Option.bind_eq_some_iff.mp H
           obtain ⟨⟨t265, t266, t267, t268, t271⟩, A810, H⟩ := H
           replace H : ((laws_eqBelt.f kj53 t265 t266 t267 t268 t222 t223 t224 t225).bind fun t273 => (if t273 = true then (laws_FnExactEnter.j2 kj53 t256 (t271 != t228) t237 t238 t239 t257) else (laws_FnExactEnter.j2 kj53 t256 true t237 t238 t239 t257))) = some true := H
           have A81 := Aside0.mk A810
           clear A810
           have HC82 := Aside0.mk H
           clear H
           have hnb83 := NB244_214.out
           have hnc83 := NB214_244.out
           have hnb84 := NB244_229.out
           have hnc84 := NB229_244.out
           have hnb85 := NB244_236.out
           have hnc85 := NB236_244.out
           have hcz86_0 : wc.cell? ⟨gb244, 0, none⟩ = some (.int .i64 t237) := (blk_cell BK244.out 0).trans rfl
           have hcz86_1 : wc.cell? ⟨gb244, 1, none⟩ = some (.int .i64 t238) := (blk_cell BK244.out 1).trans rfl
           have hcz86_2 : wc.cell? ⟨gb244, 2, none⟩ = some (.bool t239) := (blk_cell BK244.out 2).trans rfl
           have hcz86_3 : wc.cell? ⟨gb244, 3, none⟩ = some (.slice Ao38 t240.length co38) := (blk_cell BK244.out 3).trans rfl
           have hfz86_0 := blk_frozen BK244.out 0
           have hfz86_1 := blk_frozen BK244.out 1
           have hfz86_2 := blk_frozen BK244.out 2
           have hfz86_3 := blk_frozen BK244.out 3
           go_upto_region 25 with (first | ((with_reducible refine gate_callee (f := 28) rfl ?_); refine goesL_ (some 72) rfl rfl Try.func28 (by kernel_rfl) rfl #[.agg #[.int .i64 t237, .int .i64 t238, .bool t239, .slice Ao38 t240.length co38], .int .i64 1] rfl (by (try simp only [List.map_toArray, List.map_cons, List.map_nil]); first | done | rfl | (simp only [List.length_drop, List.length_take]; rfl)) ?_; (with_reducible refine (laws_markBelt.calls kj53 t237 t238 t239 (fun k_ => some k_ = (.slice Ao38 t240.length co38 : Value).ownBlock) (.slice Ao38 t240.length co38) t240 1 t256 t257 w _ ?side1 ?side2 A76.out).mono ?_); (case side1 => repeat (first | (with_reducible first | exact HB.out | apply below_alloc | apply pw_below_drewN | apply below_drew1 | refine below_set ?_ GE214.out | refine below_set ?_ GE229.out | refine below_set ?_ GE236.out | refine below_set ?_ GE244.out) | exact HB.out)); (case side2 => exact Kd.R_tight rfl HO_245003.out); rintro e w87 ⟨rfl, hy0, hb, hkp⟩; refine ⟨_, rfl, ?_⟩; have n0_ := Aside0.mk (Kd.R_mono (ok' := fun k_ => some k_ ≠ (.slice Ao31 t254.length co31 : Value).ownBlock ∧ some k_ ≠ (.slice Ao38 t240.length co38 : Value).ownBlock) (Kd.R_keptB (HO_230003.out) hkp (fun k_ hk_ hs_ => (hk_.2) hs_)) (fun k_ hk_ => ⟨hk_.1.1, hk_.1.2⟩)); have n1_ := Aside0.mk (Kd.R_mono (ok' := fun k_ => some k_ ≠ (.slice Ao24 t225.length co24 : Value).ownBlock ∧ some k_ ≠ (.slice Ao38 t240.length co38 : Value).ownBlock) (Kd.R_keptB (HO_237003.out) hkp (fun k_ hk_ hs_ => (hk_.2) hs_)) (fun k_ hk_ => ⟨hk_.1.1, hk_.1.2⟩)); have n2_ := Aside0.mk (Kd.R_reok rfl hy0 (fun k_ e_ => HO_245003.out.1 k_ e_)); have n3_ := Aside0.mk (blk_kept (by (with_reducible repeat (first | refine blk_drewN ?_ _ | refine blk_drew ?_ | refine blk_alloc ?_ _)); exact BK214.out) hkp (fun hs_ => (fun e_ => (Kd.R_ne HO_245003.out BK214.out (by decide)) e_) hs_)); have n4_ := Aside0.mk (blk_kept (by (with_reducible repeat (first | refine blk_drewN ?_ _ | refine blk_drew ?_ | refine blk_alloc ?_ _)); exact BK229.out) hkp (fun hs_ => (fun e_ => (Kd.R_ne HO_245003.out BK229.out (by decide)) e_) hs_)); have n5_ := Aside0.mk (blk_kept (by (with_reducible repeat (first | refine blk_drewN ?_ _ | refine blk_drew ?_ | refine blk_alloc ?_ _)); exact BK236.out) hkp (fun hs_ => (fun e_ => (Kd.R_ne HO_245003.out BK236.out (by decide)) e_) hs_)); have n6_ := Aside0.mk (blk_kept (by (with_reducible repeat (first | refine blk_drewN ?_ _ | refine blk_drew ?_ | refine blk_alloc ?_ _)); exact BK244.out) hkp (fun hs_ => (fun e_ => (Kd.R_ne HO_245003.out BK244.out (by decide)) e_) hs_)); have n7_ := Aside0.mk (hb); clear HO_230003; clear HO_237003; clear HO_245003; clear BK214; clear BK229; clear BK236; clear BK244; clear HB; have HO_230003 := n0_; have HO_237003 := n1_; have HO_245003 := n2_; have BK214 := n3_; have BK229 := n4_; have BK236 := n5_; have BK244 := n6_; have HB := n7_; clear n0_ n1_ n2_ n3_ n4_ n5_ n6_ n7_; (try clear hb); (try clear hkp); (try clear hy0); have hcz88_0 : w87.cell? ⟨gb244, 0, none⟩ = some (.int .i64 t237) := (blk_cell BK244.out 0).trans rfl; have hcz88_1 : w87.cell? ⟨gb244, 1, none⟩ = some (.int .i64 t238) := (blk_cell BK244.out 1).trans rfl; have hcz88_2 : w87.cell? ⟨gb244, 2, none⟩ = some (.bool t239) := (blk_cell BK244.out 2).trans rfl; have hcz88_3 : w87.cell? ⟨gb244, 3, none⟩ = some (.slice Ao38 t240.length co38) := (blk_cell BK244.out 3).trans rfl; have hfz88_0 := blk_frozen BK244.out 0; have hfz88_1 := blk_frozen BK244.out 1; have hfz88_2 := blk_frozen BK244.out 2; have hfz88_3 := blk_frozen BK244.out 3) | ((with_reducible refine gate_callee (f := 29) rfl ?_); refine goesL_ (some 75) rfl rfl Try.func29 (by kernel_rfl) rfl #[.agg #[.int .i64 t237, .int .i64 t238, .bool t239, .slice Ao38 t257.length co38], .int .i64 1] rfl (by (try simp only [List.map_toArray, List.map_cons, List.map_nil]); first | done | (rw [show t257.length = t240.length from (Kd.R_reads' HO_245003.out).1.symm] <;> rfl) | rfl | (simp only [List.length_drop, List.length_take]; rfl)) ?_; (with_reducible refine (laws_heldBelt.calls kj53 t237 t238 t239 _ _ t257 1 t258 _ ?side1 ?side2 A77.out).mono ?_); (case side1 => repeat (first | exact (Kd.R_reads' HO_245003.out).2.2 | (with_reducible refine Kd.C_alloc ?_ _) | (with_reducible refine Kd.C_drewN ?_ _) | (with_reducible refine Kd.C_drew ?_))); (case side2 => rw [show t257.length = t240.length from (Kd.R_reads' HO_245003.out).1.symm]; exact (Kd.R_reads' HO_245003.out).2.1); rintro e w89 ⟨rfl, hb⟩; refine ⟨_, rfl, ?_⟩; have n0_ := Aside0.mk (Kd.R_below (by (with_reducible repeat (first | apply Kd.R_alloc | apply Kd.R_drewN | apply Kd.R_drew)); exact HO_230003.out) hb); have n1_ := Aside0.mk (Kd.R_below (by (with_reducible repeat (first | apply Kd.R_alloc | apply Kd.R_drewN | apply Kd.R_drew)); exact HO_237003.out) hb); have n2_ := Aside0.mk (Kd.R_below (by (with_reducible repeat (first | apply Kd.R_alloc | apply Kd.R_drewN | apply Kd.R_drew)); exact HO_245003.out) hb); have n3_ := Aside0.mk (blk_below (g := gb214) (o := .cells #[.int .i64 a0_0, .int .i64 a0_1, .bool a0_2, .slice A0_3 l0_3.length c0_3] 24 (0, 0)) (by (with_reducible repeat (first | refine blk_drewN ?_ _ | refine blk_drew ?_ | refine blk_alloc ?_ _)); exact BK214.out) hb); have n4_ := Aside0.mk (blk_below (g := gb229) (o := .cells #[.int .i64 t222, .int .i64 t223, .bool t224, .slice Ao24 t225.length co24] 29 (0, 0)) (by (with_reducible repeat (first | refine blk_drewN ?_ _ | refine blk_drew ?_ | refine blk_alloc ?_ _)); exact BK229.out) hb); have n5_ := Aside0.mk (blk_below (g := gb236) (o := .cells #[.int .i64 t230, .int .i64 t231, .bool t232, .slice Ao31 t254.length co31] 29 (0, 0)) (by (with_reducible repeat (first | refine blk_drewN ?_ _ | refine blk_drew ?_ | refine blk_alloc ?_ _)); exact BK236.out) hb); have n6_ := Aside0.mk (blk_below (g := gb244) (o := .cells #[.int .i64 t237, .int .i64 t238, .bool t239, .slice Ao38 t240.length co38] 29 (0, 0)) (by (with_reducible repeat (first | refine blk_drewN ?_ _ | refine blk_drew ?_ | refine blk_alloc ?_ _)); exact BK244.out) hb); have n7_ := Aside0.mk (below_step (by repeat (first | (with_reducible first | exact HB.out | apply below_alloc | apply pw_below_drewN | apply below_drew1 | refine below_set ?_ GE214.out | refine below_set ?_ GE229.out | refine below_set ?_ GE236.out | refine below_set ?_ GE244.out) | exact HB.out)) hb); clear HO_230003; clear HO_237003; clear HO_245003; clear BK214; clear BK229; clear BK236; clear BK244; clear HB; have HO_230003 := n0_; have HO_237003 := n1_; have HO_245003 := n2_; have BK214 := n3_; have BK229 := n4_; have BK236 := n5_; have BK244 := n6_; have HB := n7_; clear n0_ n1_ n2_ n3_ n4_ n5_ n6_ n7_; (try clear hb); (try clear hb2); (try clear hk); (try clear hi); have hnb90 := NB214_229.out; have hnc90 := NB229_214.out; have hnb91 := NB214_236.out; have hnc91 := NB236_214.out; have hcz92_0 : w89.cell? ⟨gb214, 0, none⟩ = some (.int .i64 a0_0) := (blk_cell BK214.out 0).trans rfl; have hcz92_1 : w89.cell? ⟨gb214, 1, none⟩ = some (.int .i64 a0_1) := (blk_cell BK214.out 1).trans rfl; have hcz92_2 : w89.cell? ⟨gb214, 2, none⟩ = some (.bool a0_2) := (blk_cell BK214.out 2).trans rfl; have hcz92_3 : w89.cell? ⟨gb214, 3, none⟩ = some (.slice A0_3 l0_3.length c0_3) := (blk_cell BK214.out 3).trans rfl; have hfz92_0 := blk_frozen BK214.out 0; have hfz92_1 := blk_frozen BK214.out 1; have hfz92_2 := blk_frozen BK214.out 2; have hfz92_3 := blk_frozen BK214.out 3) | ((with_reducible refine gate_callee (f := 17) rfl ?_); refine goesL_ (some 83) rfl rfl Try.func17 (by kernel_rfl) rfl #[.agg #[.int .i64 a0_0, .int .i64 a0_1, .bool a0_2, .slice A0_3 l0_3.length c0_3]] rfl (by (try simp only [List.map_toArray, List.map_cons, List.map_nil]); first | done | rfl | (simp only [List.length_drop, List.length_take]; rfl)) ?_; (with_reducible refine (laws_toBelt.calls kj53 a0_0 a0_1 a0_2 _ _ l0_3 t259 t260 t261 t262 _ ?side1 ?side2 A80.out).mono ?_); (case side1 => repeat (first | exact (Kd.C_below HR0_3.out HB.out) | (with_reducible refine Kd.C_alloc ?_ _) | (with_reducible refine Kd.C_drewN ?_ _) | (with_reducible refine Kd.C_drew ?_))); (case side2 => exact HC0_3.out); rintro e w93 ⟨v263, rfl, ho0, hb⟩; refine ⟨_, rfl, ?_⟩; have n0_ := Aside0.mk (Kd.R_elder' (by (with_reducible repeat (first | apply Kd.R_alloc | apply Kd.R_drewN | apply Kd.R_drew)); exact HO_230003.out) (Kd.R_base ho0) hb); have n1_ := Aside0.mk (Kd.R_elder' (by (with_reducible repeat (first | apply Kd.R_alloc | apply Kd.R_drewN | apply Kd.R_drew)); exact HO_237003.out) (Kd.R_base ho0) hb); have n2_ := Aside0.mk (Kd.R_elder' (by (with_reducible repeat (first | apply Kd.R_alloc | apply Kd.R_drewN | apply Kd.R_drew)); exact HO_245003.out) (Kd.R_base ho0) hb); have n3_ := Aside0.mk (Kd.R_lower (Kd.R_new' (Kd.R_new' (Kd.R_new' ho0 (Kd.R_lt (by (with_reducible repeat (first | apply Kd.R_alloc | apply Kd.R_drewN | apply Kd.R_drew)); exact HO_230003.out))) (Kd.R_lt (by (with_reducible repeat (first | apply Kd.R_alloc | apply Kd.R_drewN | apply Kd.R_drew)); exact HO_237003.out))) (Kd.R_lt (by (with_reducible repeat (first | apply Kd.R_alloc | apply Kd.R_drewN | apply Kd.R_drew)); exact HO_245003.out))) (below_size (by repeat (first | (with_reducible first | exact HB.out | apply below_alloc | apply pw_below_drewN | apply below_drew1 | refine below_set ?_ GE214.out | refine below_set ?_ GE229.out | refine below_set ?_ GE236.out | refine below_set ?_ GE244.out) | exact HB.out)))); have n4_ := Aside0.mk (blk_below (g := gb214) (o := .cells #[.int .i64 a0_0, .int .i64 a0_1, .bool a0_2, .slice A0_3 l0_3.length c0_3] 24 (0, 0)) (by (with_reducible repeat (first | refine blk_drewN ?_ _ | refine blk_drew ?_ | refine blk_alloc ?_ _)); exact BK214.out) hb); have n5_ := Aside0.mk (blk_below (g := gb229) (o := .cells #[.int .i64 t222, .int .i64 t223, .bool t224, .slice Ao24 t225.length co24] 29 (0, 0)) (by (with_reducible repeat (first | refine blk_drewN ?_ _ | refine blk_drew ?_ | refine blk_alloc ?_ _)); exact BK229.out) hb); have n6_ := Aside0.mk (blk_below (g := gb236) (o := .cells #[.int .i64 t230, .int .i64 t231, .bool t232, .slice Ao31 t254.length co31] 29 (0, 0)) (by (with_reducible repeat (first | refine blk_drewN ?_ _ | refine blk_drew ?_ | refine blk_alloc ?_ _)); exact BK236.out) hb); have n7_ := Aside0.mk (blk_below (g := gb244) (o := .cells #[.int .i64 t237, .int .i64 t238, .bool t239, .slice Ao38 t240.length co38] 29 (0, 0)) (by (with_reducible repeat (first | refine blk_drewN ?_ _ | refine blk_drew ?_ | refine blk_alloc ?_ _)); exact BK244.out) hb); have n8_ := Aside0.mk (below_step (by repeat (first | (with_reducible first | exact HB.out | apply below_alloc | apply pw_below_drewN | apply below_drew1 | refine below_set ?_ GE214.out | refine below_set ?_ GE229.out | refine below_set ?_ GE236.out | refine below_set ?_ GE244.out) | exact HB.out)) hb); clear HO_230003; clear HO_237003; clear HO_245003; clear BK214; clear BK229; clear BK236; clear BK244; clear HB; have HO_230003 := n0_; have HO_237003 := n1_; have HO_245003 := n2_; have HO264 := n3_; have BK214 := n4_; have BK229 := n5_; have BK236 := n6_; have BK244 := n7_; have HB := n8_; clear n0_ n1_ n2_ n3_ n4_ n5_ n6_ n7_ n8_; (try clear hb); (try clear hb2); (try clear hk); (try clear hi); (try clear ho0); obtain ⟨Ao94, co94, eo94⟩ := Kd.R_slice HO264.out; subst eo94) | ((with_reducible refine gate_callee (f := 31) rfl ?_); refine goesL_ (some 86) rfl rfl Try.func31 (by kernel_rfl) rfl #[.agg #[.int .i64 t259, .int .i64 t260, .bool t261, .slice Ao94 t262.length co94], .int .i64 a1, .int .i64 a2] rfl (by (try simp only [List.map_toArray, List.map_cons, List.map_nil]); first | done | rfl | (simp only [List.length_drop, List.length_take]; rfl)) ?_; (with_reducible refine (impl_Enter.calls kj53 t259 t260 t261 _ _ t262 a1 a2 t265 t266 t267 t268 t271 _ ?side1 ?side2 A81.out).mono ?_); (case side1 => repeat (first | exact (Kd.R_reads' HO264.out).2.2 | (with_reducible refine Kd.C_alloc ?_ _) | (with_reducible refine Kd.C_drewN ?_ _) | (with_reducible refine Kd.C_drew ?_))); (case side2 => exact (Kd.R_reads' HO264.out).2.1); rintro e w95 ⟨v269, rfl, ho0, hb⟩; refine ⟨_, rfl, ?_⟩; have n0_ := Aside0.mk (Kd.R_elder' (by (with_reducible repeat (first | apply Kd.R_alloc | apply Kd.R_drewN | apply Kd.R_drew)); exact HO_230003.out) (Kd.R_base ho0) hb); have n1_ := Aside0.mk (Kd.R_elder' (by (with_reducible repeat (first | apply Kd.R_alloc | apply Kd.R_drewN | apply Kd.R_drew)); exact HO_237003.out) (Kd.R_base ho0) hb); have n2_ := Aside0.mk (Kd.R_elder' (by (with_reducible repeat (first | apply Kd.R_alloc | apply Kd.R_drewN | apply Kd.R_drew)); exact HO_245003.out) (Kd.R_base ho0) hb); have n3_ := Aside0.mk (Kd.R_elder' (by (with_reducible repeat (first | apply Kd.R_alloc | apply Kd.R_drewN | apply Kd.R_drew)); exact HO264.out) (Kd.R_base ho0) hb); have n4_ := Aside0.mk (Kd.R_lower (Kd.R_new' (Kd.R_new' (Kd.R_new' (Kd.R_new' ho0 (Kd.R_lt (by (with_reducible repeat (first | apply Kd.R_alloc | apply Kd.R_drewN | apply Kd.R_drew)); exact HO_230003.out))) (Kd.R_lt (by (with_reducible repeat (first | apply Kd.R_alloc | apply Kd.R_drewN | apply Kd.R_drew)); exact HO_237003.out))) (Kd.R_lt (by (with_reducible repeat (first | apply Kd.R_alloc | apply Kd.R_drewN | apply Kd.R_drew)); exact HO_245003.out))) (Kd.R_lt (by (with_reducible repeat (first | apply Kd.R_alloc | apply Kd.R_drewN | apply Kd.R_drew)); exact HO264.out))) (below_size (by repeat (first | (with_reducible first | exact HB.out | apply below_alloc | apply pw_below_drewN | apply below_drew1 | refine below_set ?_ GE214.out | refine below_set ?_ GE229.out | refine below_set ?_ GE236.out | refine below_set ?_ GE244.out) | exact HB.out)))); have n5_ := Aside0.mk (blk_below (g := gb214) (o := .cells #[.int .i64 a0_0, .int .i64 a0_1, .bool a0_2, .slice A0_3 l0_3.length c0_3] 24 (0, 0)) (by (with_reducible repeat (first | refine blk_drewN ?_ _ | refine blk_drew ?_ | refine blk_alloc ?_ _)); exact BK214.out) hb); have n6_ := Aside0.mk (blk_below (g := gb229) (o := .cells #[.int .i64 t222, .int .i64 t223, .bool t224, .slice Ao24 t225.length co24] 29 (0, 0)) (by (with_reducible repeat (first | refine blk_drewN ?_ _ | refine blk_drew ?_ | refine blk_alloc ?_ _)); exact BK229.out) hb); have n7_ := Aside0.mk (blk_below (g := gb236) (o := .cells #[.int .i64 t230, .int .i64 t231, .bool t232, .slice Ao31 t254.length co31] 29 (0, 0)) (by (with_reducible repeat (first | refine blk_drewN ?_ _ | refine blk_drew ?_ | refine blk_alloc ?_ _)); exact BK236.out) hb); have n8_ := Aside0.mk (blk_below (g := gb244) (o := .cells #[.int .i64 t237, .int .i64 t238, .bool t239, .slice Ao38 t240.length co38] 29 (0, 0)) (by (with_reducible repeat (first | refine blk_drewN ?_ _ | refine blk_drew ?_ | refine blk_alloc ?_ _)); exact BK244.out) hb); have n9_ := Aside0.mk (below_step (by repeat (first | (with_reducible first | exact HB.out | apply below_alloc | apply pw_below_drewN | apply below_drew1 | refine below_set ?_ GE214.out | refine below_set ?_ GE229.out | refine below_set ?_ GE236.out | refine below_set ?_ GE244.out) | exact HB.out)) hb); clear HO_230003; clear HO_237003; clear HO_245003; clear HO264; clear BK214; clear BK229; clear BK236; clear BK244; clear HB; have HO_230003 := n0_; have HO_237003 := n1_; have HO_245003 := n2_; have HO264 := n3_; have HO270 := n4_; have BK214 := n5_; have BK229 := n6_; have BK236 := n7_; have BK244 := n8_; have HB := n9_; clear n0_ n1_ n2_ n3_ n4_ n5_ n6_ n7_ n8_ n9_; (try clear hb); (try clear hb2); (try clear hk); (try clear hi); (try clear ho0)) | ((with_reducible refine gate_dst (N := 16) rfl ?_); refine box_event ?hg (N := 16) ?hd (cs := #[.int .i64 0, .int .i64 0, .bool false, .slice none 0 0]) (t := 29) ?hr ?_; (case hd => rfl); (case hg => rfl); (case hr => first | (go_simp; done) | (go_simp; rfl)); intro gb272 hg w96 hbox hb; have n0_ := Aside0.mk (Kd.R_below (by (with_reducible repeat (first | apply Kd.R_alloc | apply Kd.R_drewN | apply Kd.R_drew)); exact HO_230003.out) hb); have n1_ := Aside0.mk (Kd.R_below (by (with_reducible repeat (first | apply Kd.R_alloc | apply Kd.R_drewN | apply Kd.R_drew)); exact HO_237003.out) hb); have n2_ := Aside0.mk (Kd.R_below (by (with_reducible repeat (first | apply Kd.R_alloc | apply Kd.R_drewN | apply Kd.R_drew)); exact HO_245003.out) hb); have n3_ := Aside0.mk (Kd.R_below (by (with_reducible repeat (first | apply Kd.R_alloc | apply Kd.R_drewN | apply Kd.R_drew)); exact HO264.out) hb); have n4_ := Aside0.mk (Kd.R_below (by (with_reducible repeat (first | apply Kd.R_alloc | apply Kd.R_drewN | apply Kd.R_drew)); exact HO270.out) hb); have n5_ := Aside0.mk (blk_below (g := gb214) (o := .cells #[.int .i64 a0_0, .int .i64 a0_1, .bool a0_2, .slice A0_3 l0_3.length c0_3] 24 (0, 0)) (by (with_reducible repeat (first | refine blk_drewN ?_ _ | refine blk_drew ?_ | refine blk_alloc ?_ _)); exact BK214.out) hb); have n6_ := Aside0.mk (blk_below (g := gb229) (o := .cells #[.int .i64 t222, .int .i64 t223, .bool t224, .slice Ao24 t225.length co24] 29 (0, 0)) (by (with_reducible repeat (first | refine blk_drewN ?_ _ | refine blk_drew ?_ | refine blk_alloc ?_ _)); exact BK229.out) hb); have n7_ := Aside0.mk (blk_below (g := gb236) (o := .cells #[.int .i64 t230, .int .i64 t231, .bool t232, .slice Ao31 t254.length co31] 29 (0, 0)) (by (with_reducible repeat (first | refine blk_drewN ?_ _ | refine blk_drew ?_ | refine blk_alloc ?_ _)); exact BK236.out) hb); have n8_ := Aside0.mk (blk_below (g := gb244) (o := .cells #[.int .i64 t237, .int .i64 t238, .bool t239, .slice Ao38 t240.length co38] 29 (0, 0)) (by (with_reducible repeat (first | refine blk_drewN ?_ _ | refine blk_drew ?_ | refine blk_alloc ?_ _)); exact BK244.out) hb); have n9_ := Aside0.mk (below_step (by repeat (first | (with_reducible first | exact HB.out | apply below_alloc | apply pw_below_drewN | apply below_drew1 | refine below_set ?_ GE214.out | refine below_set ?_ GE229.out | refine below_set ?_ GE236.out | refine below_set ?_ GE244.out) | exact HB.out)) hb); have n10_ := Aside0.mk (hbox); have n11_ := Aside0.mk ((by rw [hg]; exact (below_size (by repeat (first | (with_reducible first | exact HB.out | apply below_alloc | apply pw_below_drewN | apply below_drew1 | refine below_set ?_ GE214.out | refine below_set ?_ GE229.out | refine below_set ?_ GE236.out | refine below_set ?_ GE244.out) | exact HB.out))) : w.heap.size ≤ gb272)); have n12_ := Aside0.mk ((by rw [hg]; exact (below_size (by repeat (first | (with_reducible first | exact HB.out | apply below_alloc | apply pw_below_drewN | apply below_drew1 | refine below_set ?_ GE214.out | refine below_set ?_ GE229.out | refine below_set ?_ GE236.out | refine below_set ?_ GE244.out) | exact HB.out))) : w.heap.size ≤ gb272)); have n13_ := Aside0.mk ((by rw [hg]; exact Nat.ne_of_lt (blk_lt (g := gb214) (o := .cells #[.int .i64 a0_0, .int .i64 a0_1, .bool a0_2, .slice A0_3 l0_3.length c0_3] 24 (0, 0)) (by (with_reducible repeat (first | refine blk_drewN ?_ _ | refine blk_drew ?_ | refine blk_alloc ?_ _)); exact BK214.out)) : gb214 ≠ gb272)); have n14_ := Aside0.mk ((by rw [hg]; exact Nat.ne_of_gt (blk_lt (g := gb214) (o := .cells #[.int .i64 a0_0, .int .i64 a0_1, .bool a0_2, .slice A0_3 l0_3.length c0_3] 24 (0, 0)) (by (with_reducible repeat (first | refine blk_drewN ?_ _ | refine blk_drew ?_ | refine blk_alloc ?_ _)); exact BK214.out)) : gb272 ≠ gb214)); have n15_ := Aside0.mk ((by rw [hg]; exact Nat.ne_of_lt (blk_lt (g := gb229) (o := .cells #[.int .i64 t222, .int .i64 t223, .bool t224, .slice Ao24 t225.length co24] 29 (0, 0)) (by (with_reducible repeat (first | refine blk_drewN ?_ _ | refine blk_drew ?_ | refine blk_alloc ?_ _)); exact BK229.out)) : gb229 ≠ gb272)); have n16_ := Aside0.mk ((by rw [hg]; exact Nat.ne_of_gt (blk_lt (g := gb229) (o := .cells #[.int .i64 t222, .int .i64 t223, .bool t224, .slice Ao24 t225.length co24] 29 (0, 0)) (by (with_reducible repeat (first | refine blk_drewN ?_ _ | refine blk_drew ?_ | refine blk_alloc ?_ _)); exact BK229.out)) : gb272 ≠ gb229)); have n17_ := Aside0.mk ((by rw [hg]; exact Nat.ne_of_lt (blk_lt (g := gb236) (o := .cells #[.int .i64 t230, .int .i64 t231, .bool t232, .slice Ao31 t254.length co31] 29 (0, 0)) (by (with_reducible repeat (first | refine blk_drewN ?_ _ | refine blk_drew ?_ | refine blk_alloc ?_ _)); exact BK236.out)) : gb236 ≠ gb272)); have n18_ := Aside0.mk ((by rw [hg]; exact Nat.ne_of_gt (blk_lt (g := gb236) (o := .cells #[.int .i64 t230, .int .i64 t231, .bool t232, .slice Ao31 t254.length co31] 29 (0, 0)) (by (with_reducible repeat (first | refine blk_drewN ?_ _ | refine blk_drew ?_ | refine blk_alloc ?_ _)); exact BK236.out)) : gb272 ≠ gb236)); have n19_ := Aside0.mk ((by rw [hg]; exact Nat.ne_of_lt (blk_lt (g := gb244) (o := .cells #[.int .i64 t237, .int .i64 t238, .bool t239, .slice Ao38 t240.length co38] 29 (0, 0)) (by (with_reducible repeat (first | refine blk_drewN ?_ _ | refine blk_drew ?_ | refine blk_alloc ?_ _)); exact BK244.out)) : gb244 ≠ gb272)); have n20_ := Aside0.mk ((by rw [hg]; exact Nat.ne_of_gt (blk_lt (g := gb244) (o := .cells #[.int .i64 t237, .int .i64 t238, .bool t239, .slice Ao38 t240.length co38] 29 (0, 0)) (by (with_reducible repeat (first | refine blk_drewN ?_ _ | refine blk_drew ?_ | refine blk_alloc ?_ _)); exact BK244.out)) : gb272 ≠ gb244)); clear HO_230003; clear HO_237003; clear HO_245003; clear HO264; clear HO270; clear BK214; clear BK229; clear BK236; clear BK244; clear HB; have HO_230003 := n0_; have HO_237003 := n1_; have HO_245003 := n2_; have HO264 := n3_; have HO270 := n4_; have BK214 := n5_; have BK229 := n6_; have BK236 := n7_; have BK244 := n8_; have HB := n9_; have BK272 := n10_; have GW272 := n11_; have GE272 := n12_; have NB214_272 := n13_; have NB272_214 := n14_; have NB229_272 := n15_; have NB272_229 := n16_; have NB236_272 := n17_; have NB272_236 := n18_; have NB244_272 := n19_; have NB272_244 := n20_; clear n0_ n1_ n2_ n3_ n4_ n5_ n6_ n7_ n8_ n9_ n10_ n11_ n12_ n13_ n14_ n15_ n16_ n17_ n18_ n19_ n20_; clear hb hbox hg; have hnb97 := NB272_214.out; have hnc97 := NB214_272.out; have hnb98 := NB272_229.out; have hnc98 := NB229_272.out; have hnb99 := NB272_236.out; have hnc99 := NB236_272.out; have hnb100 := NB272_244.out; have hnc100 := NB244_272.out; have hcz101_0 : w96.cell? ⟨gb272, 0, none⟩ = some (.int .i64 0) := (blk_cell BK272.out 0).trans rfl; have hcz101_1 : w96.cell? ⟨gb272, 1, none⟩ = some (.int .i64 0) := (blk_cell BK272.out 1).trans rfl; have hcz101_2 : w96.cell? ⟨gb272, 2, none⟩ = some (.bool false) := (blk_cell BK272.out 2).trans rfl; have hcz101_3 : w96.cell? ⟨gb272, 3, none⟩ = some (.slice none 0 0) := (blk_cell BK272.out 3).trans rfl; have hfz101_0 := blk_frozen BK272.out 0; have hfz101_1 := blk_frozen BK272.out 1; have hfz101_2 := blk_frozen BK272.out 2; have hfz101_3 := blk_frozen BK272.out 3; obtain ⟨Ao102, co102, eo102⟩ := Kd.R_slice HO270.out; subst eo102))
           (try simp only [Act.put, List.setIfInBounds_toArray, List.set_cons_zero, List.set_cons_succ])
           go_cut [97] (fun v97 wc => ∃ (kq : Nat) (x97_81 : Bool), v97 = .bool x97_81 ∧ Aside0 (laws_FnExactEnter.j2 kq t256 x97_81 t237 t238 t239 t257 = some true) ∧ Aside0 (kq ≤ kj53) ∧ Aside0 (Kd.R k53 53 wc w.heap.size (fun k_ => some k_ ≠ ((.slice Ao31 t254.length co31) : Value).ownBlock ∧ some k_ ≠ ((.slice Ao38 t240.length co38) : Value).ownBlock ∧ some k_ ≠ ((.slice Ao102 t268.length co102) : Value).ownBlock) (.slice Ao24 t225.length co24) t225) ∧ Aside0 (Kd.R k53 53 wc w.heap.size (fun k_ => some k_ ≠ ((.slice Ao24 t225.length co24) : Value).ownBlock ∧ some k_ ≠ ((.slice Ao38 t240.length co38) : Value).ownBlock ∧ some k_ ≠ ((.slice Ao102 t268.length co102) : Value).ownBlock) (.slice Ao31 t254.length co31) t254) ∧ Aside0 (Kd.R k53 53 wc w.heap.size (fun k_ => some k_ ≠ ((.slice Ao24 t225.length co24) : Value).ownBlock ∧ some k_ ≠ ((.slice Ao31 t254.length co31) : Value).ownBlock ∧ some k_ ≠ ((.slice Ao102 t268.length co102) : Value).ownBlock) (.slice Ao38 t240.length co38) t257) ∧ Aside0 (Kd.R k53 53 wc w.heap.size (fun k_ => some k_ ≠ ((.slice Ao24 t225.length co24) : Value).ownBlock ∧ some k_ ≠ ((.slice Ao31 t254.length co31) : Value).ownBlock ∧ some k_ ≠ ((.slice Ao38 t240.length co38) : Value).ownBlock) (.slice Ao102 t268.length co102) t268) ∧ Aside0 (wc.heap[gb214]? = some (.cells #[.int .i64 a0_0, .int .i64 a0_1, .bool a0_2, (.slice A0_3 l0_3.length c0_3)] 24 (0, 0))) ∧ Aside0 (wc.heap[gb229]? = some (.cells #[.int .i64 t222, .int .i64 t223, .bool t224, (.slice Ao24 t225.length co24)] 29 (0, 0))) ∧ Aside0 (wc.heap[gb236]? = some (.cells #[.int .i64 t230, .int .i64 t231, .bool t232, (.slice Ao31 t254.length co31)] 29 (0, 0))) ∧ Aside0 (wc.heap[gb244]? = some (.cells #[.int .i64 t237, .int .i64 t238, .bool t239, (.slice Ao38 t240.length co38)] 29 (0, 0))) ∧ Aside0 (wc.heap[gb272]? = some (.cells #[.int .i64 t265, .int .i64 t266, .bool t267, (.slice Ao102 t268.length co102)] 29 (0, 0))) ∧ Aside0 (Below w.heap.size w wc))
           case first =>
            have H := HC82.out
            clear HC82
            replace H := Option.bind_eq_some_iff.mp H
            obtain ⟨t273, A1030, H⟩ := H
            replace H : (if t273 = true then (laws_FnExactEnter.j2 kj53 t256 (t271 != t228) t237 t238 t239 t257) else (laws_FnExactEnter.j2 kj53 t256 true t237 t238 t239 t257)) = some true := H
            have A103 := Aside0.mk A1030
            clear A1030
            by_cases c104 : t273 = true
            ·subst c104
             have H1 : (laws_FnExactEnter.j2 kj53 t256 (t271 != t228) t237 t238 t239 t257) = some true := by rw [if_pos rfl] at H; first | done | exact H
             clear H
             have H := H1
             clear H1
             have H' := Aside0.mk H
             clear H
             have hnb105 := NB272_214.out
             have hnc105 := NB214_272.out
             have hnb106 := NB272_229.out
             have hnc106 := NB229_272.out
             have hnb107 := NB272_236.out
             have hnc107 := NB236_272.out
             have hnb108 := NB272_244.out
             have hnc108 := NB244_272.out
             have hcz109_0 : w96.cell? ⟨gb272, 0, none⟩ = some (.int .i64 0) := (blk_cell BK272.out 0).trans rfl
             have hcz109_1 : w96.cell? ⟨gb272, 1, none⟩ = some (.int .i64 0) := (blk_cell BK272.out 1).trans rfl
             have hcz109_2 : w96.cell? ⟨gb272, 2, none⟩ = some (.bool false) := (blk_cell BK272.out 2).trans rfl
             have hcz109_3 : w96.cell? ⟨gb272, 3, none⟩ = some (.slice none 0 0) := (blk_cell BK272.out 3).trans rfl
             have hfz109_0 := blk_frozen BK272.out 0
             have hfz109_1 := blk_frozen BK272.out 1
             have hfz109_2 := blk_frozen BK272.out 2
             have hfz109_3 := blk_frozen BK272.out 3
             have hnb110 := NB229_214.out
             have hnc110 := NB214_229.out
             have hnb111 := NB229_236.out
             have hnc111 := NB236_229.out
             have hnb112 := NB229_244.out
             have hnc112 := NB244_229.out
             have hcz113_0 : w96.cell? ⟨gb229, 0, none⟩ = some (.int .i64 t222) := (blk_cell BK229.out 0).trans rfl
             have hcz113_1 : w96.cell? ⟨gb229, 1, none⟩ = some (.int .i64 t223) := (blk_cell BK229.out 1).trans rfl
             have hcz113_2 : w96.cell? ⟨gb229, 2, none⟩ = some (.bool t224) := (blk_cell BK229.out 2).trans rfl
             have hcz113_3 : w96.cell? ⟨gb229, 3, none⟩ = some (.slice Ao24 t225.length co24) := (blk_cell BK229.out 3).trans rfl
             have hfz113_0 := blk_frozen BK229.out 0
             have hfz113_1 := blk_frozen BK229.out 1
             have hfz113_2 := blk_frozen BK229.out 2
             have hfz113_3 := blk_frozen BK229.out 3
             go_wp2_with (first | ((with_reducible refine gate_callee (f := 19) rfl ?_); refine goesL_ (some 91) rfl rfl Try.func19 (by kernel_rfl) rfl #[.agg #[.int .i64 t265, .int .i64 t266, .bool t267, .slice Ao102 t268.length co102], .agg #[.int .i64 t222, .int .i64 t223, .bool t224, .slice Ao24 t225.length co24]] rfl (by (try simp only [List.map_toArray, List.map_cons, List.map_nil]); first | done | rfl | (simp only [List.length_drop, List.length_take]; rfl)) ?_; (with_reducible refine (laws_eqBelt.calls kj53 t265 t266 t267 _ _ t268 t222 t223 t224 _ _ t225 true _ ?side1 ?side2 ?side3 ?side4 A103.out).mono ?_); (case side1 => refine (Kd.R_reads' (e := 53) (base := w.heap.size) (ok := fun k_ => ((((True ∧ some k_ ≠ (.slice Ao24 t225.length co24 : Value).ownBlock) ∧ some k_ ≠ (.slice Ao31 t254.length co31 : Value).ownBlock) ∧ some k_ ≠ (.slice Ao38 t240.length co38 : Value).ownBlock) ∧ some k_ ≠ (.slice Ao94 t262.length co94 : Value).ownBlock)) (n := t268.length) (c := co102) ?_).2.2; exact (by (with_reducible repeat (first | apply Kd.R_alloc | apply Kd.R_drewN | apply Kd.R_drew)); exact (Kd.R_mono (Kd.R_far (p := ⟨gb272, 3, none⟩) (Kd.R_far (p := ⟨gb272, 2, none⟩) (Kd.R_far (p := ⟨gb272, 1, none⟩) (Kd.R_far (p := ⟨gb272, 0, none⟩) (Kd.R_types HO270.out BK272.out (by decide)) (fun _ hk => hk.2) (.int .i64 t265)) (fun _ hk => hk.2) (.int .i64 t266)) (fun _ hk => hk.2) (.bool t267)) (fun _ hk => hk.2) (.slice Ao102 t268.length co102)) (fun _ h_ => h_.1)))); (case side2 => exact (Kd.R_reads' HO270.out).2.1); (case side3 => refine (Kd.R_reads' (e := 53) (base := w.heap.size) (ok := fun k_ => (((some k_ ≠ (.slice Ao31 t254.length co31 : Value).ownBlock ∧ some k_ ≠ (.slice Ao38 t240.length co38 : Value).ownBlock) ∧ some k_ ≠ (.slice Ao94 t262.length co94 : Value).ownBlock) ∧ some k_ ≠ (.slice Ao102 t268.length co102 : Value).ownBlock)) (n := t225.length) (c := co24) ?_).2.2; exact (by (with_reducible repeat (first | apply Kd.R_alloc | apply Kd.R_drewN | apply Kd.R_drew)); exact (Kd.R_mono (Kd.R_far (p := ⟨gb272, 3, none⟩) (Kd.R_far (p := ⟨gb272, 2, none⟩) (Kd.R_far (p := ⟨gb272, 1, none⟩) (Kd.R_far (p := ⟨gb272, 0, none⟩) (Kd.R_types HO_230003.out BK272.out (by decide)) (fun _ hk => hk.2) (.int .i64 t265)) (fun _ hk => hk.2) (.int .i64 t266)) (fun _ hk => hk.2) (.bool t267)) (fun _ hk => hk.2) (.slice Ao102 t268.length co102)) (fun _ h_ => h_.1)))); (case side4 => exact (Kd.R_reads' HO_230003.out).2.1); rintro e w114 ⟨rfl, hb⟩; refine ⟨_, rfl, ?_⟩; have n0_ := Aside0.mk (Kd.R_below (by (with_reducible repeat (first | apply Kd.R_alloc | apply Kd.R_drewN | apply Kd.R_drew)); exact (Kd.R_mono (Kd.R_far (p := ⟨gb272, 3, none⟩) (Kd.R_far (p := ⟨gb272, 2, none⟩) (Kd.R_far (p := ⟨gb272, 1, none⟩) (Kd.R_far (p := ⟨gb272, 0, none⟩) (Kd.R_types HO_230003.out BK272.out (by decide)) (fun _ hk => hk.2) (.int .i64 t265)) (fun _ hk => hk.2) (.int .i64 t266)) (fun _ hk => hk.2) (.bool t267)) (fun _ hk => hk.2) (.slice Ao102 t268.length co102)) (fun _ h_ => h_.1))) hb); have n1_ := Aside0.mk (Kd.R_below (by (with_reducible repeat (first | apply Kd.R_alloc | apply Kd.R_drewN | apply Kd.R_drew)); exact (Kd.R_mono (Kd.R_far (p := ⟨gb272, 3, none⟩) (Kd.R_far (p := ⟨gb272, 2, none⟩) (Kd.R_far (p := ⟨gb272, 1, none⟩) (Kd.R_far (p := ⟨gb272, 0, none⟩) (Kd.R_types HO_237003.out BK272.out (by decide)) (fun _ hk => hk.2) (.int .i64 t265)) (fun _ hk => hk.2) (.int .i64 t266)) (fun _ hk => hk.2) (.bool t267)) (fun _ hk => hk.2) (.slice Ao102 t268.length co102)) (fun _ h_ => h_.1))) hb); have n2_ := Aside0.mk (Kd.R_below (by (with_reducible repeat (first | apply Kd.R_alloc | apply Kd.R_drewN | apply Kd.R_drew)); exact (Kd.R_mono (Kd.R_far (p := ⟨gb272, 3, none⟩) (Kd.R_far (p := ⟨gb272, 2, none⟩) (Kd.R_far (p := ⟨gb272, 1, none⟩) (Kd.R_far (p := ⟨gb272, 0, none⟩) (Kd.R_types HO_245003.out BK272.out (by decide)) (fun _ hk => hk.2) (.int .i64 t265)) (fun _ hk => hk.2) (.int .i64 t266)) (fun _ hk => hk.2) (.bool t267)) (fun _ hk => hk.2) (.slice Ao102 t268.length co102)) (fun _ h_ => h_.1))) hb); have n3_ := Aside0.mk (Kd.R_below (by (with_reducible repeat (first | apply Kd.R_alloc | apply Kd.R_drewN | apply Kd.R_drew)); exact (Kd.R_mono (Kd.R_far (p := ⟨gb272, 3, none⟩) (Kd.R_far (p := ⟨gb272, 2, none⟩) (Kd.R_far (p := ⟨gb272, 1, none⟩) (Kd.R_far (p := ⟨gb272, 0, none⟩) (Kd.R_types HO264.out BK272.out (by decide)) (fun _ hk => hk.2) (.int .i64 t265)) (fun _ hk => hk.2) (.int .i64 t266)) (fun _ hk => hk.2) (.bool t267)) (fun _ hk => hk.2) (.slice Ao102 t268.length co102)) (fun _ h_ => h_.1))) hb); have n4_ := Aside0.mk (Kd.R_below (by (with_reducible repeat (first | apply Kd.R_alloc | apply Kd.R_drewN | apply Kd.R_drew)); exact (Kd.R_mono (Kd.R_far (p := ⟨gb272, 3, none⟩) (Kd.R_far (p := ⟨gb272, 2, none⟩) (Kd.R_far (p := ⟨gb272, 1, none⟩) (Kd.R_far (p := ⟨gb272, 0, none⟩) (Kd.R_types HO270.out BK272.out (by decide)) (fun _ hk => hk.2) (.int .i64 t265)) (fun _ hk => hk.2) (.int .i64 t266)) (fun _ hk => hk.2) (.bool t267)) (fun _ hk => hk.2) (.slice Ao102 t268.length co102)) (fun _ h_ => h_.1))) hb); have n5_ := Aside0.mk (blk_below (g := gb214) (o := .cells #[.int .i64 a0_0, .int .i64 a0_1, .bool a0_2, .slice A0_3 l0_3.length c0_3] 24 (0, 0)) (by (with_reducible repeat (first | refine blk_drewN ?_ _ | refine blk_drew ?_ | refine blk_alloc ?_ _)); refine blk_far ?_ NB214_272.out _; (with_reducible repeat (first | refine blk_drewN ?_ _ | refine blk_drew ?_ | refine blk_alloc ?_ _)); refine blk_far ?_ NB214_272.out _; (with_reducible repeat (first | refine blk_drewN ?_ _ | refine blk_drew ?_ | refine blk_alloc ?_ _)); refine blk_far ?_ NB214_272.out _; (with_reducible repeat (first | refine blk_drewN ?_ _ | refine blk_drew ?_ | refine blk_alloc ?_ _)); refine blk_far ?_ NB214_272.out _; (with_reducible repeat (first | refine blk_drewN ?_ _ | refine blk_drew ?_ | refine blk_alloc ?_ _)); exact BK214.out) hb); have n6_ := Aside0.mk (blk_below (g := gb229) (o := .cells #[.int .i64 t222, .int .i64 t223, .bool t224, .slice Ao24 t225.length co24] 29 (0, 0)) (by (with_reducible repeat (first | refine blk_drewN ?_ _ | refine blk_drew ?_ | refine blk_alloc ?_ _)); refine blk_far ?_ NB229_272.out _; (with_reducible repeat (first | refine blk_drewN ?_ _ | refine blk_drew ?_ | refine blk_alloc ?_ _)); refine blk_far ?_ NB229_272.out _; (with_reducible repeat (first | refine blk_drewN ?_ _ | refine blk_drew ?_ | refine blk_alloc ?_ _)); refine blk_far ?_ NB229_272.out _; (with_reducible repeat (first | refine blk_drewN ?_ _ | refine blk_drew ?_ | refine blk_alloc ?_ _)); refine blk_far ?_ NB229_272.out _; (with_reducible repeat (first | refine blk_drewN ?_ _ | refine blk_drew ?_ | refine blk_alloc ?_ _)); exact BK229.out) hb); have n7_ := Aside0.mk (blk_below (g := gb236) (o := .cells #[.int .i64 t230, .int .i64 t231, .bool t232, .slice Ao31 t254.length co31] 29 (0, 0)) (by (with_reducible repeat (first | refine blk_drewN ?_ _ | refine blk_drew ?_ | refine blk_alloc ?_ _)); refine blk_far ?_ NB236_272.out _; (with_reducible repeat (first | refine blk_drewN ?_ _ | refine blk_drew ?_ | refine blk_alloc ?_ _)); refine blk_far ?_ NB236_272.out _; (with_reducible repeat (first | refine blk_drewN ?_ _ | refine blk_drew ?_ | refine blk_alloc ?_ _)); refine blk_far ?_ NB236_272.out _; (with_reducible repeat (first | refine blk_drewN ?_ _ | refine blk_drew ?_ | refine blk_alloc ?_ _)); refine blk_far ?_ NB236_272.out _; (with_reducible repeat (first | refine blk_drewN ?_ _ | refine blk_drew ?_ | refine blk_alloc ?_ _)); exact BK236.out) hb); have n8_ := Aside0.mk (blk_below (g := gb244) (o := .cells #[.int .i64 t237, .int .i64 t238, .bool t239, .slice Ao38 t240.length co38] 29 (0, 0)) (by (with_reducible repeat (first | refine blk_drewN ?_ _ | refine blk_drew ?_ | refine blk_alloc ?_ _)); refine blk_far ?_ NB244_272.out _; (with_reducible repeat (first | refine blk_drewN ?_ _ | refine blk_drew ?_ | refine blk_alloc ?_ _)); refine blk_far ?_ NB244_272.out _; (with_reducible repeat (first | refine blk_drewN ?_ _ | refine blk_drew ?_ | refine blk_alloc ?_ _)); refine blk_far ?_ NB244_272.out _; (with_reducible repeat (first | refine blk_drewN ?_ _ | refine blk_drew ?_ | refine blk_alloc ?_ _)); refine blk_far ?_ NB244_272.out _; (with_reducible repeat (first | refine blk_drewN ?_ _ | refine blk_drew ?_ | refine blk_alloc ?_ _)); exact BK244.out) hb); have n9_ := Aside0.mk (blk_below (g := gb272) (o := .cells #[.int .i64 t265, .int .i64 t266, .bool t267, .slice Ao102 t268.length co102] 29 (0, 0)) (by (with_reducible repeat (first | refine blk_drewN ?_ _ | refine blk_drew ?_ | refine blk_alloc ?_ _)); refine blk_put (cs := #[.int .i64 t265, .int .i64 t266, .bool t267, .slice none 0 0]) ?_ 3 _ rfl; (with_reducible repeat (first | refine blk_drewN ?_ _ | refine blk_drew ?_ | refine blk_alloc ?_ _)); refine blk_put (cs := #[.int .i64 t265, .int .i64 t266, .bool false, .slice none 0 0]) ?_ 2 _ rfl; (with_reducible repeat (first | refine blk_drewN ?_ _ | refine blk_drew ?_ | refine blk_alloc ?_ _)); refine blk_put (cs := #[.int .i64 t265, .int .i64 0, .bool false, .slice none 0 0]) ?_ 1 _ rfl; (with_reducible repeat (first | refine blk_drewN ?_ _ | refine blk_drew ?_ | refine blk_alloc ?_ _)); refine blk_put (cs := #[.int .i64 0, .int .i64 0, .bool false, .slice none 0 0]) ?_ 0 _ rfl; (with_reducible repeat (first | refine blk_drewN ?_ _ | refine blk_drew ?_ | refine blk_alloc ?_ _)); exact BK272.out) hb); have n10_ := Aside0.mk (below_step (by repeat (first | (with_reducible first | exact HB.out | apply below_alloc | apply pw_below_drewN | apply below_drew1 | refine below_set ?_ GE214.out | refine below_set ?_ GE229.out | refine below_set ?_ GE236.out | refine below_set ?_ GE244.out | refine below_set ?_ GE272.out) | exact HB.out)) hb); clear HO_230003; clear HO_237003; clear HO_245003; clear HO264; clear HO270; clear BK214; clear BK229; clear BK236; clear BK244; clear BK272; clear HB; have HO_230003 := n0_; have HO_237003 := n1_; have HO_245003 := n2_; have HO264 := n3_; have HO270 := n4_; have BK214 := n5_; have BK229 := n6_; have BK236 := n7_; have BK244 := n8_; have BK272 := n9_; have HB := n10_; clear n0_ n1_ n2_ n3_ n4_ n5_ n6_ n7_ n8_ n9_ n10_; (try clear hb); (try clear hb2); (try clear hk); (try clear hi)))
             go_meet
             case rel => exact ⟨_, ((t271 != t228)), (by first | rfl | (simp; done) | (simp [*]; done)), H', ⟨by have := HJ12.out; have := HJ53.out; first | omega | exact Nat.le_refl _⟩, ⟨by (try simp only [hl237003_53]); (with_reducible repeat (first | apply Kd.R_alloc | apply Kd.R_drewN | apply Kd.R_drew)); exact Kd.R_mono HO_230003.out (fun _ hk => ⟨hk.1.1.1, ⟨hk.1.1.2, hk.2⟩⟩)⟩, ⟨by (try simp only [hl237003_53]); (with_reducible repeat (first | apply Kd.R_alloc | apply Kd.R_drewN | apply Kd.R_drew)); exact Kd.R_mono HO_237003.out (fun _ hk => ⟨hk.1.1.1, ⟨hk.1.1.2, hk.2⟩⟩)⟩, ⟨by (try simp only [hl237003_53]); (with_reducible repeat (first | apply Kd.R_alloc | apply Kd.R_drewN | apply Kd.R_drew)); exact Kd.R_mono HO_245003.out (fun _ hk => ⟨hk.1.1.1, ⟨hk.1.1.2, hk.2⟩⟩)⟩, ⟨by (try simp only [hl237003_53]); (with_reducible repeat (first | apply Kd.R_alloc | apply Kd.R_drewN | apply Kd.R_drew)); exact Kd.R_mono HO270.out (fun _ hk => ⟨hk.1.1.1.2, ⟨hk.1.1.2, hk.1.2⟩⟩)⟩, ⟨by (try simp only [hl237003_53]); (with_reducible repeat (first | refine blk_drewN ?_ _ | refine blk_drew ?_ | refine blk_alloc ?_ _)); exact BK214.out⟩, ⟨by (try simp only [hl237003_53]); (with_reducible repeat (first | refine blk_drewN ?_ _ | refine blk_drew ?_ | refine blk_alloc ?_ _)); exact BK229.out⟩, ⟨by (try simp only [hl237003_53]); (with_reducible repeat (first | refine blk_drewN ?_ _ | refine blk_drew ?_ | refine blk_alloc ?_ _)); exact BK236.out⟩, ⟨by (try simp only [hl237003_53]); (with_reducible repeat (first | refine blk_drewN ?_ _ | refine blk_drew ?_ | refine blk_alloc ?_ _)); exact BK244.out⟩, ⟨by (try simp only [hl237003_53]); (with_reducible repeat (first | refine blk_drewN ?_ _ | refine blk_drew ?_ | refine blk_alloc ?_ _)); exact BK272.out⟩, ⟨by repeat (first | (with_reducible first | exact HB.out | apply below_alloc | apply pw_below_drewN | apply below_drew1 | refine below_set ?_ GE214.out | refine below_set ?_ GE229.out | refine below_set ?_ GE236.out | refine below_set ?_ GE244.out | refine below_set ?_ GE272.out) | exact HB.out)⟩⟩
            ·replace c104 := Bool.eq_false_iff.mpr c104
             subst c104
             have H1 : (laws_FnExactEnter.j2 kj53 t256 true t237 t238 t239 t257) = some true := by rw [if_neg (show ¬ (false = true) by decide)] at H; first | done | exact H
             clear H
             have H := H1
             clear H1
             exact absurd H (by cases kj53 <;> simp [laws_FnExactEnter.j2])
           case rest =>
            clear HC82
            try clear c1
            try clear c2
            try clear p2
            try clear c3
            try clear c4
            try clear c5
            try clear c5b0
            try clear c6
            try clear c7
            try clear c8
            try clear c9
            try clear c10
            try clear c11
            try clear c15
            try clear c17
            try clear c19
            try clear c22
            try clear c28
            try clear c29
            try clear c30
            try clear c31
            try clear c34
            try clear c35
            try clear c36
            try clear c40
            try clear c41
            try clear c42
            try clear c43
            try clear c45
            try clear c46
            try clear c49
            try clear c52
            try clear c59
            try clear c60
            try clear c61
            try clear c64
            try clear c64b0
            try clear c66
            try clear c67
            try clear c68
            try clear c69
            try clear c71
            try clear c72
            try clear c75
            try clear c78
            try clear c78b0
            try clear c79
            try clear c79b0
            try clear c79b1
            try clear c83
            try clear c84
            try clear c85
            try clear c90
            try clear c91
            try clear c97
            try clear c98
            try clear c99
            try clear c100
            try clear c104
            try clear c105
            try clear c106
            try clear c107
            try clear c108
            try clear c110
            try clear c111
            try clear c112
            try clear hcz101_0
            try clear hcz101_1
            try clear hcz101_2
            try clear hcz101_3
            try clear hcz109_0
            try clear hcz109_1
            try clear hcz109_2
            try clear hcz109_3
            try clear hcz113_0
            try clear hcz113_1
            try clear hcz113_2
            try clear hcz113_3
            try clear hcz15_0
            try clear hcz15_1
            try clear hcz15_2
            try clear hcz15_3
            try clear hcz17_0
            try clear hcz17_1
            try clear hcz17_2
            try clear hcz17_3
            try clear hcz23_0
            try clear hcz23_1
            try clear hcz23_2
            try clear hcz23_3
            try clear hcz25_0
            try clear hcz25_1
            try clear hcz25_2
            try clear hcz25_3
            try clear hcz30_0
            try clear hcz30_1
            try clear hcz30_2
            try clear hcz30_3
            try clear hcz37_0
            try clear hcz37_1
            try clear hcz37_2
            try clear hcz37_3
            try clear hcz44_0
            try clear hcz44_1
            try clear hcz44_2
            try clear hcz44_3
            try clear hcz47_0
            try clear hcz47_1
            try clear hcz47_2
            try clear hcz47_3
            try clear hcz62_0
            try clear hcz62_1
            try clear hcz62_2
            try clear hcz62_3
            try clear hcz70_0
            try clear hcz70_1
            try clear hcz70_2
            try clear hcz70_3
            try clear hcz73_0
            try clear hcz73_1
            try clear hcz73_2
            try clear hcz73_3
            try clear hcz7_0
            try clear hcz7_1
            try clear hcz7_2
            try clear hcz7_3
            try clear hcz86_0
            try clear hcz86_1
            try clear hcz86_2
            try clear hcz86_3
            try clear hcz88_0
            try clear hcz88_1
            try clear hcz88_2
            try clear hcz88_3
            try clear hcz92_0
            try clear hcz92_1
            try clear hcz92_2
            try clear hcz92_3
            try clear hfz101_0
            try clear hfz101_1
            try clear hfz101_2
            try clear hfz101_3
            try clear hfz109_0
            try clear hfz109_1
            try clear hfz109_2
            try clear hfz109_3
            try clear hfz113_0
            try clear hfz113_1
            try clear hfz113_2
            try clear hfz113_3
            try clear hfz15_0
            try clear hfz15_1
            try clear hfz15_2
            try clear hfz15_3
            try clear hfz17_0
            try clear hfz17_1
            try clear hfz17_2
            try clear hfz17_3
            try clear hfz23_0
            try clear hfz23_1
            try clear hfz23_2
            try clear hfz23_3
            try clear hfz25_0
            try clear hfz25_1
            try clear hfz25_2
            try clear hfz25_3
            try clear hfz30_0
            try clear hfz30_1
            try clear hfz30_2
            try clear hfz30_3
            try clear hfz37_0
            try clear hfz37_1
            try clear hfz37_2
            try clear hfz37_3
            try clear hfz44_0
            try clear hfz44_1
            try clear hfz44_2
            try clear hfz44_3
            try clear hfz47_0
            try clear hfz47_1
            try clear hfz47_2
            try clear hfz47_3
            try clear hfz62_0
            try clear hfz62_1
            try clear hfz62_2
            try clear hfz62_3
            try clear hfz70_0
            try clear hfz70_1
            try clear hfz70_2
            try clear hfz70_3
            try clear hfz73_0
            try clear hfz73_1
            try clear hfz73_2
            try clear hfz73_3
            try clear hfz7_0
            try clear hfz7_1
            try clear hfz7_2
            try clear hfz7_3
            try clear hfz86_0
            try clear hfz86_1
            try clear hfz86_2
            try clear hfz86_3
            try clear hfz88_0
            try clear hfz88_1
            try clear hfz88_2
            try clear hfz88_3
            try clear hfz92_0
            try clear hfz92_1
            try clear hfz92_2
            try clear hfz92_3
            try clear p2
            obtain ⟨kq, x97_81, rfl, HA, HJ81, HO_230003, HO_237003, HO_245003, HO_273003, BK214, BK229, BK236, BK244, BK272, HB⟩ := hcut
            have hl245003_81 := (Kd.R_reads' HO_245003.out).1
            rw [hl245003_81] at HO_245003
            (try simp only [hl245003_81])
            (try simp only [hl245003_81] at BK214)
            (try simp only [hl245003_81] at BK229)
            (try simp only [hl245003_81] at BK236)
            (try simp only [hl245003_81] at BK244)
            (try simp only [hl245003_81] at BK272)
            (try simp only [hl245003_81] at HO_230003)
            (try simp only [hl245003_81] at HO_237003)
            (try simp only [hl245003_81] at HO_273003)
            cases kq with
            | zero => exact absurd HA.out (by simp [laws_FnExactEnter.j2])
            | succ kj81 =>
             have H := HA.out
             clear HA
             simp only [laws_FnExactEnter.j2] at H
             by_cases c115 : x97_81 = true
             ·subst c115
              have H1 : (some false) = some true := by rw [if_pos rfl] at H; first | done | exact H
              clear H
              have H := H1
              clear H1
              exact absurd H (by simp)
             ·replace c115 := Bool.eq_false_iff.mpr c115
              subst c115
              have H1 : ((laws_heldBelt.f kj81 t237 t238 t239 t257 1).bind fun t274 => (if t274 < 0 then (some false) else (if t274 = t256 then (some true) else (some false)))) = some true := by rw [if_neg (show ¬ (false = true) by decide)] at H; first | done | exact H
              clear H
              have H := H1
              clear H1
              replace H := Option.bind_eq_some_iff.mp H
              obtain ⟨t274, A1160, H⟩ := H
              replace H : (if t274 < 0 then (some false) else (if t274 = t256 then (some true) else (some false))) = some true := H
              have A116 := Aside0.mk A1160
              clear A1160
              by_cases c117 : t274 < 0
              ·rw [if_pos c117] at H
               have c117b0 : decide (t274 < 0) = true := decide_eq_true c117
               clear c117
               exact absurd H (by simp)
              ·rw [if_neg c117] at H
               have c117b0 : decide (t274 < 0) = false := decide_eq_false c117
               clear c117
               by_cases c118 : t274 = t256
               ·rw [if_pos c118] at H
                have c118b0 : (t274 == t256) = true := beq_iff_eq.mpr c118
                have c118b1 : (t274 != t256) = false := bne_eq_false_iff_eq.mpr c118
                clear c118
                have HT := Option.some.inj H
                clear H
                have hnb119 := NB244_214.out
                have hnc119 := NB214_244.out
                have hnb120 := NB244_229.out
                have hnc120 := NB229_244.out
                have hnb121 := NB244_236.out
                have hnc121 := NB236_244.out
                have hnb122 := NB244_272.out
                have hnc122 := NB272_244.out
                have hcz123_0 : wc.cell? ⟨gb244, 0, none⟩ = some (.int .i64 t237) := (blk_cell BK244.out 0).trans rfl
                have hcz123_1 : wc.cell? ⟨gb244, 1, none⟩ = some (.int .i64 t238) := (blk_cell BK244.out 1).trans rfl
                have hcz123_2 : wc.cell? ⟨gb244, 2, none⟩ = some (.bool t239) := (blk_cell BK244.out 2).trans rfl
                have hcz123_3 : wc.cell? ⟨gb244, 3, none⟩ = some (.slice Ao38 t257.length co38) := (blk_cell BK244.out 3).trans rfl
                have hfz123_0 := blk_frozen BK244.out 0
                have hfz123_1 := blk_frozen BK244.out 1
                have hfz123_2 := blk_frozen BK244.out 2
                have hfz123_3 := blk_frozen BK244.out 3
                go_wp2_with (first | ((with_reducible refine gate_callee (f := 29) rfl ?_); refine goesL_ (some 100) rfl rfl Try.func29 (by kernel_rfl) rfl #[.agg #[.int .i64 t237, .int .i64 t238, .bool t239, .slice Ao38 t257.length co38], .int .i64 1] rfl (by (try simp only [List.map_toArray, List.map_cons, List.map_nil]); first | done | rfl | (simp only [List.length_drop, List.length_take]; rfl)) ?_; (with_reducible refine (laws_heldBelt.calls kj81 t237 t238 t239 _ _ t257 1 t274 _ ?side1 ?side2 A116.out).mono ?_); (case side1 => repeat (first | exact (Kd.R_reads' HO_245003.out).2.2 | (with_reducible refine Kd.C_alloc ?_ _) | (with_reducible refine Kd.C_drewN ?_ _) | (with_reducible refine Kd.C_drew ?_))); (case side2 => exact (Kd.R_reads' HO_245003.out).2.1); rintro e w124 ⟨rfl, hb⟩; refine ⟨_, rfl, ?_⟩; have n0_ := Aside0.mk (Kd.R_below (by (with_reducible repeat (first | apply Kd.R_alloc | apply Kd.R_drewN | apply Kd.R_drew)); exact HO_230003.out) hb); have n1_ := Aside0.mk (Kd.R_below (by (with_reducible repeat (first | apply Kd.R_alloc | apply Kd.R_drewN | apply Kd.R_drew)); exact HO_237003.out) hb); have n2_ := Aside0.mk (Kd.R_below (by (with_reducible repeat (first | apply Kd.R_alloc | apply Kd.R_drewN | apply Kd.R_drew)); exact HO_245003.out) hb); have n3_ := Aside0.mk (Kd.R_below (by (with_reducible repeat (first | apply Kd.R_alloc | apply Kd.R_drewN | apply Kd.R_drew)); exact HO_273003.out) hb); have n4_ := Aside0.mk (blk_below (g := gb214) (o := .cells #[.int .i64 a0_0, .int .i64 a0_1, .bool a0_2, .slice A0_3 l0_3.length c0_3] 24 (0, 0)) (by (with_reducible repeat (first | refine blk_drewN ?_ _ | refine blk_drew ?_ | refine blk_alloc ?_ _)); exact BK214.out) hb); have n5_ := Aside0.mk (blk_below (g := gb229) (o := .cells #[.int .i64 t222, .int .i64 t223, .bool t224, .slice Ao24 t225.length co24] 29 (0, 0)) (by (with_reducible repeat (first | refine blk_drewN ?_ _ | refine blk_drew ?_ | refine blk_alloc ?_ _)); exact BK229.out) hb); have n6_ := Aside0.mk (blk_below (g := gb236) (o := .cells #[.int .i64 t230, .int .i64 t231, .bool t232, .slice Ao31 t254.length co31] 29 (0, 0)) (by (with_reducible repeat (first | refine blk_drewN ?_ _ | refine blk_drew ?_ | refine blk_alloc ?_ _)); exact BK236.out) hb); have n7_ := Aside0.mk (blk_below (g := gb244) (o := .cells #[.int .i64 t237, .int .i64 t238, .bool t239, .slice Ao38 t257.length co38] 29 (0, 0)) (by (with_reducible repeat (first | refine blk_drewN ?_ _ | refine blk_drew ?_ | refine blk_alloc ?_ _)); exact BK244.out) hb); have n8_ := Aside0.mk (blk_below (g := gb272) (o := .cells #[.int .i64 t265, .int .i64 t266, .bool t267, .slice Ao102 t268.length co102] 29 (0, 0)) (by (with_reducible repeat (first | refine blk_drewN ?_ _ | refine blk_drew ?_ | refine blk_alloc ?_ _)); exact BK272.out) hb); have n9_ := Aside0.mk (below_step (by repeat (first | (with_reducible first | exact HB.out | apply below_alloc | apply pw_below_drewN | apply below_drew1 | refine below_set ?_ GE214.out | refine below_set ?_ GE229.out | refine below_set ?_ GE236.out | refine below_set ?_ GE244.out | refine below_set ?_ GE272.out) | exact HB.out)) hb); clear HO_230003; clear HO_237003; clear HO_245003; clear HO_273003; clear BK214; clear BK229; clear BK236; clear BK244; clear BK272; clear HB; have HO_230003 := n0_; have HO_237003 := n1_; have HO_245003 := n2_; have HO_273003 := n3_; have BK214 := n4_; have BK229 := n5_; have BK236 := n6_; have BK244 := n7_; have BK272 := n8_; have HB := n9_; clear n0_ n1_ n2_ n3_ n4_ n5_ n6_ n7_ n8_ n9_; (try clear hb); (try clear hb2); (try clear hk); (try clear hi)))
                go_ret
                exact ⟨by first | rfl | (simp [errW_none, errW_some] <;> rfl) | (simp [*, errW_none, errW_some] <;> rfl), by repeat (first | (with_reducible first | exact HB.out | apply below_alloc | apply pw_below_drewN | apply below_drew1 | refine below_set ?_ GE214.out | refine below_set ?_ GE229.out | refine below_set ?_ GE236.out | refine below_set ?_ GE244.out | refine below_set ?_ GE272.out) | exact HB.out)⟩
               ·rw [if_neg c118] at H
                have c118b0 : (t274 == t256) = false := beq_eq_false_iff_ne.mpr c118
                have c118b1 : (t274 != t256) = true := bne_iff_ne.mpr c118
                exact absurd H (by simp)
          ·rw [if_neg c79] at H
           have c79b0 : (t258 == t256) = false := beq_eq_false_iff_ne.mpr c79
           have c79b1 : (t258 != t256) = true := bne_iff_ne.mpr c79
           exact absurd H (by simp)
     ·replace c52 := Bool.eq_false_iff.mpr c52
      subst c52
      have H1 : (some false) = some true := by rw [if_neg (show ¬ (false = true) by decide)] at H; first | done | exact H
      clear H
      have H := H1
      clear H1
      exact absurd H (by simp)

/-- THE ONE PURE STATEMENT of laws_FnExactEnter. -/
def laws_FnExactEnter.Pure : Prop := ∀ (a0_0 : Int) (a0_1 : Int) (a0_2 : Bool) (l0_3 : List (S78)) (a1 : Int) (a2 : Int), (Lit.int .i64 a0_0).wf = true → (Lit.int .i64 a0_1).wf = true → l0_3.length ≤ 9223372036854775807 → (∀ y ∈ l0_3, (Lit.int .i64 y.f0).wf = true ∧ (Lit.int .i64 y.f1).wf = true ∧ (Lit.int .i64 y.f2).wf = true) → (Lit.int .i64 a1).wf = true → (Lit.int .i64 a2).wf = true → ∃ k, laws_FnExactEnter.f k a0_0 a0_1 a0_2 l0_3 a1 a2 = some true

end Go.Proofs.Ytbdjbdoelbmjcaa.PFnExactEnter
