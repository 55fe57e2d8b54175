-- Written by a program of this session (wip/myprint.py: the kit's print with changes): not by print.sh itself.
import Derived.Test.YtkfolpcmehmmlaaDoorPFnFieldsAgainx0
import Derived.Test.YtkfolpcmehmmlaaDoorPFnFieldsAgainx1
namespace Go.Proofs.YtkfolpcmehmmlaaDoor.PFnFieldsAgain
open Go.RowKit Go.Proofs.YtkfolpcmehmmlaaDoorW.PrintWords Go.Proofs.YtkfolpcmehmmlaaDoorW.PrintLast Go.Proofs.YtkfolpcmehmmlaaDoorW.PrintMore
open Go renaming Act.put → uc
open Go.Proofs.YtkfolpcmehmmlaaDoorW.PrintLast renaming i64_w → uZ, i32_w → ua
open Go.Proofs.YtkfolpcmehmmlaaDoorW.PrintWords renaming Aside0.mk → uD, pw_below_drewN → uE, below_drew1 → uK, below_alloc → uL, below_set → uM, below_size → uN, below_step → uO, Kd.R_mono → uX
open List renaming setIfInBounds_toArray → uA, set_cons_zero → uB, set_cons_succ → uC
attribute [local go_sem] max2_int min2_int max_two min_two max_three min_three max_four min_four   -- for this text's walks alone
set_option linter.unusedVariables false
set_option linter.unusedSimpArgs false

/-! ### spec_DrawSplitFields: function 12 -/
mutual
def spec_DrawSplitFields.j0 : Nat → Int → List Int → Int → Int → Option (ByteArray)
 | 0, _, _, _, _ => none
 | k + 1, x4, x136000, x136001, x136002 => spec_DrawSplitFields.l0 k x4 (⟨#[]⟩ : ByteArray) 0 x136000 x136001 x136002
def spec_DrawSplitFields.l0 : Nat → Int → ByteArray → Int → List Int → Int → Int → Option (ByteArray)
 | 0, _, _, _, _, _, _ => none
 | k + 1, x4, x5, x6, x136000, x136001, x136002 => if x6 < x4 then (if x6 > 0 then (spec_DrawSplitFields.j2 k x4 x5 x6 true x136000 x136001 x136002) else ((spec_l01Once.f x136000 x136001 x136002 5).bind fun bt145 => (spec_DrawSplitFields.j2 k x4 x5 x6 bt145.1 x136000 bt145.2.1 bt145.2.2))) else ((spec_l01Below.f x136000 x136001 x136002 12).bind fun bt164 => (if bt164.1 = 0 then ((spec_l01Pick.f x136000 bt164.2.1 bt164.2.2 (([(⟨#[32]⟩ : ByteArray), (⟨#[32, 32]⟩ : ByteArray), (⟨#[9]⟩ : ByteArray), (⟨#[10]⟩ : ByteArray), (⟨#[127]⟩ : ByteArray), (⟨#[233]⟩ : ByteArray)] : List ByteArray))).bind fun bt170 => (if x5.size + bt170.1.size ≤ 9223372036854775807 then (some (x5 ++ bt170.1)) else (none))) else (if bt164.1 = 1 then (if (x5.size : Int) < 600 then ((spec_l01Below.f x136000 bt164.2.1 bt164.2.2 2).bind fun bt173 => ((spec_l01Long.f k (wrap64 ((wrap64 (600 - (x5.size : Int))) + bt173.1)) 32).bind fun t176 => (if x5.size + t176.size ≤ 9223372036854775807 then (some (x5 ++ t176)) else (none)))) else (some x5)) else (some x5))))
def spec_DrawSplitFields.j2 : Nat → Int → ByteArray → Int → Bool → List Int → Int → Int → Option (ByteArray)
 | 0, _, _, _, _, _, _, _ => none
 | k + 1, x4, x5, x6, x27, x136000, x136001, x136002 => if x27 = true then ((spec_l01Below.f x136000 x136001 x136002 2).bind fun bt148 => ((spec_l01Below.f x136000 bt148.2.1 bt148.2.2 3).bind fun bt151 => ((spec_l01Long.f k (wrap64 (1 + (wrap64 (bt148.1 * bt151.1)))) 32).bind fun t154 => (if x5.size + t154.size ≤ 9223372036854775807 then (spec_DrawSplitFields.j3 k x4 (x5 ++ t154) x6 x136000 bt151.2.1 bt151.2.2) else (none))))) else (spec_DrawSplitFields.j3 k x4 x5 x6 x136000 x136001 x136002)
def spec_DrawSplitFields.j3 : Nat → Int → ByteArray → Int → List Int → Int → Int → Option (ByteArray)
 | 0, _, _, _, _, _, _ => none
 | k + 1, x4, x5, x6, x136000, x136001, x136002 => spec_DrawSplitFields.l1 k x4 x5 x6 0 x136000 x136001 x136002
def spec_DrawSplitFields.l1 : Nat → Int → ByteArray → Int → Int → List Int → Int → Int → Option (ByteArray)
 | 0, _, _, _, _, _, _, _ => none
 | k + 1, x4, x5, x6, x7, x136000, x136001, x136002 => (spec_l01Below.f x136000 x136001 x136002 5).bind fun bt155 => (if x7 ≤ bt155.1 then ((spec_l01Below.f x136000 bt155.2.1 bt155.2.2 94).bind fun bt158 => ((some (([(wrap64 (33 + bt158.1)) % 256] : List Int) : List Int)).bind fun y161 => (if x5.size + (strOfNums y161).size ≤ 9223372036854775807 then (spec_DrawSplitFields.l1 k x4 (x5 ++ (strOfNums y161)) x6 (wrap64 (x7 + 1)) x136000 bt158.2.1 bt158.2.2) else (none)))) else (spec_DrawSplitFields.l0 k x4 x5 (wrap64 (x6 + 1)) x136000 bt155.2.1 bt155.2.2))
end
def spec_DrawSplitFields.f (k : Nat) (l0 : List Int) : Option (ByteArray) := (spec_l01New.f k l0).bind fun bt132 => ((spec_l01Below.f bt132.1 bt132.2.1 bt132.2.2 9).bind fun bt136 => ((spec_l01Once.f bt132.1 bt136.2.1 bt136.2.2 15).bind fun bt139 => (if bt139.1 = true then ((spec_l01Below.f bt132.1 bt139.2.1 bt139.2.2 2).bind fun bt142 => (spec_DrawSplitFields.j0 k (wrap64 (24 + bt142.1)) bt132.1 bt142.2.1 bt142.2.2)) else (spec_DrawSplitFields.j0 k bt136.1 bt132.1 bt139.2.1 bt139.2.2))))
theorem spec_DrawSplitFields.mono_l : ∀ k, (∀ y0 y1 y2 y3, LeO (spec_DrawSplitFields.j0 k y0 y1 y2 y3) (spec_DrawSplitFields.j0 (k + 1) y0 y1 y2 y3)) ∧ (∀ y0 y1 y2 y3 y4 y5, LeO (spec_DrawSplitFields.l0 k y0 y1 y2 y3 y4 y5) (spec_DrawSplitFields.l0 (k + 1) y0 y1 y2 y3 y4 y5)) ∧ (∀ y0 y1 y2 y3 y4 y5 y6, LeO (spec_DrawSplitFields.j2 k y0 y1 y2 y3 y4 y5 y6) (spec_DrawSplitFields.j2 (k + 1) y0 y1 y2 y3 y4 y5 y6)) ∧ (∀ y0 y1 y2 y3 y4 y5, LeO (spec_DrawSplitFields.j3 k y0 y1 y2 y3 y4 y5) (spec_DrawSplitFields.j3 (k + 1) y0 y1 y2 y3 y4 y5)) ∧ (∀ y0 y1 y2 y3 y4 y5 y6, LeO (spec_DrawSplitFields.l1 k y0 y1 y2 y3 y4 y5 y6) (spec_DrawSplitFields.l1 (k + 1) y0 y1 y2 y3 y4 y5 y6))
 | 0 => ⟨fun _ _ _ _ r h => by simp [spec_DrawSplitFields.j0] at h, fun _ _ _ _ _ _ r h => by simp [spec_DrawSplitFields.l0] at h, fun _ _ _ _ _ _ _ r h => by simp [spec_DrawSplitFields.j2] at h, fun _ _ _ _ _ _ r h => by simp [spec_DrawSplitFields.j3] at h, fun _ _ _ _ _ _ _ r h => by simp [spec_DrawSplitFields.l1] at h⟩
 | k + 1 => by
  obtain ⟨ih0, ih1, ih2, ih3, ih4⟩ := spec_DrawSplitFields.mono_l k
  refine ⟨?_, ?_, ?_, ?_, ?_⟩
  ·intro y0 y1 y2 y3
   unfold spec_DrawSplitFields.j0
   repeat' first
   | (with_reducible exact ih0 _ _ _ _)
   | (with_reducible exact ih1 _ _ _ _ _ _)
   | (with_reducible exact ih2 _ _ _ _ _ _ _)
   | (with_reducible exact ih3 _ _ _ _ _ _)
   | (with_reducible exact ih4 _ _ _ _ _ _ _)
   | (with_reducible exact spec_l01Long.mono _ _ _)
   | (with_reducible exact spec_l01New.mono _ _)
   | (with_reducible exact LeO.refl _)
   | (with_reducible exact LeO.none _)
   | (with_reducible refine LeO.ite ?_ ?_)
   | (with_reducible refine LeO.bind ?_ (fun _ => ?_))
   | exact ih0 _ _ _ _
   | exact ih1 _ _ _ _ _ _
   | exact ih2 _ _ _ _ _ _ _
   | exact ih3 _ _ _ _ _ _
   | exact ih4 _ _ _ _ _ _ _
   | exact spec_l01Long.mono _ _ _
   | exact spec_l01New.mono _ _
   | exact LeO.none _
   | refine LeO.ite ?_ ?_
   | refine LeO.bind ?_ (fun _ => ?_)
  ·intro y0 y1 y2 y3 y4 y5
   unfold spec_DrawSplitFields.l0
   repeat' first
   | (with_reducible exact ih0 _ _ _ _)
   | (with_reducible exact ih1 _ _ _ _ _ _)
   | (with_reducible exact ih2 _ _ _ _ _ _ _)
   | (with_reducible exact ih3 _ _ _ _ _ _)
   | (with_reducible exact ih4 _ _ _ _ _ _ _)
   | (with_reducible exact spec_l01Long.mono _ _ _)
   | (with_reducible exact spec_l01New.mono _ _)
   | (with_reducible exact LeO.refl _)
   | (with_reducible exact LeO.none _)
   | (with_reducible refine LeO.ite ?_ ?_)
   | (with_reducible refine LeO.bind ?_ (fun _ => ?_))
   | exact ih0 _ _ _ _
   | exact ih1 _ _ _ _ _ _
   | exact ih2 _ _ _ _ _ _ _
   | exact ih3 _ _ _ _ _ _
   | exact ih4 _ _ _ _ _ _ _
   | exact spec_l01Long.mono _ _ _
   | exact spec_l01New.mono _ _
   | exact LeO.none _
   | refine LeO.ite ?_ ?_
   | refine LeO.bind ?_ (fun _ => ?_)
  ·intro y0 y1 y2 y3 y4 y5 y6
   unfold spec_DrawSplitFields.j2
   repeat' first
   | (with_reducible exact ih0 _ _ _ _)
   | (with_reducible exact ih1 _ _ _ _ _ _)
   | (with_reducible exact ih2 _ _ _ _ _ _ _)
   | (with_reducible exact ih3 _ _ _ _ _ _)
   | (with_reducible exact ih4 _ _ _ _ _ _ _)
   | (with_reducible exact spec_l01Long.mono _ _ _)
   | (with_reducible exact spec_l01New.mono _ _)
   | (with_reducible exact LeO.refl _)
   | (with_reducible exact LeO.none _)
   | (with_reducible refine LeO.ite ?_ ?_)
   | (with_reducible refine LeO.bind ?_ (fun _ => ?_))
   | exact ih0 _ _ _ _
   | exact ih1 _ _ _ _ _ _
   | exact ih2 _ _ _ _ _ _ _
   | exact ih3 _ _ _ _ _ _
   | exact ih4 _ _ _ _ _ _ _
   | exact spec_l01Long.mono _ _ _
   | exact spec_l01New.mono _ _
   | exact LeO.none _
   | refine LeO.ite ?_ ?_
   | refine LeO.bind ?_ (fun _ => ?_)
  ·intro y0 y1 y2 y3 y4 y5
   unfold spec_DrawSplitFields.j3
   repeat' first
   | (with_reducible exact ih0 _ _ _ _)
   | (with_reducible exact ih1 _ _ _ _ _ _)
   | (with_reducible exact ih2 _ _ _ _ _ _ _)
   | (with_reducible exact ih3 _ _ _ _ _ _)
   | (with_reducible exact ih4 _ _ _ _ _ _ _)
   | (with_reducible exact spec_l01Long.mono _ _ _)
   | (with_reducible exact spec_l01New.mono _ _)
   | (with_reducible exact LeO.refl _)
   | (with_reducible exact LeO.none _)
   | (with_reducible refine LeO.ite ?_ ?_)
   | (with_reducible refine LeO.bind ?_ (fun _ => ?_))
   | exact ih0 _ _ _ _
   | exact ih1 _ _ _ _ _ _
   | exact ih2 _ _ _ _ _ _ _
   | exact ih3 _ _ _ _ _ _
   | exact ih4 _ _ _ _ _ _ _
   | exact spec_l01Long.mono _ _ _
   | exact spec_l01New.mono _ _
   | exact LeO.none _
   | refine LeO.ite ?_ ?_
   | refine LeO.bind ?_ (fun _ => ?_)
  ·intro y0 y1 y2 y3 y4 y5 y6
   unfold spec_DrawSplitFields.l1
   repeat' first
   | (with_reducible exact ih0 _ _ _ _)
   | (with_reducible exact ih1 _ _ _ _ _ _)
   | (with_reducible exact ih2 _ _ _ _ _ _ _)
   | (with_reducible exact ih3 _ _ _ _ _ _)
   | (with_reducible exact ih4 _ _ _ _ _ _ _)
   | (with_reducible exact spec_l01Long.mono _ _ _)
   | (with_reducible exact spec_l01New.mono _ _)
   | (with_reducible exact LeO.refl _)
   | (with_reducible exact LeO.none _)
   | (with_reducible refine LeO.ite ?_ ?_)
   | (with_reducible refine LeO.bind ?_ (fun _ => ?_))
   | exact ih0 _ _ _ _
   | exact ih1 _ _ _ _ _ _
   | exact ih2 _ _ _ _ _ _ _
   | exact ih3 _ _ _ _ _ _
   | exact ih4 _ _ _ _ _ _ _
   | exact spec_l01Long.mono _ _ _
   | exact spec_l01New.mono _ _
   | exact LeO.none _
   | refine LeO.ite ?_ ?_
   | refine LeO.bind ?_ (fun _ => ?_)
theorem spec_DrawSplitFields.mono : ∀ a0 k, LeO (spec_DrawSplitFields.f k a0) (spec_DrawSplitFields.f (k + 1) a0) := by
 intro a0 k
 obtain ⟨ih0, ih1, ih2, ih3, ih4⟩ := spec_DrawSplitFields.mono_l k
 unfold spec_DrawSplitFields.f
 repeat' first
   | (with_reducible exact ih0 _ _ _ _)
   | (with_reducible exact ih1 _ _ _ _ _ _)
   | (with_reducible exact ih2 _ _ _ _ _ _ _)
   | (with_reducible exact ih3 _ _ _ _ _ _)
   | (with_reducible exact ih4 _ _ _ _ _ _ _)
   | (with_reducible exact spec_l01Long.mono _ _ _)
   | (with_reducible exact spec_l01New.mono _ _)
   | (with_reducible exact LeO.refl _)
   | (with_reducible exact LeO.none _)
   | (with_reducible refine LeO.ite ?_ ?_)
   | (with_reducible refine LeO.bind ?_ (fun _ => ?_))
   | exact ih0 _ _ _ _
   | exact ih1 _ _ _ _ _ _
   | exact ih2 _ _ _ _ _ _ _
   | exact ih3 _ _ _ _ _ _
   | exact ih4 _ _ _ _ _ _ _
   | exact spec_l01Long.mono _ _ _
   | exact spec_l01New.mono _ _
   | exact LeO.none _
   | refine LeO.ite ?_ ?_
   | refine LeO.bind ?_ (fun _ => ?_)
set_option maxHeartbeats 8000000 in
set_option maxRecDepth 100000 in
theorem spec_DrawSplitFields.calls (k : Nat) (A0 : Option Addr) (c0 : Nat) (l0 : List Int) (r : ByteArray) (w : World) (hr0 : Kd.C (Kd.int .u8) w A0 l0.length l0) (hc0 : l0.length ≤ c0) (h : spec_DrawSplitFields.f k l0 = some r) :
  Calls Tryd.prog 12 #[.slice A0 l0.length c0] w fun e w' => e = .returned (.string r) ∧ Below w.heap.size w w' := by
 have HR0 := uD hr0
 have HC0 := uD hc0
 clear hr0 hc0
 have HB := uD (Below.refl w.heap.size w)
 have H : ((spec_l01New.f k l0).bind fun bt132 => ((spec_l01Below.f bt132.1 bt132.2.1 bt132.2.2 9).bind fun bt136 => ((spec_l01Once.f bt132.1 bt136.2.1 bt136.2.2 15).bind fun bt139 => (if bt139.1 = true then ((spec_l01Below.f bt132.1 bt139.2.1 bt139.2.2 2).bind fun bt142 => (spec_DrawSplitFields.j0 k (wrap64 (24 + bt142.1)) bt132.1 bt142.2.1 bt142.2.2)) else (spec_DrawSplitFields.j0 k bt136.1 bt132.1 bt139.2.1 bt139.2.2))))) = some r := h
 clear h
 replace H := Option.bind_eq_some_iff.mp H
 obtain ⟨⟨t132, t133, t134⟩, A20, H⟩ := H
 replace H : ((spec_l01Below.f t132 t133 t134 9).bind fun bt136 => ((spec_l01Once.f t132 bt136.2.1 bt136.2.2 15).bind fun bt139 => (if bt139.1 = true then ((spec_l01Below.f t132 bt139.2.1 bt139.2.2 2).bind fun bt142 => (spec_DrawSplitFields.j0 k (wrap64 (24 + bt142.1)) t132 bt142.2.1 bt142.2.2)) else (spec_DrawSplitFields.j0 k bt136.1 t132 bt139.2.1 bt139.2.2)))) = some r := H
 have A2 := uD A20
 clear A20
 replace H := Option.bind_eq_some_iff.mp H
 obtain ⟨⟨t136, t137, t138⟩, A30, H⟩ := H
 replace H : ((spec_l01Once.f t132 t137 t138 15).bind fun bt139 => (if bt139.1 = true then ((spec_l01Below.f t132 bt139.2.1 bt139.2.2 2).bind fun bt142 => (spec_DrawSplitFields.j0 k (wrap64 (24 + bt142.1)) t132 bt142.2.1 bt142.2.2)) else (spec_DrawSplitFields.j0 k t136 t132 bt139.2.1 bt139.2.2))) = some r := H
 have A3 := uD A30
 clear A30
 replace H := Option.bind_eq_some_iff.mp H
 obtain ⟨⟨t139, t140, t141⟩, A40, H⟩ := H
 replace H : (if t139 = true then ((spec_l01Below.f t132 t140 t141 2).bind fun bt142 => (spec_DrawSplitFields.j0 k (wrap64 (24 + bt142.1)) t132 bt142.2.1 bt142.2.2)) else (spec_DrawSplitFields.j0 k t136 t132 t140 t141)) = some r := H
 have A4 := uD A40
 clear A40
 have HC5 := uD H
 clear H
 go_enter Tryd.func12, Tryd.ntmps12
 go_upto_if 13 with (first | ((with_reducible refine gate_callee (f := 18) rfl ?_); refine goesL_ (some 9) rfl rfl Tryd.func18 (by kernel_rfl) rfl #[.slice A0 l0.length c0] rfl (by (try simp only [List.map_toArray, List.map_cons, List.map_nil]); first | done | rfl | (simp only [List.length_drop, List.length_take]; rfl)) ?_; (with_reducible refine (spec_l01New.calls k _ _ l0 t132 t133 t134 w _ ?side1 ?side2 ?side3 A2.out).mono ?_); (case side1 => repeat (first | (with_reducible first | exact HB.out | apply uL | apply uE | apply uK) | exact HB.out)); (case side2 => exact HR0.out); (case side3 => exact HC0.out); rintro e w6 ⟨g135, rfl, hi, hb, hb2⟩; refine ⟨_, rfl, ?_⟩; replace HB := uD (hb); have HI135 := uD (hi); (try clear hb); (try clear hb2); (try clear hk); (try clear hi)) | ((with_reducible refine gate_callee (f := 21) rfl ?_); refine goesL_ (some 11) rfl rfl Tryd.func21 (by kernel_rfl) rfl #[.pointer (some ⟨g135, 0, none⟩), .int .i64 9] rfl (by (try simp only [List.map_toArray, List.map_cons, List.map_nil]); first | done | rfl | (simp only [List.length_drop, List.length_take]; rfl)) ?_; (with_reducible refine (spec_l01Below.calls g135 t132 t133 t134 9 t136 t137 t138 w _ ?side1 ?side2 A3.out).mono ?_); (case side1 => repeat (first | (with_reducible first | exact HI135.out | apply IsS44.alloc | apply IsS44.drewN | apply IsS44.drew | apply IsS44.set_1 | apply IsS44.set_2) | exact HI135.out)); (case side2 => repeat (first | (with_reducible first | exact HB.out | apply uL | apply uE | apply uK | refine uM ?_ (IsS44.ge HI135.out)) | exact HB.out)); rintro e w7 ⟨rfl, hi, hb, hk⟩; refine ⟨_, rfl, ?_⟩; replace HB := uD (hb); replace HI135 := uD (hi); (try clear hb); (try clear hb2); (try clear hk); (try clear hi)) | ((with_reducible refine gate_callee (f := 19) rfl ?_); refine goesL_ (some 13) rfl rfl Tryd.func19 (by kernel_rfl) rfl #[.pointer (some ⟨g135, 0, none⟩), .int .i64 15] rfl (by (try simp only [List.map_toArray, List.map_cons, List.map_nil]); first | done | rfl | (simp only [List.length_drop, List.length_take]; rfl)) ?_; (with_reducible refine (spec_l01Once.calls g135 t132 t137 t138 15 t139 t140 t141 w _ ?side1 ?side2 A4.out).mono ?_); (case side1 => repeat (first | (with_reducible first | exact HI135.out | apply IsS44.alloc | apply IsS44.drewN | apply IsS44.drew | apply IsS44.set_1 | apply IsS44.set_2) | exact HI135.out)); (case side2 => repeat (first | (with_reducible first | exact HB.out | apply uL | apply uE | apply uK | refine uM ?_ (IsS44.ge HI135.out)) | exact HB.out)); rintro e w8 ⟨rfl, hi, hb, hk⟩; refine ⟨_, rfl, ?_⟩; replace HB := uD (hb); replace HI135 := uD (hi); (try clear hb); (try clear hb2); (try clear hk); (try clear hi)))
 (try simp only [uc, uA, uB, uC])
 go_cut [4] (fun v4 wc => ∃ (kq : Nat) (x4_4 : Int) (x136001_4 : Int) (x136002_4 : Int), v4 = .int .i64 x4_4 ∧ Aside0 (spec_DrawSplitFields.j0 kq x4_4 t132 x136001_4 x136002_4 = some r) ∧ Aside0 (kq ≤ k) ∧ Aside0 (IsS44 w wc g135 t132 x136001_4 x136002_4) ∧ Aside0 (Below w.heap.size w wc))
 case first =>
  have H := HC5.out
  clear HC5
  by_cases c9 : t139 = true
  ·subst c9
   have H1 : ((spec_l01Below.f t132 t140 t141 2).bind fun bt142 => (spec_DrawSplitFields.j0 k (wrap64 (24 + bt142.1)) t132 bt142.2.1 bt142.2.2)) = some r := by rw [if_pos rfl] at H; first | done | exact H
   clear H
   have H := H1
   clear H1
   replace H := Option.bind_eq_some_iff.mp H
   obtain ⟨⟨t142, t143, t144⟩, A100, H⟩ := H
   replace H : (spec_DrawSplitFields.j0 k (wrap64 (24 + t142)) t132 t143 t144) = some r := H
   have A10 := uD A100
   clear A100
   have H' := uD H
   clear H
   go_wp2_with (first | ((with_reducible refine gate_callee (f := 21) rfl ?_); refine goesL_ (some 15) rfl rfl Tryd.func21 (by kernel_rfl) rfl #[.pointer (some ⟨g135, 0, none⟩), .int .i64 2] rfl (by (try simp only [List.map_toArray, List.map_cons, List.map_nil]); first | done | rfl | (simp only [List.length_drop, List.length_take]; rfl)) ?_; (with_reducible refine (spec_l01Below.calls g135 t132 t140 t141 2 t142 t143 t144 w _ ?side1 ?side2 A10.out).mono ?_); (case side1 => repeat (first | (with_reducible first | exact HI135.out | apply IsS44.alloc | apply IsS44.drewN | apply IsS44.drew | apply IsS44.set_1 | apply IsS44.set_2) | exact HI135.out)); (case side2 => repeat (first | (with_reducible first | exact HB.out | apply uL | apply uE | apply uK | refine uM ?_ (IsS44.ge HI135.out)) | exact HB.out)); rintro e w11 ⟨rfl, hi, hb, hk⟩; refine ⟨_, rfl, ?_⟩; replace HB := uD (hb); replace HI135 := uD (hi); (try clear hb); (try clear hb2); (try clear hk); (try clear hi)))
   go_meet
   case rel => exact ⟨_, (wrap64 (24 + t142)), (t143), (t144), (by first | rfl | (simp; done) | (simp [*]; done)), H', ⟨by first | omega | exact Nat.le_refl _⟩, ⟨by repeat (first | (with_reducible first | exact HI135.out | apply IsS44.alloc | apply IsS44.drewN | apply IsS44.drew | apply IsS44.set_1 | apply IsS44.set_2) | exact HI135.out)⟩, ⟨by repeat (first | (with_reducible first | exact HB.out | apply uL | apply uE | apply uK | refine uM ?_ (IsS44.ge HI135.out)) | exact HB.out)⟩⟩
  ·replace c9 := Bool.eq_false_iff.mpr c9
   subst c9
   have H1 : (spec_DrawSplitFields.j0 k t136 t132 t140 t141) = some r := by rw [if_neg (show ¬ (false = true) by decide)] at H; first | done | exact H
   clear H
   have H := H1
   clear H1
   have H' := uD H
   clear H
   go_wp2
   go_meet
   case rel => exact ⟨_, (t136), (t140), (t141), (by first | rfl | (simp; done) | (simp [*]; done)), H', ⟨by first | omega | exact Nat.le_refl _⟩, ⟨by repeat (first | (with_reducible first | exact HI135.out | apply IsS44.alloc | apply IsS44.drewN | apply IsS44.drew | apply IsS44.set_1 | apply IsS44.set_2) | exact HI135.out)⟩, ⟨by repeat (first | (with_reducible first | exact HB.out | apply uL | apply uE | apply uK | refine uM ?_ (IsS44.ge HI135.out)) | exact HB.out)⟩⟩
 case rest =>
  clear HC5
  try clear c1
  try clear c2
  try clear p2
  try clear p6
  try clear c9
  obtain ⟨kq, x4_4, x136001_4, x136002_4, rfl, HA, HJ4, HI135, HB⟩ := hcut
  cases kq with
  | zero => exact absurd HA.out (by simp [spec_DrawSplitFields.j0])
  | succ kj4 =>
   have H := HA.out
   clear HA
   simp only [spec_DrawSplitFields.j0] at H
   have H' := uD H
   clear H
   go_wp2
   go_loopg [5, 6] kj4 (fun kq v5 v6 w' => ∃ (x5_2 : ByteArray) (x6_2 : Int) (x136001_2 : Int) (x136002_2 : Int), v5 = .string x5_2 ∧ v6 = .int .i64 x6_2 ∧ Aside0 (spec_DrawSplitFields.l0 kq x4_4 x5_2 x6_2 t132 x136001_2 x136002_2 = some r) ∧ Aside0 (kq ≤ kj4) ∧ Aside0 (IsS44 w w' g135 t132 x136001_2 x136002_2) ∧ Aside0 (Below w.heap.size w w'))
   case atStart => exact ⟨((⟨#[]⟩ : ByteArray)), (0), (x136001_4), (x136002_4), (by first | rfl | (simp; done) | (simp [*]; done)), (by first | rfl | (simp; done) | (simp [*]; done)), H', ⟨Nat.le_refl _⟩, ⟨by repeat (first | (with_reducible first | exact HI135.out | apply IsS44.alloc | apply IsS44.drewN | apply IsS44.drew | apply IsS44.set_1 | apply IsS44.set_2) | exact HI135.out)⟩, ⟨by repeat (first | (with_reducible first | exact HB.out | apply uL | apply uE | apply uK | refine uM ?_ (IsS44.ge HI135.out)) | exact HB.out)⟩⟩
   case round =>
    clear H'
    try clear c1
    try clear c2
    try clear p2
    try clear p6
    try clear c9
    try clear p2
    try clear p6
    obtain ⟨x5_2, x6_2, x136001_2, x136002_2, rfl, rfl, HA, HK2, HI135, HB⟩ := hrel
    cases gk with
    | zero => exact absurd HA.out (by simp [spec_DrawSplitFields.l0])
    | succ k2 =>
     have H := HA.out
     clear HA
     simp only [spec_DrawSplitFields.l0] at H
     by_cases c12 : x6_2 < x4_4
     ·rw [if_pos c12] at H
      have c12b0 : decide (x6_2 < x4_4) = true := decide_eq_true c12
      clear c12
      have HC13 := uD H
      clear H
      go_upto_region 9 with (fail)
      go_cut [27] (fun v27 wc => ∃ (kq : Nat) (x27_12 : Bool) (x136001_12 : Int) (x136002_12 : Int), v27 = .bool x27_12 ∧ Aside0 (spec_DrawSplitFields.j2 kq x4_4 x5_2 x6_2 x27_12 t132 x136001_12 x136002_12 = some r) ∧ Aside0 (kq ≤ k2) ∧ Aside0 (IsS44 w wc g135 t132 x136001_12 x136002_12) ∧ Aside0 (Below w.heap.size w wc))
      case first =>
       have H := HC13.out
       clear HC13
       by_cases c14 : x6_2 > 0
       ·rw [if_pos c14] at H
        have c14b0 : decide (0 < x6_2) = true := decide_eq_true c14
        clear c14
        (first | rw [c14b0] | (simp only [uZ, ua]; rw [c14b0]) | skip)
        have H' := uD H
        clear H
        go_wp2
        go_meet
        case rel => exact ⟨_, (true), (x136001_2), (x136002_2), (by first | rfl | (simp; done) | (simp [*]; done)), H', ⟨by have := HJ4.out; have := HK2.out; first | omega | exact Nat.le_refl _⟩, ⟨by repeat (first | (with_reducible first | exact HI135.out | apply IsS44.alloc | apply IsS44.drewN | apply IsS44.drew | apply IsS44.set_1 | apply IsS44.set_2) | exact HI135.out)⟩, ⟨by repeat (first | (with_reducible first | exact HB.out | apply uL | apply uE | apply uK | refine uM ?_ (IsS44.ge HI135.out)) | exact HB.out)⟩⟩
       ·rw [if_neg c14] at H
        have c14b0 : decide (0 < x6_2) = false := decide_eq_false c14
        clear c14
        (first | rw [c14b0] | (simp only [uZ, ua]; rw [c14b0]) | skip)
        replace H := Option.bind_eq_some_iff.mp H
        obtain ⟨⟨t145, t146, t147⟩, A150, H⟩ := H
        replace H : (spec_DrawSplitFields.j2 k2 x4_4 x5_2 x6_2 t145 t132 t146 t147) = some r := H
        have A15 := uD A150
        clear A150
        have H' := uD H
        clear H
        go_wp2_with (first | (go_at_call 19; (with_reducible refine (spec_l01Once.calls g135 t132 x136001_2 x136002_2 5 t145 t146 t147 w _ ?side1 ?side2 A15.out).mono ?_); (case side1 => repeat (first | (with_reducible first | exact HI135.out | apply IsS44.alloc | apply IsS44.drewN | apply IsS44.drew | apply IsS44.set_1 | apply IsS44.set_2) | exact HI135.out)); (case side2 => repeat (first | (with_reducible first | exact HB.out | apply uL | apply uE | apply uK | refine uM ?_ (IsS44.ge HI135.out)) | exact HB.out)); rintro e w16 ⟨rfl, hi, hb, hk⟩; replace HB := uD (hb); replace HI135 := uD (hi); (try clear hb); (try clear hb2); (try clear hk); (try clear hi)))
        go_meet
        case rel => exact ⟨_, (t145), (t146), (t147), (by first | rfl | (simp; done) | (simp [*]; done)), H', ⟨by have := HJ4.out; have := HK2.out; first | omega | exact Nat.le_refl _⟩, ⟨by repeat (first | (with_reducible first | exact HI135.out | apply IsS44.alloc | apply IsS44.drewN | apply IsS44.drew | apply IsS44.set_1 | apply IsS44.set_2) | exact HI135.out)⟩, ⟨by repeat (first | (with_reducible first | exact HB.out | apply uL | apply uE | apply uK | refine uM ?_ (IsS44.ge HI135.out)) | exact HB.out)⟩⟩
      case rest =>
       clear HC13
       try clear c1
       try clear c2
       try clear p2
       try clear p6
       try clear c9
       try clear c12
       try clear c12b0
       try clear c14
       try clear c14b0
       try clear p2
       try clear p6
       obtain ⟨kq, x27_12, x136001_12, x136002_12, rfl, HA, HJ12, HI135, HB⟩ := hcut
       cases kq with
       | zero => exact absurd HA.out (by simp [spec_DrawSplitFields.j2])
       | succ kj12 =>
        have H := HA.out
        clear HA
        simp only [spec_DrawSplitFields.j2] at H
        have HC17 := uD H
        clear H
        go_upto_if 27 with (fail)
        go_cut [5] (fun v5 wc => ∃ (kq : Nat) (x5_16 : ByteArray) (x136001_16 : Int) (x136002_16 : Int), v5 = .string x5_16 ∧ Aside0 (spec_DrawSplitFields.j3 kq x4_4 x5_16 x6_2 t132 x136001_16 x136002_16 = some r) ∧ Aside0 (kq ≤ kj12) ∧ Aside0 (IsS44 w wc g135 t132 x136001_16 x136002_16) ∧ Aside0 (Below w.heap.size w wc))
        case first =>
         have H := HC17.out
         clear HC17
         by_cases c18 : x27_12 = true
         ·subst c18
          have H1 : ((spec_l01Below.f t132 x136001_12 x136002_12 2).bind fun bt148 => ((spec_l01Below.f t132 bt148.2.1 bt148.2.2 3).bind fun bt151 => ((spec_l01Long.f kj12 (wrap64 (1 + (wrap64 (bt148.1 * bt151.1)))) 32).bind fun t154 => (if x5_2.size + t154.size ≤ 9223372036854775807 then (spec_DrawSplitFields.j3 kj12 x4_4 (x5_2 ++ t154) x6_2 t132 bt151.2.1 bt151.2.2) else (none))))) = some r := by rw [if_pos rfl] at H; first | done | exact H
          clear H
          have H := H1
          clear H1
          replace H := Option.bind_eq_some_iff.mp H
          obtain ⟨⟨t148, t149, t150⟩, A190, H⟩ := H
          replace H : ((spec_l01Below.f t132 t149 t150 3).bind fun bt151 => ((spec_l01Long.f kj12 (wrap64 (1 + (wrap64 (t148 * bt151.1)))) 32).bind fun t154 => (if x5_2.size + t154.size ≤ 9223372036854775807 then (spec_DrawSplitFields.j3 kj12 x4_4 (x5_2 ++ t154) x6_2 t132 bt151.2.1 bt151.2.2) else (none)))) = some r := H
          have A19 := uD A190
          clear A190
          replace H := Option.bind_eq_some_iff.mp H
          obtain ⟨⟨t151, t152, t153⟩, A200, H⟩ := H
          replace H : ((spec_l01Long.f kj12 (wrap64 (1 + (wrap64 (t148 * t151)))) 32).bind fun t154 => (if x5_2.size + t154.size ≤ 9223372036854775807 then (spec_DrawSplitFields.j3 kj12 x4_4 (x5_2 ++ t154) x6_2 t132 t152 t153) else (none))) = some r := H
          have A20 := uD A200
          clear A200
          replace H := Option.bind_eq_some_iff.mp H
          obtain ⟨t154, A210, H⟩ := H
          replace H : (if x5_2.size + t154.size ≤ 9223372036854775807 then (spec_DrawSplitFields.j3 kj12 x4_4 (x5_2 ++ t154) x6_2 t132 t152 t153) else (none)) = some r := H
          have A21 := uD A210
          clear A210
          by_cases c22 : x5_2.size + t154.size ≤ 9223372036854775807
          ·rw [if_pos c22] at H
           have c22b0 := eq_true c22
           have c22b1 : decide (x5_2.size + t154.size ≤ 9223372036854775807) = true := decide_eq_true c22
           try have c22b2 : (9223372036854775807 < x5_2.size + t154.size) = False := eq_false (Nat.not_lt.2 c22)
           have H' := uD H
           clear H
           go_wp2_with (first | ((with_reducible refine gate_callee (f := 21) rfl ?_); refine goesL_ (some 30) rfl rfl Tryd.func21 (by kernel_rfl) rfl #[.pointer (some ⟨g135, 0, none⟩), .int .i64 2] rfl (by (try simp only [List.map_toArray, List.map_cons, List.map_nil]); first | done | rfl | (simp only [List.length_drop, List.length_take]; rfl)) ?_; (with_reducible refine (spec_l01Below.calls g135 t132 x136001_12 x136002_12 2 t148 t149 t150 w _ ?side1 ?side2 A19.out).mono ?_); (case side1 => repeat (first | (with_reducible first | exact HI135.out | apply IsS44.alloc | apply IsS44.drewN | apply IsS44.drew | apply IsS44.set_1 | apply IsS44.set_2) | exact HI135.out)); (case side2 => repeat (first | (with_reducible first | exact HB.out | apply uL | apply uE | apply uK | refine uM ?_ (IsS44.ge HI135.out)) | exact HB.out)); rintro e w23 ⟨rfl, hi, hb, hk⟩; refine ⟨_, rfl, ?_⟩; replace HB := uD (hb); replace HI135 := uD (hi); (try clear hb); (try clear hb2); (try clear hk); (try clear hi)) | ((with_reducible refine gate_callee (f := 21) rfl ?_); refine goesL_ (some 32) rfl rfl Tryd.func21 (by kernel_rfl) rfl #[.pointer (some ⟨g135, 0, none⟩), .int .i64 3] rfl (by (try simp only [List.map_toArray, List.map_cons, List.map_nil]); first | done | rfl | (simp only [List.length_drop, List.length_take]; rfl)) ?_; (with_reducible refine (spec_l01Below.calls g135 t132 t149 t150 3 t151 t152 t153 w _ ?side1 ?side2 A20.out).mono ?_); (case side1 => repeat (first | (with_reducible first | exact HI135.out | apply IsS44.alloc | apply IsS44.drewN | apply IsS44.drew | apply IsS44.set_1 | apply IsS44.set_2) | exact HI135.out)); (case side2 => repeat (first | (with_reducible first | exact HB.out | apply uL | apply uE | apply uK | refine uM ?_ (IsS44.ge HI135.out)) | exact HB.out)); rintro e w24 ⟨rfl, hi, hb, hk⟩; refine ⟨_, rfl, ?_⟩; replace HB := uD (hb); replace HI135 := uD (hi); (try clear hb); (try clear hb2); (try clear hk); (try clear hi)) | ((with_reducible refine gate_callee (f := 20) rfl ?_); refine goesL_ (some 35) rfl rfl Tryd.func20 (by kernel_rfl) rfl #[.int .i64 (wrap64 (1 + (wrap64 (t148 * t151)))), .int .u8 32] rfl (by (try simp only [List.map_toArray, List.map_cons, List.map_nil]); first | done | rfl | (simp only [List.length_drop, List.length_take]; rfl)) ?_; (with_reducible refine (spec_l01Long.calls kj12 (wrap64 (1 + (wrap64 (t148 * t151)))) 32 t154 _ A21.out).mono ?_); rintro e w25 ⟨rfl, hb⟩; refine ⟨_, rfl, ?_⟩; replace HB := uD (uO (by repeat (first | (with_reducible first | exact HB.out | apply uL | apply uE | apply uK | refine uM ?_ (IsS44.ge HI135.out)) | exact HB.out)) hb); replace HI135 := uD (IsS44.below (by repeat (first | (with_reducible first | exact HI135.out | apply IsS44.alloc | apply IsS44.drewN | apply IsS44.drew | apply IsS44.set_1 | apply IsS44.set_2) | exact HI135.out)) hb); (try clear hb); (try clear hb2); (try clear hk); (try clear hi)))
           go_meet
           case rel => exact ⟨_, (x5_2 ++ t154), (t152), (t153), (by first | rfl | (simp; done) | (simp [*]; done)), H', ⟨by have := HJ4.out; have := HK2.out; have := HJ12.out; first | omega | exact Nat.le_refl _⟩, ⟨by repeat (first | (with_reducible first | exact HI135.out | apply IsS44.alloc | apply IsS44.drewN | apply IsS44.drew | apply IsS44.set_1 | apply IsS44.set_2) | exact HI135.out)⟩, ⟨by repeat (first | (with_reducible first | exact HB.out | apply uL | apply uE | apply uK | refine uM ?_ (IsS44.ge HI135.out)) | exact HB.out)⟩⟩
          ·rw [if_neg c22] at H
           exact absurd H (by simp)
         ·replace c18 := Bool.eq_false_iff.mpr c18
          subst c18
          have H1 : (spec_DrawSplitFields.j3 kj12 x4_4 x5_2 x6_2 t132 x136001_12 x136002_12) = some r := by rw [if_neg (show ¬ (false = true) by decide)] at H; first | done | exact H
          clear H
          have H := H1
          clear H1
          have H' := uD H
          clear H
          go_wp2
          go_meet
          case rel => exact ⟨_, (x5_2), (x136001_12), (x136002_12), (by first | rfl | (simp; done) | (simp [*]; done)), H', ⟨by have := HJ4.out; have := HK2.out; have := HJ12.out; first | omega | exact Nat.le_refl _⟩, ⟨by repeat (first | (with_reducible first | exact HI135.out | apply IsS44.alloc | apply IsS44.drewN | apply IsS44.drew | apply IsS44.set_1 | apply IsS44.set_2) | exact HI135.out)⟩, ⟨by repeat (first | (with_reducible first | exact HB.out | apply uL | apply uE | apply uK | refine uM ?_ (IsS44.ge HI135.out)) | exact HB.out)⟩⟩
        case rest =>
         clear HC17
         try clear c1
         try clear c2
         try clear p2
         try clear p6
         try clear c9
         try clear c12
         try clear c12b0
         try clear c14
         try clear c14b0
         try clear c18
         try clear c19
         try clear c20
         try clear c21
         try clear c22
         try clear c22b0
         try clear c22b1
         try clear c22b2
         try clear p2
         try clear p6
         obtain ⟨kq, x5_16, x136001_16, x136002_16, rfl, HA, HJ16, HI135, HB⟩ := hcut
         cases kq with
         | zero => exact absurd HA.out (by simp [spec_DrawSplitFields.j3])
         | succ kj16 =>
          have H := HA.out
          clear HA
          simp only [spec_DrawSplitFields.j3] at H
          have H' := uD H
          clear H
          go_wp2
          go_loopg [5, 7] kj16 (fun kq v5 v7 w' => ∃ (x5_5 : ByteArray) (x7_5 : Int) (x136001_5 : Int) (x136002_5 : Int), v5 = .string x5_5 ∧ v7 = .int .i64 x7_5 ∧ Aside0 (spec_DrawSplitFields.l1 kq x4_4 x5_5 x6_2 x7_5 t132 x136001_5 x136002_5 = some r) ∧ Aside0 (kq ≤ kj16) ∧ Aside0 (IsS44 w w' g135 t132 x136001_5 x136002_5) ∧ Aside0 (Below w.heap.size w w'))
          case atStart => exact ⟨(x5_16), (0), (x136001_16), (x136002_16), (by first | rfl | (simp; done) | (simp [*]; done)), (by first | rfl | (simp; done) | (simp [*]; done)), H', ⟨Nat.le_refl _⟩, ⟨by repeat (first | (with_reducible first | exact HI135.out | apply IsS44.alloc | apply IsS44.drewN | apply IsS44.drew | apply IsS44.set_1 | apply IsS44.set_2) | exact HI135.out)⟩, ⟨by repeat (first | (with_reducible first | exact HB.out | apply uL | apply uE | apply uK | refine uM ?_ (IsS44.ge HI135.out)) | exact HB.out)⟩⟩
          case round =>
           clear H'
           try clear c1
           try clear c2
           try clear p2
           try clear p6
           try clear c9
           try clear c12
           try clear c12b0
           try clear c14
           try clear c14b0
           try clear c18
           try clear c19
           try clear c20
           try clear c21
           try clear c22
           try clear c22b0
           try clear c22b1
           try clear c22b2
           try clear p2
           try clear p6
           obtain ⟨x5_5, x7_5, x136001_5, x136002_5, rfl, rfl, HA, HK5, HI135, HB⟩ := hrel
           cases gk with
           | zero => exact absurd HA.out (by simp [spec_DrawSplitFields.l1])
           | succ k5 =>
            have H := HA.out
            clear HA
            simp only [spec_DrawSplitFields.l1] at H
            replace H := Option.bind_eq_some_iff.mp H
            obtain ⟨⟨t155, t156, t157⟩, A260, H⟩ := H
            replace H : (if x7_5 ≤ t155 then ((spec_l01Below.f t132 t156 t157 94).bind fun bt158 => ((some (([(wrap64 (33 + bt158.1)) % 256] : List Int) : List Int)).bind fun y161 => (if x5_5.size + (strOfNums y161).size ≤ 9223372036854775807 then (spec_DrawSplitFields.l1 k5 x4_4 (x5_5 ++ (strOfNums y161)) x6_2 (wrap64 (x7_5 + 1)) t132 bt158.2.1 bt158.2.2) else (none)))) else (spec_DrawSplitFields.l0 k5 x4_4 x5_5 (wrap64 (x6_2 + 1)) t132 t156 t157)) = some r := H
            have A26 := uD A260
            clear A260
            by_cases c27 : x7_5 ≤ t155
            ·rw [if_pos c27] at H
             have c27b0 : decide (x7_5 ≤ t155) = true := decide_eq_true c27
             clear c27
             replace H := Option.bind_eq_some_iff.mp H
             obtain ⟨⟨t158, t159, t160⟩, A280, H⟩ := H
             replace H : ((some (([(wrap64 (33 + t158)) % 256] : List Int) : List Int)).bind fun y161 => (if x5_5.size + (strOfNums y161).size ≤ 9223372036854775807 then (spec_DrawSplitFields.l1 k5 x4_4 (x5_5 ++ (strOfNums y161)) x6_2 (wrap64 (x7_5 + 1)) t132 t159 t160) else (none))) = some r := H
             have A28 := uD A280
             clear A280
             obtain ⟨y161, hy161⟩ : ∃ y_ : List Int, y_ = (([(wrap64 (33 + t158)) % 256] : List Int)) := ⟨_, rfl⟩
             replace H : (if x5_5.size + (strOfNums y161).size ≤ 9223372036854775807 then (spec_DrawSplitFields.l1 k5 x4_4 (x5_5 ++ (strOfNums y161)) x6_2 (wrap64 (x7_5 + 1)) t132 t159 t160) else (none)) = some r := by first | (rw [hy161]; with_reducible exact H) | (have H2_ := (Option.bind_some _ _).symm.trans H; rw [hy161]; with_reducible exact H2_) | (have H2_ := (Option.bind_some _ _).symm.trans H; with_reducible exact H2_) | with_reducible exact H | (rw [hy161]; exact H) | exact H
             have Ny161 := uD hy161
             clear hy161
             by_cases c29 : x5_5.size + (strOfNums y161).size ≤ 9223372036854775807
             ·rw [if_pos c29] at H
              have c29b0 := eq_true c29
              have c29b1 : decide (x5_5.size + (strOfNums y161).size ≤ 9223372036854775807) = true := decide_eq_true c29
              try have c29b2 : (9223372036854775807 < x5_5.size + (strOfNums y161).size) = False := eq_false (Nat.not_lt.2 c29)
              have H' := uD H
              clear H
              go_wp2_with (first | ((with_reducible refine gate_callee (f := 21) rfl ?_); refine goesL_ (some 39) rfl rfl Tryd.func21 (by kernel_rfl) rfl #[.pointer (some ⟨g135, 0, none⟩), .int .i64 5] rfl (by (try simp only [List.map_toArray, List.map_cons, List.map_nil]); first | done | rfl | (simp only [List.length_drop, List.length_take]; rfl)) ?_; (with_reducible refine (spec_l01Below.calls g135 t132 x136001_5 x136002_5 5 t155 t156 t157 w _ ?side1 ?side2 A26.out).mono ?_); (case side1 => repeat (first | (with_reducible first | exact HI135.out | apply IsS44.alloc | apply IsS44.drewN | apply IsS44.drew | apply IsS44.set_1 | apply IsS44.set_2) | exact HI135.out)); (case side2 => repeat (first | (with_reducible first | exact HB.out | apply uL | apply uE | apply uK | refine uM ?_ (IsS44.ge HI135.out)) | exact HB.out)); rintro e w30 ⟨rfl, hi, hb, hk⟩; refine ⟨_, rfl, ?_⟩; replace HB := uD (hb); replace HI135 := uD (hi); (try clear hb); (try clear hb2); (try clear hk); (try clear hi)) | ((with_reducible refine gate_callee (f := 21) rfl ?_); refine goesL_ (some 45) rfl rfl Tryd.func21 (by kernel_rfl) rfl #[.pointer (some ⟨g135, 0, none⟩), .int .i64 94] rfl (by (try simp only [List.map_toArray, List.map_cons, List.map_nil]); first | done | rfl | (simp only [List.length_drop, List.length_take]; rfl)) ?_; (with_reducible refine (spec_l01Below.calls g135 t132 t156 t157 94 t158 t159 t160 w _ ?side1 ?side2 A28.out).mono ?_); (case side1 => repeat (first | (with_reducible first | exact HI135.out | apply IsS44.alloc | apply IsS44.drewN | apply IsS44.drew | apply IsS44.set_1 | apply IsS44.set_2) | exact HI135.out)); (case side2 => repeat (first | (with_reducible first | exact HB.out | apply uL | apply uE | apply uK | refine uM ?_ (IsS44.ge HI135.out)) | exact HB.out)); rintro e w31 ⟨rfl, hi, hb, hk⟩; refine ⟨_, rfl, ?_⟩; replace HB := uD (hb); replace HI135 := uD (hi); (try clear hb); (try clear hb2); (try clear hk); (try clear hi)) | ((with_reducible refine gate_dst (N := 48) rfl ?_); refine Kd.R_lit (Kd.int .u8) _ 5 ?hg (N := 48) ?hd (xs := ([(wrap64 (33 + t158)) % 256] : List Int)) (inner := [.int .u8 ((wrap64 (33 + t158)) % 256)]) (ok := fun _ => True) (okp := fun _ => True) ?hr ?hp (fun _ hk => hk) trivial (Below.refl _ _) (Nat.le_refl _) (by simp) ?_; (case hd => rfl); (case hg => rfl); (case hr => first | (go_simp; done) | (go_simp; rfl)); (case hp => exact (Reps.one (show Kd.M (Kd.int .u8) _ _ _ ((wrap64 (33 + t158)) % 256) [.int .u8 ((wrap64 (33 + t158)) % 256)] from rfl) (Reps.none _ _))); intro v162 w32 ho33 hb hg_ hnew_; clear hg_ hnew_; (first | rw [← Ny161.out] at ho33 | (simp only [Int.reduceToNat] at ho33; rw [← Ny161.out] at ho33)); have HO163 := uD (Kd.R_lower ho33 (uN (by repeat (first | (with_reducible first | exact HB.out | apply uL | apply uE | apply uK | refine uM ?_ (IsS44.ge HI135.out)) | exact HB.out)))); replace HB := uD (uO (by repeat (first | (with_reducible first | exact HB.out | apply uL | apply uE | apply uK | refine uM ?_ (IsS44.ge HI135.out)) | exact HB.out)) hb); replace HI135 := uD (IsS44.below (by repeat (first | (with_reducible first | exact HI135.out | apply IsS44.alloc | apply IsS44.drewN | apply IsS44.drew | apply IsS44.set_1 | apply IsS44.set_2) | exact HI135.out)) hb); clear hb ho33; have hcv34 := own_string (P := Tryd.prog) Tryd.underlying24 Tryd.underlying5 Tryd.underlying9 (Kd.own_of_R HO163.out)))
              go_roundg k5
              case measure => have := HJ4.out; have := HK2.out; have := HJ12.out; have := HJ16.out; have := HK5.out; omega
              case rel => exact ⟨(x5_5 ++ (strOfNums y161)), (wrap64 (x7_5 + 1)), (t159), (t160), (by first | rfl | (simp; done) | (simp [*]; done)), (by first | rfl | (simp; done) | (simp [*]; done)), H', ⟨by have := HJ4.out; have := HK2.out; have := HJ12.out; have := HJ16.out; have := HK5.out; omega⟩, ⟨by repeat (first | (with_reducible first | exact HI135.out | apply IsS44.alloc | apply IsS44.drewN | apply IsS44.drew | apply IsS44.set_1 | apply IsS44.set_2) | exact HI135.out)⟩, ⟨by repeat (first | (with_reducible first | exact HB.out | apply uL | apply uE | apply uK | refine uM ?_ (IsS44.ge HI135.out)) | exact HB.out)⟩⟩
             ·rw [if_neg c29] at H
              exact absurd H (by simp)
            ·rw [if_neg c27] at H
             have c27b0 : decide (x7_5 ≤ t155) = false := decide_eq_false c27
             clear c27
             have H' := uD H
             clear H
             go_wp2_with (first | ((with_reducible refine gate_callee (f := 21) rfl ?_); refine goesL_ (some 39) rfl rfl Tryd.func21 (by kernel_rfl) rfl #[.pointer (some ⟨g135, 0, none⟩), .int .i64 5] rfl (by (try simp only [List.map_toArray, List.map_cons, List.map_nil]); first | done | rfl | (simp only [List.length_drop, List.length_take]; rfl)) ?_; (with_reducible refine (spec_l01Below.calls g135 t132 x136001_5 x136002_5 5 t155 t156 t157 w _ ?side1 ?side2 A26.out).mono ?_); (case side1 => repeat (first | (with_reducible first | exact HI135.out | apply IsS44.alloc | apply IsS44.drewN | apply IsS44.drew | apply IsS44.set_1 | apply IsS44.set_2) | exact HI135.out)); (case side2 => repeat (first | (with_reducible first | exact HB.out | apply uL | apply uE | apply uK | refine uM ?_ (IsS44.ge HI135.out)) | exact HB.out)); rintro e w35 ⟨rfl, hi, hb, hk⟩; refine ⟨_, rfl, ?_⟩; replace HB := uD (hb); replace HI135 := uD (hi); (try clear hb); (try clear hb2); (try clear hk); (try clear hi)))
             go_roundg k5
             case measure => have := HJ4.out; have := HK2.out; have := HJ12.out; have := HJ16.out; have := HK5.out; omega
             case rel => exact ⟨(x5_5), (wrap64 (x6_2 + 1)), (t156), (t157), (by first | rfl | (simp; done) | (simp [*]; done)), (by first | rfl | (simp; done) | (simp [*]; done)), H', ⟨by have := HJ4.out; have := HK2.out; have := HJ12.out; have := HJ16.out; have := HK5.out; omega⟩, ⟨by repeat (first | (with_reducible first | exact HI135.out | apply IsS44.alloc | apply IsS44.drewN | apply IsS44.drew | apply IsS44.set_1 | apply IsS44.set_2) | exact HI135.out)⟩, ⟨by repeat (first | (with_reducible first | exact HB.out | apply uL | apply uE | apply uK | refine uM ?_ (IsS44.ge HI135.out)) | exact HB.out)⟩⟩
     ·rw [if_neg c12] at H
      have c12b0 : decide (x6_2 < x4_4) = false := decide_eq_false c12
      clear c12
      replace H := Option.bind_eq_some_iff.mp H
      obtain ⟨⟨t164, t165, t166⟩, A360, H⟩ := H
      replace H : (if t164 = 0 then ((spec_l01Pick.f t132 t165 t166 (([(⟨#[32]⟩ : ByteArray), (⟨#[32, 32]⟩ : ByteArray), (⟨#[9]⟩ : ByteArray), (⟨#[10]⟩ : ByteArray), (⟨#[127]⟩ : ByteArray), (⟨#[233]⟩ : ByteArray)] : List ByteArray))).bind fun bt170 => (if x5_2.size + bt170.1.size ≤ 9223372036854775807 then (some (x5_2 ++ bt170.1)) else (none))) else (if t164 = 1 then (if (x5_2.size : Int) < 600 then ((spec_l01Below.f t132 t165 t166 2).bind fun bt173 => ((spec_l01Long.f k2 (wrap64 ((wrap64 (600 - (x5_2.size : Int))) + bt173.1)) 32).bind fun t176 => (if x5_2.size + t176.size ≤ 9223372036854775807 then (some (x5_2 ++ t176)) else (none)))) else (some x5_2)) else (some x5_2))) = some r := H
      have A36 := uD A360
      clear A360
      by_cases c37 : t164 = 0
      ·rw [if_pos c37] at H
       have c37b0 : (t164 == 0) = true := beq_iff_eq.mpr c37
       have c37b1 : (t164 != 0) = false := bne_eq_false_iff_eq.mpr c37
       clear c37
       obtain ⟨y167, hy167⟩ : ∃ y_ : List ByteArray, y_ = (([(⟨#[32]⟩ : ByteArray), (⟨#[32, 32]⟩ : ByteArray), (⟨#[9]⟩ : ByteArray), (⟨#[10]⟩ : ByteArray), (⟨#[127]⟩ : ByteArray), (⟨#[233]⟩ : ByteArray)] : List ByteArray)) := ⟨_, rfl⟩
       replace H : ((spec_l01Pick.f t132 t165 t166 y167).bind fun bt170 => (if x5_2.size + bt170.1.size ≤ 9223372036854775807 then (some (x5_2 ++ bt170.1)) else (none))) = some r := by first | (rw [hy167]; with_reducible exact H) | (have H2_ := (Option.bind_some _ _).symm.trans H; rw [hy167]; with_reducible exact H2_) | (have H2_ := (Option.bind_some _ _).symm.trans H; with_reducible exact H2_) | with_reducible exact H | (rw [hy167]; exact H) | exact H
       have Ny167 := uD hy167
       clear hy167
       replace H := Option.bind_eq_some_iff.mp H
       obtain ⟨⟨t170, t171, t172⟩, A380, H⟩ := H
       replace H : (if x5_2.size + t170.size ≤ 9223372036854775807 then (some (x5_2 ++ t170)) else (none)) = some r := H
       have A38 := uD A380
       clear A380
       by_cases c39 : x5_2.size + t170.size ≤ 9223372036854775807
       ·rw [if_pos c39] at H
        have c39b0 := eq_true c39
        have c39b1 : decide (x5_2.size + t170.size ≤ 9223372036854775807) = true := decide_eq_true c39
        try have c39b2 : (9223372036854775807 < x5_2.size + t170.size) = False := eq_false (Nat.not_lt.2 c39)
        obtain rfl := Option.some.inj H
        go_wp2_with (first | ((with_reducible refine gate_callee (f := 21) rfl ?_); refine goesL_ (some 52) rfl rfl Tryd.func21 (by kernel_rfl) rfl #[.pointer (some ⟨g135, 0, none⟩), .int .i64 12] rfl (by (try simp only [List.map_toArray, List.map_cons, List.map_nil]); first | done | rfl | (simp only [List.length_drop, List.length_take]; rfl)) ?_; (with_reducible refine (spec_l01Below.calls g135 t132 x136001_2 x136002_2 12 t164 t165 t166 w _ ?side1 ?side2 A36.out).mono ?_); (case side1 => repeat (first | (with_reducible first | exact HI135.out | apply IsS44.alloc | apply IsS44.drewN | apply IsS44.drew | apply IsS44.set_1 | apply IsS44.set_2) | exact HI135.out)); (case side2 => repeat (first | (with_reducible first | exact HB.out | apply uL | apply uE | apply uK | refine uM ?_ (IsS44.ge HI135.out)) | exact HB.out)); rintro e w40 ⟨rfl, hi, hb, hk⟩; refine ⟨_, rfl, ?_⟩; replace HB := uD (hb); replace HI135 := uD (hi); (try clear hb); (try clear hb2); (try clear hk); (try clear hi)) | ((with_reducible refine gate_dst (N := 57) rfl ?_); refine Kd.R_lit Kd.string _ 9 ?hg (N := 57) ?hd (xs := ([(⟨#[32]⟩ : ByteArray), (⟨#[32, 32]⟩ : ByteArray), (⟨#[9]⟩ : ByteArray), (⟨#[10]⟩ : ByteArray), (⟨#[127]⟩ : ByteArray), (⟨#[233]⟩ : ByteArray)] : List ByteArray)) (inner := [.string (⟨#[32]⟩ : ByteArray), .string (⟨#[32, 32]⟩ : ByteArray), .string (⟨#[9]⟩ : ByteArray), .string (⟨#[10]⟩ : ByteArray), .string (⟨#[127]⟩ : ByteArray), .string (⟨#[233]⟩ : ByteArray)]) (ok := fun _ => True) (okp := fun _ => True) ?hr ?hp (fun _ hk => hk) trivial (Below.refl _ _) (Nat.le_refl _) (by simp) ?_; (case hd => rfl); (case hg => rfl); (case hr => first | (go_simp; done) | (go_simp; rfl)); (case hp => exact (Reps.one (show Kd.M Kd.string _ _ _ (⟨#[32]⟩ : ByteArray) [.string (⟨#[32]⟩ : ByteArray)] from rfl) (Reps.one (show Kd.M Kd.string _ _ _ (⟨#[32, 32]⟩ : ByteArray) [.string (⟨#[32, 32]⟩ : ByteArray)] from rfl) (Reps.one (show Kd.M Kd.string _ _ _ (⟨#[9]⟩ : ByteArray) [.string (⟨#[9]⟩ : ByteArray)] from rfl) (Reps.one (show Kd.M Kd.string _ _ _ (⟨#[10]⟩ : ByteArray) [.string (⟨#[10]⟩ : ByteArray)] from rfl) (Reps.one (show Kd.M Kd.string _ _ _ (⟨#[127]⟩ : ByteArray) [.string (⟨#[127]⟩ : ByteArray)] from rfl) (Reps.one (show Kd.M Kd.string _ _ _ (⟨#[233]⟩ : ByteArray) [.string (⟨#[233]⟩ : ByteArray)] from rfl) (Reps.none _ _)))))))); intro v168 w41 ho42 hb hg_ hnew_; clear hg_ hnew_; (first | rw [← Ny167.out] at ho42 | (simp only [Int.reduceToNat] at ho42; rw [← Ny167.out] at ho42)); have HO169 := uD (Kd.R_lower ho42 (uN (by repeat (first | (with_reducible first | exact HB.out | apply uL | apply uE | apply uK | refine uM ?_ (IsS44.ge HI135.out)) | exact HB.out)))); replace HB := uD (uO (by repeat (first | (with_reducible first | exact HB.out | apply uL | apply uE | apply uK | refine uM ?_ (IsS44.ge HI135.out)) | exact HB.out)) hb); replace HI135 := uD (IsS44.below (by repeat (first | (with_reducible first | exact HI135.out | apply IsS44.alloc | apply IsS44.drewN | apply IsS44.drew | apply IsS44.set_1 | apply IsS44.set_2) | exact HI135.out)) hb); clear hb ho42; obtain ⟨Ao43, co43, eo43⟩ := Kd.R_slice HO169.out; subst eo43) | ((with_reducible refine gate_callee (f := 24) rfl ?_); refine goesL_ (some 58) rfl rfl Tryd.func24 (by kernel_rfl) rfl #[.pointer (some ⟨g135, 0, none⟩), .slice Ao43 y167.length co43] rfl (by (try simp only [List.map_toArray, List.map_cons, List.map_nil]); first | done | rfl | (simp only [List.length_drop, List.length_take]; rfl)) ?_; (with_reducible refine (spec_l01Pick.calls g135 t132 t165 t166 _ _ y167 t170 t171 t172 w _ ?side1 ?side2 ?side3 ?side4 ?side5 A38.out).mono ?_); (case side1 => repeat (first | (with_reducible first | exact HI135.out | apply IsS44.alloc | apply IsS44.drewN | apply IsS44.drew | apply IsS44.set_1 | apply IsS44.set_2) | exact HI135.out)); (case side2 => repeat (first | (with_reducible first | exact HB.out | apply uL | apply uE | apply uK | refine uM ?_ (IsS44.ge HI135.out)) | exact HB.out)); (case side3 => repeat (first | exact (Kd.R_reads' HO169.out).2.2 | (with_reducible refine Kd.C_alloc ?_ _) | (with_reducible refine Kd.C_drewN ?_ _) | (with_reducible refine Kd.C_drew ?_))); (case side4 => exact (Kd.R_reads' HO169.out).2.1); (case side5 => exact far_slice (IsS44.own_ne HI135.out HO169.out (by decide))); rintro e w44 ⟨rfl, hi, hb, hk⟩; refine ⟨_, rfl, ?_⟩; replace HO169 := uD (uX (Kd.R_keep (IsS44.apart (show IsS44 w _ g135 t132 t165 t166 from by repeat (first | (with_reducible first | exact HI135.out | apply IsS44.alloc | apply IsS44.drewN | apply IsS44.drew | apply IsS44.set_1 | apply IsS44.set_2) | exact HI135.out)) (pr HO169) (by decide)) hk (fun _ h => h.2)) (fun _ h => h.1)); replace HB := uD (hb); replace HI135 := uD (hi); (try clear hb); (try clear hb2); (try clear hk); (try clear hi)))
        go_ret
        exact ⟨by first | rfl | (simp [errW_none, errW_some] <;> rfl) | (simp [*, errW_none, errW_some] <;> rfl), by repeat (first | (with_reducible first | exact HB.out | apply uL | apply uE | apply uK | refine uM ?_ (IsS44.ge HI135.out)) | exact HB.out)⟩
       ·rw [if_neg c39] at H
        exact absurd H (by simp)
      ·rw [if_neg c37] at H
       have c37b0 : (t164 == 0) = false := beq_eq_false_iff_ne.mpr c37
       have c37b1 : (t164 != 0) = true := bne_iff_ne.mpr c37
       by_cases c45 : t164 = 1
       ·rw [if_pos c45] at H
        have c45b0 : (t164 == 1) = true := beq_iff_eq.mpr c45
        have c45b1 : (t164 != 1) = false := bne_eq_false_iff_eq.mpr c45
        clear c45
        by_cases c46 : (x5_2.size : Int) < 600
        ·rw [if_pos c46] at H
         have c46b0 : decide ((x5_2.size : Int) < 600) = true := decide_eq_true c46
         have c46b1 : decide (x5_2.size < 600) = true := decide_eq_true (by omega)
         clear c46
         replace H := Option.bind_eq_some_iff.mp H
         obtain ⟨⟨t173, t174, t175⟩, A470, H⟩ := H
         replace H : ((spec_l01Long.f k2 (wrap64 ((wrap64 (600 - (x5_2.size : Int))) + t173)) 32).bind fun t176 => (if x5_2.size + t176.size ≤ 9223372036854775807 then (some (x5_2 ++ t176)) else (none))) = some r := H
         have A47 := uD A470
         clear A470
         replace H := Option.bind_eq_some_iff.mp H
         obtain ⟨t176, A480, H⟩ := H
         replace H : (if x5_2.size + t176.size ≤ 9223372036854775807 then (some (x5_2 ++ t176)) else (none)) = some r := H
         have A48 := uD A480
         clear A480
         by_cases c49 : x5_2.size + t176.size ≤ 9223372036854775807
         ·rw [if_pos c49] at H
          have c49b0 := eq_true c49
          have c49b1 : decide (x5_2.size + t176.size ≤ 9223372036854775807) = true := decide_eq_true c49
          try have c49b2 : (9223372036854775807 < x5_2.size + t176.size) = False := eq_false (Nat.not_lt.2 c49)
          obtain rfl := Option.some.inj H
          go_wp2_with (first | ((with_reducible refine gate_callee (f := 21) rfl ?_); refine goesL_ (some 52) rfl rfl Tryd.func21 (by kernel_rfl) rfl #[.pointer (some ⟨g135, 0, none⟩), .int .i64 12] rfl (by (try simp only [List.map_toArray, List.map_cons, List.map_nil]); first | done | rfl | (simp only [List.length_drop, List.length_take]; rfl)) ?_; (with_reducible refine (spec_l01Below.calls g135 t132 x136001_2 x136002_2 12 t164 t165 t166 w _ ?side1 ?side2 A36.out).mono ?_); (case side1 => repeat (first | (with_reducible first | exact HI135.out | apply IsS44.alloc | apply IsS44.drewN | apply IsS44.drew | apply IsS44.set_1 | apply IsS44.set_2) | exact HI135.out)); (case side2 => repeat (first | (with_reducible first | exact HB.out | apply uL | apply uE | apply uK | refine uM ?_ (IsS44.ge HI135.out)) | exact HB.out)); rintro e w50 ⟨rfl, hi, hb, hk⟩; refine ⟨_, rfl, ?_⟩; replace HB := uD (hb); replace HI135 := uD (hi); (try clear hb); (try clear hb2); (try clear hk); (try clear hi)) | ((with_reducible refine gate_callee (f := 21) rfl ?_); refine goesL_ (some 70) rfl rfl Tryd.func21 (by kernel_rfl) rfl #[.pointer (some ⟨g135, 0, none⟩), .int .i64 2] rfl (by (try simp only [List.map_toArray, List.map_cons, List.map_nil]); first | done | rfl | (simp only [List.length_drop, List.length_take]; rfl)) ?_; (with_reducible refine (spec_l01Below.calls g135 t132 t165 t166 2 t173 t174 t175 w _ ?side1 ?side2 A47.out).mono ?_); (case side1 => repeat (first | (with_reducible first | exact HI135.out | apply IsS44.alloc | apply IsS44.drewN | apply IsS44.drew | apply IsS44.set_1 | apply IsS44.set_2) | exact HI135.out)); (case side2 => repeat (first | (with_reducible first | exact HB.out | apply uL | apply uE | apply uK | refine uM ?_ (IsS44.ge HI135.out)) | exact HB.out)); rintro e w51 ⟨rfl, hi, hb, hk⟩; refine ⟨_, rfl, ?_⟩; replace HB := uD (hb); replace HI135 := uD (hi); (try clear hb); (try clear hb2); (try clear hk); (try clear hi)) | ((with_reducible refine gate_callee (f := 20) rfl ?_); refine goesL_ (some 72) rfl rfl Tryd.func20 (by kernel_rfl) rfl #[.int .i64 (wrap64 ((wrap64 (600 - (x5_2.size : Int))) + t173)), .int .u8 32] rfl (by (try simp only [List.map_toArray, List.map_cons, List.map_nil]); first | done | (show #[Value.int _ _, Value.int _ _] = _; simp only [Array.mk.injEq, List.cons.injEq, Value.int.injEq, and_true, true_and]; unfold wrap64; omega) | rfl | (simp only [List.length_drop, List.length_take]; rfl)) ?_; (with_reducible refine (spec_l01Long.calls k2 (wrap64 ((wrap64 (600 - (x5_2.size : Int))) + t173)) 32 t176 _ A48.out).mono ?_); rintro e w52 ⟨rfl, hb⟩; refine ⟨_, rfl, ?_⟩; replace HB := uD (uO (by repeat (first | (with_reducible first | exact HB.out | apply uL | apply uE | apply uK | refine uM ?_ (IsS44.ge HI135.out)) | exact HB.out)) hb); replace HI135 := uD (IsS44.below (by repeat (first | (with_reducible first | exact HI135.out | apply IsS44.alloc | apply IsS44.drewN | apply IsS44.drew | apply IsS44.set_1 | apply IsS44.set_2) | exact HI135.out)) hb); (try clear hb); (try clear hb2); (try clear hk); (try clear hi)))
          go_ret
          exact ⟨by first | rfl | (simp [errW_none, errW_some] <;> rfl) | (simp [*, errW_none, errW_some] <;> rfl), by repeat (first | (with_reducible first | exact HB.out | apply uL | apply uE | apply uK | refine uM ?_ (IsS44.ge HI135.out)) | exact HB.out)⟩
         ·rw [if_neg c49] at H
          exact absurd H (by simp)
        ·rw [if_neg c46] at H
         have c46b0 : decide ((x5_2.size : Int) < 600) = false := decide_eq_false c46
         have c46b1 : decide (x5_2.size < 600) = false := decide_eq_false (by omega)
         clear c46
         obtain rfl := Option.some.inj H
         go_wp2_with (first | ((with_reducible refine gate_callee (f := 21) rfl ?_); refine goesL_ (some 52) rfl rfl Tryd.func21 (by kernel_rfl) rfl #[.pointer (some ⟨g135, 0, none⟩), .int .i64 12] rfl (by (try simp only [List.map_toArray, List.map_cons, List.map_nil]); first | done | rfl | (simp only [List.length_drop, List.length_take]; rfl)) ?_; (with_reducible refine (spec_l01Below.calls g135 t132 x136001_2 x136002_2 12 t164 t165 t166 w _ ?side1 ?side2 A36.out).mono ?_); (case side1 => repeat (first | (with_reducible first | exact HI135.out | apply IsS44.alloc | apply IsS44.drewN | apply IsS44.drew | apply IsS44.set_1 | apply IsS44.set_2) | exact HI135.out)); (case side2 => repeat (first | (with_reducible first | exact HB.out | apply uL | apply uE | apply uK | refine uM ?_ (IsS44.ge HI135.out)) | exact HB.out)); rintro e w53 ⟨rfl, hi, hb, hk⟩; refine ⟨_, rfl, ?_⟩; replace HB := uD (hb); replace HI135 := uD (hi); (try clear hb); (try clear hb2); (try clear hk); (try clear hi)))
         go_ret
         exact ⟨by first | rfl | (simp [errW_none, errW_some] <;> rfl) | (simp [*, errW_none, errW_some] <;> rfl), by repeat (first | (with_reducible first | exact HB.out | apply uL | apply uE | apply uK | refine uM ?_ (IsS44.ge HI135.out)) | exact HB.out)⟩
       ·rw [if_neg c45] at H
        have c45b0 : (t164 == 1) = false := beq_eq_false_iff_ne.mpr c45
        have c45b1 : (t164 != 1) = true := bne_iff_ne.mpr c45
        obtain rfl := Option.some.inj H
        go_wp2_with (first | ((with_reducible refine gate_callee (f := 21) rfl ?_); refine goesL_ (some 52) rfl rfl Tryd.func21 (by kernel_rfl) rfl #[.pointer (some ⟨g135, 0, none⟩), .int .i64 12] rfl (by (try simp only [List.map_toArray, List.map_cons, List.map_nil]); first | done | rfl | (simp only [List.length_drop, List.length_take]; rfl)) ?_; (with_reducible refine (spec_l01Below.calls g135 t132 x136001_2 x136002_2 12 t164 t165 t166 w _ ?side1 ?side2 A36.out).mono ?_); (case side1 => repeat (first | (with_reducible first | exact HI135.out | apply IsS44.alloc | apply IsS44.drewN | apply IsS44.drew | apply IsS44.set_1 | apply IsS44.set_2) | exact HI135.out)); (case side2 => repeat (first | (with_reducible first | exact HB.out | apply uL | apply uE | apply uK | refine uM ?_ (IsS44.ge HI135.out)) | exact HB.out)); rintro e w54 ⟨rfl, hi, hb, hk⟩; refine ⟨_, rfl, ?_⟩; replace HB := uD (hb); replace HI135 := uD (hi); (try clear hb); (try clear hb2); (try clear hk); (try clear hi)))
        go_ret
        exact ⟨by first | rfl | (simp [errW_none, errW_some] <;> rfl) | (simp [*, errW_none, errW_some] <;> rfl), by repeat (first | (with_reducible first | exact HB.out | apply uL | apply uE | apply uK | refine uM ?_ (IsS44.ge HI135.out)) | exact HB.out)⟩

end Go.Proofs.YtkfolpcmehmmlaaDoor.PFnFieldsAgain
