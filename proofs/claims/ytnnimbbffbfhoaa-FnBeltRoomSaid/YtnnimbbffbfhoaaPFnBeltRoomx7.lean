-- Written by a program of this session (wip/myprint.py: the kit's print with changes): not by print.sh itself.
import Derived.Test.YtnnimbbffbfhoaaPFnBeltRoomx0
import Derived.Test.YtnnimbbffbfhoaaPFnBeltRoomx4
import Derived.Test.YtnnimbbffbfhoaaPFnBeltRoomx5
import Derived.Test.YtnnimbbffbfhoaaPFnBeltRoomx6
namespace Go.Proofs.Ytnnimbbffbfhoaa.PFnBeltRoom
open Go.RowKit Go.Proofs.YtnnimbbffbfhoaaW.PrintWords Go.Proofs.YtnnimbbffbfhoaaW.PrintLast Go.Proofs.YtnnimbbffbfhoaaW.PrintMore
open Go renaming Act.put → uc
open Go.Proofs.YtnnimbbffbfhoaaW.PrintWords renaming Aside0.mk → uD, pw_below_drewN → uE, blk_alloc → uG, blk_drewN → uH, blk_drew → uJ, below_drew1 → uK, below_alloc → uL, below_set → uM, below_size → uN, below_step → uO, blk_put → uP, Kd.R_drewN → uS, Kd.R_drew → uT, Kd.R_alloc → uU, Kd.R_far → uV, Kd.R_types → uW, Kd.R_mono → uX
open List renaming setIfInBounds_toArray → uA, set_cons_zero → uB, set_cons_succ → uC
attribute [local go_sem] max2_int min2_int max_two min_two max_three min_three max_four min_four   -- for this text's walks alone
set_option linter.unusedVariables false
set_option linter.unusedSimpArgs false

/-! ### impl_RoomFor: function 49 -/
mutual
def impl_RoomFor.j0 : Nat → List Int → Bool → Int → Int → Bool → List (S74) → Option (Int)
 | 0, _, _, _, _, _, _ => none
 | k + 1, x1, x17, x288000, x288001, x288002, x288003 => if x17 = true then (some (-1)) else ((impl_copyBelt.f x288000 x288001 x288002 x288003).bind fun bt290 => (impl_RoomFor.l0 k x1 1 x1 (x1.length : Int) 0 bt290.1 bt290.2.1 bt290.2.2.1 bt290.2.2.2))
def impl_RoomFor.l0 : Nat → List Int → Int → List Int → Int → Int → Int → Int → Bool → List (S74) → Option (Int)
 | 0, _, _, _, _, _, _, _, _, _ => none
 | k + 1, x1, x6, x20, x21, x22, x297000, x297001, x297002, x297003 => if x22 < x21 then (if 0 ≤ x22 then (if x22 < (x20.length : Int) then (impl_RoomFor.l1 k x1 x6 x22 (rd x20 x22) x20 x21 x22 x297000 x297001 x297002 x297003) else (none)) else (none)) else (some (x1.length : Int))
def impl_RoomFor.l1 : Nat → List Int → Int → Int → Int → List Int → Int → Int → Int → Int → Bool → List (S74) → Option (Int)
 | 0, _, _, _, _, _, _, _, _, _, _, _ => none
 | k + 1, x1, x6, x7, x8, x20, x21, x22, x297000, x297001, x297002, x297003 => (impl_isOn.f x297003 x6).bind fun t298 => (if t298 = true then (impl_RoomFor.l1 k x1 (wrap64 (x6 + 1)) x7 x8 x20 x21 x22 x297000 x297001 x297002 x297003) else ((impl_pressed.f k x297000 x297001 x297002 x297003).bind fun t299 => ((impl_Enter.f k x297000 x297001 x297002 t299 x6 x8).bind fun bt300 => (if bt300.2.2.2.2 = true then (impl_RoomFor.l0 k x1 x6 x20 x21 (wrap64 (x22 + 1)) bt300.1 bt300.2.1 bt300.2.2.1 bt300.2.2.2.1) else (some x7)))))
end
def impl_RoomFor.f (k : Nat) (a0_0 : Int) (a0_1 : Int) (a0_2 : Bool) (l0_3 : List (S74)) (l1 : List Int) : Option (Int) := (impl_BeltOk.f k a0_0 a0_1 a0_2 l0_3).bind fun t288 => (if t288 = true then ((containsInts.f l1 ()).bind fun t289 => (impl_RoomFor.j0 k l1 t289 a0_0 a0_1 a0_2 l0_3)) else (impl_RoomFor.j0 k l1 true a0_0 a0_1 a0_2 l0_3))
theorem impl_RoomFor.mono_l : ∀ k, (∀ y0 y1 y2 y3 y4 y5, LeO (impl_RoomFor.j0 k y0 y1 y2 y3 y4 y5) (impl_RoomFor.j0 (k + 1) y0 y1 y2 y3 y4 y5)) ∧ (∀ y0 y1 y2 y3 y4 y5 y6 y7 y8, LeO (impl_RoomFor.l0 k y0 y1 y2 y3 y4 y5 y6 y7 y8) (impl_RoomFor.l0 (k + 1) y0 y1 y2 y3 y4 y5 y6 y7 y8)) ∧ (∀ y0 y1 y2 y3 y4 y5 y6 y7 y8 y9 y10, LeO (impl_RoomFor.l1 k y0 y1 y2 y3 y4 y5 y6 y7 y8 y9 y10) (impl_RoomFor.l1 (k + 1) y0 y1 y2 y3 y4 y5 y6 y7 y8 y9 y10))
 | 0 => ⟨fun _ _ _ _ _ _ r h => by simp [impl_RoomFor.j0] at h, fun _ _ _ _ _ _ _ _ _ r h => by simp [impl_RoomFor.l0] at h, fun _ _ _ _ _ _ _ _ _ _ _ r h => by simp [impl_RoomFor.l1] at h⟩
 | k + 1 => by
  obtain ⟨ih0, ih1, ih2⟩ := impl_RoomFor.mono_l k
  refine ⟨?_, ?_, ?_⟩
  ·intro y0 y1 y2 y3 y4 y5
   unfold impl_RoomFor.j0
   repeat' first
   | (with_reducible exact ih0 _ _ _ _ _ _)
   | (with_reducible exact ih1 _ _ _ _ _ _ _ _ _)
   | (with_reducible exact ih2 _ _ _ _ _ _ _ _ _ _ _)
   | (with_reducible exact impl_BeltOk.mono _ _ _ _ _)
   | (with_reducible exact impl_Enter.mono _ _ _ _ _ _ _)
   | (with_reducible exact impl_pressed.mono _ _ _ _ _)
   | (with_reducible exact LeO.refl _)
   | (with_reducible exact LeO.none _)
   | (with_reducible refine LeO.ite ?_ ?_)
   | (with_reducible refine LeO.bind ?_ (fun _ => ?_))
   | exact ih0 _ _ _ _ _ _
   | exact ih1 _ _ _ _ _ _ _ _ _
   | exact ih2 _ _ _ _ _ _ _ _ _ _ _
   | exact impl_BeltOk.mono _ _ _ _ _
   | exact impl_Enter.mono _ _ _ _ _ _ _
   | exact impl_pressed.mono _ _ _ _ _
   | exact LeO.none _
   | refine LeO.ite ?_ ?_
   | refine LeO.bind ?_ (fun _ => ?_)
  ·intro y0 y1 y2 y3 y4 y5 y6 y7 y8
   unfold impl_RoomFor.l0
   repeat' first
   | (with_reducible exact ih0 _ _ _ _ _ _)
   | (with_reducible exact ih1 _ _ _ _ _ _ _ _ _)
   | (with_reducible exact ih2 _ _ _ _ _ _ _ _ _ _ _)
   | (with_reducible exact impl_BeltOk.mono _ _ _ _ _)
   | (with_reducible exact impl_Enter.mono _ _ _ _ _ _ _)
   | (with_reducible exact impl_pressed.mono _ _ _ _ _)
   | (with_reducible exact LeO.refl _)
   | (with_reducible exact LeO.none _)
   | (with_reducible refine LeO.ite ?_ ?_)
   | (with_reducible refine LeO.bind ?_ (fun _ => ?_))
   | exact ih0 _ _ _ _ _ _
   | exact ih1 _ _ _ _ _ _ _ _ _
   | exact ih2 _ _ _ _ _ _ _ _ _ _ _
   | exact impl_BeltOk.mono _ _ _ _ _
   | exact impl_Enter.mono _ _ _ _ _ _ _
   | exact impl_pressed.mono _ _ _ _ _
   | exact LeO.none _
   | refine LeO.ite ?_ ?_
   | refine LeO.bind ?_ (fun _ => ?_)
  ·intro y0 y1 y2 y3 y4 y5 y6 y7 y8 y9 y10
   unfold impl_RoomFor.l1
   repeat' first
   | (with_reducible exact ih0 _ _ _ _ _ _)
   | (with_reducible exact ih1 _ _ _ _ _ _ _ _ _)
   | (with_reducible exact ih2 _ _ _ _ _ _ _ _ _ _ _)
   | (with_reducible exact impl_BeltOk.mono _ _ _ _ _)
   | (with_reducible exact impl_Enter.mono _ _ _ _ _ _ _)
   | (with_reducible exact impl_pressed.mono _ _ _ _ _)
   | (with_reducible exact LeO.refl _)
   | (with_reducible exact LeO.none _)
   | (with_reducible refine LeO.ite ?_ ?_)
   | (with_reducible refine LeO.bind ?_ (fun _ => ?_))
   | exact ih0 _ _ _ _ _ _
   | exact ih1 _ _ _ _ _ _ _ _ _
   | exact ih2 _ _ _ _ _ _ _ _ _ _ _
   | exact impl_BeltOk.mono _ _ _ _ _
   | exact impl_Enter.mono _ _ _ _ _ _ _
   | exact impl_pressed.mono _ _ _ _ _
   | exact LeO.none _
   | refine LeO.ite ?_ ?_
   | refine LeO.bind ?_ (fun _ => ?_)
theorem impl_RoomFor.mono : ∀ a0 a1 a2 a3 a4 k, LeO (impl_RoomFor.f k a0 a1 a2 a3 a4) (impl_RoomFor.f (k + 1) a0 a1 a2 a3 a4) := by
 intro a0 a1 a2 a3 a4 k
 obtain ⟨ih0, ih1, ih2⟩ := impl_RoomFor.mono_l k
 unfold impl_RoomFor.f
 repeat' first
   | (with_reducible exact ih0 _ _ _ _ _ _)
   | (with_reducible exact ih1 _ _ _ _ _ _ _ _ _)
   | (with_reducible exact ih2 _ _ _ _ _ _ _ _ _ _ _)
   | (with_reducible exact impl_BeltOk.mono _ _ _ _ _)
   | (with_reducible exact impl_Enter.mono _ _ _ _ _ _ _)
   | (with_reducible exact impl_pressed.mono _ _ _ _ _)
   | (with_reducible exact LeO.refl _)
   | (with_reducible exact LeO.none _)
   | (with_reducible refine LeO.ite ?_ ?_)
   | (with_reducible refine LeO.bind ?_ (fun _ => ?_))
   | exact ih0 _ _ _ _ _ _
   | exact ih1 _ _ _ _ _ _ _ _ _
   | exact ih2 _ _ _ _ _ _ _ _ _ _ _
   | exact impl_BeltOk.mono _ _ _ _ _
   | exact impl_Enter.mono _ _ _ _ _ _ _
   | exact impl_pressed.mono _ _ _ _ _
   | exact LeO.none _
   | refine LeO.ite ?_ ?_
   | refine LeO.bind ?_ (fun _ => ?_)
set_option maxHeartbeats 8000000 in
set_option maxRecDepth 100000 in
theorem impl_RoomFor.calls (k : Nat) (a0_0 : Int) (a0_1 : Int) (a0_2 : Bool) (A0_3 : Option Addr) (c0_3 : Nat) (l0_3 : List (S74)) (A1 : Option Addr) (c1 : Nat) (l1 : List Int) (r : Int) (w : World) (hr0_3 : Kd.C k74 w A0_3 l0_3.length l0_3) (hc0_3 : l0_3.length ≤ c0_3) (hr1 : Kd.C (Kd.int .i64) w A1 l1.length l1) (hc1 : l1.length ≤ c1) (h : impl_RoomFor.f k a0_0 a0_1 a0_2 l0_3 l1 = some r) :
  Calls Try.prog 49 #[.agg #[.int .i64 a0_0, .int .i64 a0_1, .bool a0_2, .slice A0_3 l0_3.length c0_3], .slice A1 l1.length c1] w fun e w' => e = .returned (.int .i64 r) ∧ Below w.heap.size w w' := by
 have hu63 := Try.underlying63
 have HR0_3 := uD hr0_3
 have HC0_3 := uD hc0_3
 clear hr0_3 hc0_3
 have HR1 := uD hr1
 have HC1 := uD hc1
 clear hr1 hc1
 have HB := uD (Below.refl w.heap.size w)
 have H : ((impl_BeltOk.f k a0_0 a0_1 a0_2 l0_3).bind fun t288 => (if t288 = true then ((containsInts.f l1 ()).bind fun t289 => (impl_RoomFor.j0 k l1 t289 a0_0 a0_1 a0_2 l0_3)) else (impl_RoomFor.j0 k l1 true a0_0 a0_1 a0_2 l0_3))) = some r := h
 clear h
 have HC3 := uD H
 clear H
 go_enter Try.func49, Try.ntmps49
 go_upto_region 1 with (first | ((with_reducible refine gate_dst (N := 2) rfl ?_); refine box_event ?hg (N := 2) ?hd (cs := #[.int .i64 a0_0, .int .i64 a0_1, .bool a0_2, .slice A0_3 l0_3.length c0_3]) (t := 63) ?hr ?_; (case hd => rfl); (case hg => rfl); (case hr => first | (go_simp; done) | (go_simp; rfl)); intro gb287 hg w4 hbox hb; have BK287 := uD (hbox); have GW287 := uD ((by rw [hg]; exact (uN (pb HB)) : w.heap.size ≤ gb287)); have GE287 := uD ((by rw [hg]; exact (uN (pb HB)) : w.heap.size ≤ gb287)); replace HB := uD (uO (pb HB) hb); clear hb hbox hg))
 (try simp only [uc, uA, uB, uC])
 go_cut [17] (fun v17 wc => ∃ (kq : Nat) (x17_2 : Bool), v17 = .bool x17_2 ∧ Aside0 (impl_RoomFor.j0 kq l1 x17_2 a0_0 a0_1 a0_2 l0_3 = some r) ∧ Aside0 (kq ≤ k) ∧ Aside0 (wc.heap[gb287]? = some (.cells #[.int .i64 a0_0, .int .i64 a0_1, .bool a0_2, (.slice A0_3 l0_3.length c0_3)] 63 (0, 0))) ∧ Aside0 (Below w.heap.size w wc))
 case first =>
  have H := HC3.out
  clear HC3
  replace H := Option.bind_eq_some_iff.mp H
  obtain ⟨t288, A50, H⟩ := H
  replace H : (if t288 = true then ((containsInts.f l1 ()).bind fun t289 => (impl_RoomFor.j0 k l1 t289 a0_0 a0_1 a0_2 l0_3)) else (impl_RoomFor.j0 k l1 true a0_0 a0_1 a0_2 l0_3)) = some r := H
  have A5 := uD A50
  clear A50
  by_cases c6 : t288 = true
  ·subst c6
   have H1 : ((containsInts.f l1 ()).bind fun t289 => (impl_RoomFor.j0 k l1 t289 a0_0 a0_1 a0_2 l0_3)) = some r := by rw [if_pos rfl] at H; first | done | exact H
   clear H
   have H := H1
   clear H1
   replace H := Option.bind_eq_some_iff.mp H
   obtain ⟨t289, A70, H⟩ := H
   replace H : (impl_RoomFor.j0 k l1 t289 a0_0 a0_1 a0_2 l0_3) = some r := H
   have A7 := uD A70
   clear A70
   have H' := uD H
   clear H
   obtain ⟨hcz8_0, hcz8_1, hcz8_2, hcz8_3, hfz8_0, hfz8_1, hfz8_2, hfz8_3⟩ := cz4 BK287
   go_wp2_with (first | ((with_reducible refine gate_callee (f := 78) rfl ?_); refine goesL_ (some 12) rfl rfl Try.func78 (by kernel_rfl) rfl #[.agg #[.int .i64 a0_0, .int .i64 a0_1, .bool a0_2, .slice A0_3 l0_3.length c0_3]] rfl (by (try simp only [List.map_toArray, List.map_cons, List.map_nil]); first | done | rfl | (simp only [List.length_drop, List.length_take]; rfl)) ?_; (with_reducible refine (impl_BeltOk.calls k a0_0 a0_1 a0_2 _ _ l0_3 true _ ?side1 ?side2 A5.out).mono ?_); (case side1 => repeat (first | exact (Kd.C_below HR0_3.out HB.out) | (with_reducible refine Kd.C_alloc ?_ _) | (with_reducible refine Kd.C_drewN ?_ _) | (with_reducible refine Kd.C_drew ?_))); (case side2 => exact HC0_3.out); rintro e w9 ⟨rfl, hb⟩; refine ⟨_, rfl, ?_⟩; replace BK287 := uD (blk_below (pk BK287) hb); replace HB := uD (uO (pb HB) hb); (try clear hb); (try clear hb2); (try clear hk); (try clear hi)) | (go_at_call 90; (with_reducible refine (containsInts.calls _ _ l1 () t289 _ ?side1 ?side2 A7.out).mono ?_); (case side1 => repeat (first | exact (Kd.C_below HR1.out HB.out) | (with_reducible refine Kd.C_alloc ?_ _) | (with_reducible refine Kd.C_drewN ?_ _) | (with_reducible refine Kd.C_drew ?_))); (case side2 => exact HC1.out); rintro e w10 ⟨rfl, hb⟩; replace BK287 := uD (blk_below (pk BK287) hb); replace HB := uD (uO (pb HB) hb); (try clear hb); (try clear hb2); (try clear hk); (try clear hi)))
   go_meet
   case rel => exact ⟨_, (t289), (by first | rfl | (simp; done) | (simp [*]; done)), H', ⟨by first | omega | exact Nat.le_refl _⟩, ⟨by (with_reducible repeat first|apply uH|apply uJ|apply uG); exact BK287.out⟩, ⟨pb HB⟩⟩
  ·replace c6 := Bool.eq_false_iff.mpr c6
   subst c6
   have H1 : (impl_RoomFor.j0 k l1 true a0_0 a0_1 a0_2 l0_3) = some r := by rw [if_neg (show ¬ (false = true) by decide)] at H; first | done | exact H
   clear H
   have H := H1
   clear H1
   have H' := uD H
   clear H
   obtain ⟨hcz11_0, hcz11_1, hcz11_2, hcz11_3, hfz11_0, hfz11_1, hfz11_2, hfz11_3⟩ := cz4 BK287
   go_wp2_with (first | ((with_reducible refine gate_callee (f := 78) rfl ?_); refine goesL_ (some 12) rfl rfl Try.func78 (by kernel_rfl) rfl #[.agg #[.int .i64 a0_0, .int .i64 a0_1, .bool a0_2, .slice A0_3 l0_3.length c0_3]] rfl (by (try simp only [List.map_toArray, List.map_cons, List.map_nil]); first | done | rfl | (simp only [List.length_drop, List.length_take]; rfl)) ?_; (with_reducible refine (impl_BeltOk.calls k a0_0 a0_1 a0_2 _ _ l0_3 false _ ?side1 ?side2 A5.out).mono ?_); (case side1 => repeat (first | exact (Kd.C_below HR0_3.out HB.out) | (with_reducible refine Kd.C_alloc ?_ _) | (with_reducible refine Kd.C_drewN ?_ _) | (with_reducible refine Kd.C_drew ?_))); (case side2 => exact HC0_3.out); rintro e w12 ⟨rfl, hb⟩; refine ⟨_, rfl, ?_⟩; replace BK287 := uD (blk_below (pk BK287) hb); replace HB := uD (uO (pb HB) hb); (try clear hb); (try clear hb2); (try clear hk); (try clear hi)))
   go_meet
   case rel => exact ⟨_, (true), (by first | rfl | (simp; done) | (simp [*]; done)), H', ⟨by first | omega | exact Nat.le_refl _⟩, ⟨by (with_reducible repeat first|apply uH|apply uJ|apply uG); exact BK287.out⟩, ⟨pb HB⟩⟩
 case rest =>
  clear HC3
  try clear c1
  try clear p2
  try clear c4
  try clear c6
  try clear c7
  try clear hcz11_0
  try clear hcz11_1
  try clear hcz11_2
  try clear hcz11_3
  try clear hcz8_0
  try clear hcz8_1
  try clear hcz8_2
  try clear hcz8_3
  try clear hfz11_0
  try clear hfz11_1
  try clear hfz11_2
  try clear hfz11_3
  try clear hfz8_0
  try clear hfz8_1
  try clear hfz8_2
  try clear hfz8_3
  obtain ⟨kq, x17_2, rfl, HA, HJ2, BK287, HB⟩ := hcut
  cases kq with
  | zero => exact absurd HA.out (by simp [impl_RoomFor.j0])
  | succ kj2 =>
   have H := HA.out
   clear HA
   simp only [impl_RoomFor.j0] at H
   by_cases c13 : x17_2 = true
   ·subst c13
    have H1 : (some (-1)) = some r := by rw [if_pos rfl] at H; first | done | exact H
    clear H
    have H := H1
    clear H1
    obtain rfl := Option.some.inj H
    go_wp2
    go_ret
    exact ⟨by first | rfl | (simp [errW_none, errW_some] <;> rfl) | (simp [*, errW_none, errW_some] <;> rfl), pb HB⟩
   ·replace c13 := Bool.eq_false_iff.mpr c13
    subst c13
    have H1 : ((impl_copyBelt.f a0_0 a0_1 a0_2 l0_3).bind fun bt290 => (impl_RoomFor.l0 kj2 l1 1 l1 (l1.length : Int) 0 bt290.1 bt290.2.1 bt290.2.2.1 bt290.2.2.2)) = some r := by rw [if_neg (show ¬ (false = true) by decide)] at H; first | done | exact H
    clear H
    have H := H1
    clear H1
    replace H := Option.bind_eq_some_iff.mp H
    obtain ⟨⟨t290, t291, t292, t293⟩, A140, H⟩ := H
    replace H : (impl_RoomFor.l0 kj2 l1 1 l1 (l1.length : Int) 0 t290 t291 t292 t293) = some r := H
    have A14 := uD A140
    clear A140
    have H' := uD H
    clear H
    obtain ⟨hcz15_0, hcz15_1, hcz15_2, hcz15_3, hfz15_0, hfz15_1, hfz15_2, hfz15_3⟩ := cz4 BK287
    go_wp2_with (first | ((with_reducible refine gate_callee (f := 92) rfl ?_); refine goesL_ (some 19) rfl rfl Try.func92 (by kernel_rfl) rfl #[.agg #[.int .i64 a0_0, .int .i64 a0_1, .bool a0_2, .slice A0_3 l0_3.length c0_3]] rfl (by (try simp only [List.map_toArray, List.map_cons, List.map_nil]); first | done | rfl | (simp only [List.length_drop, List.length_take]; rfl)) ?_; (with_reducible refine (impl_copyBelt.calls a0_0 a0_1 a0_2 _ _ l0_3 t290 t291 t292 t293 _ ?side1 ?side2 A14.out).mono ?_); (case side1 => repeat (first | exact (Kd.C_below HR0_3.out HB.out) | (with_reducible refine Kd.C_alloc ?_ _) | (with_reducible refine Kd.C_drewN ?_ _) | (with_reducible refine Kd.C_drew ?_))); (case side2 => exact HC0_3.out); rintro e w16 ⟨v294, rfl, ho0, hb⟩; refine ⟨_, rfl, ?_⟩; have HO295 := uD (Kd.R_lower ho0 (uN (pb HB))); replace BK287 := uD (blk_below (pk BK287) hb); replace HB := uD (uO (pb HB) hb); (try clear hb); (try clear hb2); (try clear hk); (try clear hi); (try clear ho0)) | ((with_reducible refine gate_dst (N := 5) rfl ?_); refine box_event ?hg (N := 5) ?hd (cs := #[.int .i64 0, .int .i64 0, .bool false, .slice none 0 0]) (t := 63) ?hr ?_; (case hd => rfl); (case hg => rfl); (case hr => first | (go_simp; done) | (go_simp; rfl)); intro gb296 hg w17 hbox hb; replace HO295 := uD (Kd.R_below (pr HO295) hb); have BK296 := uD (hbox); have GW296 := uD ((by rw [hg]; exact (uN (pb HB)) : w.heap.size ≤ gb296)); have GE296 := uD ((by rw [hg]; exact (uN (pb HB)) : w.heap.size ≤ gb296)); replace HB := uD (uO (pb HB) hb); have NB287_296 := uD ((by rw [hg]; exact Nat.ne_of_lt (blk_lt (pk BK287)) : gb287 ≠ gb296)); have NB296_287 := uD ((by rw [hg]; exact Nat.ne_of_gt (blk_lt (pk BK287)) : gb296 ≠ gb287)); replace BK287 := uD (blk_below (pk BK287) hb); clear hb hbox hg; have hnb18 := NB296_287.out; have hnc18 := NB287_296.out; obtain ⟨hcz19_0, hcz19_1, hcz19_2, hcz19_3, hfz19_0, hfz19_1, hfz19_2, hfz19_3⟩ := cz4 BK296; obtain ⟨Ao20, co20, eo20⟩ := Kd.R_slice HO295.out; subst eo20))
    go_loopg [6, 22] kj2 (fun kq v6 v22 w' => ∃ (x6_2 : Int) (x22_2 : Int) (x297000_2 : Int) (x297001_2 : Int) (x297002_2 : Bool) (x297003_2 : List (S74)) (u297003 : Value), v6 = .int .i64 x6_2 ∧ v22 = .int .i64 x22_2 ∧ Aside0 (impl_RoomFor.l0 kq l1 x6_2 l1 (l1.length : Int) x22_2 x297000_2 x297001_2 x297002_2 x297003_2 = some r) ∧ Aside0 (kq ≤ kj2) ∧ Aside0 (Kd.R k74 74 w' w.heap.size (fun _ => True) u297003 x297003_2) ∧ Aside0 (w'.heap[gb287]? = some (.cells #[.int .i64 a0_0, .int .i64 a0_1, .bool a0_2, (.slice A0_3 l0_3.length c0_3)] 63 (0, 0))) ∧ Aside0 (w'.heap[gb296]? = some (.cells #[.int .i64 x297000_2, .int .i64 x297001_2, .bool x297002_2, u297003] 63 (0, 0))) ∧ Aside0 (Below w.heap.size w w'))
    case atStart => exact ⟨(1), (0), (t290), (t291), (t292), (t293), (.slice Ao20 t293.length co20), (by first | rfl | (simp; done) | (simp [*]; done)), (by first | rfl | (simp; done) | (simp [*]; done)), H', ⟨Nat.le_refl _⟩, ⟨by (with_reducible repeat (first | apply uU | apply uS | apply uT)); exact uX (uV (p := ⟨gb296, 3, none⟩) (uV (p := ⟨gb296, 2, none⟩) (uV (p := ⟨gb296, 1, none⟩) (uV (p := ⟨gb296, 0, none⟩) (uW HO295.out BK296.out (by decide)) (fun _ hk => hk.2) (.int .i64 t290)) (fun _ hk => hk.2) (.int .i64 t291)) (fun _ hk => hk.2) (.bool t292)) (fun _ hk => hk.2) (.slice Ao20 t293.length co20)) (fun _ hk => trivial)⟩, ⟨by exact ps BK287⟩, ⟨by (with_reducible repeat first|apply uH|apply uJ|apply uG); refine uP (cs := #[.int .i64 t290, .int .i64 t291, .bool t292, .slice none 0 0]) ?_ 3 _ rfl; (with_reducible repeat first|apply uH|apply uJ|apply uG); refine uP (cs := #[.int .i64 t290, .int .i64 t291, .bool false, .slice none 0 0]) ?_ 2 _ rfl; (with_reducible repeat first|apply uH|apply uJ|apply uG); refine uP (cs := #[.int .i64 t290, .int .i64 0, .bool false, .slice none 0 0]) ?_ 1 _ rfl; (with_reducible repeat first|apply uH|apply uJ|apply uG); refine uP (cs := #[.int .i64 0, .int .i64 0, .bool false, .slice none 0 0]) ?_ 0 _ rfl; (with_reducible repeat first|apply uH|apply uJ|apply uG); exact BK296.out⟩, ⟨pb HB⟩⟩
    case round =>
     clear H'
     try clear c1
     try clear p2
     try clear c4
     try clear c6
     try clear c7
     try clear c9
     try clear c13
     try clear c18
     try clear hcz11_0
     try clear hcz11_1
     try clear hcz11_2
     try clear hcz11_3
     try clear hcz15_0
     try clear hcz15_1
     try clear hcz15_2
     try clear hcz15_3
     try clear hcz19_0
     try clear hcz19_1
     try clear hcz19_2
     try clear hcz19_3
     try clear hcz8_0
     try clear hcz8_1
     try clear hcz8_2
     try clear hcz8_3
     try clear hfz11_0
     try clear hfz11_1
     try clear hfz11_2
     try clear hfz11_3
     try clear hfz15_0
     try clear hfz15_1
     try clear hfz15_2
     try clear hfz15_3
     try clear hfz19_0
     try clear hfz19_1
     try clear hfz19_2
     try clear hfz19_3
     try clear hfz8_0
     try clear hfz8_1
     try clear hfz8_2
     try clear hfz8_3
     try clear p2
     obtain ⟨x6_2, x22_2, x297000_2, x297001_2, x297002_2, x297003_2, u297003, rfl, rfl, HA, HK2, HO_297003, BK287, BK296, HB⟩ := hrel
     cases gk with
     | zero => exact absurd HA.out (by simp [impl_RoomFor.l0])
     | succ k2 =>
      have H := HA.out
      clear HA
      simp only [impl_RoomFor.l0] at H
      by_cases c21 : x22_2 < (l1.length : Int)
      ·rw [if_pos c21] at H
       have c21b0 : decide (x22_2 < (l1.length : Int)) = true := decide_eq_true c21
       clear c21
       by_cases c22 : 0 ≤ x22_2
       ·rw [if_pos c22] at H
        have c22b0 : decide (0 ≤ x22_2) = true := decide_eq_true c22
        clear c22
        by_cases c23 : x22_2 < (l1.length : Int)
        ·rw [if_pos c23] at H
         have c23b0 : decide (x22_2 < (l1.length : Int)) = true := decide_eq_true c23
         clear c23
         have H' := uD H
         clear H
         have p297 : 0 ≤ (x22_2 : Int) := of_decide_eq_true (by first | (with_reducible assumption) | assumption)
         have q297 : x22_2 < (l1.length : Int) := of_decide_eq_true (by first | (with_reducible assumption) | assumption)
         obtain ⟨ad297, e297, hx297_0⟩ := Kd.at_int HR1.out x22_2 p297 q297
         cases e297
         replace hx297_0 := (HB.out.cell (World.block_lt_of_cell? w _ hx297_0)).trans hx297_0
         replace p297 := eq_true p297
         replace q297 := eq_true q297
         go_wp2
         go_loopg [6] k2 (fun kq v6 w' => ∃ (x6_3 : Int), v6 = .int .i64 x6_3 ∧ Aside0 (impl_RoomFor.l1 kq l1 x6_3 x22_2 (rd l1 x22_2) l1 (l1.length : Int) x22_2 x297000_2 x297001_2 x297002_2 x297003_2 = some r) ∧ Aside0 (kq ≤ k2) ∧ Aside0 (Kd.R k74 74 w' w.heap.size (fun _ => True) u297003 x297003_2) ∧ Aside0 (w'.heap[gb287]? = some (.cells #[.int .i64 a0_0, .int .i64 a0_1, .bool a0_2, (.slice A0_3 l0_3.length c0_3)] 63 (0, 0))) ∧ Aside0 (w'.heap[gb296]? = some (.cells #[.int .i64 x297000_2, .int .i64 x297001_2, .bool x297002_2, u297003] 63 (0, 0))) ∧ Aside0 (Below w.heap.size w w'))
         case atStart => exact ⟨(x6_2), (by first | rfl | (simp; done) | (simp [*]; done)), H', ⟨Nat.le_refl _⟩, ⟨by (with_reducible repeat (first | apply uU | apply uS | apply uT)); exact HO_297003.out⟩, ⟨by (with_reducible repeat first|apply uH|apply uJ|apply uG); exact BK287.out⟩, ⟨by (with_reducible repeat first|apply uH|apply uJ|apply uG); exact BK296.out⟩, ⟨pb HB⟩⟩
         case round =>
          clear H'
          try clear c1
          try clear c2
          try clear p2
          try clear q2
          try clear hx2
          try clear c4
          try clear c6
          try clear c7
          try clear c9
          try clear c13
          try clear c18
          try clear c21
          try clear c21b0
          try clear c22
          try clear c22b0
          try clear c23
          try clear c23b0
          try clear hcz11_0
          try clear hcz11_1
          try clear hcz11_2
          try clear hcz11_3
          try clear hcz15_0
          try clear hcz15_1
          try clear hcz15_2
          try clear hcz15_3
          try clear hcz19_0
          try clear hcz19_1
          try clear hcz19_2
          try clear hcz19_3
          try clear hcz8_0
          try clear hcz8_1
          try clear hcz8_2
          try clear hcz8_3
          try clear hfz11_0
          try clear hfz11_1
          try clear hfz11_2
          try clear hfz11_3
          try clear hfz15_0
          try clear hfz15_1
          try clear hfz15_2
          try clear hfz15_3
          try clear hfz19_0
          try clear hfz19_1
          try clear hfz19_2
          try clear hfz19_3
          try clear hfz8_0
          try clear hfz8_1
          try clear hfz8_2
          try clear hfz8_3
          try clear hx297_0
          try clear p2
          try clear p297
          try clear q297
          obtain ⟨x6_3, rfl, HA, HK3, HO_297003, BK287, BK296, HB⟩ := hrel
          cases gk with
          | zero => exact absurd HA.out (by simp [impl_RoomFor.l1])
          | succ k3 =>
           have H := HA.out
           clear HA
           simp only [impl_RoomFor.l1] at H
           replace H := Option.bind_eq_some_iff.mp H
           obtain ⟨t298, A240, H⟩ := H
           replace H : (if t298 = true then (impl_RoomFor.l1 k3 l1 (wrap64 (x6_3 + 1)) x22_2 (rd l1 x22_2) l1 (l1.length : Int) x22_2 x297000_2 x297001_2 x297002_2 x297003_2) else ((impl_pressed.f k3 x297000_2 x297001_2 x297002_2 x297003_2).bind fun t299 => ((impl_Enter.f k3 x297000_2 x297001_2 x297002_2 t299 x6_3 (rd l1 x22_2)).bind fun bt300 => (if bt300.2.2.2.2 = true then (impl_RoomFor.l0 k3 l1 x6_3 l1 (l1.length : Int) (wrap64 (x22_2 + 1)) bt300.1 bt300.2.1 bt300.2.2.1 bt300.2.2.2.1) else (some x22_2))))) = some r := H
           have A24 := uD A240
           clear A240
           by_cases c25 : t298 = true
           ·subst c25
            have H1 : (impl_RoomFor.l1 k3 l1 (wrap64 (x6_3 + 1)) x22_2 (rd l1 x22_2) l1 (l1.length : Int) x22_2 x297000_2 x297001_2 x297002_2 x297003_2) = some r := by rw [if_pos rfl] at H; first | done | exact H
            clear H
            have H := H1
            clear H1
            have H' := uD H
            clear H
            have hnb26 := NB296_287.out
            have hnc26 := NB287_296.out
            obtain ⟨hcz27_0, hcz27_1, hcz27_2, hcz27_3, hfz27_0, hfz27_1, hfz27_2, hfz27_3⟩ := cz4 BK296
            obtain ⟨Ao28, co28, eo28⟩ := Kd.R_slice HO_297003.out
            subst eo28
            go_wp2_with (first | ((with_reducible refine gate_callee (f := 93) rfl ?_); refine goesL_ (some 30) rfl rfl Try.func93 (by kernel_rfl) rfl #[.slice Ao28 x297003_2.length co28, .int .i64 x6_3] rfl (by (try simp only [List.map_toArray, List.map_cons, List.map_nil]); first | done | rfl | (simp only [List.length_drop, List.length_take]; rfl)) ?_; (with_reducible refine (impl_isOn.calls _ _ x297003_2 x6_3 true _ ?side1 ?side2 A24.out).mono ?_); (case side1 => repeat (first | exact (Kd.R_reads' HO_297003.out).2.2 | (with_reducible refine Kd.C_alloc ?_ _) | (with_reducible refine Kd.C_drewN ?_ _) | (with_reducible refine Kd.C_drew ?_))); (case side2 => exact (Kd.R_reads' HO_297003.out).2.1); rintro e w29 ⟨rfl, hb⟩; refine ⟨_, rfl, ?_⟩; replace HO_297003 := uD (Kd.R_below (pr HO_297003) hb); replace BK287 := uD (blk_below (pk BK287) hb); replace BK296 := uD (blk_below (pk BK296) hb); replace HB := uD (uO (pb HB) hb); (try clear hb); (try clear hb2); (try clear hk); (try clear hi)))
            go_roundg k3
            case measure => have := HJ2.out; have := HK2.out; have := HK3.out; omega
            case rel => exact ⟨(wrap64 (x6_3 + 1)), (by first | rfl | (simp; done) | (simp [*]; done)), H', ⟨by have := HJ2.out; have := HK2.out; have := HK3.out; omega⟩, ⟨by (with_reducible repeat (first | apply uU | apply uS | apply uT)); exact HO_297003.out⟩, ⟨by (with_reducible repeat first|apply uH|apply uJ|apply uG); exact BK287.out⟩, ⟨by (with_reducible repeat first|apply uH|apply uJ|apply uG); exact BK296.out⟩, ⟨pb HB⟩⟩
           ·replace c25 := Bool.eq_false_iff.mpr c25
            subst c25
            have H1 : ((impl_pressed.f k3 x297000_2 x297001_2 x297002_2 x297003_2).bind fun t299 => ((impl_Enter.f k3 x297000_2 x297001_2 x297002_2 t299 x6_3 (rd l1 x22_2)).bind fun bt300 => (if bt300.2.2.2.2 = true then (impl_RoomFor.l0 k3 l1 x6_3 l1 (l1.length : Int) (wrap64 (x22_2 + 1)) bt300.1 bt300.2.1 bt300.2.2.1 bt300.2.2.2.1) else (some x22_2)))) = some r := by rw [if_neg (show ¬ (false = true) by decide)] at H; first | done | exact H
            clear H
            have H := H1
            clear H1
            replace H := Option.bind_eq_some_iff.mp H
            obtain ⟨t299, A300, H⟩ := H
            replace H : ((impl_Enter.f k3 x297000_2 x297001_2 x297002_2 t299 x6_3 (rd l1 x22_2)).bind fun bt300 => (if bt300.2.2.2.2 = true then (impl_RoomFor.l0 k3 l1 x6_3 l1 (l1.length : Int) (wrap64 (x22_2 + 1)) bt300.1 bt300.2.1 bt300.2.2.1 bt300.2.2.2.1) else (some x22_2))) = some r := H
            have A30 := uD A300
            clear A300
            replace H := Option.bind_eq_some_iff.mp H
            obtain ⟨⟨t300, t301, t302, t303, t306⟩, A310, H⟩ := H
            replace H : (if t306 = true then (impl_RoomFor.l0 k3 l1 x6_3 l1 (l1.length : Int) (wrap64 (x22_2 + 1)) t300 t301 t302 t303) else (some x22_2)) = some r := H
            have A31 := uD A310
            clear A310
            by_cases c32 : t306 = true
            ·subst c32
             have H1 : (impl_RoomFor.l0 k3 l1 x6_3 l1 (l1.length : Int) (wrap64 (x22_2 + 1)) t300 t301 t302 t303) = some r := by rw [if_pos rfl] at H; first | done | exact H
             clear H
             have H := H1
             clear H1
             have H' := uD H
             clear H
             have hnb33 := NB296_287.out
             have hnc33 := NB287_296.out
             obtain ⟨hcz34_0, hcz34_1, hcz34_2, hcz34_3, hfz34_0, hfz34_1, hfz34_2, hfz34_3⟩ := cz4 BK296
             obtain ⟨Ao35, co35, eo35⟩ := Kd.R_slice HO_297003.out
             subst eo35
             go_wp2_with (first | ((with_reducible refine gate_callee (f := 93) rfl ?_); refine goesL_ (some 30) rfl rfl Try.func93 (by kernel_rfl) rfl #[.slice Ao35 x297003_2.length co35, .int .i64 x6_3] rfl (by (try simp only [List.map_toArray, List.map_cons, List.map_nil]); first | done | rfl | (simp only [List.length_drop, List.length_take]; rfl)) ?_; (with_reducible refine (impl_isOn.calls _ _ x297003_2 x6_3 false _ ?side1 ?side2 A24.out).mono ?_); (case side1 => repeat (first | exact (Kd.R_reads' HO_297003.out).2.2 | (with_reducible refine Kd.C_alloc ?_ _) | (with_reducible refine Kd.C_drewN ?_ _) | (with_reducible refine Kd.C_drew ?_))); (case side2 => exact (Kd.R_reads' HO_297003.out).2.1); rintro e w36 ⟨rfl, hb⟩; refine ⟨_, rfl, ?_⟩; replace HO_297003 := uD (Kd.R_below (pr HO_297003) hb); replace BK287 := uD (blk_below (pk BK287) hb); replace BK296 := uD (blk_below (pk BK296) hb); replace HB := uD (uO (pb HB) hb); (try clear hb); (try clear hb2); (try clear hk); (try clear hi); obtain ⟨hcz37_0, hcz37_1, hcz37_2, hcz37_3, hfz37_0, hfz37_1, hfz37_2, hfz37_3⟩ := cz4 BK296) | ((with_reducible refine gate_callee (f := 94) rfl ?_); refine goesL_ (some 34) rfl rfl Try.func94 (by kernel_rfl) rfl #[.agg #[.int .i64 x297000_2, .int .i64 x297001_2, .bool x297002_2, .slice Ao35 x297003_2.length co35]] rfl (by (try simp only [List.map_toArray, List.map_cons, List.map_nil]); first | done | rfl | (simp only [List.length_drop, List.length_take]; rfl)) ?_; (with_reducible refine (impl_pressed.calls k3 x297000_2 x297001_2 x297002_2 (fun k_ => some k_ = (.slice Ao35 x297003_2.length co35 : Value).ownBlock) (.slice Ao35 x297003_2.length co35) x297003_2 t299 w _ ?side1 ?side2 A30.out).mono ?_); (case side1 => repeat (first | (with_reducible first | exact HB.out | apply uL | apply uE | apply uK | refine uM ?_ GE287.out | refine uM ?_ GE296.out) | exact HB.out)); (case side2 => exact Kd.R_tight rfl HO_297003.out); rintro e w38 ⟨rfl, hy0, hb, hkp⟩; refine ⟨_, rfl, ?_⟩; replace BK287 := uD (blk_kept (pk BK287) hkp (fun hs_ => (fun e_ => (Kd.R_ne HO_297003.out BK287.out (by decide)) e_) hs_)); replace BK296 := uD (blk_kept (pk BK296) hkp (fun hs_ => (fun e_ => (Kd.R_ne HO_297003.out BK296.out (by decide)) e_) hs_)); replace HO_297003 := uD (Kd.R_reok rfl hy0 (fun k_ e_ => HO_297003.out.1 k_ e_)); replace HB := uD (hb); (try clear hb); (try clear hkp); (try clear hy0); obtain ⟨hcz39_0, hcz39_1, hcz39_2, hcz39_3, hfz39_0, hfz39_1, hfz39_2, hfz39_3⟩ := cz4 BK296) | ((with_reducible refine gate_callee (f := 52) rfl ?_); refine goesL_ (some 39) rfl rfl Try.func52 (by kernel_rfl) rfl #[.agg #[.int .i64 x297000_2, .int .i64 x297001_2, .bool x297002_2, .slice Ao35 t299.length co35], .int .i64 x6_3, .int .i64 (rd l1 x22_2)] rfl (by (try simp only [List.map_toArray, List.map_cons, List.map_nil]); first | done | (rw [show t299.length = x297003_2.length from (Kd.R_reads' HO_297003.out).1.symm] <;> rfl) | rfl | (simp only [List.length_drop, List.length_take]; rfl)) ?_; (with_reducible refine (impl_Enter.calls k3 x297000_2 x297001_2 x297002_2 _ _ t299 x6_3 (rd l1 x22_2) t300 t301 t302 t303 true _ ?side1 ?side2 A31.out).mono ?_); (case side1 => repeat (first | exact (Kd.R_reads' HO_297003.out).2.2 | (with_reducible refine Kd.C_alloc ?_ _) | (with_reducible refine Kd.C_drewN ?_ _) | (with_reducible refine Kd.C_drew ?_))); (case side2 => rw [show t299.length = x297003_2.length from (Kd.R_reads' HO_297003.out).1.symm]; exact (Kd.R_reads' HO_297003.out).2.1); rintro e w40 ⟨v304, rfl, ho0, hb⟩; refine ⟨_, rfl, ?_⟩; have HO305 := uD (Kd.R_lower (Kd.R_new' ho0 (Kd.R_lt (pr HO_297003))) (uN (pb HB))); replace HO_297003 := uD (Kd.R_elder' (pr HO_297003) (Kd.R_base ho0) hb); replace BK287 := uD (blk_below (pk BK287) hb); replace BK296 := uD (blk_below (pk BK296) hb); replace HB := uD (uO (pb HB) hb); (try clear hb); (try clear hb2); (try clear hk); (try clear hi); (try clear ho0)) | ((with_reducible refine gate_dst (N := 9) rfl ?_); refine box_event ?hg (N := 9) ?hd (cs := #[.int .i64 0, .int .i64 0, .bool false, .slice none 0 0]) (t := 63) ?hr ?_; (case hd => rfl); (case hg => rfl); (case hr => first | (go_simp; done) | (go_simp; rfl)); intro gb307 hg w41 hbox hb; replace HO_297003 := uD (Kd.R_below (pr HO_297003) hb); replace HO305 := uD (Kd.R_below (pr HO305) hb); have BK307 := uD (hbox); have GW307 := uD ((by rw [hg]; exact (uN (pb HB)) : w.heap.size ≤ gb307)); have GE307 := uD ((by rw [hg]; exact (uN (pb HB)) : w.heap.size ≤ gb307)); replace HB := uD (uO (pb HB) hb); have NB287_307 := uD ((by rw [hg]; exact Nat.ne_of_lt (blk_lt (pk BK287)) : gb287 ≠ gb307)); have NB307_287 := uD ((by rw [hg]; exact Nat.ne_of_gt (blk_lt (pk BK287)) : gb307 ≠ gb287)); replace BK287 := uD (blk_below (pk BK287) hb); have NB296_307 := uD ((by rw [hg]; exact Nat.ne_of_lt (blk_lt (pk BK296)) : gb296 ≠ gb307)); have NB307_296 := uD ((by rw [hg]; exact Nat.ne_of_gt (blk_lt (pk BK296)) : gb307 ≠ gb296)); replace BK296 := uD (blk_below (pk BK296) hb); clear hb hbox hg; have hnb42 := NB307_287.out; have hnc42 := NB287_307.out; have hnb43 := NB307_296.out; have hnc43 := NB296_307.out; obtain ⟨hcz44_0, hcz44_1, hcz44_2, hcz44_3, hfz44_0, hfz44_1, hfz44_2, hfz44_3⟩ := cz4 BK307; obtain ⟨Ao45, co45, eo45⟩ := Kd.R_slice HO305.out; subst eo45; obtain ⟨hcz46_0, hcz46_1, hcz46_2, hcz46_3, hfz46_0, hfz46_1, hfz46_2, hfz46_3⟩ := cz4 BK296))
             go_roundg k3
             case measure => have := HJ2.out; have := HK2.out; have := HK3.out; omega
             case rel => exact ⟨(x6_3), (wrap64 (x22_2 + 1)), (t300), (t301), (t302), (t303), (.slice Ao45 t303.length co45), (by first | rfl | (simp; done) | (simp [*]; done)), (by first | rfl | (simp; done) | (simp [*]; done)), H', ⟨by have := HJ2.out; have := HK2.out; have := HK3.out; omega⟩, ⟨by (with_reducible repeat (first | apply uU | apply uS | apply uT)); exact uX (uV (p := ⟨gb296, 3, none⟩) (uV (p := ⟨gb296, 2, none⟩) (uV (p := ⟨gb296, 1, none⟩) (uV (p := ⟨gb296, 0, none⟩) (uV (p := ⟨gb307, 3, none⟩) (uV (p := ⟨gb307, 2, none⟩) (uV (p := ⟨gb307, 1, none⟩) (uV (p := ⟨gb307, 0, none⟩) (uW (uW HO305.out BK307.out (by decide)) BK296.out (by decide)) (fun _ hk => hk.1.2) (.int .i64 t300)) (fun _ hk => hk.1.2) (.int .i64 t301)) (fun _ hk => hk.1.2) (.bool t302)) (fun _ hk => hk.1.2) (.slice Ao45 t303.length co45)) (fun _ hk => hk.2) (.int .i64 t300)) (fun _ hk => hk.2) (.int .i64 t301)) (fun _ hk => hk.2) (.bool t302)) (fun _ hk => hk.2) (.slice Ao45 t303.length co45)) (fun _ hk => trivial)⟩, ⟨by exact ps BK287⟩, ⟨by (with_reducible repeat first|apply uH|apply uJ|apply uG); refine uP (cs := #[.int .i64 t300, .int .i64 t301, .bool t302, .slice Ao35 x297003_2.length co35]) ?_ 3 _ rfl; (with_reducible repeat first|apply uH|apply uJ|apply uG); refine uP (cs := #[.int .i64 t300, .int .i64 t301, .bool x297002_2, .slice Ao35 x297003_2.length co35]) ?_ 2 _ rfl; (with_reducible repeat first|apply uH|apply uJ|apply uG); refine uP (cs := #[.int .i64 t300, .int .i64 x297001_2, .bool x297002_2, .slice Ao35 x297003_2.length co35]) ?_ 1 _ rfl; (with_reducible repeat first|apply uH|apply uJ|apply uG); refine uP (cs := #[.int .i64 x297000_2, .int .i64 x297001_2, .bool x297002_2, .slice Ao35 x297003_2.length co35]) ?_ 0 _ rfl; exact ps BK296⟩, ⟨pb HB⟩⟩
            ·replace c32 := Bool.eq_false_iff.mpr c32
             subst c32
             have H1 : (some x22_2) = some r := by rw [if_neg (show ¬ (false = true) by decide)] at H; first | done | exact H
             clear H
             have H := H1
             clear H1
             obtain rfl := Option.some.inj H
             have hnb47 := NB296_287.out
             have hnc47 := NB287_296.out
             obtain ⟨hcz48_0, hcz48_1, hcz48_2, hcz48_3, hfz48_0, hfz48_1, hfz48_2, hfz48_3⟩ := cz4 BK296
             obtain ⟨Ao49, co49, eo49⟩ := Kd.R_slice HO_297003.out
             subst eo49
             go_wp2_with (first | ((with_reducible refine gate_callee (f := 93) rfl ?_); refine goesL_ (some 30) rfl rfl Try.func93 (by kernel_rfl) rfl #[.slice Ao49 x297003_2.length co49, .int .i64 x6_3] rfl (by (try simp only [List.map_toArray, List.map_cons, List.map_nil]); first | done | rfl | (simp only [List.length_drop, List.length_take]; rfl)) ?_; (with_reducible refine (impl_isOn.calls _ _ x297003_2 x6_3 false _ ?side1 ?side2 A24.out).mono ?_); (case side1 => repeat (first | exact (Kd.R_reads' HO_297003.out).2.2 | (with_reducible refine Kd.C_alloc ?_ _) | (with_reducible refine Kd.C_drewN ?_ _) | (with_reducible refine Kd.C_drew ?_))); (case side2 => exact (Kd.R_reads' HO_297003.out).2.1); rintro e w50 ⟨rfl, hb⟩; refine ⟨_, rfl, ?_⟩; replace HO_297003 := uD (Kd.R_below (pr HO_297003) hb); replace BK287 := uD (blk_below (pk BK287) hb); replace BK296 := uD (blk_below (pk BK296) hb); replace HB := uD (uO (pb HB) hb); (try clear hb); (try clear hb2); (try clear hk); (try clear hi); obtain ⟨hcz51_0, hcz51_1, hcz51_2, hcz51_3, hfz51_0, hfz51_1, hfz51_2, hfz51_3⟩ := cz4 BK296) | ((with_reducible refine gate_callee (f := 94) rfl ?_); refine goesL_ (some 34) rfl rfl Try.func94 (by kernel_rfl) rfl #[.agg #[.int .i64 x297000_2, .int .i64 x297001_2, .bool x297002_2, .slice Ao49 x297003_2.length co49]] rfl (by (try simp only [List.map_toArray, List.map_cons, List.map_nil]); first | done | rfl | (simp only [List.length_drop, List.length_take]; rfl)) ?_; (with_reducible refine (impl_pressed.calls k3 x297000_2 x297001_2 x297002_2 (fun k_ => some k_ = (.slice Ao49 x297003_2.length co49 : Value).ownBlock) (.slice Ao49 x297003_2.length co49) x297003_2 t299 w _ ?side1 ?side2 A30.out).mono ?_); (case side1 => repeat (first | (with_reducible first | exact HB.out | apply uL | apply uE | apply uK | refine uM ?_ GE287.out | refine uM ?_ GE296.out) | exact HB.out)); (case side2 => exact Kd.R_tight rfl HO_297003.out); rintro e w52 ⟨rfl, hy0, hb, hkp⟩; refine ⟨_, rfl, ?_⟩; replace BK287 := uD (blk_kept (pk BK287) hkp (fun hs_ => (fun e_ => (Kd.R_ne HO_297003.out BK287.out (by decide)) e_) hs_)); replace BK296 := uD (blk_kept (pk BK296) hkp (fun hs_ => (fun e_ => (Kd.R_ne HO_297003.out BK296.out (by decide)) e_) hs_)); replace HO_297003 := uD (Kd.R_reok rfl hy0 (fun k_ e_ => HO_297003.out.1 k_ e_)); replace HB := uD (hb); (try clear hb); (try clear hkp); (try clear hy0); obtain ⟨hcz53_0, hcz53_1, hcz53_2, hcz53_3, hfz53_0, hfz53_1, hfz53_2, hfz53_3⟩ := cz4 BK296) | ((with_reducible refine gate_callee (f := 52) rfl ?_); refine goesL_ (some 39) rfl rfl Try.func52 (by kernel_rfl) rfl #[.agg #[.int .i64 x297000_2, .int .i64 x297001_2, .bool x297002_2, .slice Ao49 t299.length co49], .int .i64 x6_3, .int .i64 (rd l1 x22_2)] rfl (by (try simp only [List.map_toArray, List.map_cons, List.map_nil]); first | done | (rw [show t299.length = x297003_2.length from (Kd.R_reads' HO_297003.out).1.symm] <;> rfl) | rfl | (simp only [List.length_drop, List.length_take]; rfl)) ?_; (with_reducible refine (impl_Enter.calls k3 x297000_2 x297001_2 x297002_2 _ _ t299 x6_3 (rd l1 x22_2) t300 t301 t302 t303 false _ ?side1 ?side2 A31.out).mono ?_); (case side1 => repeat (first | exact (Kd.R_reads' HO_297003.out).2.2 | (with_reducible refine Kd.C_alloc ?_ _) | (with_reducible refine Kd.C_drewN ?_ _) | (with_reducible refine Kd.C_drew ?_))); (case side2 => rw [show t299.length = x297003_2.length from (Kd.R_reads' HO_297003.out).1.symm]; exact (Kd.R_reads' HO_297003.out).2.1); rintro e w54 ⟨v304, rfl, ho0, hb⟩; refine ⟨_, rfl, ?_⟩; have HO305 := uD (Kd.R_lower (Kd.R_new' ho0 (Kd.R_lt (pr HO_297003))) (uN (pb HB))); replace HO_297003 := uD (Kd.R_elder' (pr HO_297003) (Kd.R_base ho0) hb); replace BK287 := uD (blk_below (pk BK287) hb); replace BK296 := uD (blk_below (pk BK296) hb); replace HB := uD (uO (pb HB) hb); (try clear hb); (try clear hb2); (try clear hk); (try clear hi); (try clear ho0)) | ((with_reducible refine gate_dst (N := 9) rfl ?_); refine box_event ?hg (N := 9) ?hd (cs := #[.int .i64 0, .int .i64 0, .bool false, .slice none 0 0]) (t := 63) ?hr ?_; (case hd => rfl); (case hg => rfl); (case hr => first | (go_simp; done) | (go_simp; rfl)); intro gb307 hg w55 hbox hb; replace HO_297003 := uD (Kd.R_below (pr HO_297003) hb); replace HO305 := uD (Kd.R_below (pr HO305) hb); have BK307 := uD (hbox); have GW307 := uD ((by rw [hg]; exact (uN (pb HB)) : w.heap.size ≤ gb307)); have GE307 := uD ((by rw [hg]; exact (uN (pb HB)) : w.heap.size ≤ gb307)); replace HB := uD (uO (pb HB) hb); have NB287_307 := uD ((by rw [hg]; exact Nat.ne_of_lt (blk_lt (pk BK287)) : gb287 ≠ gb307)); have NB307_287 := uD ((by rw [hg]; exact Nat.ne_of_gt (blk_lt (pk BK287)) : gb307 ≠ gb287)); replace BK287 := uD (blk_below (pk BK287) hb); have NB296_307 := uD ((by rw [hg]; exact Nat.ne_of_lt (blk_lt (pk BK296)) : gb296 ≠ gb307)); have NB307_296 := uD ((by rw [hg]; exact Nat.ne_of_gt (blk_lt (pk BK296)) : gb307 ≠ gb296)); replace BK296 := uD (blk_below (pk BK296) hb); clear hb hbox hg; have hnb56 := NB307_287.out; have hnc56 := NB287_307.out; have hnb57 := NB307_296.out; have hnc57 := NB296_307.out; obtain ⟨hcz58_0, hcz58_1, hcz58_2, hcz58_3, hfz58_0, hfz58_1, hfz58_2, hfz58_3⟩ := cz4 BK307; obtain ⟨Ao59, co59, eo59⟩ := Kd.R_slice HO305.out; subst eo59))
             go_ret
             exact ⟨by first | rfl | (simp [errW_none, errW_some] <;> rfl) | (simp [*, errW_none, errW_some] <;> rfl), pb HB⟩
        ·rw [if_neg c23] at H
         exact absurd H (by simp)
       ·rw [if_neg c22] at H
        exact absurd H (by simp)
      ·rw [if_neg c21] at H
       have c21b0 : decide (x22_2 < (l1.length : Int)) = false := decide_eq_false c21
       clear c21
       obtain rfl := Option.some.inj H
       go_wp2
       go_ret
       exact ⟨by first | rfl | (simp [errW_none, errW_some] <;> rfl) | (simp [*, errW_none, errW_some] <;> rfl), pb HB⟩

/-! ### spec_l01In: function 57 -/
def spec_l01In.f (a0 : Int) (a1 : Int) (a2 : Int) : Option (Bool) := if a0 ≥ a1 then (some (decide (a0 ≤ a2))) else (some false)
set_option maxHeartbeats 8000000 in
set_option maxRecDepth 100000 in
theorem spec_l01In.calls (a0 : Int) (a1 : Int) (a2 : Int) (r : Bool) (w : World) (h : spec_l01In.f a0 a1 a2 = some r) :
  Calls Try.prog 57 #[.int .i64 a0, .int .i64 a1, .int .i64 a2] w fun e w' => e = .returned (.bool r) ∧ Drawn0 w w' := by
 have H : (if a0 ≥ a1 then (some (decide (a0 ≤ a2))) else (some false)) = some r := h
 clear h
 by_cases c4 : a0 ≥ a1
 ·rw [if_pos c4] at H
  have c4b0 : decide (a1 ≤ a0) = true := decide_eq_true c4
  clear c4
  obtain rfl := Option.some.inj H
  go_enter Try.func57, Try.ntmps57
  go_wp2
  go_ret
  exact ⟨by first | rfl | (simp; done) | (simp [*]; done), by repeat (first | exact Drawn0.refl _ | apply Drawn0.step)⟩
 ·rw [if_neg c4] at H
  have c4b0 : decide (a1 ≤ a0) = false := decide_eq_false c4
  clear c4
  obtain rfl := Option.some.inj H
  go_enter Try.func57, Try.ntmps57
  go_wp2
  go_ret
  exact ⟨by first | rfl | (simp; done) | (simp [*]; done), by repeat (first | exact Drawn0.refl _ | apply Drawn0.step)⟩

end Go.Proofs.Ytnnimbbffbfhoaa.PFnBeltRoom
