-- Written by a program of this session (wip/myprint.py: the kit's print with changes): not by print.sh itself.
import Derived.Test.YtnnimbbffbfhoaaPFnBeltRoomx0
import Derived.Test.YtnnimbbffbfhoaaPFnBeltRoomx1
import Derived.Test.YtnnimbbffbfhoaaPFnBeltRoomx4
import Derived.Test.YtnnimbbffbfhoaaPFnBeltRoomx6
import Derived.Test.YtnnimbbffbfhoaaPFnBeltRoomx7
import Derived.Test.YtnnimbbffbfhoaaPFnBeltRoomx11
import Derived.Test.YtnnimbbffbfhoaaPFnBeltRoomx12
namespace Go.Proofs.Ytnnimbbffbfhoaa.PFnBeltRoom
open Go.RowKit Go.Proofs.YtnnimbbffbfhoaaW.PrintWords Go.Proofs.YtnnimbbffbfhoaaW.PrintLast Go.Proofs.YtnnimbbffbfhoaaW.PrintMore
open Go renaming Act.put → uc
open Go.Proofs.YtnnimbbffbfhoaaW.PrintLast renaming i64_w → uZ, i32_w → ua
open Go.Proofs.YtnnimbbffbfhoaaW.PrintWords renaming Aside0.mk → uD, blk_cell → uF, blk_alloc → uG, blk_drewN → uH, blk_frozen → uI, blk_drew → uJ, below_drew1 → uK, below_size → uN, below_step → uO, blk_put → uP, Kd.R_drewN → uS, Kd.R_drew → uT, Kd.R_alloc → uU, Kd.R_far → uV, Kd.R_types → uW, Kd.R_mono → uX
open List renaming setIfInBounds_toArray → uA, set_cons_zero → uB, set_cons_succ → uC
open Bool renaming true → T, false → F
attribute [local go_sem] max2_int min2_int max_two min_two max_three min_three max_four min_four   -- for this text's walks alone
set_option linter.unusedVariables false
set_option linter.unusedSimpArgs false

/-! ### laws_FnBeltRoom: function 12 -/
def laws_FnBeltRoom.l0 : Nat → List Int → Int → Int → Int → Int → Bool → List (S74) → Option (Bool)
 | 0, _, _, _, _, _, _, _ => none
 | k + 1, x4, x5, x7, x428000, x428001, x428002, x428003 => if x7 < (x4.length : Int) then ((impl_Move.f k x428000 x428001 x428002 x428003 400).bind fun bt428 => (if 0 ≤ x7 then ((impl_Enter.f k bt428.1 bt428.2.1 bt428.2.2.1 bt428.2.2.2 (wrap64 (5000 + x7)) (rd x4 x7)).bind fun bt435 => (if (bt435.2.2.2.2 != (decide (x7 < x5))) = true then (some false) else (if bt435.2.2.2.2 = true then (laws_FnBeltRoom.l0 k x4 x5 (wrap64 (x7 + 1)) bt435.1 bt435.2.1 bt435.2.2.1 bt435.2.2.2.1) else (some (decide (x5 ≤ (x4.length : Int))))))) else (none))) else (some (decide (x5 ≤ (x4.length : Int))))
def laws_FnBeltRoom.f (k : Nat) (l0 : List Int) : Option (Bool) := (laws_big.f l0).bind fun t414 => (if t414 = true then (some true) else ((spec_DrawRoomFor.f k l0).bind fun bt415 => ((impl_RoomFor.f k bt415.1 bt415.2.1 bt415.2.2.1 bt415.2.2.2.1 bt415.2.2.2.2).bind fun t425 => ((spec_RoomFor.f k bt415.1 bt415.2.1 bt415.2.2.1 bt415.2.2.2.1 bt415.2.2.2.2).bind fun t426 => (if t425 = t426 then (if t425 < 0 then (some true) else (laws_FnBeltRoom.l0 k bt415.2.2.2.2 t425 0 bt415.1 bt415.2.1 bt415.2.2.1 bt415.2.2.2.1)) else (some false))))))
theorem laws_FnBeltRoom.mono_l : ∀ k, (∀ y0 y1 y2 y3 y4 y5 y6, LeO (laws_FnBeltRoom.l0 k y0 y1 y2 y3 y4 y5 y6) (laws_FnBeltRoom.l0 (k + 1) y0 y1 y2 y3 y4 y5 y6))
 | 0 => fun _ _ _ _ _ _ _ r h => by simp [laws_FnBeltRoom.l0] at h
 | k + 1 => by
  have ih0 := laws_FnBeltRoom.mono_l k
  ·intro y0 y1 y2 y3 y4 y5 y6
   unfold laws_FnBeltRoom.l0
   repeat' first
   | (with_reducible exact ih0 _ _ _ _ _ _ _)
   | (with_reducible exact impl_Enter.mono _ _ _ _ _ _ _)
   | (with_reducible exact impl_Move.mono _ _ _ _ _ _)
   | (with_reducible exact impl_RoomFor.mono _ _ _ _ _ _)
   | (with_reducible exact spec_DrawRoomFor.mono _ _)
   | (with_reducible exact spec_RoomFor.mono _ _ _ _ _ _)
   | (with_reducible exact LeO.refl _)
   | (with_reducible exact LeO.none _)
   | (with_reducible refine LeO.ite ?_ ?_)
   | (with_reducible refine LeO.bind ?_ (fun _ => ?_))
   | exact ih0 _ _ _ _ _ _ _
   | exact impl_Enter.mono _ _ _ _ _ _ _
   | exact impl_Move.mono _ _ _ _ _ _
   | exact impl_RoomFor.mono _ _ _ _ _ _
   | exact spec_DrawRoomFor.mono _ _
   | exact spec_RoomFor.mono _ _ _ _ _ _
   | exact LeO.none _
   | refine LeO.ite ?_ ?_
   | refine LeO.bind ?_ (fun _ => ?_)
theorem laws_FnBeltRoom.mono : ∀ a0 k, LeO (laws_FnBeltRoom.f k a0) (laws_FnBeltRoom.f (k + 1) a0) := by
 intro a0 k
 have ih0 := laws_FnBeltRoom.mono_l k
 unfold laws_FnBeltRoom.f
 repeat' first
   | (with_reducible exact ih0 _ _ _ _ _ _ _)
   | (with_reducible exact impl_Enter.mono _ _ _ _ _ _ _)
   | (with_reducible exact impl_Move.mono _ _ _ _ _ _)
   | (with_reducible exact impl_RoomFor.mono _ _ _ _ _ _)
   | (with_reducible exact spec_DrawRoomFor.mono _ _)
   | (with_reducible exact spec_RoomFor.mono _ _ _ _ _ _)
   | (with_reducible exact LeO.refl _)
   | (with_reducible exact LeO.none _)
   | (with_reducible refine LeO.ite ?_ ?_)
   | (with_reducible refine LeO.bind ?_ (fun _ => ?_))
   | exact ih0 _ _ _ _ _ _ _
   | exact impl_Enter.mono _ _ _ _ _ _ _
   | exact impl_Move.mono _ _ _ _ _ _
   | exact impl_RoomFor.mono _ _ _ _ _ _
   | exact spec_DrawRoomFor.mono _ _
   | exact spec_RoomFor.mono _ _ _ _ _ _
   | exact LeO.none _
   | refine LeO.ite ?_ ?_
   | refine LeO.bind ?_ (fun _ => ?_)
def laws_FnBeltRoom.T14 : Bool × List (List Nat × List Nat) := (true, [([], []), ([], []), ([1], [1]), ([], []), ([], []), ([3, 4], [3, 4]), ([5], [5]), ([0, 2, 6], [0, 2, 6]), ([7], [7]), ([8], [8]), ([8], [8]), ([], []), ([11, 9, 7, 0, 1, 2, 3, 4, 5, 6, 7, 8, 9, 11], [9, 11]), ([10, 12, 0, 1, 2, 3, 4, 5, 6, 7, 8, 9, 10, 11, 12], [10])])
def laws_FnBeltRoom.B14 : List Nat := [0, 0, 2, 0, 0, 24, 56, 127, 255, 511, 511, 0, 3071, 8191]
theorem laws_FnBeltRoom.tab14 : rtab .any (opsOf Try.f12 14) = laws_FnBeltRoom.T14 := by kernel_rfl
theorem laws_FnBeltRoom.bits14 : waitsOk laws_FnBeltRoom.T14.2 laws_FnBeltRoom.B14 = true := by kernel_rfl
set_option maxHeartbeats 8000000 in
set_option maxRecDepth 100000 in
theorem laws_FnBeltRoom.calls (k : Nat) (A0 : Option Addr) (c0 : Nat) (l0 : List Int) (w : World) (hr0 : Kd.C (Kd.int .u8) w A0 l0.length l0) (hc0 : l0.length ≤ c0) (h : laws_FnBeltRoom.f k l0 = some true) :
  Calls Try.prog 12 #[.slice A0 l0.length c0] w fun e w' => e = .returned (.bool true) ∧ Below w.heap.size w w' := by
 have hu63 := Try.underlying63
 have HR0 := uD hr0
 have HC0 := uD hc0
 clear hr0 hc0
 have HB := uD (Below.refl w.heap.size w)
 have H : ((laws_big.f l0).bind fun t414 => (if t414 = true then (some true) else ((spec_DrawRoomFor.f k l0).bind fun bt415 => ((impl_RoomFor.f k bt415.1 bt415.2.1 bt415.2.2.1 bt415.2.2.2.1 bt415.2.2.2.2).bind fun t425 => ((spec_RoomFor.f k bt415.1 bt415.2.1 bt415.2.2.1 bt415.2.2.2.1 bt415.2.2.2.2).bind fun t426 => (if t425 = t426 then (if t425 < 0 then (some true) else (laws_FnBeltRoom.l0 k bt415.2.2.2.2 t425 0 bt415.1 bt415.2.1 bt415.2.2.1 bt415.2.2.2.1)) else (some false))))))) = some true := h
 clear h
 replace H := Option.bind_eq_some_iff.mp H
 obtain ⟨t414, A20, H⟩ := H
 replace H : (if t414 = true then (some true) else ((spec_DrawRoomFor.f k l0).bind fun bt415 => ((impl_RoomFor.f k bt415.1 bt415.2.1 bt415.2.2.1 bt415.2.2.2.1 bt415.2.2.2.2).bind fun t425 => ((spec_RoomFor.f k bt415.1 bt415.2.1 bt415.2.2.1 bt415.2.2.2.1 bt415.2.2.2.2).bind fun t426 => (if t425 = t426 then (if t425 < 0 then (some true) else (laws_FnBeltRoom.l0 k bt415.2.2.2.2 t425 0 bt415.1 bt415.2.1 bt415.2.2.1 bt415.2.2.2.1)) else (some false)))))) = some true := H
 have A2 := uD A20
 clear A20
 by_cases c3 : t414 = true
 ·subst c3
  have H1 : (some true) = some true := by rw [if_pos rfl] at H; first | done | exact H
  clear H
  have H := H1
  clear H1
  have HT := Option.some.inj H
  clear H
  go_enter Try.func12, Try.ntmps12
  go_wp2_with (first | ((with_reducible refine gate_callee (f := 34) rfl ?_); refine goesL_ (some 11) rfl rfl Try.func34 (by kernel_rfl) rfl #[.slice A0 l0.length c0] rfl (by (try simp only [List.map_toArray, List.map_cons, List.map_nil]); first | done | rfl | (simp only [List.length_drop, List.length_take]; rfl)) ?_; (with_reducible refine (laws_big.calls _ _ l0 true _ ?side1 ?side2 A2.out).mono ?_); (case side1 => repeat (first | exact HR0.out | (with_reducible refine Kd.C_alloc ?_ _) | (with_reducible refine Kd.C_drewN ?_ _) | (with_reducible refine Kd.C_drew ?_))); (case side2 => exact HC0.out); rintro e w' ⟨rfl, ⟨nd, rfl⟩⟩; refine ⟨_, rfl, ?_⟩))
  go_ret
  exact ⟨by first | rfl | (simp [errW_none, errW_some] <;> rfl) | (simp [*, errW_none, errW_some] <;> rfl), pb HB⟩
 ·replace c3 := Bool.eq_false_iff.mpr c3
  subst c3
  have H1 : ((spec_DrawRoomFor.f k l0).bind fun bt415 => ((impl_RoomFor.f k bt415.1 bt415.2.1 bt415.2.2.1 bt415.2.2.2.1 bt415.2.2.2.2).bind fun t425 => ((spec_RoomFor.f k bt415.1 bt415.2.1 bt415.2.2.1 bt415.2.2.2.1 bt415.2.2.2.2).bind fun t426 => (if t425 = t426 then (if t425 < 0 then (some true) else (laws_FnBeltRoom.l0 k bt415.2.2.2.2 t425 0 bt415.1 bt415.2.1 bt415.2.2.1 bt415.2.2.2.1)) else (some false))))) = some true := by rw [if_neg (show ¬ (false = true) by decide)] at H; first | done | exact H
  clear H
  have H := H1
  clear H1
  replace H := Option.bind_eq_some_iff.mp H
  obtain ⟨⟨t415, t416, t417, t418, t421⟩, A40, H⟩ := H
  replace H : ((impl_RoomFor.f k t415 t416 t417 t418 t421).bind fun t425 => ((spec_RoomFor.f k t415 t416 t417 t418 t421).bind fun t426 => (if t425 = t426 then (if t425 < 0 then (some true) else (laws_FnBeltRoom.l0 k t421 t425 0 t415 t416 t417 t418)) else (some false)))) = some true := H
  have A4 := uD A40
  clear A40
  replace H := Option.bind_eq_some_iff.mp H
  obtain ⟨t425, A50, H⟩ := H
  replace H : ((spec_RoomFor.f k t415 t416 t417 t418 t421).bind fun t426 => (if t425 = t426 then (if t425 < 0 then (some true) else (laws_FnBeltRoom.l0 k t421 t425 0 t415 t416 t417 t418)) else (some false))) = some true := H
  have A5 := uD A50
  clear A50
  replace H := Option.bind_eq_some_iff.mp H
  obtain ⟨t426, A60, H⟩ := H
  replace H : (if t425 = t426 then (if t425 < 0 then (some true) else (laws_FnBeltRoom.l0 k t421 t425 0 t415 t416 t417 t418)) else (some false)) = some true := H
  have A6 := uD A60
  clear A60
  by_cases c7 : t425 = t426
  ·rw [if_pos c7] at H
   have c7b0 : (t425 == t426) = true := beq_iff_eq.mpr c7
   have c7b1 : (t425 != t426) = false := bne_eq_false_iff_eq.mpr c7
   clear c7
   by_cases c8 : t425 < 0
   ·rw [if_pos c8] at H
    have c8b0 : decide (t425 < 0) = true := decide_eq_true c8
    clear c8
    have HT := Option.some.inj H
    clear H
    go_enter Try.func12, Try.ntmps12
    go_wp2_with (first | ((with_reducible refine gate_callee (f := 34) rfl ?_); refine goesL_ (some 11) rfl rfl Try.func34 (by kernel_rfl) rfl #[.slice A0 l0.length c0] rfl (by (try simp only [List.map_toArray, List.map_cons, List.map_nil]); first | done | rfl | (simp only [List.length_drop, List.length_take]; rfl)) ?_; (with_reducible refine (laws_big.calls _ _ l0 false _ ?side1 ?side2 A2.out).mono ?_); (case side1 => repeat (first | exact HR0.out | (with_reducible refine Kd.C_alloc ?_ _) | (with_reducible refine Kd.C_drewN ?_ _) | (with_reducible refine Kd.C_drew ?_))); (case side2 => exact HC0.out); rintro e w' ⟨rfl, ⟨nd, rfl⟩⟩; refine ⟨_, rfl, ?_⟩) | ((with_reducible refine gate_callee (f := 48) rfl ?_); refine goesL_ (some 14) rfl rfl Try.func48 (by kernel_rfl) rfl #[.slice A0 l0.length c0] rfl (by (try simp only [List.map_toArray, List.map_cons, List.map_nil]); first | done | rfl | (simp only [List.length_drop, List.length_take]; rfl)) ?_; (with_reducible refine (spec_DrawRoomFor.calls k _ _ l0 t415 t416 t417 t418 t421 _ ?side1 ?side2 A4.out).mono ?_); (case side1 => repeat (first | exact HR0.out | (with_reducible refine Kd.C_alloc ?_ _) | (with_reducible refine Kd.C_drewN ?_ _) | (with_reducible refine Kd.C_drew ?_))); (case side2 => exact HC0.out); rintro e w9 ⟨v419, v422, rfl, ho0, ho1, hb⟩; refine ⟨_, rfl, ?_⟩; have HO420 := uD (Kd.R_lower ho0 (uN (pb HB))); have HO423 := uD (Kd.R_lower ho1 (uN (pb HB))); replace HB := uD (uO (pb HB) hb); (try clear hb); (try clear hb2); (try clear hk); (try clear hi); (try clear ho0); (try clear ho1)) | ((with_reducible refine gate_dst (N := 3) rfl ?_); refine box_event ?hg (N := 3) ?hd (cs := #[.int .i64 0, .int .i64 0, .bool false, .slice none 0 0]) (t := 63) ?hr ?_; (case hd => rfl); (case hg => rfl); (case hr => first | (go_simp; done) | (go_simp; rfl)); intro gb424 hg w10 hbox hb; replace HO420 := uD (Kd.R_below (pr HO420) hb); replace HO423 := uD (Kd.R_below (pr HO423) hb); have BK424 := uD (hbox); have GW424 := uD ((by rw [hg]; exact (uN (pb HB)) : w.heap.size ≤ gb424)); have GE424 := uD ((by rw [hg]; exact (uN (pb HB)) : w.heap.size ≤ gb424)); replace HB := uD (uO (pb HB) hb); clear hb hbox hg; obtain ⟨hcz11_0, hcz11_1, hcz11_2, hcz11_3, hfz11_0, hfz11_1, hfz11_2, hfz11_3⟩ := cz4 BK424; obtain ⟨Ao12, co12, eo12⟩ := Kd.R_slice HO420.out; subst eo12; obtain ⟨Ao13, co13, eo13⟩ := Kd.R_slice HO423.out; subst eo13) | ((with_reducible refine gate_callee (f := 49) rfl ?_); refine goesL_ (some 19) rfl rfl Try.func49 (by kernel_rfl) rfl #[.agg #[.int .i64 t415, .int .i64 t416, .bool t417, .slice Ao12 t418.length co12], .slice Ao13 t421.length co13] rfl (by (try simp only [List.map_toArray, List.map_cons, List.map_nil]); first | done | rfl | (simp only [List.length_drop, List.length_take]; rfl)) ?_; (with_reducible refine (impl_RoomFor.calls k t415 t416 t417 _ _ t418 _ _ t421 t425 _ ?side1 ?side2 ?side3 ?side4 A5.out).mono ?_); (case side1 => refine (Kd.R_reads' (e := 74) (base := w.heap.size) (ok := fun k_ => True) (n := t418.length) (c := co12) ?_).2.2; exact (by (with_reducible repeat (first | apply uU | apply uS | apply uT)); exact (uX (uV (p := ⟨gb424, 3, none⟩) (uV (p := ⟨gb424, 2, none⟩) (uV (p := ⟨gb424, 1, none⟩) (uV (p := ⟨gb424, 0, none⟩) (uW HO420.out BK424.out (by decide)) (fun _ hk => hk.2) (.int .i64 t415)) (fun _ hk => hk.2) (.int .i64 t416)) (fun _ hk => hk.2) (.bool t417)) (fun _ hk => hk.2) (.slice Ao12 t418.length co12)) (fun _ h_ => h_.1)))); (case side2 => exact (Kd.R_reads' HO420.out).2.1); (case side3 => refine (Kd.R_reads' (e := 3) (base := w.heap.size) (ok := fun k_ => True) (n := t421.length) (c := co13) ?_).2.2; exact (by (with_reducible repeat (first | apply uU | apply uS | apply uT)); exact (uX (uV (p := ⟨gb424, 3, none⟩) (uV (p := ⟨gb424, 2, none⟩) (uV (p := ⟨gb424, 1, none⟩) (uV (p := ⟨gb424, 0, none⟩) (uW HO423.out BK424.out (by decide)) (fun _ hk => hk.2) (.int .i64 t415)) (fun _ hk => hk.2) (.int .i64 t416)) (fun _ hk => hk.2) (.bool t417)) (fun _ hk => hk.2) (.slice Ao12 t418.length co12)) (fun _ h_ => h_.1)))); (case side4 => exact (Kd.R_reads' HO423.out).2.1); rintro e w14 ⟨rfl, hb⟩; refine ⟨_, rfl, ?_⟩; replace HO420 := uD (Kd.R_below (by (with_reducible repeat (first | apply uU | apply uS | apply uT)); exact (uX (uV (p := ⟨gb424, 3, none⟩) (uV (p := ⟨gb424, 2, none⟩) (uV (p := ⟨gb424, 1, none⟩) (uV (p := ⟨gb424, 0, none⟩) (uW HO420.out BK424.out (by decide)) (fun _ hk => hk.2) (.int .i64 t415)) (fun _ hk => hk.2) (.int .i64 t416)) (fun _ hk => hk.2) (.bool t417)) (fun _ hk => hk.2) (.slice Ao12 t418.length co12)) (fun _ h_ => h_.1))) hb); replace HO423 := uD (Kd.R_below (by (with_reducible repeat (first | apply uU | apply uS | apply uT)); exact (uX (uV (p := ⟨gb424, 3, none⟩) (uV (p := ⟨gb424, 2, none⟩) (uV (p := ⟨gb424, 1, none⟩) (uV (p := ⟨gb424, 0, none⟩) (uW HO423.out BK424.out (by decide)) (fun _ hk => hk.2) (.int .i64 t415)) (fun _ hk => hk.2) (.int .i64 t416)) (fun _ hk => hk.2) (.bool t417)) (fun _ hk => hk.2) (.slice Ao12 t418.length co12)) (fun _ h_ => h_.1))) hb); replace BK424 := uD (blk_below (g := gb424) (o := .cells #[.int .i64 t415, .int .i64 t416, .bool t417, .slice Ao12 t418.length co12] 63 (0, 0)) (by (with_reducible repeat first|apply uH|apply uJ|apply uG); refine uP (cs := #[.int .i64 t415, .int .i64 t416, .bool t417, .slice none 0 0]) ?_ 3 _ rfl; (with_reducible repeat first|apply uH|apply uJ|apply uG); refine uP (cs := #[.int .i64 t415, .int .i64 t416, .bool false, .slice none 0 0]) ?_ 2 _ rfl; (with_reducible repeat first|apply uH|apply uJ|apply uG); refine uP (cs := #[.int .i64 t415, .int .i64 0, .bool false, .slice none 0 0]) ?_ 1 _ rfl; (with_reducible repeat first|apply uH|apply uJ|apply uG); refine uP (cs := #[.int .i64 0, .int .i64 0, .bool false, .slice none 0 0]) ?_ 0 _ rfl; (with_reducible repeat first|apply uH|apply uJ|apply uG); exact BK424.out) hb); replace HB := uD (uO (pb HB) hb); (try clear hb); (try clear hb2); (try clear hk); (try clear hi); obtain ⟨hcz15_0, hcz15_1, hcz15_2, hcz15_3, hfz15_0, hfz15_1, hfz15_2, hfz15_3⟩ := cz4 BK424) | ((with_reducible refine gate_callee (f := 50) rfl ?_); refine goesL_ (some 23) rfl rfl Try.func50 (by kernel_rfl) rfl #[.agg #[.int .i64 t415, .int .i64 t416, .bool t417, .slice Ao12 t418.length co12], .slice Ao13 t421.length co13] rfl (by (try simp only [List.map_toArray, List.map_cons, List.map_nil]); first | done | rfl | (simp only [List.length_drop, List.length_take]; rfl)) ?_; (with_reducible refine (spec_RoomFor.calls k t415 t416 t417 _ _ t418 _ _ t421 t426 _ ?side1 ?side2 ?side3 ?side4 A6.out).mono ?_); (case side1 => repeat (first | exact (Kd.R_reads' HO420.out).2.2 | (with_reducible refine Kd.C_alloc ?_ _) | (with_reducible refine Kd.C_drewN ?_ _) | (with_reducible refine Kd.C_drew ?_))); (case side2 => exact (Kd.R_reads' HO420.out).2.1); (case side3 => repeat (first | exact (Kd.R_reads' HO423.out).2.2 | (with_reducible refine Kd.C_alloc ?_ _) | (with_reducible refine Kd.C_drewN ?_ _) | (with_reducible refine Kd.C_drew ?_))); (case side4 => exact (Kd.R_reads' HO423.out).2.1); rintro e w16 ⟨rfl, hb⟩; refine ⟨_, rfl, ?_⟩; replace HO420 := uD (Kd.R_below (pr HO420) hb); replace HO423 := uD (Kd.R_below (pr HO423) hb); replace BK424 := uD (blk_below (pk BK424) hb); replace HB := uD (uO (pb HB) hb); (try clear hb); (try clear hb2); (try clear hk); (try clear hi)))
    go_ret
    exact ⟨by first | rfl | (simp [errW_none, errW_some] <;> rfl) | (simp [*, errW_none, errW_some] <;> rfl), pb HB⟩
   ·rw [if_neg c8] at H
    have c8b0 : decide (t425 < 0) = false := decide_eq_false c8
    clear c8
    have H' := uD H
    clear H
    go_enter Try.func12, Try.ntmps12
    go_wp2_with (first | ((with_reducible refine gate_callee (f := 34) rfl ?_); refine goesL_ (some 11) rfl rfl Try.func34 (by kernel_rfl) rfl #[.slice A0 l0.length c0] rfl (by (try simp only [List.map_toArray, List.map_cons, List.map_nil]); first | done | rfl | (simp only [List.length_drop, List.length_take]; rfl)) ?_; (with_reducible refine (laws_big.calls _ _ l0 false _ ?side1 ?side2 A2.out).mono ?_); (case side1 => repeat (first | exact HR0.out | (with_reducible refine Kd.C_alloc ?_ _) | (with_reducible refine Kd.C_drewN ?_ _) | (with_reducible refine Kd.C_drew ?_))); (case side2 => exact HC0.out); rintro e w' ⟨rfl, ⟨nd, rfl⟩⟩; refine ⟨_, rfl, ?_⟩) | ((with_reducible refine gate_callee (f := 48) rfl ?_); refine goesL_ (some 14) rfl rfl Try.func48 (by kernel_rfl) rfl #[.slice A0 l0.length c0] rfl (by (try simp only [List.map_toArray, List.map_cons, List.map_nil]); first | done | rfl | (simp only [List.length_drop, List.length_take]; rfl)) ?_; (with_reducible refine (spec_DrawRoomFor.calls k _ _ l0 t415 t416 t417 t418 t421 _ ?side1 ?side2 A4.out).mono ?_); (case side1 => repeat (first | exact HR0.out | (with_reducible refine Kd.C_alloc ?_ _) | (with_reducible refine Kd.C_drewN ?_ _) | (with_reducible refine Kd.C_drew ?_))); (case side2 => exact HC0.out); rintro e w17 ⟨v419, v422, rfl, ho0, ho1, hb⟩; refine ⟨_, rfl, ?_⟩; have HO420 := uD (Kd.R_lower ho0 (uN (pb HB))); have HO423 := uD (Kd.R_lower ho1 (uN (pb HB))); replace HB := uD (uO (pb HB) hb); (try clear hb); (try clear hb2); (try clear hk); (try clear hi); (try clear ho0); (try clear ho1)) | ((with_reducible refine gate_dst (N := 3) rfl ?_); refine box_event ?hg (N := 3) ?hd (cs := #[.int .i64 0, .int .i64 0, .bool false, .slice none 0 0]) (t := 63) ?hr ?_; (case hd => rfl); (case hg => rfl); (case hr => first | (go_simp; done) | (go_simp; rfl)); intro gb424 hg w18 hbox hb; replace HO420 := uD (Kd.R_below (pr HO420) hb); replace HO423 := uD (Kd.R_below (pr HO423) hb); have BK424 := uD (hbox); have GW424 := uD ((by rw [hg]; exact (uN (pb HB)) : w.heap.size ≤ gb424)); have GE424 := uD ((by rw [hg]; exact (uN (pb HB)) : w.heap.size ≤ gb424)); replace HB := uD (uO (pb HB) hb); clear hb hbox hg; obtain ⟨hcz19_0, hcz19_1, hcz19_2, hcz19_3, hfz19_0, hfz19_1, hfz19_2, hfz19_3⟩ := cz4 BK424; obtain ⟨Ao20, co20, eo20⟩ := Kd.R_slice HO420.out; subst eo20; obtain ⟨Ao21, co21, eo21⟩ := Kd.R_slice HO423.out; subst eo21) | ((with_reducible refine gate_callee (f := 49) rfl ?_); refine goesL_ (some 19) rfl rfl Try.func49 (by kernel_rfl) rfl #[.agg #[.int .i64 t415, .int .i64 t416, .bool t417, .slice Ao20 t418.length co20], .slice Ao21 t421.length co21] rfl (by (try simp only [List.map_toArray, List.map_cons, List.map_nil]); first | done | rfl | (simp only [List.length_drop, List.length_take]; rfl)) ?_; (with_reducible refine (impl_RoomFor.calls k t415 t416 t417 _ _ t418 _ _ t421 t425 _ ?side1 ?side2 ?side3 ?side4 A5.out).mono ?_); (case side1 => refine (Kd.R_reads' (e := 74) (base := w.heap.size) (ok := fun k_ => True) (n := t418.length) (c := co20) ?_).2.2; exact (by (with_reducible repeat (first | apply uU | apply uS | apply uT)); exact (uX (uV (p := ⟨gb424, 3, none⟩) (uV (p := ⟨gb424, 2, none⟩) (uV (p := ⟨gb424, 1, none⟩) (uV (p := ⟨gb424, 0, none⟩) (uW HO420.out BK424.out (by decide)) (fun _ hk => hk.2) (.int .i64 t415)) (fun _ hk => hk.2) (.int .i64 t416)) (fun _ hk => hk.2) (.bool t417)) (fun _ hk => hk.2) (.slice Ao20 t418.length co20)) (fun _ h_ => h_.1)))); (case side2 => exact (Kd.R_reads' HO420.out).2.1); (case side3 => refine (Kd.R_reads' (e := 3) (base := w.heap.size) (ok := fun k_ => True) (n := t421.length) (c := co21) ?_).2.2; exact (by (with_reducible repeat (first | apply uU | apply uS | apply uT)); exact (uX (uV (p := ⟨gb424, 3, none⟩) (uV (p := ⟨gb424, 2, none⟩) (uV (p := ⟨gb424, 1, none⟩) (uV (p := ⟨gb424, 0, none⟩) (uW HO423.out BK424.out (by decide)) (fun _ hk => hk.2) (.int .i64 t415)) (fun _ hk => hk.2) (.int .i64 t416)) (fun _ hk => hk.2) (.bool t417)) (fun _ hk => hk.2) (.slice Ao20 t418.length co20)) (fun _ h_ => h_.1)))); (case side4 => exact (Kd.R_reads' HO423.out).2.1); rintro e w22 ⟨rfl, hb⟩; refine ⟨_, rfl, ?_⟩; replace HO420 := uD (Kd.R_below (by (with_reducible repeat (first | apply uU | apply uS | apply uT)); exact (uX (uV (p := ⟨gb424, 3, none⟩) (uV (p := ⟨gb424, 2, none⟩) (uV (p := ⟨gb424, 1, none⟩) (uV (p := ⟨gb424, 0, none⟩) (uW HO420.out BK424.out (by decide)) (fun _ hk => hk.2) (.int .i64 t415)) (fun _ hk => hk.2) (.int .i64 t416)) (fun _ hk => hk.2) (.bool t417)) (fun _ hk => hk.2) (.slice Ao20 t418.length co20)) (fun _ h_ => h_.1))) hb); replace HO423 := uD (Kd.R_below (by (with_reducible repeat (first | apply uU | apply uS | apply uT)); exact (uX (uV (p := ⟨gb424, 3, none⟩) (uV (p := ⟨gb424, 2, none⟩) (uV (p := ⟨gb424, 1, none⟩) (uV (p := ⟨gb424, 0, none⟩) (uW HO423.out BK424.out (by decide)) (fun _ hk => hk.2) (.int .i64 t415)) (fun _ hk => hk.2) (.int .i64 t416)) (fun _ hk => hk.2) (.bool t417)) (fun _ hk => hk.2) (.slice Ao20 t418.length co20)) (fun _ h_ => h_.1))) hb); replace BK424 := uD (blk_below (g := gb424) (o := .cells #[.int .i64 t415, .int .i64 t416, .bool t417, .slice Ao20 t418.length co20] 63 (0, 0)) (by (with_reducible repeat first|apply uH|apply uJ|apply uG); refine uP (cs := #[.int .i64 t415, .int .i64 t416, .bool t417, .slice none 0 0]) ?_ 3 _ rfl; (with_reducible repeat first|apply uH|apply uJ|apply uG); refine uP (cs := #[.int .i64 t415, .int .i64 t416, .bool false, .slice none 0 0]) ?_ 2 _ rfl; (with_reducible repeat first|apply uH|apply uJ|apply uG); refine uP (cs := #[.int .i64 t415, .int .i64 0, .bool false, .slice none 0 0]) ?_ 1 _ rfl; (with_reducible repeat first|apply uH|apply uJ|apply uG); refine uP (cs := #[.int .i64 0, .int .i64 0, .bool false, .slice none 0 0]) ?_ 0 _ rfl; (with_reducible repeat first|apply uH|apply uJ|apply uG); exact BK424.out) hb); replace HB := uD (uO (pb HB) hb); (try clear hb); (try clear hb2); (try clear hk); (try clear hi); obtain ⟨hcz23_0, hcz23_1, hcz23_2, hcz23_3, hfz23_0, hfz23_1, hfz23_2, hfz23_3⟩ := cz4 BK424) | ((with_reducible refine gate_callee (f := 50) rfl ?_); refine goesL_ (some 23) rfl rfl Try.func50 (by kernel_rfl) rfl #[.agg #[.int .i64 t415, .int .i64 t416, .bool t417, .slice Ao20 t418.length co20], .slice Ao21 t421.length co21] rfl (by (try simp only [List.map_toArray, List.map_cons, List.map_nil]); first | done | rfl | (simp only [List.length_drop, List.length_take]; rfl)) ?_; (with_reducible refine (spec_RoomFor.calls k t415 t416 t417 _ _ t418 _ _ t421 t426 _ ?side1 ?side2 ?side3 ?side4 A6.out).mono ?_); (case side1 => repeat (first | exact (Kd.R_reads' HO420.out).2.2 | (with_reducible refine Kd.C_alloc ?_ _) | (with_reducible refine Kd.C_drewN ?_ _) | (with_reducible refine Kd.C_drew ?_))); (case side2 => exact (Kd.R_reads' HO420.out).2.1); (case side3 => repeat (first | exact (Kd.R_reads' HO423.out).2.2 | (with_reducible refine Kd.C_alloc ?_ _) | (with_reducible refine Kd.C_drewN ?_ _) | (with_reducible refine Kd.C_drew ?_))); (case side4 => exact (Kd.R_reads' HO423.out).2.1); rintro e w24 ⟨rfl, hb⟩; refine ⟨_, rfl, ?_⟩; replace HO420 := uD (Kd.R_below (pr HO420) hb); replace HO423 := uD (Kd.R_below (pr HO423) hb); replace BK424 := uD (blk_below (pk BK424) hb); replace HB := uD (uO (pb HB) hb); (try clear hb); (try clear hb2); (try clear hk); (try clear hi); obtain ⟨hcz25_0, hcz25_1, hcz25_2, hcz25_3, hfz25_0, hfz25_1, hfz25_2, hfz25_3⟩ := cz4 BK424) | ((with_reducible refine gate_dst (N := 6) rfl ?_); refine box_event ?hg (N := 6) ?hd (cs := #[.int .i64 0, .int .i64 0, .bool false, .slice none 0 0]) (t := 63) ?hr ?_; (case hd => rfl); (case hg => rfl); (case hr => first | (go_simp; done) | (go_simp; rfl)); intro gb427 hg w26 hbox hb; replace HO420 := uD (Kd.R_below (pr HO420) hb); replace HO423 := uD (Kd.R_below (pr HO423) hb); have BK427 := uD (hbox); have GW427 := uD ((by rw [hg]; exact (uN (pb HB)) : w.heap.size ≤ gb427)); have GE427 := uD ((by rw [hg]; exact (uN (pb HB)) : w.heap.size ≤ gb427)); replace HB := uD (uO (pb HB) hb); have NB424_427 := uD ((by rw [hg]; exact Nat.ne_of_lt (blk_lt (pk BK424)) : gb424 ≠ gb427)); have NB427_424 := uD ((by rw [hg]; exact Nat.ne_of_gt (blk_lt (pk BK424)) : gb427 ≠ gb424)); replace BK424 := uD (blk_below (pk BK424) hb); clear hb hbox hg; have hnb27 := NB427_424.out; have hnc27 := NB424_427.out; obtain ⟨hcz28_0, hcz28_1, hcz28_2, hcz28_3, hfz28_0, hfz28_1, hfz28_2, hfz28_3⟩ := cz4 BK427))
    go_loopg [7] k (fun kq v7 w' => ∃ (x7_1 : Int) (x428000_1 : Int) (x428001_1 : Int) (x428002_1 : Bool) (x428003_1 : List (S74)) (u428003 : Value), v7 = .int .i64 x7_1 ∧ Aside0 (laws_FnBeltRoom.l0 kq t421 t425 x7_1 x428000_1 x428001_1 x428002_1 x428003_1 = some true) ∧ Aside0 (kq ≤ k) ∧ Aside0 (Kd.R (Kd.int .i64) 3 w' w.heap.size (fun _ => True) (.slice Ao21 t421.length co21) t421) ∧ Aside0 (Kd.Q k74 74 w' w.heap.size (fun _ => True) (.slice Ao20 t418.length co20) t418) ∧ Aside0 (Kd.Q k74 74 w' w.heap.size (fun _ => True) u428003 x428003_1) ∧ Aside0 (w'.heap[gb424]? = some (.cells #[.int .i64 t415, .int .i64 t416, .bool t417, (.slice Ao20 t418.length co20)] 63 (0, 0))) ∧ Aside0 (w'.heap[gb427]? = some (.cells #[.int .i64 x428000_1, .int .i64 x428001_1, .bool x428002_1, u428003] 63 (0, 0))) ∧ Aside0 (Below w.heap.size w w'))
    case atStart => exact ⟨(0), (t415), (t416), (t417), (t418), (.slice Ao20 t418.length co20), (by first | rfl | (simp; done) | (simp [*]; done)), H', ⟨Nat.le_refl _⟩, ⟨by (with_reducible repeat (first | apply uU | apply uS | apply uT)); exact uX (uV (p := ⟨gb427, 3, none⟩) (uV (p := ⟨gb427, 2, none⟩) (uV (p := ⟨gb427, 1, none⟩) (uV (p := ⟨gb427, 0, none⟩) (uW HO423.out BK427.out (by decide)) (fun _ hk => hk.2) (.int .i64 t415)) (fun _ hk => hk.2) (.int .i64 t416)) (fun _ hk => hk.2) (.bool t417)) (fun _ hk => hk.2) (.slice Ao20 t418.length co20)) (fun _ hk => trivial)⟩, ⟨Kd.Q_of_R (by (with_reducible repeat (first | apply uU | apply uS | apply uT)); exact uX (uV (p := ⟨gb427, 3, none⟩) (uV (p := ⟨gb427, 2, none⟩) (uV (p := ⟨gb427, 1, none⟩) (uV (p := ⟨gb427, 0, none⟩) (uW HO420.out BK427.out (by decide)) (fun _ hk => hk.2) (.int .i64 t415)) (fun _ hk => hk.2) (.int .i64 t416)) (fun _ hk => hk.2) (.bool t417)) (fun _ hk => hk.2) (.slice Ao20 t418.length co20)) (fun _ hk => trivial))⟩, ⟨Kd.Q_of_R (by (with_reducible repeat (first | apply uU | apply uS | apply uT)); exact uX (uV (p := ⟨gb427, 3, none⟩) (uV (p := ⟨gb427, 2, none⟩) (uV (p := ⟨gb427, 1, none⟩) (uV (p := ⟨gb427, 0, none⟩) (uW HO420.out BK427.out (by decide)) (fun _ hk => hk.2) (.int .i64 t415)) (fun _ hk => hk.2) (.int .i64 t416)) (fun _ hk => hk.2) (.bool t417)) (fun _ hk => hk.2) (.slice Ao20 t418.length co20)) (fun _ hk => trivial))⟩, ⟨by exact ps BK424⟩, ⟨by (with_reducible repeat first|apply uH|apply uJ|apply uG); refine uP (cs := #[.int .i64 t415, .int .i64 t416, .bool t417, .slice none 0 0]) ?_ 3 _ rfl; (with_reducible repeat first|apply uH|apply uJ|apply uG); refine uP (cs := #[.int .i64 t415, .int .i64 t416, .bool false, .slice none 0 0]) ?_ 2 _ rfl; (with_reducible repeat first|apply uH|apply uJ|apply uG); refine uP (cs := #[.int .i64 t415, .int .i64 0, .bool false, .slice none 0 0]) ?_ 1 _ rfl; (with_reducible repeat first|apply uH|apply uJ|apply uG); refine uP (cs := #[.int .i64 0, .int .i64 0, .bool false, .slice none 0 0]) ?_ 0 _ rfl; (with_reducible repeat first|apply uH|apply uJ|apply uG); exact BK427.out⟩, ⟨pb HB⟩⟩
    case round =>
     clear H'
     try clear c1
     try clear c2
     try clear p2
     try clear c3
     try clear c4
     try clear c5
     try clear c7
     try clear c7b0
     try clear c7b1
     try clear c8
     try clear c8b0
     try clear c12
     try clear c27
     try clear hcz11_0
     try clear hcz11_1
     try clear hcz11_2
     try clear hcz11_3
     try clear hcz15_0
     try clear hcz15_1
     try clear hcz15_2
     try clear hcz15_3
     try clear hcz19_0
     try clear hcz19_1
     try clear hcz19_2
     try clear hcz19_3
     try clear hcz23_0
     try clear hcz23_1
     try clear hcz23_2
     try clear hcz23_3
     try clear hcz25_0
     try clear hcz25_1
     try clear hcz25_2
     try clear hcz25_3
     try clear hcz28_0
     try clear hcz28_1
     try clear hcz28_2
     try clear hcz28_3
     try clear hfz11_0
     try clear hfz11_1
     try clear hfz11_2
     try clear hfz11_3
     try clear hfz15_0
     try clear hfz15_1
     try clear hfz15_2
     try clear hfz15_3
     try clear hfz19_0
     try clear hfz19_1
     try clear hfz19_2
     try clear hfz19_3
     try clear hfz23_0
     try clear hfz23_1
     try clear hfz23_2
     try clear hfz23_3
     try clear hfz25_0
     try clear hfz25_1
     try clear hfz25_2
     try clear hfz25_3
     try clear hfz28_0
     try clear hfz28_1
     try clear hfz28_2
     try clear hfz28_3
     obtain ⟨x7_1, x428000_1, x428001_1, x428002_1, x428003_1, u428003, rfl, HA, HK1, HO_4, HO_425003, HO_428003, BK424, BK427, HB⟩ := hrel
     cases gk with
     | zero => exact absurd HA.out (by simp [laws_FnBeltRoom.l0])
     | succ k1 =>
      have H := HA.out
      clear HA
      simp only [laws_FnBeltRoom.l0] at H
      by_cases c29 : x7_1 < (t421.length : Int)
      ·rw [if_pos c29] at H
       have c29b0 : decide (x7_1 < (t421.length : Int)) = true := decide_eq_true c29
       clear c29
       replace H := Option.bind_eq_some_iff.mp H
       obtain ⟨⟨t428, t429, t430, t431⟩, A300, H⟩ := H
       replace H : (if 0 ≤ x7_1 then ((impl_Enter.f k1 t428 t429 t430 t431 (wrap64 (5000 + x7_1)) (rd t421 x7_1)).bind fun bt435 => (if (bt435.2.2.2.2 != (decide (x7_1 < t425))) = true then (some false) else (if bt435.2.2.2.2 = true then (laws_FnBeltRoom.l0 k1 t421 t425 (wrap64 (x7_1 + 1)) bt435.1 bt435.2.1 bt435.2.2.1 bt435.2.2.2.1) else (some (decide (t425 ≤ (t421.length : Int))))))) else (none)) = some true := H
       have A30 := uD A300
       clear A300
       by_cases c31 : 0 ≤ x7_1
       ·rw [if_pos c31] at H
        have c31b0 : decide (0 ≤ x7_1) = true := decide_eq_true c31
        clear c31
        replace H := Option.bind_eq_some_iff.mp H
        obtain ⟨⟨t435, t436, t437, t438, t441⟩, A320, H⟩ := H
        replace H : (if (t441 != (decide (x7_1 < t425))) = true then (some false) else (if t441 = true then (laws_FnBeltRoom.l0 k1 t421 t425 (wrap64 (x7_1 + 1)) t435 t436 t437 t438) else (some (decide (t425 ≤ (t421.length : Int)))))) = some true := H
        have A32 := uD A320
        clear A320
        by_cases c33 : (t441 != (decide (x7_1 < t425))) = true
        ·rw [if_pos c33] at H
         have c33b0 : (t441 != (decide (x7_1 < t425))) = true := c33
         (try (have c33b1 : decide (t441 = (decide (x7_1 < t425))) = false := by simpa using c33))
         (try (have c33b2 : (t441 == (decide (x7_1 < t425))) = false := by simpa using c33))
         (try (have c33b3 : ¬ (t441 = (decide (x7_1 < t425))) := by simpa using c33))
         clear c33
         exact absurd H (by simp)
        ·rw [if_neg c33] at H
         have c33b0 : (t441 != (decide (x7_1 < t425))) = false := by simpa using c33
         (try (have c33b1 : decide (t441 = (decide (x7_1 < t425))) = true := by simpa using c33))
         (try (have c33b2 : (t441 == (decide (x7_1 < t425))) = true := by simpa using c33))
         clear c33
         by_cases c34 : t441 = true
         ·subst c34
          have H1 : (laws_FnBeltRoom.l0 k1 t421 t425 (wrap64 (x7_1 + 1)) t435 t436 t437 t438) = some true := by rw [if_pos rfl] at H; first | done | exact H
          clear H
          have H := H1
          clear H1
          have H' := uD H
          clear H
          have hnb35 := NB427_424.out
          have hnc35 := NB424_427.out
          obtain ⟨hcz36_0, hcz36_1, hcz36_2, hcz36_3, hfz36_0, hfz36_1, hfz36_2, hfz36_3⟩ := cz4 BK427
          obtain ⟨Ao37, co37, eo37, _⟩ := Kd.Q_slice HO_428003.out
          subst eo37
          try go_wp2_with (first | ((with_reducible refine gate_callee (f := 51) rfl ?_); refine goesL_ (some 35) rfl rfl Try.func51 (by kernel_rfl) rfl #[.agg #[.int .i64 x428000_1, .int .i64 x428001_1, .bool x428002_1, .slice Ao37 x428003_1.length co37], .int .i64 400] rfl (by (try simp only [List.map_toArray, List.map_cons, List.map_nil]); first | done | rfl | (simp only [List.length_drop, List.length_take]; rfl)) ?_; (with_reducible refine (impl_Move.calls k1 x428000_1 x428001_1 x428002_1 _ _ x428003_1 400 t428 t429 t430 t431 _ ?side1 ?side2 A30.out).mono ?_); (case side1 => repeat (first | exact (Kd.Q_reads' HO_428003.out).2.2 | (with_reducible refine Kd.C_alloc ?_ _) | (with_reducible refine Kd.C_drewN ?_ _) | (with_reducible refine Kd.C_drew ?_))); (case side2 => exact (Kd.Q_reads' HO_428003.out).2.1); rintro e w38 ⟨v432, rfl, ho0, hb⟩; refine ⟨_, rfl, ?_⟩; replace HO_4 := uD (Kd.R_below (pr HO_4) hb); have HO433 := uD (Kd.Q_lower (Kd.Q_new' (Kd.Q_new' ho0 (Kd.Q_lt (pq HO_425003))) (Kd.Q_lt (pq HO_428003))) (uN (pb HB))); replace HO_425003 := uD (Kd.Q_elder' (pq HO_425003) (Kd.Q_base ho0) hb); replace HO_428003 := uD (Kd.Q_elder' (pq HO_428003) (Kd.Q_base ho0) hb); replace BK424 := uD (blk_below (pk BK424) hb); replace BK427 := uD (blk_below (pk BK427) hb); replace HB := uD (uO (pb HB) hb); (try clear hb); (try clear hb2); (try clear hk); (try clear hi); (try clear ho0); obtain ⟨hcz39_0, hcz39_1, hcz39_2, hcz39_3, hfz39_0, hfz39_1, hfz39_2, hfz39_3⟩ := cz4 BK427; obtain ⟨Ao40, co40, eo40, _⟩ := Kd.Q_slice HO433.out; subst eo40))
          have n0_ : Aside0 (Kd.R (Kd.int .i64) 3 ((((w38.setCell ⟨gb427, 0, none⟩ (.int .i64 t428)).setCell ⟨gb427, 1, none⟩ (.int .i64 t429)).setCell ⟨gb427, 2, none⟩ (.bool t430)).setCell ⟨gb427, 3, none⟩ (.slice Ao40 t431.length co40)) w.heap.size (fun _ => True) (.slice Ao21 t421.length co21) t421) := ⟨by (with_reducible repeat (first | apply uU | apply uS | apply uT)); exact uX (uV (p := ⟨gb427, 3, none⟩) (uV (p := ⟨gb427, 2, none⟩) (uV (p := ⟨gb427, 1, none⟩) (uV (p := ⟨gb427, 0, none⟩) (uW HO_4.out BK427.out (by decide)) (fun _ hk => hk.2) (.int .i64 t428)) (fun _ hk => hk.2) (.int .i64 t429)) (fun _ hk => hk.2) (.bool t430)) (fun _ hk => hk.2) (.slice Ao40 t431.length co40)) (fun _ hk => trivial)⟩
          have n1_ : Aside0 (Kd.Q k74 74 ((((w38.setCell ⟨gb427, 0, none⟩ (.int .i64 t428)).setCell ⟨gb427, 1, none⟩ (.int .i64 t429)).setCell ⟨gb427, 2, none⟩ (.bool t430)).setCell ⟨gb427, 3, none⟩ (.slice Ao40 t431.length co40)) w.heap.size (fun k_ => some k_ ≠ (.slice Ao40 t431.length co40 : Value).ownBlock) (.slice Ao20 t418.length co20) t418) := ⟨by (with_reducible repeat (first | apply Kd.Q_alloc | apply Kd.Q_drewN | apply Kd.Q_drew)); exact Kd.Q_mono (Kd.Q_far (p := ⟨gb427, 3, none⟩) (Kd.Q_far (p := ⟨gb427, 2, none⟩) (Kd.Q_far (p := ⟨gb427, 1, none⟩) (Kd.Q_far (p := ⟨gb427, 0, none⟩) (Kd.Q_types HO_425003.out BK427.out (by decide)) (fun _ hk => hk.2) (.int .i64 t428)) (fun _ hk => hk.2) (.int .i64 t429)) (fun _ hk => hk.2) (.bool t430)) (fun _ hk => hk.2) (.slice Ao40 t431.length co40)) (fun _ hk => hk.1.2)⟩
          have n2_ : Aside0 (Kd.Q k74 74 ((((w38.setCell ⟨gb427, 0, none⟩ (.int .i64 t428)).setCell ⟨gb427, 1, none⟩ (.int .i64 t429)).setCell ⟨gb427, 2, none⟩ (.bool t430)).setCell ⟨gb427, 3, none⟩ (.slice Ao40 t431.length co40)) w.heap.size (fun k_ => some k_ ≠ (.slice Ao40 t431.length co40 : Value).ownBlock) (.slice Ao37 x428003_1.length co37) x428003_1) := ⟨by (with_reducible repeat (first | apply Kd.Q_alloc | apply Kd.Q_drewN | apply Kd.Q_drew)); exact Kd.Q_mono (Kd.Q_far (p := ⟨gb427, 3, none⟩) (Kd.Q_far (p := ⟨gb427, 2, none⟩) (Kd.Q_far (p := ⟨gb427, 1, none⟩) (Kd.Q_far (p := ⟨gb427, 0, none⟩) (Kd.Q_types HO_428003.out BK427.out (by decide)) (fun _ hk => hk.2) (.int .i64 t428)) (fun _ hk => hk.2) (.int .i64 t429)) (fun _ hk => hk.2) (.bool t430)) (fun _ hk => hk.2) (.slice Ao40 t431.length co40)) (fun _ hk => hk.1.2)⟩
          have n3_ : Aside0 (Kd.Q k74 74 ((((w38.setCell ⟨gb427, 0, none⟩ (.int .i64 t428)).setCell ⟨gb427, 1, none⟩ (.int .i64 t429)).setCell ⟨gb427, 2, none⟩ (.bool t430)).setCell ⟨gb427, 3, none⟩ (.slice Ao40 t431.length co40)) w.heap.size (fun k_ => some k_ ≠ (.slice Ao20 t418.length co20 : Value).ownBlock ∧ some k_ ≠ (.slice Ao37 x428003_1.length co37 : Value).ownBlock) (.slice Ao40 t431.length co40) t431) := ⟨by (with_reducible repeat (first | apply Kd.Q_alloc | apply Kd.Q_drewN | apply Kd.Q_drew)); exact Kd.Q_mono (Kd.Q_far (p := ⟨gb427, 3, none⟩) (Kd.Q_far (p := ⟨gb427, 2, none⟩) (Kd.Q_far (p := ⟨gb427, 1, none⟩) (Kd.Q_far (p := ⟨gb427, 0, none⟩) (Kd.Q_types HO433.out BK427.out (by decide)) (fun _ hk => hk.2) (.int .i64 t428)) (fun _ hk => hk.2) (.int .i64 t429)) (fun _ hk => hk.2) (.bool t430)) (fun _ hk => hk.2) (.slice Ao40 t431.length co40)) (fun _ hk => ⟨hk.1.1.2, hk.1.2⟩)⟩
          have n4_ : Aside0 (((((w38.setCell ⟨gb427, 0, none⟩ (.int .i64 t428)).setCell ⟨gb427, 1, none⟩ (.int .i64 t429)).setCell ⟨gb427, 2, none⟩ (.bool t430)).setCell ⟨gb427, 3, none⟩ (.slice Ao40 t431.length co40)).heap[gb424]? = some (.cells #[.int .i64 t415, .int .i64 t416, .bool t417, .slice Ao20 t418.length co20] 63 (0, 0))) := ⟨by exact ps BK424⟩
          have n5_ : Aside0 (((((w38.setCell ⟨gb427, 0, none⟩ (.int .i64 t428)).setCell ⟨gb427, 1, none⟩ (.int .i64 t429)).setCell ⟨gb427, 2, none⟩ (.bool t430)).setCell ⟨gb427, 3, none⟩ (.slice Ao40 t431.length co40)).heap[gb427]? = some (.cells #[.int .i64 t428, .int .i64 t429, .bool t430, .slice Ao40 t431.length co40] 63 (0, 0))) := ⟨by (with_reducible repeat first|apply uH|apply uJ|apply uG); refine uP (cs := #[.int .i64 t428, .int .i64 t429, .bool t430, .slice Ao37 x428003_1.length co37]) ?_ 3 _ rfl; (with_reducible repeat first|apply uH|apply uJ|apply uG); refine uP (cs := #[.int .i64 t428, .int .i64 t429, .bool x428002_1, .slice Ao37 x428003_1.length co37]) ?_ 2 _ rfl; (with_reducible repeat first|apply uH|apply uJ|apply uG); refine uP (cs := #[.int .i64 t428, .int .i64 x428001_1, .bool x428002_1, .slice Ao37 x428003_1.length co37]) ?_ 1 _ rfl; (with_reducible repeat first|apply uH|apply uJ|apply uG); refine uP (cs := #[.int .i64 x428000_1, .int .i64 x428001_1, .bool x428002_1, .slice Ao37 x428003_1.length co37]) ?_ 0 _ rfl; (with_reducible repeat first|apply uH|apply uJ|apply uG); exact BK427.out⟩
          have n6_ : Aside0 (Below w.heap.size w ((((w38.setCell ⟨gb427, 0, none⟩ (.int .i64 t428)).setCell ⟨gb427, 1, none⟩ (.int .i64 t429)).setCell ⟨gb427, 2, none⟩ (.bool t430)).setCell ⟨gb427, 3, none⟩ (.slice Ao40 t431.length co40))) := ⟨pb HB⟩
          (try clear HO_4)
          (try clear HO_425003)
          (try clear HO_428003)
          (try clear HO433)
          (try clear BK424)
          (try clear BK427)
          (try clear HB)
          generalize ((((w38.setCell ⟨gb427, 0, none⟩ (.int .i64 t428)).setCell ⟨gb427, 1, none⟩ (.int .i64 t429)).setCell ⟨gb427, 2, none⟩ (.bool t430)).setCell ⟨gb427, 3, none⟩ (.slice Ao40 t431.length co40)) = w41 at n0_ n1_ n2_ n3_ n4_ n5_ n6_ ⊢
          have HO_4 := n0_
          have HO_425003 := n1_
          have HO_428003 := n2_
          have HO433 := n3_
          have BK424 := n4_
          have BK427 := n5_
          have HB := n6_
          clear n0_ n1_ n2_ n3_ n4_ n5_ n6_
          replace HO_4 := uD (uT HO_4.out)
          replace HO_425003 := uD (Kd.Q_drew HO_425003.out)
          replace HO_428003 := uD (Kd.Q_drew HO_428003.out)
          replace HO433 := uD (Kd.Q_drew HO433.out)
          replace BK424 := uD (uJ BK424.out)
          replace BK427 := uD (uJ BK427.out)
          replace HB := uD (uK HB.out)
          have p434 : 0 ≤ (x7_1 : Int) := of_decide_eq_true (by first | (with_reducible assumption) | assumption)
          have q434 : x7_1 < (t421.length : Int) := of_decide_eq_true (by first | (with_reducible assumption) | assumption)
          obtain ⟨ad434, e434, hx434_0⟩ := Kd.at_int (Kd.R_reads' HO_4.out).2.2 x7_1 p434 q434
          cases e434
          replace p434 := eq_true p434
          replace q434 := eq_true q434
          refine start_ (n := 14) (S := fun w' => w'.cell? ⟨gb427, 0, none⟩ = some (.int .i64 t428) ∧ w'.cell? ⟨gb427, 1, none⟩ = some (.int .i64 t429) ∧ w'.cell? ⟨gb427, 2, none⟩ = some (.bool t430) ∧ w'.cell? ⟨gb427, 3, none⟩ = some (.slice Ao40 t431.length co40) ∧ w'.cell? (ad434.add (x7_1).toNat) = some (.int .i64 (rd t421 x7_1))) (ds := []) #[F,F,F,F,F,F,F,F,F,F,F,F,F,F] (by kernel_rfl) rfl rfl ⟨(uF BK427.out 0).trans rfl, (uF BK427.out 1).trans rfl, (uF BK427.out 2).trans rfl, (uF BK427.out 3).trans rfl, hx434_0⟩ (fun hHeld => ?_); refine with_tabW laws_FnBeltRoom.tab14 laws_FnBeltRoom.bits14 (fun HT_ HW_ => ?_)
          generalize w41.drew = w42 at HO_4 HO_425003 HO_428003 HO433 BK424 BK427 HB HO433 hx434_0 hHeld ⊢
          refine pu 1 (some 38) #[F,T,F,F,F,F,F,F,F,F,F,F,F,F] HT_ ?_
          refine pu 2 (some 39) #[F,T,T,F,F,F,F,F,F,F,F,F,F,F] HT_ ?_
          refine pu 3 (some 40) #[F,T,T,T,F,F,F,F,F,F,F,F,F,F] HT_ ?_
          refine pu 4 (some 41) #[F,T,T,T,T,F,F,F,F,F,F,F,F,F] HT_ ?_
          refine pu 5 (some 42) #[F,T,T,T,T,T,F,F,F,F,F,F,F,F] HT_ ?_
          refine take_ (i := 0) (N := some 37) (v := ?_) (a' := ?_) #[T,T,T,T,T,T,F,F,F,F,F,F,F,F] rfl rfl (take_ofW HT_.out HW_.out (by kernel_rfl)) (fun _ _ _ h => h) (Or.inl ⟨by rfl, ?_⟩) hHeld ?_ ?_
          rotate_left;(rintro w' ⟨s0, s1, s2, s3, s4⟩;go_simp;with_reducible rfl);rotate_left;(simp only [uc,uA,uB,uC,uZ,ua];rfl)
          refine take_ (i := 6) (N := some 43) (v := ?_) (a' := ?_) #[T,T,T,T,T,T,T,F,F,F,F,F,F,F] rfl rfl (take_ofW HT_.out HW_.out (by kernel_rfl)) (fun _ _ _ h => h) (Or.inl ⟨by rfl, ?_⟩) hHeld ?_ ?_
          rotate_left;(rintro w' ⟨s0, s1, s2, s3, s4⟩;go_simp;with_reducible rfl);rotate_left;(simp only [uc,uA,uB,uC,uZ,ua];rfl)
          refine join_ (σ := Value × Nat) 2 #[T,T,T,T,T,T,T,T,T,T,T,T,F,F] (fun s_ => [(44, .tuple #[.agg #[.int .i64 t435, .int .i64 t436, .bool t437, s_.1], .bool true]), (8, .pointer (some ⟨s_.2, 0, none⟩)), (36, .tuple #[.agg #[.int .i64 t435, .int .i64 t436, .bool t437, s_.1], .bool true]), (45, .agg #[.int .i64 t435, .int .i64 t436, .bool t437, s_.1]), (46, .bool true)]) (fun s_ w' => (w'.cell? ⟨gb427, 0, none⟩ = some (.int .i64 t428) ∧ w'.cell? ⟨gb427, 1, none⟩ = some (.int .i64 t429) ∧ w'.cell? ⟨gb427, 2, none⟩ = some (.bool t430) ∧ w'.cell? ⟨gb427, 3, none⟩ = some (.slice Ao40 t431.length co40) ∧ w'.cell? (ad434.add (x7_1).toNat) = some (.int .i64 (rd t421 x7_1))) ∧ (Kd.Q k74 74 w' w.heap.size (fun k_ => some k_ ≠ (s_.1 : Value).ownBlock ∧ some k_ ≠ (.slice Ao20 t418.length co20 : Value).ownBlock ∧ some k_ ≠ (.slice Ao37 x428003_1.length co37 : Value).ownBlock) (.slice Ao40 t431.length co40) t431) ∧ (Kd.R k74 74 w' w.heap.size (fun k_ => some k_ ≠ (.slice Ao40 t431.length co40 : Value).ownBlock ∧ some k_ ≠ (.slice Ao20 t418.length co20 : Value).ownBlock ∧ some k_ ≠ (.slice Ao37 x428003_1.length co37 : Value).ownBlock) s_.1 t438) ∧ (Kd.R (Kd.int .i64) 3 w' w.heap.size (fun _ => True) (.slice (some ad434) t421.length co21) t421) ∧ (Kd.Q k74 74 w' w.heap.size (fun k_ => some k_ ≠ (.slice Ao40 t431.length co40 : Value).ownBlock ∧ some k_ ≠ (s_.1 : Value).ownBlock) (.slice Ao20 t418.length co20) t418) ∧ (Kd.Q k74 74 w' w.heap.size (fun k_ => some k_ ≠ (.slice Ao40 t431.length co40 : Value).ownBlock ∧ some k_ ≠ (s_.1 : Value).ownBlock) (.slice Ao37 x428003_1.length co37) x428003_1) ∧ (w'.heap[gb424]? = some (.cells #[.int .i64 t415, .int .i64 t416, .bool t417, .slice Ao20 t418.length co20] 63 (0, 0))) ∧ (w'.heap[gb427]? = some (.cells #[.int .i64 t428, .int .i64 t429, .bool t430, .slice Ao40 t431.length co40] 63 (0, 0))) ∧ (w'.heap[s_.2]? = some (.cells #[.int .i64 0, .int .i64 0, .bool false, .slice none 0 0] 63 (0, 0))) ∧ (w.heap.size ≤ s_.2) ∧ (w.heap.size ≤ s_.2) ∧ (gb424 ≠ s_.2) ∧ (s_.2 ≠ gb424) ∧ (gb427 ≠ s_.2) ∧ (s_.2 ≠ gb427) ∧ (Below w.heap.size w w')) ?_ ?_
          rotate_left
          ·intro hCont
           refine two_ (i := 7) (j := 11) (Ni := some 44) (Nj := some 8) #[T,T,T,T,T,T,T,T,F,F,F,F,F,F] #[T,T,T,T,T,T,T,F,F,F,F,T,F,F] rfl rfl rfl rfl (two_of HT_.out (by kernel_rfl)) (by decide) (by decide) (fun K hK => ?_) (fun K hK => ?_)
           ·skip
            refine goes_ Try.func52 (by kernel_rfl) rfl #[.agg #[.int .i64 t428, .int .i64 t429, .bool t430, .slice Ao40 t431.length co40], .int .i64 (wrap64 (5000 + x7_1)), .int .i64 (rd t421 x7_1)] (by rfl) rfl rfl (by (try simp only [List.map_toArray, List.map_cons, List.map_nil]); first | done | rfl | (simp only [List.length_drop, List.length_take]; rfl)) ?_
            with_reducible refine (impl_Enter.calls k1 t428 t429 t430 _ _ t431 (wrap64 (5000 + x7_1)) (rd t421 x7_1) t435 t436 t437 t438 true _ ?side1 ?side2 A32.out).mono ?_
            (case side1 => repeat (first | exact (Kd.Q_reads' HO433.out).2.2 | (with_reducible refine Kd.C_alloc ?_ _) | (with_reducible refine Kd.C_drewN ?_ _) | (with_reducible refine Kd.C_drew ?_)))
            (case side2 => exact (Kd.Q_reads' HO433.out).2.1)
            rintro e w43 ⟨v439, rfl, ho0, hb⟩
            have HS4_ := (hb.cell (World.block_lt_of_cell? _ _ (hHeld.2.2.2.2))).trans (hHeld.2.2.2.2)
            refine ⟨_, rfl, ?_⟩
            replace HO_4 := uD (Kd.R_below (pr HO_4) hb)
            have HO440 := uD (Kd.R_lower (Kd.R_new' (Kd.R_new' (Kd.R_new' ho0 (Kd.Q_lt (pq HO_425003))) (Kd.Q_lt (pq HO_428003))) (Kd.Q_lt (pq HO433))) (uN (pb HB)))
            replace HO_425003 := uD (Kd.Q_elder' (pq HO_425003) (Kd.R_base ho0) hb)
            replace HO_428003 := uD (Kd.Q_elder' (pq HO_428003) (Kd.R_base ho0) hb)
            replace HO433 := uD (Kd.Q_elder' (pq HO433) (Kd.R_base ho0) hb)
            replace BK424 := uD (blk_below (pk BK424) hb)
            replace BK427 := uD (blk_below (pk BK427) hb)
            replace HB := uD (uO (pb HB) hb)
            (try clear hb)
            (try clear hb2)
            (try clear hk)
            (try clear hi)
            (try clear ho0)
            refine hK.out _ _ ⟨(uF BK427.out 0).trans rfl, (uF BK427.out 1).trans rfl, (uF BK427.out 2).trans rfl, (uF BK427.out 3).trans rfl, HS4_⟩ (fun hHeld => ?_)
            clear hK K
            refine norm_ (a' := ?_) ?_ ?_
            rotate_left
            ·show uc _ (some 44) _ = _
             simp only [uc, uA, uB, uC, uZ, ua]
             rfl
            refine pu 8 (some 36) #[T,T,T,T,T,T,T,T,T,F,F,F,F,F] HT_ ?_
            refine pu 9 (some 45) #[T,T,T,T,T,T,T,T,T,T,F,F,F,F] HT_ ?_
            refine pu 10 (some 46) #[T,T,T,T,T,T,T,T,T,T,T,F,F,F] HT_ ?_
            refine one_ (i := 11) (N := some 8) #[T,T,T,T,T,T,T,T,T,T,T,T,F,F] rfl rfl (one_of HT_.out (by kernel_rfl)) (by decide) (fun K hK => ?_)
            refine box_step ?hg (N := 8) ?hd (cs := #[.int .i64 0, .int .i64 0, .bool false, .slice none 0 0]) (t := 63) ?hr ?_; (case hd => rfl); (case hg => rfl); (case hr => first | (go_simp; done) | (go_simp; rfl))
            intro gb442 hg w44 hbox hb
            have HS4_ := (hb.cell (World.block_lt_of_cell? _ _ (hHeld.2.2.2.2))).trans (hHeld.2.2.2.2)
            replace HO_4 := uD (Kd.R_below (pr HO_4) hb)
            replace HO_425003 := uD (Kd.Q_below (pq HO_425003) hb)
            replace HO_428003 := uD (Kd.Q_below (pq HO_428003) hb)
            replace HO433 := uD (Kd.Q_below (pq HO433) hb)
            replace HO440 := uD (Kd.R_below (pr HO440) hb)
            have BK442 := uD (hbox)
            have GW442 := uD ((by rw [hg]; exact (uN (pb HB)) : w.heap.size ≤ gb442))
            have GE442 := uD ((by rw [hg]; exact (uN (pb HB)) : w.heap.size ≤ gb442))
            replace HB := uD (uO (pb HB) hb)
            have NB424_442 := uD ((by rw [hg]; exact Nat.ne_of_lt (blk_lt (pk BK424)) : gb424 ≠ gb442))
            have NB442_424 := uD ((by rw [hg]; exact Nat.ne_of_gt (blk_lt (pk BK424)) : gb442 ≠ gb424))
            replace BK424 := uD (blk_below (pk BK424) hb)
            have NB427_442 := uD ((by rw [hg]; exact Nat.ne_of_lt (blk_lt (pk BK427)) : gb427 ≠ gb442))
            have NB442_427 := uD ((by rw [hg]; exact Nat.ne_of_gt (blk_lt (pk BK427)) : gb442 ≠ gb427))
            replace BK427 := uD (blk_below (pk BK427) hb)
            clear hb hbox hg
            refine hK.out _ _ ⟨(uF BK427.out 0).trans rfl, (uF BK427.out 1).trans rfl, (uF BK427.out 2).trans rfl, (uF BK427.out 3).trans rfl, HS4_⟩ (fun hHeld => ?_)
            clear hK K
            refine norm_ (a' := ?_) ?_ ?_
            rotate_left
            ·show uc _ (some 8) _ = _
             simp only [uc, uA, uB, uC, uZ, ua]
             rfl
            exact norm_ (by simp only [putAll, uc, uA, uB, uC]) (hCont (v439, gb442) _ ⟨hHeld, (by (with_reducible repeat (first | apply Kd.Q_alloc | apply Kd.Q_drewN | apply Kd.Q_drew)); exact Kd.Q_mono HO433.out (fun _ hk => ⟨hk.2, ⟨hk.1.1, hk.1.2⟩⟩)), (by (with_reducible repeat (first | apply uU | apply uS | apply uT)); exact uX HO440.out (fun _ hk => ⟨hk.2, ⟨hk.1.1.2, hk.1.2⟩⟩)), (pr HO_4), (pq HO_425003), (pq HO_428003), (pk BK424), (pk BK427), (pk BK442), GW442.out, GE442.out, NB424_442.out, NB442_424.out, NB427_442.out, NB442_427.out, (pb HB)⟩)
           ·skip
            refine box_step ?hg (N := 8) ?hd (cs := #[.int .i64 0, .int .i64 0, .bool false, .slice none 0 0]) (t := 63) ?hr ?_; (case hd => rfl); (case hg => rfl); (case hr => first | (go_simp; done) | (go_simp; rfl))
            intro gb442 hg w43 hbox hb
            have HS4_ := (hb.cell (World.block_lt_of_cell? _ _ (hHeld.2.2.2.2))).trans (hHeld.2.2.2.2)
            replace HO_4 := uD (Kd.R_below (pr HO_4) hb)
            replace HO_425003 := uD (Kd.Q_below (pq HO_425003) hb)
            replace HO_428003 := uD (Kd.Q_below (pq HO_428003) hb)
            replace HO433 := uD (Kd.Q_below (pq HO433) hb)
            have BK442 := uD (hbox)
            have GW442 := uD ((by rw [hg]; exact (uN (pb HB)) : w.heap.size ≤ gb442))
            have GE442 := uD ((by rw [hg]; exact (uN (pb HB)) : w.heap.size ≤ gb442))
            replace HB := uD (uO (pb HB) hb)
            have NB424_442 := uD ((by rw [hg]; exact Nat.ne_of_lt (blk_lt (pk BK424)) : gb424 ≠ gb442))
            have NB442_424 := uD ((by rw [hg]; exact Nat.ne_of_gt (blk_lt (pk BK424)) : gb442 ≠ gb424))
            replace BK424 := uD (blk_below (pk BK424) hb)
            have NB427_442 := uD ((by rw [hg]; exact Nat.ne_of_lt (blk_lt (pk BK427)) : gb427 ≠ gb442))
            have NB442_427 := uD ((by rw [hg]; exact Nat.ne_of_gt (blk_lt (pk BK427)) : gb442 ≠ gb427))
            replace BK427 := uD (blk_below (pk BK427) hb)
            clear hb hbox hg
            refine hK.out _ _ ⟨(uF BK427.out 0).trans rfl, (uF BK427.out 1).trans rfl, (uF BK427.out 2).trans rfl, (uF BK427.out 3).trans rfl, HS4_⟩ (fun hHeld => ?_)
            clear hK K
            refine norm_ (a' := ?_) ?_ ?_
            rotate_left
            ·show uc _ (some 8) _ = _
             simp only [uc, uA, uB, uC, uZ, ua]
             rfl
            refine one_ (i := 7) (N := some 44) #[T,T,T,T,T,T,T,T,F,F,F,T,F,F] rfl rfl (one_of HT_.out (by kernel_rfl)) (by decide) (fun K hK => ?_)
            refine goes_ Try.func52 (by kernel_rfl) rfl #[.agg #[.int .i64 t428, .int .i64 t429, .bool t430, .slice Ao40 t431.length co40], .int .i64 (wrap64 (5000 + x7_1)), .int .i64 (rd t421 x7_1)] (by rfl) rfl rfl (by (try simp only [List.map_toArray, List.map_cons, List.map_nil]); first | done | rfl | (simp only [List.length_drop, List.length_take]; rfl)) ?_
            with_reducible refine (impl_Enter.calls k1 t428 t429 t430 _ _ t431 (wrap64 (5000 + x7_1)) (rd t421 x7_1) t435 t436 t437 t438 true _ ?side1 ?side2 A32.out).mono ?_
            (case side1 => repeat (first | exact (Kd.Q_reads' HO433.out).2.2 | (with_reducible refine Kd.C_alloc ?_ _) | (with_reducible refine Kd.C_drewN ?_ _) | (with_reducible refine Kd.C_drew ?_)))
            (case side2 => exact (Kd.Q_reads' HO433.out).2.1)
            rintro e w44 ⟨v439, rfl, ho0, hb⟩
            have HS4_ := (hb.cell (World.block_lt_of_cell? _ _ (hHeld.2.2.2.2))).trans (hHeld.2.2.2.2)
            refine ⟨_, rfl, ?_⟩
            replace HO_4 := uD (Kd.R_below (pr HO_4) hb)
            have HO440 := uD (Kd.R_lower (Kd.R_new' (Kd.R_new' (Kd.R_new' ho0 (Kd.Q_lt (pq HO_425003))) (Kd.Q_lt (pq HO_428003))) (Kd.Q_lt (pq HO433))) (uN (pb HB)))
            replace HO_425003 := uD (Kd.Q_elder' (pq HO_425003) (Kd.R_base ho0) hb)
            replace HO_428003 := uD (Kd.Q_elder' (pq HO_428003) (Kd.R_base ho0) hb)
            replace HO433 := uD (Kd.Q_elder' (pq HO433) (Kd.R_base ho0) hb)
            replace BK424 := uD (blk_below (pk BK424) hb)
            replace BK427 := uD (blk_below (pk BK427) hb)
            replace BK442 := uD (blk_below (pk BK442) hb)
            replace HB := uD (uO (pb HB) hb)
            (try clear hb)
            (try clear hb2)
            (try clear hk)
            (try clear hi)
            (try clear ho0)
            refine hK.out _ _ ⟨(uF BK427.out 0).trans rfl, (uF BK427.out 1).trans rfl, (uF BK427.out 2).trans rfl, (uF BK427.out 3).trans rfl, HS4_⟩ (fun hHeld => ?_)
            clear hK K
            refine norm_ (a' := ?_) ?_ ?_
            rotate_left
            ·show uc _ (some 44) _ = _
             simp only [uc, uA, uB, uC, uZ, ua]
             rfl
            refine pu 8 (some 36) #[T,T,T,T,T,T,T,T,T,F,F,T,F,F] HT_ ?_
            refine pu 9 (some 45) #[T,T,T,T,T,T,T,T,T,T,F,T,F,F] HT_ ?_
            refine pu 10 (some 46) #[T,T,T,T,T,T,T,T,T,T,T,T,F,F] HT_ ?_
            exact norm_ (by simp only [putAll, uc, uA, uB, uC]) (hCont (v439, gb442) _ ⟨hHeld, (by (with_reducible repeat (first | apply Kd.Q_alloc | apply Kd.Q_drewN | apply Kd.Q_drew)); exact Kd.Q_mono HO433.out (fun _ hk => ⟨hk.2, ⟨hk.1.1, hk.1.2⟩⟩)), (by (with_reducible repeat (first | apply uU | apply uS | apply uT)); exact uX HO440.out (fun _ hk => ⟨hk.2, ⟨hk.1.1.2, hk.1.2⟩⟩)), (pr HO_4), (pq HO_425003), (pq HO_428003), (pk BK424), (pk BK427), (pk BK442), GW442.out, GE442.out, NB424_442.out, NB442_424.out, NB427_442.out, NB442_427.out, (pb HB)⟩)
          rintro ⟨v439, gb442⟩ w45 ⟨hS_, h0_, h1_, h2_, h3_, h4_, h5_, h6_, h7_, h8_, h9_, h10_, h11_, h12_, h13_, h14_⟩
          have n0_ : Aside0 (Kd.Q k74 74 w45 w.heap.size (fun k_ => some k_ ≠ (v439 : Value).ownBlock ∧ some k_ ≠ (.slice Ao20 t418.length co20 : Value).ownBlock ∧ some k_ ≠ (.slice Ao37 x428003_1.length co37 : Value).ownBlock) (.slice Ao40 t431.length co40) t431) := ⟨h0_⟩
          have n1_ : Aside0 (Kd.R k74 74 w45 w.heap.size (fun k_ => some k_ ≠ (.slice Ao40 t431.length co40 : Value).ownBlock ∧ some k_ ≠ (.slice Ao20 t418.length co20 : Value).ownBlock ∧ some k_ ≠ (.slice Ao37 x428003_1.length co37 : Value).ownBlock) v439 t438) := ⟨h1_⟩
          have n2_ : Aside0 (Kd.R (Kd.int .i64) 3 w45 w.heap.size (fun _ => True) (.slice (some ad434) t421.length co21) t421) := ⟨h2_⟩
          have n3_ : Aside0 (Kd.Q k74 74 w45 w.heap.size (fun k_ => some k_ ≠ (.slice Ao40 t431.length co40 : Value).ownBlock ∧ some k_ ≠ (v439 : Value).ownBlock) (.slice Ao20 t418.length co20) t418) := ⟨h3_⟩
          have n4_ : Aside0 (Kd.Q k74 74 w45 w.heap.size (fun k_ => some k_ ≠ (.slice Ao40 t431.length co40 : Value).ownBlock ∧ some k_ ≠ (v439 : Value).ownBlock) (.slice Ao37 x428003_1.length co37) x428003_1) := ⟨h4_⟩
          have n5_ : Aside0 (w45.heap[gb424]? = some (.cells #[.int .i64 t415, .int .i64 t416, .bool t417, .slice Ao20 t418.length co20] 63 (0, 0))) := ⟨h5_⟩
          have n6_ : Aside0 (w45.heap[gb427]? = some (.cells #[.int .i64 t428, .int .i64 t429, .bool t430, .slice Ao40 t431.length co40] 63 (0, 0))) := ⟨h6_⟩
          have n7_ : Aside0 (w45.heap[gb442]? = some (.cells #[.int .i64 0, .int .i64 0, .bool false, .slice none 0 0] 63 (0, 0))) := ⟨h7_⟩
          have n8_ : Aside0 (w.heap.size ≤ gb442) := ⟨h8_⟩
          have n9_ : Aside0 (w.heap.size ≤ gb442) := ⟨h9_⟩
          have n10_ : Aside0 (gb424 ≠ gb442) := ⟨h10_⟩
          have n11_ : Aside0 (gb442 ≠ gb424) := ⟨h11_⟩
          have n12_ : Aside0 (gb427 ≠ gb442) := ⟨h12_⟩
          have n13_ : Aside0 (gb442 ≠ gb427) := ⟨h13_⟩
          have n14_ : Aside0 (Below w.heap.size w w45) := ⟨h14_⟩
          clear HO_4
          clear HO_425003
          clear HO_428003
          clear HO433
          clear BK424
          clear BK427
          clear HB
          clear h0_ h1_ h2_ h3_ h4_ h5_ h6_ h7_ h8_ h9_ h10_ h11_ h12_ h13_ h14_
          have HO433 := n0_
          have HO440 := n1_
          have HO_4 := n2_
          have HO_425003 := n3_
          have HO_428003 := n4_
          have BK424 := n5_
          have BK427 := n6_
          have BK442 := n7_
          have GW442 := n8_
          have GE442 := n9_
          have NB424_442 := n10_
          have NB442_424 := n11_
          have NB427_442 := n12_
          have NB442_427 := n13_
          have HB := n14_
          clear n0_ n1_ n2_ n3_ n4_ n5_ n6_ n7_ n8_ n9_ n10_ n11_ n12_ n13_ n14_
          have hHeld : w45.cell? ⟨gb427, 0, none⟩ = some (.int .i64 t428) ∧ w45.cell? ⟨gb427, 1, none⟩ = some (.int .i64 t429) ∧ w45.cell? ⟨gb427, 2, none⟩ = some (.bool t430) ∧ w45.cell? ⟨gb427, 3, none⟩ = some (.slice Ao40 t431.length co40) ∧ w45.cell? (ad434.add (x7_1).toNat) = some (.int .i64 (rd t421 x7_1)) := hS_
          obtain ⟨Ao49, co49, eo49⟩ := Kd.R_slice HO440.out
          (first | subst eo49 | (injection eo49 with f1_ f2_ f3_; have f4_ := f1_.symm; have f5_ := f3_.symm; clear f1_ f2_ f3_; subst f4_; subst f5_))
          refine norm_ (a' := ?_) ?_ ?_
          rotate_left
          ·simp only [putAll, uc, uA, uB, uC]
           rfl
          refine one_ (i := 12) (N := none) #[T,T,T,T,T,T,T,T,T,T,T,T,T,F] rfl rfl (one_of HT_.out (by kernel_rfl)) (by decide) (fun K hK => ?_)
          have hs46 : w45.cell? ⟨gb442, 0, none⟩ = some (.int .i64 0) := (uF BK442.out 0).trans rfl
          have hfs46 := uI BK442.out 0
          have hns46_0 := NB424_442.out
          have hns46_1 := NB427_442.out
          have hms46_0 := NB442_424.out
          have hms46_1 := NB442_427.out
          have hs47 : w45.cell? ⟨gb442, 1, none⟩ = some (.int .i64 0) := (uF BK442.out 1).trans rfl
          have hfs47 := uI BK442.out 1
          have hns47_0 := NB424_442.out
          have hns47_1 := NB427_442.out
          have hms47_0 := NB442_424.out
          have hms47_1 := NB442_427.out
          have hs48 : w45.cell? ⟨gb442, 2, none⟩ = some (.bool false) := (uF BK442.out 2).trans rfl
          have hfs48 := uI BK442.out 2
          have hns48_0 := NB424_442.out
          have hns48_1 := NB427_442.out
          have hms48_0 := NB442_424.out
          have hms48_1 := NB442_427.out
          have hs50 : w45.cell? ⟨gb442, 3, none⟩ = some (.slice none 0 0) := (uF BK442.out 3).trans rfl
          have hfs50 := uI BK442.out 3
          have hns50_0 := NB424_442.out
          have hns50_1 := NB427_442.out
          have hms50_0 := NB442_424.out
          have hms50_1 := NB442_427.out
          refine skip_ (w1 := ?_) (by rfl) rfl ?_ ?_
          rotate_left
          ·go_simp
           rfl
          refine hK.out _ _ ⟨((cell_far (p := ⟨gb442, _, none⟩) NB427_442.out _).trans (((cell_far (p := ⟨gb442, _, none⟩) NB427_442.out _).trans (((cell_far (p := ⟨gb442, _, none⟩) NB427_442.out _).trans (((cell_far (p := ⟨gb442, _, none⟩) NB427_442.out _).trans (hHeld.1)))))))), ((cell_far (p := ⟨gb442, _, none⟩) NB427_442.out _).trans (((cell_far (p := ⟨gb442, _, none⟩) NB427_442.out _).trans (((cell_far (p := ⟨gb442, _, none⟩) NB427_442.out _).trans (((cell_far (p := ⟨gb442, _, none⟩) NB427_442.out _).trans (hHeld.2.1)))))))), ((cell_far (p := ⟨gb442, _, none⟩) NB427_442.out _).trans (((cell_far (p := ⟨gb442, _, none⟩) NB427_442.out _).trans (((cell_far (p := ⟨gb442, _, none⟩) NB427_442.out _).trans (((cell_far (p := ⟨gb442, _, none⟩) NB427_442.out _).trans (hHeld.2.2.1)))))))), ((cell_far (p := ⟨gb442, _, none⟩) NB427_442.out _).trans (((cell_far (p := ⟨gb442, _, none⟩) NB427_442.out _).trans (((cell_far (p := ⟨gb442, _, none⟩) NB427_442.out _).trans (((cell_far (p := ⟨gb442, _, none⟩) NB427_442.out _).trans (hHeld.2.2.2.1)))))))), ((cell_far (p := ⟨gb442, _, none⟩) (by first | exact Kd.own_blk (Kd.R_ne HO_4.out BK442.out (by decide)) | (rw [add_block]; exact Kd.own_blk (Kd.R_ne HO_4.out BK442.out (by decide))) | (show (Addr.add _ _).block ≠ _; rw [add_block]; exact Kd.own_blk (Kd.R_ne HO_4.out BK442.out (by decide))) | (dsimp only; exact Kd.own_blk (Kd.R_ne HO_4.out BK442.out (by decide)))) _).trans (((cell_far (p := ⟨gb442, _, none⟩) (by first | exact Kd.own_blk (Kd.R_ne HO_4.out BK442.out (by decide)) | (rw [add_block]; exact Kd.own_blk (Kd.R_ne HO_4.out BK442.out (by decide))) | (show (Addr.add _ _).block ≠ _; rw [add_block]; exact Kd.own_blk (Kd.R_ne HO_4.out BK442.out (by decide))) | (dsimp only; exact Kd.own_blk (Kd.R_ne HO_4.out BK442.out (by decide)))) _).trans (((cell_far (p := ⟨gb442, _, none⟩) (by first | exact Kd.own_blk (Kd.R_ne HO_4.out BK442.out (by decide)) | (rw [add_block]; exact Kd.own_blk (Kd.R_ne HO_4.out BK442.out (by decide))) | (show (Addr.add _ _).block ≠ _; rw [add_block]; exact Kd.own_blk (Kd.R_ne HO_4.out BK442.out (by decide))) | (dsimp only; exact Kd.own_blk (Kd.R_ne HO_4.out BK442.out (by decide)))) _).trans (((cell_far (p := ⟨gb442, _, none⟩) (by first | exact Kd.own_blk (Kd.R_ne HO_4.out BK442.out (by decide)) | (rw [add_block]; exact Kd.own_blk (Kd.R_ne HO_4.out BK442.out (by decide))) | (show (Addr.add _ _).block ≠ _; rw [add_block]; exact Kd.own_blk (Kd.R_ne HO_4.out BK442.out (by decide))) | (dsimp only; exact Kd.own_blk (Kd.R_ne HO_4.out BK442.out (by decide)))) _).trans (hHeld.2.2.2.2))))))))⟩ (fun hHeld => ?_)
          clear hK K
          refine pu 13 (some 9) #[T,T,T,T,T,T,T,T,T,T,T,T,T,T] HT_ ?_
          refine done_ (done_of HT_.out (by kernel_rfl)) ?_
          have hnb51 := NB442_424.out
          have hnc51 := NB424_442.out
          have hnb52 := NB442_427.out
          have hnc52 := NB427_442.out
          obtain ⟨hcz53_0, hcz53_1, hcz53_2, hcz53_3, hfz53_0, hfz53_1, hfz53_2, hfz53_3⟩ := cz4 BK442
          obtain ⟨hcz54_0, hcz54_1, hcz54_2, hcz54_3, hfz54_0, hfz54_1, hfz54_2, hfz54_3⟩ := cz4 BK427
          try go_wp2
          go_roundg k1
          case measure => have := HK1.out; omega
          case rel => exact ⟨(wrap64 (x7_1 + 1)), (t435), (t436), (t437), (t438), (.slice Ao49 t438.length co49), (by first | rfl | (simp; done) | (simp [*]; done)), H', ⟨by have := HK1.out; omega⟩, ⟨by (with_reducible repeat (first | apply uU | apply uS | apply uT)); exact uX (uV (p := ⟨gb427, 3, none⟩) (uV (p := ⟨gb427, 2, none⟩) (uV (p := ⟨gb427, 1, none⟩) (uV (p := ⟨gb427, 0, none⟩) (uV (p := ⟨gb442, 3, none⟩) (uV (p := ⟨gb442, 2, none⟩) (uV (p := ⟨gb442, 1, none⟩) (uV (p := ⟨gb442, 0, none⟩) (uW (uW HO_4.out BK442.out (by decide)) BK427.out (by decide)) (fun _ hk => hk.1.2) (.int .i64 t435)) (fun _ hk => hk.1.2) (.int .i64 t436)) (fun _ hk => hk.1.2) (.bool t437)) (fun _ hk => hk.1.2) (.slice Ao49 t438.length co49)) (fun _ hk => hk.2) (.int .i64 t435)) (fun _ hk => hk.2) (.int .i64 t436)) (fun _ hk => hk.2) (.bool t437)) (fun _ hk => hk.2) (.slice Ao49 t438.length co49)) (fun _ hk => trivial)⟩, ⟨by (with_reducible repeat (first | apply Kd.Q_alloc | apply Kd.Q_drewN | apply Kd.Q_drew)); exact Kd.Q_mono (Kd.Q_far (p := ⟨gb427, 3, none⟩) (Kd.Q_far (p := ⟨gb427, 2, none⟩) (Kd.Q_far (p := ⟨gb427, 1, none⟩) (Kd.Q_far (p := ⟨gb427, 0, none⟩) (Kd.Q_far (p := ⟨gb442, 3, none⟩) (Kd.Q_far (p := ⟨gb442, 2, none⟩) (Kd.Q_far (p := ⟨gb442, 1, none⟩) (Kd.Q_far (p := ⟨gb442, 0, none⟩) (Kd.Q_types (Kd.Q_types HO_425003.out BK442.out (by decide)) BK427.out (by decide)) (fun _ hk => hk.1.2) (.int .i64 t435)) (fun _ hk => hk.1.2) (.int .i64 t436)) (fun _ hk => hk.1.2) (.bool t437)) (fun _ hk => hk.1.2) (.slice Ao49 t438.length co49)) (fun _ hk => hk.2) (.int .i64 t435)) (fun _ hk => hk.2) (.int .i64 t436)) (fun _ hk => hk.2) (.bool t437)) (fun _ hk => hk.2) (.slice Ao49 t438.length co49)) (fun _ hk => trivial)⟩, ⟨Kd.Q_of_R (by (with_reducible repeat (first | apply uU | apply uS | apply uT)); exact uX (uV (p := ⟨gb427, 3, none⟩) (uV (p := ⟨gb427, 2, none⟩) (uV (p := ⟨gb427, 1, none⟩) (uV (p := ⟨gb427, 0, none⟩) (uV (p := ⟨gb442, 3, none⟩) (uV (p := ⟨gb442, 2, none⟩) (uV (p := ⟨gb442, 1, none⟩) (uV (p := ⟨gb442, 0, none⟩) (uW (uW HO440.out BK442.out (by decide)) BK427.out (by decide)) (fun _ hk => hk.1.2) (.int .i64 t435)) (fun _ hk => hk.1.2) (.int .i64 t436)) (fun _ hk => hk.1.2) (.bool t437)) (fun _ hk => hk.1.2) (.slice Ao49 t438.length co49)) (fun _ hk => hk.2) (.int .i64 t435)) (fun _ hk => hk.2) (.int .i64 t436)) (fun _ hk => hk.2) (.bool t437)) (fun _ hk => hk.2) (.slice Ao49 t438.length co49)) (fun _ hk => trivial))⟩, ⟨by exact ps BK424⟩, ⟨by (with_reducible repeat first|apply uH|apply uJ|apply uG); refine uP (cs := #[.int .i64 t435, .int .i64 t436, .bool t437, .slice Ao40 t431.length co40]) ?_ 3 _ rfl; (with_reducible repeat first|apply uH|apply uJ|apply uG); refine uP (cs := #[.int .i64 t435, .int .i64 t436, .bool t430, .slice Ao40 t431.length co40]) ?_ 2 _ rfl; (with_reducible repeat first|apply uH|apply uJ|apply uG); refine uP (cs := #[.int .i64 t435, .int .i64 t429, .bool t430, .slice Ao40 t431.length co40]) ?_ 1 _ rfl; (with_reducible repeat first|apply uH|apply uJ|apply uG); refine uP (cs := #[.int .i64 t428, .int .i64 t429, .bool t430, .slice Ao40 t431.length co40]) ?_ 0 _ rfl; exact ps BK427⟩, ⟨pb HB⟩⟩
         ·replace c34 := Bool.eq_false_iff.mpr c34
          subst c34
          have H1 : (some (decide (t425 ≤ (t421.length : Int)))) = some true := by rw [if_neg (show ¬ (false = true) by decide)] at H; first | done | exact H
          clear H
          have H := H1
          clear H1
          have HT := Option.some.inj H
          clear H
          have hnb55 := NB427_424.out
          have hnc55 := NB424_427.out
          obtain ⟨hcz56_0, hcz56_1, hcz56_2, hcz56_3, hfz56_0, hfz56_1, hfz56_2, hfz56_3⟩ := cz4 BK427
          obtain ⟨Ao57, co57, eo57, _⟩ := Kd.Q_slice HO_428003.out
          subst eo57
          try go_wp2_with (first | ((with_reducible refine gate_callee (f := 51) rfl ?_); refine goesL_ (some 35) rfl rfl Try.func51 (by kernel_rfl) rfl #[.agg #[.int .i64 x428000_1, .int .i64 x428001_1, .bool x428002_1, .slice Ao57 x428003_1.length co57], .int .i64 400] rfl (by (try simp only [List.map_toArray, List.map_cons, List.map_nil]); first | done | rfl | (simp only [List.length_drop, List.length_take]; rfl)) ?_; (with_reducible refine (impl_Move.calls k1 x428000_1 x428001_1 x428002_1 _ _ x428003_1 400 t428 t429 t430 t431 _ ?side1 ?side2 A30.out).mono ?_); (case side1 => repeat (first | exact (Kd.Q_reads' HO_428003.out).2.2 | (with_reducible refine Kd.C_alloc ?_ _) | (with_reducible refine Kd.C_drewN ?_ _) | (with_reducible refine Kd.C_drew ?_))); (case side2 => exact (Kd.Q_reads' HO_428003.out).2.1); rintro e w58 ⟨v432, rfl, ho0, hb⟩; refine ⟨_, rfl, ?_⟩; replace HO_4 := uD (Kd.R_below (pr HO_4) hb); have HO433 := uD (Kd.Q_lower (Kd.Q_new' (Kd.Q_new' ho0 (Kd.Q_lt (pq HO_425003))) (Kd.Q_lt (pq HO_428003))) (uN (pb HB))); replace HO_425003 := uD (Kd.Q_elder' (pq HO_425003) (Kd.Q_base ho0) hb); replace HO_428003 := uD (Kd.Q_elder' (pq HO_428003) (Kd.Q_base ho0) hb); replace BK424 := uD (blk_below (pk BK424) hb); replace BK427 := uD (blk_below (pk BK427) hb); replace HB := uD (uO (pb HB) hb); (try clear hb); (try clear hb2); (try clear hk); (try clear hi); (try clear ho0); obtain ⟨hcz59_0, hcz59_1, hcz59_2, hcz59_3, hfz59_0, hfz59_1, hfz59_2, hfz59_3⟩ := cz4 BK427; obtain ⟨Ao60, co60, eo60, _⟩ := Kd.Q_slice HO433.out; subst eo60))
          have n0_ : Aside0 (Kd.R (Kd.int .i64) 3 ((((w58.setCell ⟨gb427, 0, none⟩ (.int .i64 t428)).setCell ⟨gb427, 1, none⟩ (.int .i64 t429)).setCell ⟨gb427, 2, none⟩ (.bool t430)).setCell ⟨gb427, 3, none⟩ (.slice Ao60 t431.length co60)) w.heap.size (fun _ => True) (.slice Ao21 t421.length co21) t421) := ⟨by (with_reducible repeat (first | apply uU | apply uS | apply uT)); exact uX (uV (p := ⟨gb427, 3, none⟩) (uV (p := ⟨gb427, 2, none⟩) (uV (p := ⟨gb427, 1, none⟩) (uV (p := ⟨gb427, 0, none⟩) (uW HO_4.out BK427.out (by decide)) (fun _ hk => hk.2) (.int .i64 t428)) (fun _ hk => hk.2) (.int .i64 t429)) (fun _ hk => hk.2) (.bool t430)) (fun _ hk => hk.2) (.slice Ao60 t431.length co60)) (fun _ hk => trivial)⟩
          have n1_ : Aside0 (Kd.Q k74 74 ((((w58.setCell ⟨gb427, 0, none⟩ (.int .i64 t428)).setCell ⟨gb427, 1, none⟩ (.int .i64 t429)).setCell ⟨gb427, 2, none⟩ (.bool t430)).setCell ⟨gb427, 3, none⟩ (.slice Ao60 t431.length co60)) w.heap.size (fun k_ => some k_ ≠ (.slice Ao60 t431.length co60 : Value).ownBlock) (.slice Ao20 t418.length co20) t418) := ⟨by (with_reducible repeat (first | apply Kd.Q_alloc | apply Kd.Q_drewN | apply Kd.Q_drew)); exact Kd.Q_mono (Kd.Q_far (p := ⟨gb427, 3, none⟩) (Kd.Q_far (p := ⟨gb427, 2, none⟩) (Kd.Q_far (p := ⟨gb427, 1, none⟩) (Kd.Q_far (p := ⟨gb427, 0, none⟩) (Kd.Q_types HO_425003.out BK427.out (by decide)) (fun _ hk => hk.2) (.int .i64 t428)) (fun _ hk => hk.2) (.int .i64 t429)) (fun _ hk => hk.2) (.bool t430)) (fun _ hk => hk.2) (.slice Ao60 t431.length co60)) (fun _ hk => hk.1.2)⟩
          have n2_ : Aside0 (Kd.Q k74 74 ((((w58.setCell ⟨gb427, 0, none⟩ (.int .i64 t428)).setCell ⟨gb427, 1, none⟩ (.int .i64 t429)).setCell ⟨gb427, 2, none⟩ (.bool t430)).setCell ⟨gb427, 3, none⟩ (.slice Ao60 t431.length co60)) w.heap.size (fun k_ => some k_ ≠ (.slice Ao60 t431.length co60 : Value).ownBlock) (.slice Ao57 x428003_1.length co57) x428003_1) := ⟨by (with_reducible repeat (first | apply Kd.Q_alloc | apply Kd.Q_drewN | apply Kd.Q_drew)); exact Kd.Q_mono (Kd.Q_far (p := ⟨gb427, 3, none⟩) (Kd.Q_far (p := ⟨gb427, 2, none⟩) (Kd.Q_far (p := ⟨gb427, 1, none⟩) (Kd.Q_far (p := ⟨gb427, 0, none⟩) (Kd.Q_types HO_428003.out BK427.out (by decide)) (fun _ hk => hk.2) (.int .i64 t428)) (fun _ hk => hk.2) (.int .i64 t429)) (fun _ hk => hk.2) (.bool t430)) (fun _ hk => hk.2) (.slice Ao60 t431.length co60)) (fun _ hk => hk.1.2)⟩
          have n3_ : Aside0 (Kd.Q k74 74 ((((w58.setCell ⟨gb427, 0, none⟩ (.int .i64 t428)).setCell ⟨gb427, 1, none⟩ (.int .i64 t429)).setCell ⟨gb427, 2, none⟩ (.bool t430)).setCell ⟨gb427, 3, none⟩ (.slice Ao60 t431.length co60)) w.heap.size (fun k_ => some k_ ≠ (.slice Ao20 t418.length co20 : Value).ownBlock ∧ some k_ ≠ (.slice Ao57 x428003_1.length co57 : Value).ownBlock) (.slice Ao60 t431.length co60) t431) := ⟨by (with_reducible repeat (first | apply Kd.Q_alloc | apply Kd.Q_drewN | apply Kd.Q_drew)); exact Kd.Q_mono (Kd.Q_far (p := ⟨gb427, 3, none⟩) (Kd.Q_far (p := ⟨gb427, 2, none⟩) (Kd.Q_far (p := ⟨gb427, 1, none⟩) (Kd.Q_far (p := ⟨gb427, 0, none⟩) (Kd.Q_types HO433.out BK427.out (by decide)) (fun _ hk => hk.2) (.int .i64 t428)) (fun _ hk => hk.2) (.int .i64 t429)) (fun _ hk => hk.2) (.bool t430)) (fun _ hk => hk.2) (.slice Ao60 t431.length co60)) (fun _ hk => ⟨hk.1.1.2, hk.1.2⟩)⟩
          have n4_ : Aside0 (((((w58.setCell ⟨gb427, 0, none⟩ (.int .i64 t428)).setCell ⟨gb427, 1, none⟩ (.int .i64 t429)).setCell ⟨gb427, 2, none⟩ (.bool t430)).setCell ⟨gb427, 3, none⟩ (.slice Ao60 t431.length co60)).heap[gb424]? = some (.cells #[.int .i64 t415, .int .i64 t416, .bool t417, .slice Ao20 t418.length co20] 63 (0, 0))) := ⟨by exact ps BK424⟩
          have n5_ : Aside0 (((((w58.setCell ⟨gb427, 0, none⟩ (.int .i64 t428)).setCell ⟨gb427, 1, none⟩ (.int .i64 t429)).setCell ⟨gb427, 2, none⟩ (.bool t430)).setCell ⟨gb427, 3, none⟩ (.slice Ao60 t431.length co60)).heap[gb427]? = some (.cells #[.int .i64 t428, .int .i64 t429, .bool t430, .slice Ao60 t431.length co60] 63 (0, 0))) := ⟨by (with_reducible repeat first|apply uH|apply uJ|apply uG); refine uP (cs := #[.int .i64 t428, .int .i64 t429, .bool t430, .slice Ao57 x428003_1.length co57]) ?_ 3 _ rfl; (with_reducible repeat first|apply uH|apply uJ|apply uG); refine uP (cs := #[.int .i64 t428, .int .i64 t429, .bool x428002_1, .slice Ao57 x428003_1.length co57]) ?_ 2 _ rfl; (with_reducible repeat first|apply uH|apply uJ|apply uG); refine uP (cs := #[.int .i64 t428, .int .i64 x428001_1, .bool x428002_1, .slice Ao57 x428003_1.length co57]) ?_ 1 _ rfl; (with_reducible repeat first|apply uH|apply uJ|apply uG); refine uP (cs := #[.int .i64 x428000_1, .int .i64 x428001_1, .bool x428002_1, .slice Ao57 x428003_1.length co57]) ?_ 0 _ rfl; (with_reducible repeat first|apply uH|apply uJ|apply uG); exact BK427.out⟩
          have n6_ : Aside0 (Below w.heap.size w ((((w58.setCell ⟨gb427, 0, none⟩ (.int .i64 t428)).setCell ⟨gb427, 1, none⟩ (.int .i64 t429)).setCell ⟨gb427, 2, none⟩ (.bool t430)).setCell ⟨gb427, 3, none⟩ (.slice Ao60 t431.length co60))) := ⟨pb HB⟩
          (try clear HO_4)
          (try clear HO_425003)
          (try clear HO_428003)
          (try clear HO433)
          (try clear BK424)
          (try clear BK427)
          (try clear HB)
          generalize ((((w58.setCell ⟨gb427, 0, none⟩ (.int .i64 t428)).setCell ⟨gb427, 1, none⟩ (.int .i64 t429)).setCell ⟨gb427, 2, none⟩ (.bool t430)).setCell ⟨gb427, 3, none⟩ (.slice Ao60 t431.length co60)) = w61 at n0_ n1_ n2_ n3_ n4_ n5_ n6_ ⊢
          have HO_4 := n0_
          have HO_425003 := n1_
          have HO_428003 := n2_
          have HO433 := n3_
          have BK424 := n4_
          have BK427 := n5_
          have HB := n6_
          clear n0_ n1_ n2_ n3_ n4_ n5_ n6_
          replace HO_4 := uD (uT HO_4.out)
          replace HO_425003 := uD (Kd.Q_drew HO_425003.out)
          replace HO_428003 := uD (Kd.Q_drew HO_428003.out)
          replace HO433 := uD (Kd.Q_drew HO433.out)
          replace BK424 := uD (uJ BK424.out)
          replace BK427 := uD (uJ BK427.out)
          replace HB := uD (uK HB.out)
          have p434 : 0 ≤ (x7_1 : Int) := of_decide_eq_true (by first | (with_reducible assumption) | assumption)
          have q434 : x7_1 < (t421.length : Int) := of_decide_eq_true (by first | (with_reducible assumption) | assumption)
          obtain ⟨ad434, e434, hx434_0⟩ := Kd.at_int (Kd.R_reads' HO_4.out).2.2 x7_1 p434 q434
          cases e434
          replace p434 := eq_true p434
          replace q434 := eq_true q434
          refine start_ (n := 14) (S := fun w' => w'.cell? ⟨gb427, 0, none⟩ = some (.int .i64 t428) ∧ w'.cell? ⟨gb427, 1, none⟩ = some (.int .i64 t429) ∧ w'.cell? ⟨gb427, 2, none⟩ = some (.bool t430) ∧ w'.cell? ⟨gb427, 3, none⟩ = some (.slice Ao60 t431.length co60) ∧ w'.cell? (ad434.add (x7_1).toNat) = some (.int .i64 (rd t421 x7_1))) (ds := []) #[F,F,F,F,F,F,F,F,F,F,F,F,F,F] (by kernel_rfl) rfl rfl ⟨(uF BK427.out 0).trans rfl, (uF BK427.out 1).trans rfl, (uF BK427.out 2).trans rfl, (uF BK427.out 3).trans rfl, hx434_0⟩ (fun hHeld => ?_); refine with_tabW laws_FnBeltRoom.tab14 laws_FnBeltRoom.bits14 (fun HT_ HW_ => ?_)
          generalize w61.drew = w62 at HO_4 HO_425003 HO_428003 HO433 BK424 BK427 HB HO433 hx434_0 hHeld ⊢
          refine pu 1 (some 38) #[F,T,F,F,F,F,F,F,F,F,F,F,F,F] HT_ ?_
          refine pu 2 (some 39) #[F,T,T,F,F,F,F,F,F,F,F,F,F,F] HT_ ?_
          refine pu 3 (some 40) #[F,T,T,T,F,F,F,F,F,F,F,F,F,F] HT_ ?_
          refine pu 4 (some 41) #[F,T,T,T,T,F,F,F,F,F,F,F,F,F] HT_ ?_
          refine pu 5 (some 42) #[F,T,T,T,T,T,F,F,F,F,F,F,F,F] HT_ ?_
          refine take_ (i := 0) (N := some 37) (v := ?_) (a' := ?_) #[T,T,T,T,T,T,F,F,F,F,F,F,F,F] rfl rfl (take_ofW HT_.out HW_.out (by kernel_rfl)) (fun _ _ _ h => h) (Or.inl ⟨by rfl, ?_⟩) hHeld ?_ ?_
          rotate_left;(rintro w' ⟨s0, s1, s2, s3, s4⟩;go_simp;with_reducible rfl);rotate_left;(simp only [uc,uA,uB,uC,uZ,ua];rfl)
          refine take_ (i := 6) (N := some 43) (v := ?_) (a' := ?_) #[T,T,T,T,T,T,T,F,F,F,F,F,F,F] rfl rfl (take_ofW HT_.out HW_.out (by kernel_rfl)) (fun _ _ _ h => h) (Or.inl ⟨by rfl, ?_⟩) hHeld ?_ ?_
          rotate_left;(rintro w' ⟨s0, s1, s2, s3, s4⟩;go_simp;with_reducible rfl);rotate_left;(simp only [uc,uA,uB,uC,uZ,ua];rfl)
          refine join_ (σ := Value × Nat) 2 #[T,T,T,T,T,T,T,T,T,T,T,T,F,F] (fun s_ => [(44, .tuple #[.agg #[.int .i64 t435, .int .i64 t436, .bool t437, s_.1], .bool false]), (8, .pointer (some ⟨s_.2, 0, none⟩)), (36, .tuple #[.agg #[.int .i64 t435, .int .i64 t436, .bool t437, s_.1], .bool false]), (45, .agg #[.int .i64 t435, .int .i64 t436, .bool t437, s_.1]), (46, .bool false)]) (fun s_ w' => (w'.cell? ⟨gb427, 0, none⟩ = some (.int .i64 t428) ∧ w'.cell? ⟨gb427, 1, none⟩ = some (.int .i64 t429) ∧ w'.cell? ⟨gb427, 2, none⟩ = some (.bool t430) ∧ w'.cell? ⟨gb427, 3, none⟩ = some (.slice Ao60 t431.length co60) ∧ w'.cell? (ad434.add (x7_1).toNat) = some (.int .i64 (rd t421 x7_1))) ∧ (Kd.Q k74 74 w' w.heap.size (fun k_ => some k_ ≠ (s_.1 : Value).ownBlock ∧ some k_ ≠ (.slice Ao20 t418.length co20 : Value).ownBlock ∧ some k_ ≠ (.slice Ao57 x428003_1.length co57 : Value).ownBlock) (.slice Ao60 t431.length co60) t431) ∧ (Kd.R k74 74 w' w.heap.size (fun k_ => some k_ ≠ (.slice Ao60 t431.length co60 : Value).ownBlock ∧ some k_ ≠ (.slice Ao20 t418.length co20 : Value).ownBlock ∧ some k_ ≠ (.slice Ao57 x428003_1.length co57 : Value).ownBlock) s_.1 t438) ∧ (Kd.R (Kd.int .i64) 3 w' w.heap.size (fun _ => True) (.slice (some ad434) t421.length co21) t421) ∧ (Kd.Q k74 74 w' w.heap.size (fun k_ => some k_ ≠ (.slice Ao60 t431.length co60 : Value).ownBlock ∧ some k_ ≠ (s_.1 : Value).ownBlock) (.slice Ao20 t418.length co20) t418) ∧ (Kd.Q k74 74 w' w.heap.size (fun k_ => some k_ ≠ (.slice Ao60 t431.length co60 : Value).ownBlock ∧ some k_ ≠ (s_.1 : Value).ownBlock) (.slice Ao57 x428003_1.length co57) x428003_1) ∧ (w'.heap[gb424]? = some (.cells #[.int .i64 t415, .int .i64 t416, .bool t417, .slice Ao20 t418.length co20] 63 (0, 0))) ∧ (w'.heap[gb427]? = some (.cells #[.int .i64 t428, .int .i64 t429, .bool t430, .slice Ao60 t431.length co60] 63 (0, 0))) ∧ (w'.heap[s_.2]? = some (.cells #[.int .i64 0, .int .i64 0, .bool false, .slice none 0 0] 63 (0, 0))) ∧ (w.heap.size ≤ s_.2) ∧ (w.heap.size ≤ s_.2) ∧ (gb424 ≠ s_.2) ∧ (s_.2 ≠ gb424) ∧ (gb427 ≠ s_.2) ∧ (s_.2 ≠ gb427) ∧ (Below w.heap.size w w')) ?_ ?_
          rotate_left
          ·intro hCont
           refine two_ (i := 7) (j := 11) (Ni := some 44) (Nj := some 8) #[T,T,T,T,T,T,T,T,F,F,F,F,F,F] #[T,T,T,T,T,T,T,F,F,F,F,T,F,F] rfl rfl rfl rfl (two_of HT_.out (by kernel_rfl)) (by decide) (by decide) (fun K hK => ?_) (fun K hK => ?_)
           ·skip
            refine goes_ Try.func52 (by kernel_rfl) rfl #[.agg #[.int .i64 t428, .int .i64 t429, .bool t430, .slice Ao60 t431.length co60], .int .i64 (wrap64 (5000 + x7_1)), .int .i64 (rd t421 x7_1)] (by rfl) rfl rfl (by (try simp only [List.map_toArray, List.map_cons, List.map_nil]); first | done | rfl | (simp only [List.length_drop, List.length_take]; rfl)) ?_
            with_reducible refine (impl_Enter.calls k1 t428 t429 t430 _ _ t431 (wrap64 (5000 + x7_1)) (rd t421 x7_1) t435 t436 t437 t438 false _ ?side1 ?side2 A32.out).mono ?_
            (case side1 => repeat (first | exact (Kd.Q_reads' HO433.out).2.2 | (with_reducible refine Kd.C_alloc ?_ _) | (with_reducible refine Kd.C_drewN ?_ _) | (with_reducible refine Kd.C_drew ?_)))
            (case side2 => exact (Kd.Q_reads' HO433.out).2.1)
            rintro e w63 ⟨v439, rfl, ho0, hb⟩
            have HS4_ := (hb.cell (World.block_lt_of_cell? _ _ (hHeld.2.2.2.2))).trans (hHeld.2.2.2.2)
            refine ⟨_, rfl, ?_⟩
            replace HO_4 := uD (Kd.R_below (pr HO_4) hb)
            have HO440 := uD (Kd.R_lower (Kd.R_new' (Kd.R_new' (Kd.R_new' ho0 (Kd.Q_lt (pq HO_425003))) (Kd.Q_lt (pq HO_428003))) (Kd.Q_lt (pq HO433))) (uN (pb HB)))
            replace HO_425003 := uD (Kd.Q_elder' (pq HO_425003) (Kd.R_base ho0) hb)
            replace HO_428003 := uD (Kd.Q_elder' (pq HO_428003) (Kd.R_base ho0) hb)
            replace HO433 := uD (Kd.Q_elder' (pq HO433) (Kd.R_base ho0) hb)
            replace BK424 := uD (blk_below (pk BK424) hb)
            replace BK427 := uD (blk_below (pk BK427) hb)
            replace HB := uD (uO (pb HB) hb)
            (try clear hb)
            (try clear hb2)
            (try clear hk)
            (try clear hi)
            (try clear ho0)
            refine hK.out _ _ ⟨(uF BK427.out 0).trans rfl, (uF BK427.out 1).trans rfl, (uF BK427.out 2).trans rfl, (uF BK427.out 3).trans rfl, HS4_⟩ (fun hHeld => ?_)
            clear hK K
            refine norm_ (a' := ?_) ?_ ?_
            rotate_left
            ·show uc _ (some 44) _ = _
             simp only [uc, uA, uB, uC, uZ, ua]
             rfl
            refine pu 8 (some 36) #[T,T,T,T,T,T,T,T,T,F,F,F,F,F] HT_ ?_
            refine pu 9 (some 45) #[T,T,T,T,T,T,T,T,T,T,F,F,F,F] HT_ ?_
            refine pu 10 (some 46) #[T,T,T,T,T,T,T,T,T,T,T,F,F,F] HT_ ?_
            refine one_ (i := 11) (N := some 8) #[T,T,T,T,T,T,T,T,T,T,T,T,F,F] rfl rfl (one_of HT_.out (by kernel_rfl)) (by decide) (fun K hK => ?_)
            refine box_step ?hg (N := 8) ?hd (cs := #[.int .i64 0, .int .i64 0, .bool false, .slice none 0 0]) (t := 63) ?hr ?_; (case hd => rfl); (case hg => rfl); (case hr => first | (go_simp; done) | (go_simp; rfl))
            intro gb442 hg w64 hbox hb
            have HS4_ := (hb.cell (World.block_lt_of_cell? _ _ (hHeld.2.2.2.2))).trans (hHeld.2.2.2.2)
            replace HO_4 := uD (Kd.R_below (pr HO_4) hb)
            replace HO_425003 := uD (Kd.Q_below (pq HO_425003) hb)
            replace HO_428003 := uD (Kd.Q_below (pq HO_428003) hb)
            replace HO433 := uD (Kd.Q_below (pq HO433) hb)
            replace HO440 := uD (Kd.R_below (pr HO440) hb)
            have BK442 := uD (hbox)
            have GW442 := uD ((by rw [hg]; exact (uN (pb HB)) : w.heap.size ≤ gb442))
            have GE442 := uD ((by rw [hg]; exact (uN (pb HB)) : w.heap.size ≤ gb442))
            replace HB := uD (uO (pb HB) hb)
            have NB424_442 := uD ((by rw [hg]; exact Nat.ne_of_lt (blk_lt (pk BK424)) : gb424 ≠ gb442))
            have NB442_424 := uD ((by rw [hg]; exact Nat.ne_of_gt (blk_lt (pk BK424)) : gb442 ≠ gb424))
            replace BK424 := uD (blk_below (pk BK424) hb)
            have NB427_442 := uD ((by rw [hg]; exact Nat.ne_of_lt (blk_lt (pk BK427)) : gb427 ≠ gb442))
            have NB442_427 := uD ((by rw [hg]; exact Nat.ne_of_gt (blk_lt (pk BK427)) : gb442 ≠ gb427))
            replace BK427 := uD (blk_below (pk BK427) hb)
            clear hb hbox hg
            refine hK.out _ _ ⟨(uF BK427.out 0).trans rfl, (uF BK427.out 1).trans rfl, (uF BK427.out 2).trans rfl, (uF BK427.out 3).trans rfl, HS4_⟩ (fun hHeld => ?_)
            clear hK K
            refine norm_ (a' := ?_) ?_ ?_
            rotate_left
            ·show uc _ (some 8) _ = _
             simp only [uc, uA, uB, uC, uZ, ua]
             rfl
            exact norm_ (by simp only [putAll, uc, uA, uB, uC]) (hCont (v439, gb442) _ ⟨hHeld, (by (with_reducible repeat (first | apply Kd.Q_alloc | apply Kd.Q_drewN | apply Kd.Q_drew)); exact Kd.Q_mono HO433.out (fun _ hk => ⟨hk.2, ⟨hk.1.1, hk.1.2⟩⟩)), (by (with_reducible repeat (first | apply uU | apply uS | apply uT)); exact uX HO440.out (fun _ hk => ⟨hk.2, ⟨hk.1.1.2, hk.1.2⟩⟩)), (pr HO_4), (pq HO_425003), (pq HO_428003), (pk BK424), (pk BK427), (pk BK442), GW442.out, GE442.out, NB424_442.out, NB442_424.out, NB427_442.out, NB442_427.out, (pb HB)⟩)
           ·skip
            refine box_step ?hg (N := 8) ?hd (cs := #[.int .i64 0, .int .i64 0, .bool false, .slice none 0 0]) (t := 63) ?hr ?_; (case hd => rfl); (case hg => rfl); (case hr => first | (go_simp; done) | (go_simp; rfl))
            intro gb442 hg w63 hbox hb
            have HS4_ := (hb.cell (World.block_lt_of_cell? _ _ (hHeld.2.2.2.2))).trans (hHeld.2.2.2.2)
            replace HO_4 := uD (Kd.R_below (pr HO_4) hb)
            replace HO_425003 := uD (Kd.Q_below (pq HO_425003) hb)
            replace HO_428003 := uD (Kd.Q_below (pq HO_428003) hb)
            replace HO433 := uD (Kd.Q_below (pq HO433) hb)
            have BK442 := uD (hbox)
            have GW442 := uD ((by rw [hg]; exact (uN (pb HB)) : w.heap.size ≤ gb442))
            have GE442 := uD ((by rw [hg]; exact (uN (pb HB)) : w.heap.size ≤ gb442))
            replace HB := uD (uO (pb HB) hb)
            have NB424_442 := uD ((by rw [hg]; exact Nat.ne_of_lt (blk_lt (pk BK424)) : gb424 ≠ gb442))
            have NB442_424 := uD ((by rw [hg]; exact Nat.ne_of_gt (blk_lt (pk BK424)) : gb442 ≠ gb424))
            replace BK424 := uD (blk_below (pk BK424) hb)
            have NB427_442 := uD ((by rw [hg]; exact Nat.ne_of_lt (blk_lt (pk BK427)) : gb427 ≠ gb442))
            have NB442_427 := uD ((by rw [hg]; exact Nat.ne_of_gt (blk_lt (pk BK427)) : gb442 ≠ gb427))
            replace BK427 := uD (blk_below (pk BK427) hb)
            clear hb hbox hg
            refine hK.out _ _ ⟨(uF BK427.out 0).trans rfl, (uF BK427.out 1).trans rfl, (uF BK427.out 2).trans rfl, (uF BK427.out 3).trans rfl, HS4_⟩ (fun hHeld => ?_)
            clear hK K
            refine norm_ (a' := ?_) ?_ ?_
            rotate_left
            ·show uc _ (some 8) _ = _
             simp only [uc, uA, uB, uC, uZ, ua]
             rfl
            refine one_ (i := 7) (N := some 44) #[T,T,T,T,T,T,T,T,F,F,F,T,F,F] rfl rfl (one_of HT_.out (by kernel_rfl)) (by decide) (fun K hK => ?_)
            refine goes_ Try.func52 (by kernel_rfl) rfl #[.agg #[.int .i64 t428, .int .i64 t429, .bool t430, .slice Ao60 t431.length co60], .int .i64 (wrap64 (5000 + x7_1)), .int .i64 (rd t421 x7_1)] (by rfl) rfl rfl (by (try simp only [List.map_toArray, List.map_cons, List.map_nil]); first | done | rfl | (simp only [List.length_drop, List.length_take]; rfl)) ?_
            with_reducible refine (impl_Enter.calls k1 t428 t429 t430 _ _ t431 (wrap64 (5000 + x7_1)) (rd t421 x7_1) t435 t436 t437 t438 false _ ?side1 ?side2 A32.out).mono ?_
            (case side1 => repeat (first | exact (Kd.Q_reads' HO433.out).2.2 | (with_reducible refine Kd.C_alloc ?_ _) | (with_reducible refine Kd.C_drewN ?_ _) | (with_reducible refine Kd.C_drew ?_)))
            (case side2 => exact (Kd.Q_reads' HO433.out).2.1)
            rintro e w64 ⟨v439, rfl, ho0, hb⟩
            have HS4_ := (hb.cell (World.block_lt_of_cell? _ _ (hHeld.2.2.2.2))).trans (hHeld.2.2.2.2)
            refine ⟨_, rfl, ?_⟩
            replace HO_4 := uD (Kd.R_below (pr HO_4) hb)
            have HO440 := uD (Kd.R_lower (Kd.R_new' (Kd.R_new' (Kd.R_new' ho0 (Kd.Q_lt (pq HO_425003))) (Kd.Q_lt (pq HO_428003))) (Kd.Q_lt (pq HO433))) (uN (pb HB)))
            replace HO_425003 := uD (Kd.Q_elder' (pq HO_425003) (Kd.R_base ho0) hb)
            replace HO_428003 := uD (Kd.Q_elder' (pq HO_428003) (Kd.R_base ho0) hb)
            replace HO433 := uD (Kd.Q_elder' (pq HO433) (Kd.R_base ho0) hb)
            replace BK424 := uD (blk_below (pk BK424) hb)
            replace BK427 := uD (blk_below (pk BK427) hb)
            replace BK442 := uD (blk_below (pk BK442) hb)
            replace HB := uD (uO (pb HB) hb)
            (try clear hb)
            (try clear hb2)
            (try clear hk)
            (try clear hi)
            (try clear ho0)
            refine hK.out _ _ ⟨(uF BK427.out 0).trans rfl, (uF BK427.out 1).trans rfl, (uF BK427.out 2).trans rfl, (uF BK427.out 3).trans rfl, HS4_⟩ (fun hHeld => ?_)
            clear hK K
            refine norm_ (a' := ?_) ?_ ?_
            rotate_left
            ·show uc _ (some 44) _ = _
             simp only [uc, uA, uB, uC, uZ, ua]
             rfl
            refine pu 8 (some 36) #[T,T,T,T,T,T,T,T,T,F,F,T,F,F] HT_ ?_
            refine pu 9 (some 45) #[T,T,T,T,T,T,T,T,T,T,F,T,F,F] HT_ ?_
            refine pu 10 (some 46) #[T,T,T,T,T,T,T,T,T,T,T,T,F,F] HT_ ?_
            exact norm_ (by simp only [putAll, uc, uA, uB, uC]) (hCont (v439, gb442) _ ⟨hHeld, (by (with_reducible repeat (first | apply Kd.Q_alloc | apply Kd.Q_drewN | apply Kd.Q_drew)); exact Kd.Q_mono HO433.out (fun _ hk => ⟨hk.2, ⟨hk.1.1, hk.1.2⟩⟩)), (by (with_reducible repeat (first | apply uU | apply uS | apply uT)); exact uX HO440.out (fun _ hk => ⟨hk.2, ⟨hk.1.1.2, hk.1.2⟩⟩)), (pr HO_4), (pq HO_425003), (pq HO_428003), (pk BK424), (pk BK427), (pk BK442), GW442.out, GE442.out, NB424_442.out, NB442_424.out, NB427_442.out, NB442_427.out, (pb HB)⟩)
          rintro ⟨v439, gb442⟩ w65 ⟨hS_, h0_, h1_, h2_, h3_, h4_, h5_, h6_, h7_, h8_, h9_, h10_, h11_, h12_, h13_, h14_⟩
          have n0_ : Aside0 (Kd.Q k74 74 w65 w.heap.size (fun k_ => some k_ ≠ (v439 : Value).ownBlock ∧ some k_ ≠ (.slice Ao20 t418.length co20 : Value).ownBlock ∧ some k_ ≠ (.slice Ao57 x428003_1.length co57 : Value).ownBlock) (.slice Ao60 t431.length co60) t431) := ⟨h0_⟩
          have n1_ : Aside0 (Kd.R k74 74 w65 w.heap.size (fun k_ => some k_ ≠ (.slice Ao60 t431.length co60 : Value).ownBlock ∧ some k_ ≠ (.slice Ao20 t418.length co20 : Value).ownBlock ∧ some k_ ≠ (.slice Ao57 x428003_1.length co57 : Value).ownBlock) v439 t438) := ⟨h1_⟩
          have n2_ : Aside0 (Kd.R (Kd.int .i64) 3 w65 w.heap.size (fun _ => True) (.slice (some ad434) t421.length co21) t421) := ⟨h2_⟩
          have n3_ : Aside0 (Kd.Q k74 74 w65 w.heap.size (fun k_ => some k_ ≠ (.slice Ao60 t431.length co60 : Value).ownBlock ∧ some k_ ≠ (v439 : Value).ownBlock) (.slice Ao20 t418.length co20) t418) := ⟨h3_⟩
          have n4_ : Aside0 (Kd.Q k74 74 w65 w.heap.size (fun k_ => some k_ ≠ (.slice Ao60 t431.length co60 : Value).ownBlock ∧ some k_ ≠ (v439 : Value).ownBlock) (.slice Ao57 x428003_1.length co57) x428003_1) := ⟨h4_⟩
          have n5_ : Aside0 (w65.heap[gb424]? = some (.cells #[.int .i64 t415, .int .i64 t416, .bool t417, .slice Ao20 t418.length co20] 63 (0, 0))) := ⟨h5_⟩
          have n6_ : Aside0 (w65.heap[gb427]? = some (.cells #[.int .i64 t428, .int .i64 t429, .bool t430, .slice Ao60 t431.length co60] 63 (0, 0))) := ⟨h6_⟩
          have n7_ : Aside0 (w65.heap[gb442]? = some (.cells #[.int .i64 0, .int .i64 0, .bool false, .slice none 0 0] 63 (0, 0))) := ⟨h7_⟩
          have n8_ : Aside0 (w.heap.size ≤ gb442) := ⟨h8_⟩
          have n9_ : Aside0 (w.heap.size ≤ gb442) := ⟨h9_⟩
          have n10_ : Aside0 (gb424 ≠ gb442) := ⟨h10_⟩
          have n11_ : Aside0 (gb442 ≠ gb424) := ⟨h11_⟩
          have n12_ : Aside0 (gb427 ≠ gb442) := ⟨h12_⟩
          have n13_ : Aside0 (gb442 ≠ gb427) := ⟨h13_⟩
          have n14_ : Aside0 (Below w.heap.size w w65) := ⟨h14_⟩
          clear HO_4
          clear HO_425003
          clear HO_428003
          clear HO433
          clear BK424
          clear BK427
          clear HB
          clear h0_ h1_ h2_ h3_ h4_ h5_ h6_ h7_ h8_ h9_ h10_ h11_ h12_ h13_ h14_
          have HO433 := n0_
          have HO440 := n1_
          have HO_4 := n2_
          have HO_425003 := n3_
          have HO_428003 := n4_
          have BK424 := n5_
          have BK427 := n6_
          have BK442 := n7_
          have GW442 := n8_
          have GE442 := n9_
          have NB424_442 := n10_
          have NB442_424 := n11_
          have NB427_442 := n12_
          have NB442_427 := n13_
          have HB := n14_
          clear n0_ n1_ n2_ n3_ n4_ n5_ n6_ n7_ n8_ n9_ n10_ n11_ n12_ n13_ n14_
          have hHeld : w65.cell? ⟨gb427, 0, none⟩ = some (.int .i64 t428) ∧ w65.cell? ⟨gb427, 1, none⟩ = some (.int .i64 t429) ∧ w65.cell? ⟨gb427, 2, none⟩ = some (.bool t430) ∧ w65.cell? ⟨gb427, 3, none⟩ = some (.slice Ao60 t431.length co60) ∧ w65.cell? (ad434.add (x7_1).toNat) = some (.int .i64 (rd t421 x7_1)) := hS_
          obtain ⟨Ao69, co69, eo69⟩ := Kd.R_slice HO440.out
          (first | subst eo69 | (injection eo69 with f1_ f2_ f3_; have f4_ := f1_.symm; have f5_ := f3_.symm; clear f1_ f2_ f3_; subst f4_; subst f5_))
          refine norm_ (a' := ?_) ?_ ?_
          rotate_left
          ·simp only [putAll, uc, uA, uB, uC]
           rfl
          refine one_ (i := 12) (N := none) #[T,T,T,T,T,T,T,T,T,T,T,T,T,F] rfl rfl (one_of HT_.out (by kernel_rfl)) (by decide) (fun K hK => ?_)
          have hs66 : w65.cell? ⟨gb442, 0, none⟩ = some (.int .i64 0) := (uF BK442.out 0).trans rfl
          have hfs66 := uI BK442.out 0
          have hns66_0 := NB424_442.out
          have hns66_1 := NB427_442.out
          have hms66_0 := NB442_424.out
          have hms66_1 := NB442_427.out
          have hs67 : w65.cell? ⟨gb442, 1, none⟩ = some (.int .i64 0) := (uF BK442.out 1).trans rfl
          have hfs67 := uI BK442.out 1
          have hns67_0 := NB424_442.out
          have hns67_1 := NB427_442.out
          have hms67_0 := NB442_424.out
          have hms67_1 := NB442_427.out
          have hs68 : w65.cell? ⟨gb442, 2, none⟩ = some (.bool false) := (uF BK442.out 2).trans rfl
          have hfs68 := uI BK442.out 2
          have hns68_0 := NB424_442.out
          have hns68_1 := NB427_442.out
          have hms68_0 := NB442_424.out
          have hms68_1 := NB442_427.out
          have hs70 : w65.cell? ⟨gb442, 3, none⟩ = some (.slice none 0 0) := (uF BK442.out 3).trans rfl
          have hfs70 := uI BK442.out 3
          have hns70_0 := NB424_442.out
          have hns70_1 := NB427_442.out
          have hms70_0 := NB442_424.out
          have hms70_1 := NB442_427.out
          refine skip_ (w1 := ?_) (by rfl) rfl ?_ ?_
          rotate_left
          ·go_simp
           rfl
          refine hK.out _ _ ⟨((cell_far (p := ⟨gb442, _, none⟩) NB427_442.out _).trans (((cell_far (p := ⟨gb442, _, none⟩) NB427_442.out _).trans (((cell_far (p := ⟨gb442, _, none⟩) NB427_442.out _).trans (((cell_far (p := ⟨gb442, _, none⟩) NB427_442.out _).trans (hHeld.1)))))))), ((cell_far (p := ⟨gb442, _, none⟩) NB427_442.out _).trans (((cell_far (p := ⟨gb442, _, none⟩) NB427_442.out _).trans (((cell_far (p := ⟨gb442, _, none⟩) NB427_442.out _).trans (((cell_far (p := ⟨gb442, _, none⟩) NB427_442.out _).trans (hHeld.2.1)))))))), ((cell_far (p := ⟨gb442, _, none⟩) NB427_442.out _).trans (((cell_far (p := ⟨gb442, _, none⟩) NB427_442.out _).trans (((cell_far (p := ⟨gb442, _, none⟩) NB427_442.out _).trans (((cell_far (p := ⟨gb442, _, none⟩) NB427_442.out _).trans (hHeld.2.2.1)))))))), ((cell_far (p := ⟨gb442, _, none⟩) NB427_442.out _).trans (((cell_far (p := ⟨gb442, _, none⟩) NB427_442.out _).trans (((cell_far (p := ⟨gb442, _, none⟩) NB427_442.out _).trans (((cell_far (p := ⟨gb442, _, none⟩) NB427_442.out _).trans (hHeld.2.2.2.1)))))))), ((cell_far (p := ⟨gb442, _, none⟩) (by first | exact Kd.own_blk (Kd.R_ne HO_4.out BK442.out (by decide)) | (rw [add_block]; exact Kd.own_blk (Kd.R_ne HO_4.out BK442.out (by decide))) | (show (Addr.add _ _).block ≠ _; rw [add_block]; exact Kd.own_blk (Kd.R_ne HO_4.out BK442.out (by decide))) | (dsimp only; exact Kd.own_blk (Kd.R_ne HO_4.out BK442.out (by decide)))) _).trans (((cell_far (p := ⟨gb442, _, none⟩) (by first | exact Kd.own_blk (Kd.R_ne HO_4.out BK442.out (by decide)) | (rw [add_block]; exact Kd.own_blk (Kd.R_ne HO_4.out BK442.out (by decide))) | (show (Addr.add _ _).block ≠ _; rw [add_block]; exact Kd.own_blk (Kd.R_ne HO_4.out BK442.out (by decide))) | (dsimp only; exact Kd.own_blk (Kd.R_ne HO_4.out BK442.out (by decide)))) _).trans (((cell_far (p := ⟨gb442, _, none⟩) (by first | exact Kd.own_blk (Kd.R_ne HO_4.out BK442.out (by decide)) | (rw [add_block]; exact Kd.own_blk (Kd.R_ne HO_4.out BK442.out (by decide))) | (show (Addr.add _ _).block ≠ _; rw [add_block]; exact Kd.own_blk (Kd.R_ne HO_4.out BK442.out (by decide))) | (dsimp only; exact Kd.own_blk (Kd.R_ne HO_4.out BK442.out (by decide)))) _).trans (((cell_far (p := ⟨gb442, _, none⟩) (by first | exact Kd.own_blk (Kd.R_ne HO_4.out BK442.out (by decide)) | (rw [add_block]; exact Kd.own_blk (Kd.R_ne HO_4.out BK442.out (by decide))) | (show (Addr.add _ _).block ≠ _; rw [add_block]; exact Kd.own_blk (Kd.R_ne HO_4.out BK442.out (by decide))) | (dsimp only; exact Kd.own_blk (Kd.R_ne HO_4.out BK442.out (by decide)))) _).trans (hHeld.2.2.2.2))))))))⟩ (fun hHeld => ?_)
          clear hK K
          refine pu 13 (some 9) #[T,T,T,T,T,T,T,T,T,T,T,T,T,T] HT_ ?_
          refine done_ (done_of HT_.out (by kernel_rfl)) ?_
          try go_wp2
          go_ret
          exact ⟨by first | rfl | (simp [errW_none, errW_some] <;> rfl) | (simp [*, errW_none, errW_some] <;> rfl), pb HB⟩
       ·rw [if_neg c31] at H
        exact absurd H (by simp)
      ·rw [if_neg c29] at H
       have c29b0 : decide (x7_1 < (t421.length : Int)) = false := decide_eq_false c29
       clear c29
       have HT := Option.some.inj H
       clear H
       go_wp2
       go_ret
       exact ⟨by first | rfl | (simp [errW_none, errW_some] <;> rfl) | (simp [*, errW_none, errW_some] <;> rfl), pb HB⟩
  ·rw [if_neg c7] at H
   have c7b0 : (t425 == t426) = false := beq_eq_false_iff_ne.mpr c7
   have c7b1 : (t425 != t426) = true := bne_iff_ne.mpr c7
   exact absurd H (by simp)

/-- THE ONE PURE STATEMENT of laws_FnBeltRoom: yours. -/
def laws_FnBeltRoom.Pure : Prop := ∀ (l0 : List Int), l0.length ≤ maxLen → l0.length * 1 ≤ 140737488351232 → (∀ x ∈ l0, (Lit.int .u8 x).wf = true) → ∃ k, laws_FnBeltRoom.f k l0 = some true
theorem laws_FnBeltRoom.walk (P : laws_FnBeltRoom.Pure) (a0 : Option Addr) (len0 cap0 : Nat) (z0 : List Int) (w : World) (w0 : (a0 = none ∧ len0 = 0 ∧ cap0 = 0 ∧ z0 = []) ∨ ∃ x, a0 = some x ∧ len0 ≤ cap0 ∧ cap0 ≤ maxLen ∧ z0.length = cap0 ∧ (∀ i, i < z0.length → w.cell? (x.add i) = some (.int .u8 (z0.getD i 0))) ∧ ∀ n ∈ z0, (Lit.int .u8 n).wf = true) (y0 : len0 * 1 ≤ 140737488351232) :
  Calls Try.prog 12 #[.slice a0 len0 cap0] w fun e w' => e = .returned (.bool true) ∧ Below w.heap.size w w' := by
 obtain ⟨l0, rfl, hr0, hm0, hw0, hc0⟩ := ReadsInt.ofRowC w0
 obtain ⟨k, h⟩ := P l0 hm0 y0 hw0
 refine (laws_FnBeltRoom.calls k _ _ l0 w (Kd.C_of_reads (d := (0 : Int)) (h1 := fun _ => rfl) hr0) hc0 h).mono ?_
 rintro e w' ⟨rfl, hd⟩
 exact ⟨rfl, hd⟩

end Go.Proofs.Ytnnimbbffbfhoaa.PFnBeltRoom
