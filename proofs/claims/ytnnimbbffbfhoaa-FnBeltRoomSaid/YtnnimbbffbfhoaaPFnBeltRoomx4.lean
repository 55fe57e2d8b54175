-- Written by a program of this session (wip/myprint.py: the kit's print with changes): not by print.sh itself.
import Derived.Test.YtnnimbbffbfhoaaPFnBeltRoomx0
import Derived.Test.YtnnimbbffbfhoaaPFnBeltRoomx1
import Derived.Test.YtnnimbbffbfhoaaPFnBeltRoomx3
namespace Go.Proofs.Ytnnimbbffbfhoaa.PFnBeltRoom
open Go.RowKit Go.Proofs.YtnnimbbffbfhoaaW.PrintWords Go.Proofs.YtnnimbbffbfhoaaW.PrintLast Go.Proofs.YtnnimbbffbfhoaaW.PrintMore
open Go.Proofs.YtnnimbbffbfhoaaW.PrintWords renaming Aside0.mk → uD, pw_below_drewN → uE, blk_alloc → uG, blk_drewN → uH, blk_drew → uJ, below_drew1 → uK, below_alloc → uL, below_set → uM, below_size → uN, below_step → uO, blk_put → uP, results_ct → uR, Kd.R_drewN → uS, Kd.R_drew → uT, Kd.R_alloc → uU, Kd.R_far → uV, Kd.R_types → uW, Kd.R_mono → uX
attribute [local go_sem] max2_int min2_int max_two min_two max_three min_three max_four min_four   -- for this text's walks alone
set_option linter.unusedVariables false
set_option linter.unusedSimpArgs false

/-! ### spec_DrawRoomFor: function 48 -/
def spec_DrawRoomFor.l0 : Nat → List Int → Int → List Int → Int → Int → Int → Int → Bool → List (S74) → Option (Int × Int × Bool × (List (S74)) × List Int)
 | 0, _, _, _, _, _, _, _, _, _ => none
 | k + 1, x6, x7, x218000, x218001, x218002, x227000, x227001, x227002, x227003 => if x7 > 0 then ((spec_l01Below.f x218000 x218001 x218002 12).bind fun bt233 => (if x6.length < 17592186044416 then (spec_DrawRoomFor.l0 k (x6 ++ [wrap64 (1 + bt233.1)]) (wrap64 (x7 - 1)) x218000 bt233.2.1 bt233.2.2 x227000 x227001 x227002 x227003) else (none))) else ((spec_l01Once.f x218000 x218001 x218002 12).bind fun bt239 => (if bt239.1 = true then ((spec_l01PickInt.f x218000 bt239.2.1 bt239.2.2 (([0, 61, 60] : List Int))).bind fun bt245 => (if x6.length < 17592186044416 then (some (x227000, x227001, x227002, x227003, (x6 ++ [bt245.1]))) else (none))) else (some (x227000, x227001, x227002, x227003, x6))))
def spec_DrawRoomFor.f (k : Nat) (l0 : List Int) : Option (Int × Int × Bool × (List (S74)) × List Int) := (spec_l01New.f k l0).bind fun bt214 => ((spec_l02Any.f k bt214.1 bt214.2.1 bt214.2.2).bind fun bt218 => ((spec_l01Below.f bt214.1 bt218.2.2.2.2.1 bt218.2.2.2.2.2 9).bind fun bt230 => (spec_DrawRoomFor.l0 k (([] : List Int)) bt230.1 bt214.1 bt230.2.1 bt230.2.2 bt218.1 bt218.2.1 bt218.2.2.1 bt218.2.2.2.1)))
theorem spec_DrawRoomFor.mono_l : ∀ k, (∀ y0 y1 y2 y3 y4 y5 y6 y7 y8, LeO (spec_DrawRoomFor.l0 k y0 y1 y2 y3 y4 y5 y6 y7 y8) (spec_DrawRoomFor.l0 (k + 1) y0 y1 y2 y3 y4 y5 y6 y7 y8))
 | 0 => fun _ _ _ _ _ _ _ _ _ r h => by simp [spec_DrawRoomFor.l0] at h
 | k + 1 => by
  have ih0 := spec_DrawRoomFor.mono_l k
  ·intro y0 y1 y2 y3 y4 y5 y6 y7 y8
   unfold spec_DrawRoomFor.l0
   repeat' first
   | (with_reducible exact ih0 _ _ _ _ _ _ _ _ _)
   | (with_reducible exact spec_l01New.mono _ _)
   | (with_reducible exact spec_l02Any.mono _ _ _ _)
   | (with_reducible exact LeO.refl _)
   | (with_reducible exact LeO.none _)
   | (with_reducible refine LeO.ite ?_ ?_)
   | (with_reducible refine LeO.bind ?_ (fun _ => ?_))
   | exact ih0 _ _ _ _ _ _ _ _ _
   | exact spec_l01New.mono _ _
   | exact spec_l02Any.mono _ _ _ _
   | exact LeO.none _
   | refine LeO.ite ?_ ?_
   | refine LeO.bind ?_ (fun _ => ?_)
theorem spec_DrawRoomFor.mono : ∀ a0 k, LeO (spec_DrawRoomFor.f k a0) (spec_DrawRoomFor.f (k + 1) a0) := by
 intro a0 k
 have ih0 := spec_DrawRoomFor.mono_l k
 unfold spec_DrawRoomFor.f
 repeat' first
   | (with_reducible exact ih0 _ _ _ _ _ _ _ _ _)
   | (with_reducible exact spec_l01New.mono _ _)
   | (with_reducible exact spec_l02Any.mono _ _ _ _)
   | (with_reducible exact LeO.refl _)
   | (with_reducible exact LeO.none _)
   | (with_reducible refine LeO.ite ?_ ?_)
   | (with_reducible refine LeO.bind ?_ (fun _ => ?_))
   | exact ih0 _ _ _ _ _ _ _ _ _
   | exact spec_l01New.mono _ _
   | exact spec_l02Any.mono _ _ _ _
   | exact LeO.none _
   | refine LeO.ite ?_ ?_
   | refine LeO.bind ?_ (fun _ => ?_)
set_option maxHeartbeats 8000000 in
set_option maxRecDepth 100000 in
theorem spec_DrawRoomFor.calls (k : Nat) (A0 : Option Addr) (c0 : Nat) (l0 : List Int) (r1 : Int) (r2 : Int) (r3 : Bool) (r4 : List (S74)) (r5 : List Int) (w : World) (hr0 : Kd.C (Kd.int .u8) w A0 l0.length l0) (hc0 : l0.length ≤ c0) (h : spec_DrawRoomFor.f k l0 = some (r1, r2, r3, r4, r5)) :
  Calls Try.prog 48 #[.slice A0 l0.length c0] w fun e w' => ∃ v3_ v4_ : Value, e = .returned (.tuple #[.agg #[.int .i64 r1, .int .i64 r2, .bool r3, v3_], v4_]) ∧ Kd.R k74 74 w' w.heap.size (fun _ => True) v3_ r4 ∧ Kd.R (Kd.int .i64) 3 w' w.heap.size (fun _ => True) v4_ r5 ∧ Below w.heap.size w w' := by
 have hu63 := Try.underlying63
 have HR0 := uD hr0
 have HC0 := uD hc0
 clear hr0 hc0
 have HB := uD (Below.refl w.heap.size w)
 have H : ((spec_l01New.f k l0).bind fun bt214 => ((spec_l02Any.f k bt214.1 bt214.2.1 bt214.2.2).bind fun bt218 => ((spec_l01Below.f bt214.1 bt218.2.2.2.2.1 bt218.2.2.2.2.2 9).bind fun bt230 => (spec_DrawRoomFor.l0 k (([] : List Int)) bt230.1 bt214.1 bt230.2.1 bt230.2.2 bt218.1 bt218.2.1 bt218.2.2.1 bt218.2.2.2.1)))) = some (r1, r2, r3, r4, r5) := h
 clear h
 replace H := Option.bind_eq_some_iff.mp H
 obtain ⟨⟨t214, t215, t216⟩, A20, H⟩ := H
 replace H : ((spec_l02Any.f k t214 t215 t216).bind fun bt218 => ((spec_l01Below.f t214 bt218.2.2.2.2.1 bt218.2.2.2.2.2 9).bind fun bt230 => (spec_DrawRoomFor.l0 k (([] : List Int)) bt230.1 t214 bt230.2.1 bt230.2.2 bt218.1 bt218.2.1 bt218.2.2.1 bt218.2.2.2.1))) = some (r1, r2, r3, r4, r5) := H
 have A2 := uD A20
 clear A20
 replace H := Option.bind_eq_some_iff.mp H
 obtain ⟨⟨t218, t219, t220, t221, t224, t225⟩, A30, H⟩ := H
 replace H : ((spec_l01Below.f t214 t224 t225 9).bind fun bt230 => (spec_DrawRoomFor.l0 k (([] : List Int)) bt230.1 t214 bt230.2.1 bt230.2.2 t218 t219 t220 t221)) = some (r1, r2, r3, r4, r5) := H
 have A3 := uD A30
 clear A30
 obtain ⟨y227, hy227⟩ : ∃ y_ : List Int, y_ = (([] : List Int)) := ⟨_, rfl⟩
 replace H : ((spec_l01Below.f t214 t224 t225 9).bind fun bt230 => (spec_DrawRoomFor.l0 k y227 bt230.1 t214 bt230.2.1 bt230.2.2 t218 t219 t220 t221)) = some (r1, r2, r3, r4, r5) := by first | (rw [hy227]; with_reducible exact H) | (have H2_ := (Option.bind_some _ _).symm.trans H; rw [hy227]; with_reducible exact H2_) | (have H2_ := (Option.bind_some _ _).symm.trans H; with_reducible exact H2_) | with_reducible exact H | (rw [hy227]; exact H) | exact H
 have Ny227 := uD hy227
 clear hy227
 replace H := Option.bind_eq_some_iff.mp H
 obtain ⟨⟨t230, t231, t232⟩, A40, H⟩ := H
 replace H : (spec_DrawRoomFor.l0 k y227 t230 t214 t231 t232 t218 t219 t220 t221) = some (r1, r2, r3, r4, r5) := H
 have A4 := uD A40
 clear A40
 have H' := uD H
 clear H
 go_enter Try.func48, Try.ntmps48
 go_wp2_with (first | ((with_reducible refine gate_dst (N := 2) rfl ?_); refine box_event ?hg (N := 2) ?hd (cs := #[.int .i64 0, .int .i64 0, .bool false, .slice none 0 0]) (t := 63) ?hr ?_; (case hd => rfl); (case hg => rfl); (case hr => first | (go_simp; done) | (go_simp; rfl)); intro gb213 hg w5 hbox hb; have BK213 := uD (hbox); have GW213 := uD ((by rw [hg]; exact (uN (pb HB)) : w.heap.size ≤ gb213)); have GE213 := uD ((by rw [hg]; exact (uN (pb HB)) : w.heap.size ≤ gb213)); replace HB := uD (uO (pb HB) hb); clear hb hbox hg) | ((with_reducible refine gate_callee (f := 71) rfl ?_); refine goesL_ (some 9) rfl rfl Try.func71 (by kernel_rfl) rfl #[.slice A0 l0.length c0] rfl (by (try simp only [List.map_toArray, List.map_cons, List.map_nil]); first | done | rfl | (simp only [List.length_drop, List.length_take]; rfl)) ?_; (with_reducible refine (spec_l01New.calls k _ _ l0 t214 t215 t216 w _ ?side1 ?side2 ?side3 A2.out).mono ?_); (case side1 => repeat (first | (with_reducible first | exact HB.out | apply uL | apply uE | apply uK | refine uM ?_ GE213.out) | exact HB.out)); (case side2 => exact HR0.out); (case side3 => exact HC0.out); rintro e w6 ⟨g217, rfl, hi, hb, hb2⟩; refine ⟨_, rfl, ?_⟩; replace HB := uD (hb); have HI217 := uD (hi); have NB217_213 := uD (IsS127.ne_blk hi (blk_below (pk BK213) hb2) (by decide)); have NB213_217 := uD (Ne.symm (IsS127.ne_blk hi (blk_below (pk BK213) hb2) (by decide))); replace BK213 := uD (blk_below (pk BK213) hb2); (try clear hb); (try clear hb2); (try clear hk); (try clear hi)) | ((with_reducible refine gate_callee (f := 87) rfl ?_); refine goesL_ (some 11) rfl rfl Try.func87 (by kernel_rfl) rfl #[.pointer (some ⟨g217, 0, none⟩)] rfl (by (try simp only [List.map_toArray, List.map_cons, List.map_nil]); first | done | rfl | (simp only [List.length_drop, List.length_take]; rfl)) ?_; (with_reducible refine (spec_l02Any.calls k g217 t214 t215 t216 t218 t219 t220 t221 t224 t225 w _ ?side1 ?side2 A3.out).mono ?_); (case side1 => repeat (first | (with_reducible first | exact HI217.out | apply IsS127.alloc | apply IsS127.drewN | apply IsS127.drew | apply IsS127.set_1 | apply IsS127.set_2 | refine IsS127.far ?_ NB217_213.out _) | exact HI217.out)); (case side2 => repeat (first | (with_reducible first | exact HB.out | apply uL | apply uE | apply uK | refine uM ?_ (IsS127.ge HI217.out) | refine uM ?_ GE213.out) | exact HB.out)); rintro e w7 ⟨v222, rfl, ho0, hi, hb, hk⟩; refine ⟨_, rfl, ?_⟩; replace BK213 := uD (KeepBut.blk hk (pk BK213) NB213_217.out (by simp)); have HO223 := uD (Kd.R_lower ho0 (uN (by repeat (first | (with_reducible first | exact HB.out | apply uL | apply uE | apply uK | refine uM ?_ (IsS127.ge HI217.out) | refine uM ?_ GE213.out) | exact HB.out)))); replace HB := uD (hb); replace HI217 := uD (hi); (try clear hb); (try clear hb2); (try clear hk); (try clear hi); (try clear ho0)) | ((with_reducible refine gate_dst (N := 5) rfl ?_); refine box_event ?hg (N := 5) ?hd (cs := #[.int .i64 0, .int .i64 0, .bool false, .slice none 0 0]) (t := 63) ?hr ?_; (case hd => rfl); (case hg => rfl); (case hr => first | (go_simp; done) | (go_simp; rfl)); intro gb226 hg w8 hbox hb; replace HO223 := uD (Kd.R_below (pr HO223) hb); have BK226 := uD (hbox); have GW226 := uD ((by rw [hg]; exact (uN (by repeat (first | (with_reducible first | exact HB.out | apply uL | apply uE | apply uK | refine uM ?_ (IsS127.ge HI217.out) | refine uM ?_ GE213.out) | exact HB.out))) : w.heap.size ≤ gb226)); have GE226 := uD ((by rw [hg]; exact (uN (by repeat (first | (with_reducible first | exact HB.out | apply uL | apply uE | apply uK | refine uM ?_ (IsS127.ge HI217.out) | refine uM ?_ GE213.out) | exact HB.out))) : w.heap.size ≤ gb226)); replace HB := uD (uO (by repeat (first | (with_reducible first | exact HB.out | apply uL | apply uE | apply uK | refine uM ?_ (IsS127.ge HI217.out) | refine uM ?_ GE213.out) | exact HB.out)) hb); have NB213_226 := uD ((by rw [hg]; exact Nat.ne_of_lt (blk_lt (pk BK213)) : gb213 ≠ gb226)); have NB226_213 := uD ((by rw [hg]; exact Nat.ne_of_gt (blk_lt (pk BK213)) : gb226 ≠ gb213)); replace BK213 := uD (blk_below (pk BK213) hb); have NB217_226 := uD ((by rw [hg]; exact Nat.ne_of_lt (IsS127.lt (show IsS127 w _ g217 t214 t224 t225 from by repeat (first | (with_reducible first | exact HI217.out | apply IsS127.alloc | apply IsS127.drewN | apply IsS127.drew | apply IsS127.set_1 | apply IsS127.set_2 | refine IsS127.far ?_ NB217_213.out _) | exact HI217.out))) : g217 ≠ gb226)); have NB226_217 := uD ((by rw [hg]; exact Nat.ne_of_gt (IsS127.lt (show IsS127 w _ g217 t214 t224 t225 from by repeat (first | (with_reducible first | exact HI217.out | apply IsS127.alloc | apply IsS127.drewN | apply IsS127.drew | apply IsS127.set_1 | apply IsS127.set_2 | refine IsS127.far ?_ NB217_213.out _) | exact HI217.out))) : gb226 ≠ g217)); replace HI217 := uD (IsS127.below (by repeat (first | (with_reducible first | exact HI217.out | apply IsS127.alloc | apply IsS127.drewN | apply IsS127.drew | apply IsS127.set_1 | apply IsS127.set_2 | refine IsS127.far ?_ NB217_213.out _) | exact HI217.out)) hb); clear hb hbox hg; have hnb9 := NB226_213.out; have hnc9 := NB213_226.out; have hnb10 := NB226_217.out; have hnc10 := NB217_226.out; obtain ⟨hcz11_0, hcz11_1, hcz11_2, hcz11_3, hfz11_0, hfz11_1, hfz11_2, hfz11_3⟩ := cz4 BK226; obtain ⟨Ao12, co12, eo12⟩ := Kd.R_slice HO223.out; subst eo12) | ((with_reducible refine gate_dst (N := 12) rfl ?_); refine Kd.R_lit (Kd.int .i64) _ 3 ?hg (N := 12) ?hd (xs := ([] : List Int)) (inner := []) (ok := fun _ => True) (okp := fun _ => True) ?hr ?hp (fun _ hk => hk) trivial (Below.refl _ _) (Nat.le_refl _) (by simp) ?_; (case hd => rfl); (case hg => rfl); (case hr => first | (go_simp; done) | (go_simp; rfl)); (case hp => exact (Reps.none _ _)); intro v228 w13 ho14 hb hg_ hnew_; clear hg_ hnew_; (first | rw [← Ny227.out] at ho14 | (simp only [Int.reduceToNat] at ho14; rw [← Ny227.out] at ho14)); replace HO223 := uD (Kd.R_below (by (with_reducible repeat (first | apply uU | apply uS | apply uT)); exact (uX (uV (p := ⟨gb226, 3, none⟩) (uV (p := ⟨gb226, 2, none⟩) (uV (p := ⟨gb226, 1, none⟩) (uV (p := ⟨gb226, 0, none⟩) (uW HO223.out BK226.out (by decide)) (fun _ hk => hk.2) (.int .i64 t218)) (fun _ hk => hk.2) (.int .i64 t219)) (fun _ hk => hk.2) (.bool t220)) (fun _ hk => hk.2) (.slice Ao12 t221.length co12)) (fun _ h_ => h_.1))) hb); have HO229 := uD (Kd.R_lower ho14 (uN (by repeat (first | (with_reducible first | exact HB.out | apply uL | apply uE | apply uK | refine uM ?_ (IsS127.ge HI217.out) | refine uM ?_ GE213.out | refine uM ?_ GE226.out) | exact HB.out)))); replace BK213 := uD (blk_below (g := gb213) (o := .cells #[.int .i64 0, .int .i64 0, .bool false, .slice none 0 0] 63 (0, 0)) (by exact ps BK213) hb); replace BK226 := uD (blk_below (g := gb226) (o := .cells #[.int .i64 t218, .int .i64 t219, .bool t220, .slice Ao12 t221.length co12] 63 (0, 0)) (by (with_reducible repeat first|apply uH|apply uJ|apply uG); refine uP (cs := #[.int .i64 t218, .int .i64 t219, .bool t220, .slice none 0 0]) ?_ 3 _ rfl; (with_reducible repeat first|apply uH|apply uJ|apply uG); refine uP (cs := #[.int .i64 t218, .int .i64 t219, .bool false, .slice none 0 0]) ?_ 2 _ rfl; (with_reducible repeat first|apply uH|apply uJ|apply uG); refine uP (cs := #[.int .i64 t218, .int .i64 0, .bool false, .slice none 0 0]) ?_ 1 _ rfl; (with_reducible repeat first|apply uH|apply uJ|apply uG); refine uP (cs := #[.int .i64 0, .int .i64 0, .bool false, .slice none 0 0]) ?_ 0 _ rfl; (with_reducible repeat first|apply uH|apply uJ|apply uG); exact BK226.out) hb); replace HB := uD (uO (by repeat (first | (with_reducible first | exact HB.out | apply uL | apply uE | apply uK | refine uM ?_ (IsS127.ge HI217.out) | refine uM ?_ GE213.out | refine uM ?_ GE226.out) | exact HB.out)) hb); replace HI217 := uD (IsS127.below (show IsS127 w ((((w8.setCell ⟨gb226, 0, none⟩ (.int .i64 t218)).setCell ⟨gb226, 1, none⟩ (.int .i64 t219)).setCell ⟨gb226, 2, none⟩ (.bool t220)).setCell ⟨gb226, 3, none⟩ (.slice Ao12 t221.length co12)) g217 t214 t224 t225 from by repeat (first | (with_reducible first | exact HI217.out | apply IsS127.alloc | apply IsS127.drewN | apply IsS127.drew | apply IsS127.set_1 | apply IsS127.set_2 | refine IsS127.far ?_ NB217_213.out _ | refine IsS127.far ?_ NB217_226.out _) | exact HI217.out)) hb); clear hb ho14) | ((with_reducible refine gate_callee (f := 83) rfl ?_); refine goesL_ (some 14) rfl rfl Try.func83 (by kernel_rfl) rfl #[.pointer (some ⟨g217, 0, none⟩), .int .i64 9] rfl (by (try simp only [List.map_toArray, List.map_cons, List.map_nil]); first | done | rfl | (simp only [List.length_drop, List.length_take]; rfl)) ?_; (with_reducible refine (spec_l01Below.calls g217 t214 t224 t225 9 t230 t231 t232 w _ ?side1 ?side2 A4.out).mono ?_); (case side1 => repeat (first | (with_reducible first | exact HI217.out | apply IsS127.alloc | apply IsS127.drewN | apply IsS127.drew | apply IsS127.set_1 | apply IsS127.set_2 | refine IsS127.far ?_ NB217_213.out _ | refine IsS127.far ?_ NB217_226.out _) | exact HI217.out)); (case side2 => repeat (first | (with_reducible first | exact HB.out | apply uL | apply uE | apply uK | refine uM ?_ (IsS127.ge HI217.out) | refine uM ?_ GE213.out | refine uM ?_ GE226.out) | exact HB.out)); rintro e w15 ⟨rfl, hi, hb, hk⟩; refine ⟨_, rfl, ?_⟩; replace BK213 := uD (KeepBut.blk hk (pk BK213) NB213_217.out (by simp)); replace HO223 := uD (uX (Kd.R_keep (IsS127.apart (show IsS127 w _ g217 t214 t224 t225 from by repeat (first | (with_reducible first | exact HI217.out | apply IsS127.alloc | apply IsS127.drewN | apply IsS127.drew | apply IsS127.set_1 | apply IsS127.set_2 | refine IsS127.far ?_ NB217_213.out _ | refine IsS127.far ?_ NB217_226.out _) | exact HI217.out)) (pr HO223) (by decide)) hk (fun _ h => h.2)) (fun _ h => h.1)); replace BK226 := uD (KeepBut.blk hk (pk BK226) NB226_217.out (by simp)); replace HO229 := uD (uX (Kd.R_keep (IsS127.apart (show IsS127 w _ g217 t214 t224 t225 from by repeat (first | (with_reducible first | exact HI217.out | apply IsS127.alloc | apply IsS127.drewN | apply IsS127.drew | apply IsS127.set_1 | apply IsS127.set_2 | refine IsS127.far ?_ NB217_213.out _ | refine IsS127.far ?_ NB217_226.out _) | exact HI217.out)) (pr HO229) (by decide)) hk (fun _ h => h.2)) (fun _ h => h.1)); replace HB := uD (hb); replace HI217 := uD (hi); (try clear hb); (try clear hb2); (try clear hk); (try clear hi)))
 go_loopg [6, 7] k (fun kq v6 v7 w' => ∃ (x6_1 : List Int) (x7_1 : Int) (x218001_1 : Int) (x218002_1 : Int), v7 = .int .i64 x7_1 ∧ Aside0 (spec_DrawRoomFor.l0 kq x6_1 x7_1 t214 x218001_1 x218002_1 t218 t219 t220 t221 = some (r1, r2, r3, r4, r5)) ∧ Aside0 (kq ≤ k) ∧ Aside0 (Kd.R (Kd.int .i64) 3 w' w.heap.size (fun _ => True) v6 x6_1) ∧ Aside0 (Kd.R k74 74 w' w.heap.size (fun _ => True) (.slice Ao12 t221.length co12) t221) ∧ Aside0 (w'.heap[gb213]? = some (.cells #[.int .i64 0, .int .i64 0, .bool false, (.slice none 0 0)] 63 (0, 0))) ∧ Aside0 (w'.heap[gb226]? = some (.cells #[.int .i64 t218, .int .i64 t219, .bool t220, (.slice Ao12 t221.length co12)] 63 (0, 0))) ∧ Aside0 (IsS127 w w' g217 t214 x218001_1 x218002_1) ∧ Aside0 (Below w.heap.size w w'))
 case atStart => exact ⟨(y227), (t230), (t231), (t232), (by first | rfl | (simp; done) | (simp [*]; done)), H', ⟨Nat.le_refl _⟩, ⟨by (with_reducible repeat (first | apply uU | apply uS | apply uT)); exact HO229.out⟩, ⟨by (with_reducible repeat (first | apply uU | apply uS | apply uT)); exact HO223.out⟩, ⟨by (with_reducible repeat first|apply uH|apply uJ|apply uG); exact BK213.out⟩, ⟨by (with_reducible repeat first|apply uH|apply uJ|apply uG); exact BK226.out⟩, ⟨by repeat (first | (with_reducible first | exact HI217.out | apply IsS127.alloc | apply IsS127.drewN | apply IsS127.drew | apply IsS127.set_1 | apply IsS127.set_2 | refine IsS127.far ?_ NB217_213.out _ | refine IsS127.far ?_ NB217_226.out _) | exact HI217.out)⟩, ⟨by repeat (first | (with_reducible first | exact HB.out | apply uL | apply uE | apply uK | refine uM ?_ (IsS127.ge HI217.out) | refine uM ?_ GE213.out | refine uM ?_ GE226.out) | exact HB.out)⟩⟩
 case round =>
  clear H'
  try clear c1
  try clear p2
  try clear c4
  try clear c7
  try clear c8
  try clear c9
  try clear c10
  try clear hcz11_0
  try clear hcz11_1
  try clear hcz11_2
  try clear hcz11_3
  try clear hfz11_0
  try clear hfz11_1
  try clear hfz11_2
  try clear hfz11_3
  obtain ⟨x6_1, x7_1, x218001_1, x218002_1, rfl, HA, HK1, HO_6, HO_227003, BK213, BK226, HI217, HB⟩ := hrel
  cases gk with
  | zero => exact absurd HA.out (by simp [spec_DrawRoomFor.l0])
  | succ k1 =>
   have H := HA.out
   clear HA
   simp only [spec_DrawRoomFor.l0] at H
   by_cases c16 : x7_1 > 0
   ·rw [if_pos c16] at H
    have c16b0 : decide (0 < x7_1) = true := decide_eq_true c16
    clear c16
    replace H := Option.bind_eq_some_iff.mp H
    obtain ⟨⟨t233, t234, t235⟩, A170, H⟩ := H
    replace H : (if x6_1.length < 17592186044416 then (spec_DrawRoomFor.l0 k1 (x6_1 ++ [wrap64 (1 + t233)]) (wrap64 (x7_1 - 1)) t214 t234 t235 t218 t219 t220 t221) else (none)) = some (r1, r2, r3, r4, r5) := H
    have A17 := uD A170
    clear A170
    by_cases c18 : x6_1.length < 17592186044416
    ·rw [if_pos c18] at H
     have LMc18 := uD c18
     clear c18
     obtain ⟨y236, hy236⟩ : ∃ y_ : List Int, y_ = (x6_1 ++ [wrap64 (1 + t233)]) := ⟨_, rfl⟩
     replace H : (spec_DrawRoomFor.l0 k1 y236 (wrap64 (x7_1 - 1)) t214 t234 t235 t218 t219 t220 t221) = some (r1, r2, r3, r4, r5) := by first | (rw [hy236]; with_reducible exact H) | (have H2_ := (Option.bind_some _ _).symm.trans H; rw [hy236]; with_reducible exact H2_) | (have H2_ := (Option.bind_some _ _).symm.trans H; with_reducible exact H2_) | with_reducible exact H | (rw [hy236]; exact H) | exact H
     have Ny236 := uD hy236
     clear hy236
     have H' := uD H
     clear H
     go_wp2_with (first | ((with_reducible refine gate_callee (f := 83) rfl ?_); refine goesL_ (some 21) rfl rfl Try.func83 (by kernel_rfl) rfl #[.pointer (some ⟨g217, 0, none⟩), .int .i64 12] rfl (by (try simp only [List.map_toArray, List.map_cons, List.map_nil]); first | done | rfl | (simp only [List.length_drop, List.length_take]; rfl)) ?_; (with_reducible refine (spec_l01Below.calls g217 t214 x218001_1 x218002_1 12 t233 t234 t235 w _ ?side1 ?side2 A17.out).mono ?_); (case side1 => repeat (first | (with_reducible first | exact HI217.out | apply IsS127.alloc | apply IsS127.drewN | apply IsS127.drew | apply IsS127.set_1 | apply IsS127.set_2 | refine IsS127.far ?_ NB217_213.out _ | refine IsS127.far ?_ NB217_226.out _) | exact HI217.out)); (case side2 => repeat (first | (with_reducible first | exact HB.out | apply uL | apply uE | apply uK | refine uM ?_ (IsS127.ge HI217.out) | refine uM ?_ GE213.out | refine uM ?_ GE226.out) | exact HB.out)); rintro e w19 ⟨rfl, hi, hb, hk⟩; refine ⟨_, rfl, ?_⟩; replace HO_6 := uD (uX (Kd.R_keep (IsS127.apart (show IsS127 w _ g217 t214 x218001_1 x218002_1 from by repeat (first | (with_reducible first | exact HI217.out | apply IsS127.alloc | apply IsS127.drewN | apply IsS127.drew | apply IsS127.set_1 | apply IsS127.set_2 | refine IsS127.far ?_ NB217_213.out _ | refine IsS127.far ?_ NB217_226.out _) | exact HI217.out)) (pr HO_6) (by decide)) hk (fun _ h => h.2)) (fun _ h => h.1)); replace HO_227003 := uD (uX (Kd.R_keep (IsS127.apart (show IsS127 w _ g217 t214 x218001_1 x218002_1 from by repeat (first | (with_reducible first | exact HI217.out | apply IsS127.alloc | apply IsS127.drewN | apply IsS127.drew | apply IsS127.set_1 | apply IsS127.set_2 | refine IsS127.far ?_ NB217_213.out _ | refine IsS127.far ?_ NB217_226.out _) | exact HI217.out)) (pr HO_227003) (by decide)) hk (fun _ h => h.2)) (fun _ h => h.1)); replace BK213 := uD (KeepBut.blk hk (pk BK213) NB213_217.out (by simp)); replace BK226 := uD (KeepBut.blk hk (pk BK226) NB226_217.out (by simp)); replace HB := uD (hb); replace HI217 := uD (hi); (try clear hb); (try clear hb2); (try clear hk); (try clear hi)) | ((with_reducible refine gate_builtin (b := .append) (xs := #[.tmp 19, .tmp 23]) rfl ?_); at_builtin; refine Kd.R_append (Kd.int .i64) (w0 := w) w.heap.size rfl (.tmp 19) (.tmp 23) 36 3 (.int .i64 0) 8 rfl Try.underlying36 info3 rfl (by decide) (by omega) u6 x6_1 (wrap64 (1 + t233)) [.int .i64 (wrap64 (1 + t233))] (fun _ => True) (fun _ => False) rfl rfl ?aP (fun _ hk => hk.elim) ?aF ?aO ?aB ?aS ?aL ?_; (case aP => exact rfl); (case aB => exact (by repeat (first | (with_reducible first | exact HB.out | apply uL | apply uE | apply uK | refine uM ?_ (IsS127.ge HI217.out) | refine uM ?_ GE213.out | refine uM ?_ GE226.out) | exact HB.out))); (case aF => exact (fun _ _ => trivial)); (case aO => exact (pr HO_6)); (case aS => exact (uN (by repeat (first | (with_reducible first | exact HB.out | apply uL | apply uE | apply uK | refine uM ?_ (IsS127.ge HI217.out) | refine uM ?_ GE213.out | refine uM ?_ GE226.out) | exact HB.out)))); (case aL => have := LMc18.out; omega); intro v237 w20 ho hb hg hat; rw [← Ny236.out] at ho; replace HO_227003 := uD (Kd.R_over' (pr HO_227003) (Kd.R_typed (pr HO_6)) (by decide) hg); replace BK213 := uD (blk_grown (pk BK213) hg (Kd.R_ne HO_6.out BK213.out (by decide))); replace BK226 := uD (blk_grown (pk BK226) hg (Kd.R_ne HO_6.out BK226.out (by decide))); replace HI217 := uD (IsS127.grown (by repeat (first | (with_reducible first | exact HI217.out | apply IsS127.alloc | apply IsS127.drewN | apply IsS127.drew | apply IsS127.set_1 | apply IsS127.set_2 | refine IsS127.far ?_ NB217_213.out _ | refine IsS127.far ?_ NB217_226.out _) | exact HI217.out)) hg (IsS127.own_ne HI217.out HO_6.out (by decide))); replace HB := uD (hb); have HO238 := uD (ho); clear HO_6; clear ho hb hg hat))
     go_roundg k1
     case measure => have := HK1.out; omega
     case rel => exact ⟨(y236), (wrap64 (x7_1 - 1)), (t234), (t235), (by first | rfl | (simp; done) | (simp [*]; done)), H', ⟨by have := HK1.out; omega⟩, ⟨by (with_reducible repeat (first | apply uU | apply uS | apply uT)); exact HO238.out⟩, ⟨by (with_reducible repeat (first | apply uU | apply uS | apply uT)); exact HO_227003.out⟩, ⟨by (with_reducible repeat first|apply uH|apply uJ|apply uG); exact BK213.out⟩, ⟨by (with_reducible repeat first|apply uH|apply uJ|apply uG); exact BK226.out⟩, ⟨by repeat (first | (with_reducible first | exact HI217.out | apply IsS127.alloc | apply IsS127.drewN | apply IsS127.drew | apply IsS127.set_1 | apply IsS127.set_2 | refine IsS127.far ?_ NB217_213.out _ | refine IsS127.far ?_ NB217_226.out _) | exact HI217.out)⟩, ⟨by repeat (first | (with_reducible first | exact HB.out | apply uL | apply uE | apply uK | refine uM ?_ (IsS127.ge HI217.out) | refine uM ?_ GE213.out | refine uM ?_ GE226.out) | exact HB.out)⟩⟩
    ·rw [if_neg c18] at H
     exact absurd H (by simp)
   ·rw [if_neg c16] at H
    have c16b0 : decide (0 < x7_1) = false := decide_eq_false c16
    clear c16
    replace H := Option.bind_eq_some_iff.mp H
    obtain ⟨⟨t239, t240, t241⟩, A210, H⟩ := H
    replace H : (if t239 = true then ((spec_l01PickInt.f t214 t240 t241 (([0, 61, 60] : List Int))).bind fun bt245 => (if x6_1.length < 17592186044416 then (some (t218, t219, t220, t221, (x6_1 ++ [bt245.1]))) else (none))) else (some (t218, t219, t220, t221, x6_1))) = some (r1, r2, r3, r4, r5) := H
    have A21 := uD A210
    clear A210
    by_cases c22 : t239 = true
    ·subst c22
     have H1 : ((spec_l01PickInt.f t214 t240 t241 (([0, 61, 60] : List Int))).bind fun bt245 => (if x6_1.length < 17592186044416 then (some (t218, t219, t220, t221, (x6_1 ++ [bt245.1]))) else (none))) = some (r1, r2, r3, r4, r5) := by rw [if_pos rfl] at H; first | done | exact H
     clear H
     have H := H1
     clear H1
     obtain ⟨y242, hy242⟩ : ∃ y_ : List Int, y_ = (([0, 61, 60] : List Int)) := ⟨_, rfl⟩
     replace H : ((spec_l01PickInt.f t214 t240 t241 y242).bind fun bt245 => (if x6_1.length < 17592186044416 then (some (t218, t219, t220, t221, (x6_1 ++ [bt245.1]))) else (none))) = some (r1, r2, r3, r4, r5) := by first | (rw [hy242]; with_reducible exact H) | (have H2_ := (Option.bind_some _ _).symm.trans H; rw [hy242]; with_reducible exact H2_) | (have H2_ := (Option.bind_some _ _).symm.trans H; with_reducible exact H2_) | with_reducible exact H | (rw [hy242]; exact H) | exact H
     have Ny242 := uD hy242
     clear hy242
     replace H := Option.bind_eq_some_iff.mp H
     obtain ⟨⟨t245, t246, t247⟩, A230, H⟩ := H
     replace H : (if x6_1.length < 17592186044416 then (some (t218, t219, t220, t221, (x6_1 ++ [t245]))) else (none)) = some (r1, r2, r3, r4, r5) := H
     have A23 := uD A230
     clear A230
     by_cases c24 : x6_1.length < 17592186044416
     ·rw [if_pos c24] at H
      have LMc24 := uD c24
      clear c24
      obtain ⟨y248, hy248⟩ : ∃ y_ : List Int, y_ = (x6_1 ++ [t245]) := ⟨_, rfl⟩
      replace H : (some (t218, t219, t220, t221, y248)) = some (r1, r2, r3, r4, r5) := by first | (rw [hy248]; with_reducible exact H) | (have H2_ := (Option.bind_some _ _).symm.trans H; rw [hy248]; with_reducible exact H2_) | (have H2_ := (Option.bind_some _ _).symm.trans H; with_reducible exact H2_) | with_reducible exact H | (rw [hy248]; exact H) | exact H
      have Ny248 := uD hy248
      clear hy248
      simp only [Option.some.injEq, Prod.mk.injEq] at H
      obtain ⟨rfl, rfl, rfl, rfl, rfl⟩ := H
      go_wp2_with (first | ((with_reducible refine gate_callee (f := 88) rfl ?_); refine goesL_ (some 26) rfl rfl Try.func88 (by kernel_rfl) rfl #[.pointer (some ⟨g217, 0, none⟩), .int .i64 12] rfl (by (try simp only [List.map_toArray, List.map_cons, List.map_nil]); first | done | rfl | (simp only [List.length_drop, List.length_take]; rfl)) ?_; (with_reducible refine (spec_l01Once.calls g217 t214 x218001_1 x218002_1 12 true t240 t241 w _ ?side1 ?side2 A21.out).mono ?_); (case side1 => repeat (first | (with_reducible first | exact HI217.out | apply IsS127.alloc | apply IsS127.drewN | apply IsS127.drew | apply IsS127.set_1 | apply IsS127.set_2 | refine IsS127.far ?_ NB217_213.out _ | refine IsS127.far ?_ NB217_226.out _) | exact HI217.out)); (case side2 => repeat (first | (with_reducible first | exact HB.out | apply uL | apply uE | apply uK | refine uM ?_ (IsS127.ge HI217.out) | refine uM ?_ GE213.out | refine uM ?_ GE226.out) | exact HB.out)); rintro e w25 ⟨rfl, hi, hb, hk⟩; refine ⟨_, rfl, ?_⟩; replace HO_6 := uD (uX (Kd.R_keep (IsS127.apart (show IsS127 w _ g217 t214 x218001_1 x218002_1 from by repeat (first | (with_reducible first | exact HI217.out | apply IsS127.alloc | apply IsS127.drewN | apply IsS127.drew | apply IsS127.set_1 | apply IsS127.set_2 | refine IsS127.far ?_ NB217_213.out _ | refine IsS127.far ?_ NB217_226.out _) | exact HI217.out)) (pr HO_6) (by decide)) hk (fun _ h => h.2)) (fun _ h => h.1)); replace HO_227003 := uD (uX (Kd.R_keep (IsS127.apart (show IsS127 w _ g217 t214 x218001_1 x218002_1 from by repeat (first | (with_reducible first | exact HI217.out | apply IsS127.alloc | apply IsS127.drewN | apply IsS127.drew | apply IsS127.set_1 | apply IsS127.set_2 | refine IsS127.far ?_ NB217_213.out _ | refine IsS127.far ?_ NB217_226.out _) | exact HI217.out)) (pr HO_227003) (by decide)) hk (fun _ h => h.2)) (fun _ h => h.1)); replace BK213 := uD (KeepBut.blk hk (pk BK213) NB213_217.out (by simp)); replace BK226 := uD (KeepBut.blk hk (pk BK226) NB226_217.out (by simp)); replace HB := uD (hb); replace HI217 := uD (hi); (try clear hb); (try clear hb2); (try clear hk); (try clear hi)) | ((with_reducible refine gate_dst (N := 29) rfl ?_); refine Kd.R_lit (Kd.int .i64) _ 3 ?hg (N := 29) ?hd (xs := ([0, 61, 60] : List Int)) (inner := [.int .i64 0, .int .i64 61, .int .i64 60]) (ok := fun _ => True) (okp := fun _ => True) ?hr ?hp (fun _ hk => hk) trivial (Below.refl _ _) (Nat.le_refl _) (by simp) ?_; (case hd => rfl); (case hg => rfl); (case hr => first | (go_simp; done) | (go_simp; rfl)); (case hp => exact (Reps.one (show Kd.M (Kd.int .i64) _ _ _ 0 [.int .i64 0] from rfl) (Reps.one (show Kd.M (Kd.int .i64) _ _ _ 61 [.int .i64 61] from rfl) (Reps.one (show Kd.M (Kd.int .i64) _ _ _ 60 [.int .i64 60] from rfl) (Reps.none _ _))))); intro v243 w26 ho27 hb hg_ hnew_; clear hg_ hnew_; (first | rw [← Ny242.out] at ho27 | (simp only [Int.reduceToNat] at ho27; rw [← Ny242.out] at ho27)); replace HO_227003 := uD (Kd.R_below (pr HO_227003) hb); have HO244 := uD (Kd.R_lower (Kd.R_new' ho27 (Kd.R_lt (pr HO_6))) (uN (by repeat (first | (with_reducible first | exact HB.out | apply uL | apply uE | apply uK | refine uM ?_ (IsS127.ge HI217.out) | refine uM ?_ GE213.out | refine uM ?_ GE226.out) | exact HB.out)))); replace HO_6 := uD (Kd.R_elder' (pr HO_6) (Kd.R_base ho27) hb); replace BK213 := uD (blk_below (pk BK213) hb); replace BK226 := uD (blk_below (pk BK226) hb); replace HB := uD (uO (by repeat (first | (with_reducible first | exact HB.out | apply uL | apply uE | apply uK | refine uM ?_ (IsS127.ge HI217.out) | refine uM ?_ GE213.out | refine uM ?_ GE226.out) | exact HB.out)) hb); replace HI217 := uD (IsS127.below (by repeat (first | (with_reducible first | exact HI217.out | apply IsS127.alloc | apply IsS127.drewN | apply IsS127.drew | apply IsS127.set_1 | apply IsS127.set_2 | refine IsS127.far ?_ NB217_213.out _ | refine IsS127.far ?_ NB217_226.out _) | exact HI217.out)) hb); clear hb ho27; obtain ⟨Ao28, co28, eo28⟩ := Kd.R_slice HO244.out; subst eo28) | ((with_reducible refine gate_callee (f := 89) rfl ?_); refine goesL_ (some 30) rfl rfl Try.func89 (by kernel_rfl) rfl #[.pointer (some ⟨g217, 0, none⟩), .slice Ao28 y242.length co28] rfl (by (try simp only [List.map_toArray, List.map_cons, List.map_nil]); first | done | rfl | (simp only [List.length_drop, List.length_take]; rfl)) ?_; (with_reducible refine (spec_l01PickInt.calls g217 t214 t240 t241 _ _ y242 t245 t246 t247 w _ ?side1 ?side2 ?side3 ?side4 ?side5 A23.out).mono ?_); (case side1 => repeat (first | (with_reducible first | exact HI217.out | apply IsS127.alloc | apply IsS127.drewN | apply IsS127.drew | apply IsS127.set_1 | apply IsS127.set_2 | refine IsS127.far ?_ NB217_213.out _ | refine IsS127.far ?_ NB217_226.out _) | exact HI217.out)); (case side2 => repeat (first | (with_reducible first | exact HB.out | apply uL | apply uE | apply uK | refine uM ?_ (IsS127.ge HI217.out) | refine uM ?_ GE213.out | refine uM ?_ GE226.out) | exact HB.out)); (case side3 => repeat (first | exact (Kd.R_reads' HO244.out).2.2 | (with_reducible refine Kd.C_alloc ?_ _) | (with_reducible refine Kd.C_drewN ?_ _) | (with_reducible refine Kd.C_drew ?_))); (case side4 => exact (Kd.R_reads' HO244.out).2.1); (case side5 => exact far_slice (IsS127.own_ne HI217.out HO244.out (by decide))); rintro e w29 ⟨rfl, hi, hb, hk⟩; refine ⟨_, rfl, ?_⟩; replace HO_6 := uD (uX (Kd.R_keep (IsS127.apart (show IsS127 w _ g217 t214 t240 t241 from by repeat (first | (with_reducible first | exact HI217.out | apply IsS127.alloc | apply IsS127.drewN | apply IsS127.drew | apply IsS127.set_1 | apply IsS127.set_2 | refine IsS127.far ?_ NB217_213.out _ | refine IsS127.far ?_ NB217_226.out _) | exact HI217.out)) (pr HO_6) (by decide)) hk (fun _ h => h.2)) (fun _ h => h.1)); replace HO_227003 := uD (uX (Kd.R_keep (IsS127.apart (show IsS127 w _ g217 t214 t240 t241 from by repeat (first | (with_reducible first | exact HI217.out | apply IsS127.alloc | apply IsS127.drewN | apply IsS127.drew | apply IsS127.set_1 | apply IsS127.set_2 | refine IsS127.far ?_ NB217_213.out _ | refine IsS127.far ?_ NB217_226.out _) | exact HI217.out)) (pr HO_227003) (by decide)) hk (fun _ h => h.2)) (fun _ h => h.1)); replace BK213 := uD (KeepBut.blk hk (pk BK213) NB213_217.out (by simp)); replace BK226 := uD (KeepBut.blk hk (pk BK226) NB226_217.out (by simp)); replace HO244 := uD (uX (Kd.R_keep (IsS127.apart (show IsS127 w _ g217 t214 t240 t241 from by repeat (first | (with_reducible first | exact HI217.out | apply IsS127.alloc | apply IsS127.drewN | apply IsS127.drew | apply IsS127.set_1 | apply IsS127.set_2 | refine IsS127.far ?_ NB217_213.out _ | refine IsS127.far ?_ NB217_226.out _) | exact HI217.out)) (pr HO244) (by decide)) hk (fun _ h => h.2)) (fun _ h => h.1)); replace HB := uD (hb); replace HI217 := uD (hi); (try clear hb); (try clear hb2); (try clear hk); (try clear hi)) | ((with_reducible refine gate_builtin (b := .append) (xs := #[.tmp 27, .tmp 31]) rfl ?_); at_builtin; refine Kd.R_append (Kd.int .i64) (w0 := w) w.heap.size rfl (.tmp 27) (.tmp 31) 36 3 (.int .i64 0) 8 rfl Try.underlying36 info3 rfl (by decide) (by omega) u6 x6_1 t245 [.int .i64 t245] (fun k_ => some k_ ≠ (.slice Ao28 y242.length co28 : Value).ownBlock) (fun _ => False) rfl rfl ?aP (fun _ hk => hk.elim) ?aF ?aO ?aB ?aS ?aL ?_; (case aP => exact rfl); (case aB => exact (by repeat (first | (with_reducible first | exact HB.out | apply uL | apply uE | apply uK | refine uM ?_ (IsS127.ge HI217.out) | refine uM ?_ GE213.out | refine uM ?_ GE226.out) | exact HB.out))); (case aF => exact (fun k_ hk => Kd.fresh' (Kd.R_lt (pr HO244)) k_ hk)); (case aO => exact (by (with_reducible repeat (first | apply uU | apply uS | apply uT)); exact uX HO_6.out (fun _ hk => hk.2))); (case aS => exact (uN (by repeat (first | (with_reducible first | exact HB.out | apply uL | apply uE | apply uK | refine uM ?_ (IsS127.ge HI217.out) | refine uM ?_ GE213.out | refine uM ?_ GE226.out) | exact HB.out)))); (case aL => have := LMc24.out; omega); intro v249 w30 ho hb hg hat; rw [← Ny248.out] at ho; replace HO_227003 := uD (Kd.R_over' (pr HO_227003) (Kd.R_typed (pr HO_6)) (by decide) hg); replace BK213 := uD (blk_grown (pk BK213) hg (Kd.R_ne HO_6.out BK213.out (by decide))); replace BK226 := uD (blk_grown (pk BK226) hg (Kd.R_ne HO_6.out BK226.out (by decide))); replace HI217 := uD (IsS127.grown (by repeat (first | (with_reducible first | exact HI217.out | apply IsS127.alloc | apply IsS127.drewN | apply IsS127.drew | apply IsS127.set_1 | apply IsS127.set_2 | refine IsS127.far ?_ NB217_213.out _ | refine IsS127.far ?_ NB217_226.out _) | exact HI217.out)) hg (IsS127.own_ne HI217.out HO_6.out (by decide))); replace HO244 := uD (Kd.R_after (ok := (fun _ => True)) (pr HO244) hg hat); replace HB := uD (hb); have HO250 := uD (ho); clear HO_6; clear ho hb hg hat; have hnb31 := NB226_213.out; have hnc31 := NB213_226.out; have hnb32 := NB226_217.out; have hnc32 := NB217_226.out; obtain ⟨hcz33_0, hcz33_1, hcz33_2, hcz33_3, hfz33_0, hfz33_1, hfz33_2, hfz33_3⟩ := cz4 BK226; have hnb34 := NB213_217.out; have hnc34 := NB217_213.out; obtain ⟨hcz35_0, hcz35_1, hcz35_2, hcz35_3, hfz35_0, hfz35_1, hfz35_2, hfz35_3⟩ := cz4 BK213))
      refine bodyPost_ret (uR rfl _ _ gb213 63 #[.int .i64 t218, .int .i64 t219, .bool t220, .slice Ao12 t221.length co12] (0, 0) _ rfl (by (with_reducible repeat first|apply uH|apply uJ|apply uG); refine uP (cs := #[.int .i64 t218, .int .i64 t219, .bool t220, .slice none 0 0]) ?_ 3 _ rfl; (with_reducible repeat first|apply uH|apply uJ|apply uG); refine uP (cs := #[.int .i64 t218, .int .i64 t219, .bool false, .slice none 0 0]) ?_ 2 _ rfl; (with_reducible repeat first|apply uH|apply uJ|apply uG); refine uP (cs := #[.int .i64 t218, .int .i64 0, .bool false, .slice none 0 0]) ?_ 1 _ rfl; (with_reducible repeat first|apply uH|apply uJ|apply uG); refine uP (cs := #[.int .i64 0, .int .i64 0, .bool false, .slice none 0 0]) ?_ 0 _ rfl; (with_reducible repeat first|apply uH|apply uJ|apply uG); exact BK213.out) Try.underlying63 rfl (by kernel_rfl)) rfl ?_
      exact ⟨_, _, by first | rfl | (simp [errW_none, errW_some] <;> rfl) | (simp [*, errW_none, errW_some] <;> rfl), by (with_reducible repeat (first | apply uU | apply uS | apply uT)); exact uX (uV (p := ⟨gb213, 3, none⟩) (uV (p := ⟨gb213, 2, none⟩) (uV (p := ⟨gb213, 1, none⟩) (uV (p := ⟨gb213, 0, none⟩) (uW HO_227003.out BK213.out (by decide)) (fun _ hk => hk.2) (.int .i64 t218)) (fun _ hk => hk.2) (.int .i64 t219)) (fun _ hk => hk.2) (.bool t220)) (fun _ hk => hk.2) (.slice Ao12 t221.length co12)) (fun _ hk => trivial), by (with_reducible repeat (first | apply uU | apply uS | apply uT)); exact uX (uV (p := ⟨gb213, 3, none⟩) (uV (p := ⟨gb213, 2, none⟩) (uV (p := ⟨gb213, 1, none⟩) (uV (p := ⟨gb213, 0, none⟩) (uW HO250.out BK213.out (by decide)) (fun _ hk => hk.2) (.int .i64 t218)) (fun _ hk => hk.2) (.int .i64 t219)) (fun _ hk => hk.2) (.bool t220)) (fun _ hk => hk.2) (.slice Ao12 t221.length co12)) (fun _ hk => trivial), by repeat (first | (with_reducible first | exact HB.out | apply uL | apply uE | apply uK | refine uM ?_ (IsS127.ge HI217.out) | refine uM ?_ GE213.out | refine uM ?_ GE226.out) | exact HB.out)⟩
     ·rw [if_neg c24] at H
      exact absurd H (by simp)
    ·replace c22 := Bool.eq_false_iff.mpr c22
     subst c22
     have H1 : (some (t218, t219, t220, t221, x6_1)) = some (r1, r2, r3, r4, r5) := by rw [if_neg (show ¬ (false = true) by decide)] at H; first | done | exact H
     clear H
     have H := H1
     clear H1
     simp only [Option.some.injEq, Prod.mk.injEq] at H
     obtain ⟨rfl, rfl, rfl, rfl, rfl⟩ := H
     go_wp2_with (first | ((with_reducible refine gate_callee (f := 88) rfl ?_); refine goesL_ (some 26) rfl rfl Try.func88 (by kernel_rfl) rfl #[.pointer (some ⟨g217, 0, none⟩), .int .i64 12] rfl (by (try simp only [List.map_toArray, List.map_cons, List.map_nil]); first | done | rfl | (simp only [List.length_drop, List.length_take]; rfl)) ?_; (with_reducible refine (spec_l01Once.calls g217 t214 x218001_1 x218002_1 12 false t240 t241 w _ ?side1 ?side2 A21.out).mono ?_); (case side1 => repeat (first | (with_reducible first | exact HI217.out | apply IsS127.alloc | apply IsS127.drewN | apply IsS127.drew | apply IsS127.set_1 | apply IsS127.set_2 | refine IsS127.far ?_ NB217_213.out _ | refine IsS127.far ?_ NB217_226.out _) | exact HI217.out)); (case side2 => repeat (first | (with_reducible first | exact HB.out | apply uL | apply uE | apply uK | refine uM ?_ (IsS127.ge HI217.out) | refine uM ?_ GE213.out | refine uM ?_ GE226.out) | exact HB.out)); rintro e w36 ⟨rfl, hi, hb, hk⟩; refine ⟨_, rfl, ?_⟩; replace HO_6 := uD (uX (Kd.R_keep (IsS127.apart (show IsS127 w _ g217 t214 x218001_1 x218002_1 from by repeat (first | (with_reducible first | exact HI217.out | apply IsS127.alloc | apply IsS127.drewN | apply IsS127.drew | apply IsS127.set_1 | apply IsS127.set_2 | refine IsS127.far ?_ NB217_213.out _ | refine IsS127.far ?_ NB217_226.out _) | exact HI217.out)) (pr HO_6) (by decide)) hk (fun _ h => h.2)) (fun _ h => h.1)); replace HO_227003 := uD (uX (Kd.R_keep (IsS127.apart (show IsS127 w _ g217 t214 x218001_1 x218002_1 from by repeat (first | (with_reducible first | exact HI217.out | apply IsS127.alloc | apply IsS127.drewN | apply IsS127.drew | apply IsS127.set_1 | apply IsS127.set_2 | refine IsS127.far ?_ NB217_213.out _ | refine IsS127.far ?_ NB217_226.out _) | exact HI217.out)) (pr HO_227003) (by decide)) hk (fun _ h => h.2)) (fun _ h => h.1)); replace BK213 := uD (KeepBut.blk hk (pk BK213) NB213_217.out (by simp)); replace BK226 := uD (KeepBut.blk hk (pk BK226) NB226_217.out (by simp)); replace HB := uD (hb); replace HI217 := uD (hi); (try clear hb); (try clear hb2); (try clear hk); (try clear hi); have hnb37 := NB226_213.out; have hnc37 := NB213_226.out; have hnb38 := NB226_217.out; have hnc38 := NB217_226.out; obtain ⟨hcz39_0, hcz39_1, hcz39_2, hcz39_3, hfz39_0, hfz39_1, hfz39_2, hfz39_3⟩ := cz4 BK226; have hnb40 := NB213_217.out; have hnc40 := NB217_213.out; obtain ⟨hcz41_0, hcz41_1, hcz41_2, hcz41_3, hfz41_0, hfz41_1, hfz41_2, hfz41_3⟩ := cz4 BK213))
     refine bodyPost_ret (uR rfl _ _ gb213 63 #[.int .i64 t218, .int .i64 t219, .bool t220, .slice Ao12 t221.length co12] (0, 0) _ rfl (by (with_reducible repeat first|apply uH|apply uJ|apply uG); refine uP (cs := #[.int .i64 t218, .int .i64 t219, .bool t220, .slice none 0 0]) ?_ 3 _ rfl; (with_reducible repeat first|apply uH|apply uJ|apply uG); refine uP (cs := #[.int .i64 t218, .int .i64 t219, .bool false, .slice none 0 0]) ?_ 2 _ rfl; (with_reducible repeat first|apply uH|apply uJ|apply uG); refine uP (cs := #[.int .i64 t218, .int .i64 0, .bool false, .slice none 0 0]) ?_ 1 _ rfl; (with_reducible repeat first|apply uH|apply uJ|apply uG); refine uP (cs := #[.int .i64 0, .int .i64 0, .bool false, .slice none 0 0]) ?_ 0 _ rfl; (with_reducible repeat first|apply uH|apply uJ|apply uG); exact BK213.out) Try.underlying63 rfl (by kernel_rfl)) rfl ?_
     exact ⟨_, _, by first | rfl | (simp [errW_none, errW_some] <;> rfl) | (simp [*, errW_none, errW_some] <;> rfl), by (with_reducible repeat (first | apply uU | apply uS | apply uT)); exact uX (uV (p := ⟨gb213, 3, none⟩) (uV (p := ⟨gb213, 2, none⟩) (uV (p := ⟨gb213, 1, none⟩) (uV (p := ⟨gb213, 0, none⟩) (uW HO_227003.out BK213.out (by decide)) (fun _ hk => hk.2) (.int .i64 t218)) (fun _ hk => hk.2) (.int .i64 t219)) (fun _ hk => hk.2) (.bool t220)) (fun _ hk => hk.2) (.slice Ao12 t221.length co12)) (fun _ hk => trivial), by (with_reducible repeat (first | apply uU | apply uS | apply uT)); exact uX (uV (p := ⟨gb213, 3, none⟩) (uV (p := ⟨gb213, 2, none⟩) (uV (p := ⟨gb213, 1, none⟩) (uV (p := ⟨gb213, 0, none⟩) (uW HO_6.out BK213.out (by decide)) (fun _ hk => hk.2) (.int .i64 t218)) (fun _ hk => hk.2) (.int .i64 t219)) (fun _ hk => hk.2) (.bool t220)) (fun _ hk => hk.2) (.slice Ao12 t221.length co12)) (fun _ hk => trivial), by repeat (first | (with_reducible first | exact HB.out | apply uL | apply uE | apply uK | refine uM ?_ (IsS127.ge HI217.out) | refine uM ?_ GE213.out | refine uM ?_ GE226.out) | exact HB.out)⟩

-- NOT PRINTED: function 113 (impl_Item_113)

-- NOT PRINTED: function 110 (impl_Item_110)

/-! ### impl_isOn: function 93 -/
set_option maxHeartbeats 400000 in
theorem impl_isOn.pred (a b c bag : Int) (B : Nat) (W : World) (hc : W.cell? ⟨B, 0, none⟩ = some (.int .i64 bag)) :
    Calls Try.prog 111 #[.agg #[.int .i64 a, .int .i64 b, .int .i64 c], .pointer (some ⟨B, 0, none⟩)] W fun e w' => e = .returned (.bool (a == bag)) ∧ Below W.heap.size W w' := by
  have hlt : B < W.heap.size := World.block_lt_of_cell? W _ hc
  go_enter Try.func111, Try.ntmps111
  go_wp2
  go_ret
  exact ⟨rfl, (Below.refl _ _).alloc (Nat.le_refl _) _⟩
/-- The first index at which p holds; -1 where there is none. -/
def impl_isOn.idx (bag : Int) : List S74 → Int → Int
  | [], _ => -1
  | x :: l, i => if (x.f0 == bag) = true then i else impl_isOn.idx bag l (i + 1)
theorem impl_isOn.idx_any (bag : Int) : ∀ (l : List S74) (i : Int), 0 ≤ i → decide (impl_isOn.idx bag l i ≥ 0) = l.any (fun x => x.f0 == bag)
  | [], i, h => by simp [impl_isOn.idx]
  | x :: l, i, h => by
    unfold impl_isOn.idx
    rw [List.any_cons]
    cases hx : (x.f0 == bag) with
    | true => simp; omega
    | false => simp only [Bool.false_or, Bool.false_eq_true, if_false]; exact impl_isOn.idx_any bag l (i + 1) (by omega)
set_option maxHeartbeats 1000000 in
theorem impl_isOn.index (A : Option Addr) (c : Nat) (l : List S74) (bag : Int) (B : Nat) (w : World) (hr : Kd.C k74 w A l.length l) (hcell : w.cell? ⟨B, 0, none⟩ = some (.int .i64 bag)) :
    Calls Try.prog 113 #[.slice A l.length c, .func (.func 111) #[] #[.pointer (some ⟨B, 0, none⟩)]] w fun e w' => e = .returned (.int .i64 (impl_isOn.idx bag l 0)) ∧ Below w.heap.size w w' := by
  have eg := enters_of Try.func111 (by kernel_rfl) rfl
  have HR := Aside0.mk hr
  have hm : l.length ≤ 9223372036854775807 := hr.2.1
  have HC := Aside0.mk hcell
  clear hr hcell
  go_enter Try.func113, Try.ntmps113
  go_wp2
  go_loopg [5, 8] l.length (fun gg _ v8 wr => ∃ kk : Nat, kk ≤ l.length ∧ l.length - kk ≤ gg ∧ v8 = .int .i64 kk ∧ Aside0 (Below w.heap.size w wr) ∧ Aside0 (impl_isOn.idx bag l 0 = impl_isOn.idx bag (l.drop kk) kk))
  case atStart => exact ⟨0, Nat.zero_le _, by omega, rfl, ⟨Below.refl _ w⟩, ⟨rfl⟩⟩
  case round =>
    obtain ⟨kk, hkk, hg, rfl, HB, HI⟩ := hrel
    by_cases hlt : kk < l.length
    · have h0 : (0 : Int) ≤ (kk : Int) := by omega
      have h1 : (kk : Int) < (l.length : Int) := by omega
      obtain ⟨ad, e1, hx0, hx1, hx2⟩ := at_T74 HR.out kk h0 h1
      cases e1
      simp only [Int.toNat_natCast] at hx0 hx1 hx2
      replace hx0 := pw_cell_below HB.out hx0
      replace hx1 := pw_cell_below HB.out hx1
      replace hx2 := pw_cell_below HB.out hx2
      have hcb := pw_cell_below HB.out HC.out
      have hp := impl_isOn.pred (rd_T74 l kk).f0 (rd_T74 l kk).f1 (rd_T74 l kk).f2 bag B wr hcb
      have hd : l.drop kk = rd_T74 l kk :: l.drop (kk + 1) := by
        rw [List.drop_eq_getElem_cons hlt]
        simp [rd_T74, List.getD_eq_getElem?_getD, List.getElem?_eq_getElem hlt]
      have HD := Aside0.mk hd
      clear hd hcb
      cases hq : ((rd_T74 l kk).f0 == bag) with
      | true =>
        rw [hq] at hp
        have HQ := Aside0.mk hq
        clear hq
        go_wp2_with (go_at_call 111; refine hp.mono ?_; rintro e w' ⟨rfl, hb'⟩)
        go_ret
        refine ⟨?_, below_step HB.out hb'⟩
        rw [HI.out, HD.out, impl_isOn.idx, if_pos HQ.out]
        rfl
      | false =>
        rw [hq] at hp
        have HQ := Aside0.mk hq
        clear hq
        go_wp2_with (go_at_call 111; refine hp.mono ?_; rintro e w' ⟨rfl, hb'⟩)
        go_roundg (l.length - (kk + 1))
        case measure => omega
        case rel =>
          refine ⟨kk + 1, by omega, by omega, by go_num, ⟨below_step HB.out hb'⟩, ⟨?_⟩⟩
          rw [HI.out, HD.out, impl_isOn.idx, if_neg (by rw [HQ.out]; decide)]
          rfl
    · have : kk = l.length := by omega
      subst this
      go_wp2
      go_ret
      refine ⟨?_, HB.out⟩
      rw [HI.out, List.drop_eq_nil_of_le (Nat.le_refl _)]
      rfl

set_option maxHeartbeats 1000000 in
theorem impl_isOn.contains (A : Option Addr) (c : Nat) (l : List S74) (bag : Int) (B : Nat) (w : World) (hr : Kd.C k74 w A l.length l) (hcell : w.cell? ⟨B, 0, none⟩ = some (.int .i64 bag)) :
    Calls Try.prog 110 #[.slice A l.length c, .func (.func 111) #[] #[.pointer (some ⟨B, 0, none⟩)]] w fun e w' => e = .returned (.bool (l.any (fun x => x.f0 == bag))) ∧ Below w.heap.size w w' := by
  have hi := impl_isOn.index A c l bag B w hr hcell
  rw [← impl_isOn.idx_any bag l 0 (by omega)]
  clear hr hcell
  go_enter Try.func110, Try.ntmps110
  go_wp2_with (go_at_call 113; refine hi.mono ?_; rintro e w' ⟨rfl, hb'⟩)
  go_ret
  exact ⟨rfl, hb'⟩
def impl_isOn.f (l0 : List S74) (a1 : Int) : Option Bool := some (l0.any (fun x => x.f0 == a1))
set_option maxHeartbeats 1000000 in
theorem impl_isOn.calls (A0 : Option Addr) (c0 : Nat) (l0 : List S74) (a1 : Int) (r : Bool) (w : World) (hr0 : Kd.C k74 w A0 l0.length l0) (hc0 : l0.length ≤ c0) (h : impl_isOn.f l0 a1 = some r) :
    Calls Try.prog 93 #[.slice A0 l0.length c0, .int .i64 a1] w fun e w' => e = .returned (.bool r) ∧ Below w.heap.size w w' := by
  obtain rfl : l0.any (fun x => x.f0 == a1) = r := Option.some.inj h
  clear h
  have hcon := fun W h1 h2 => impl_isOn.contains A0 c0 l0 a1 w.heap.size W h1 h2
  have HR := Aside0.mk hr0
  clear hr0 hc0
  go_enter Try.func93, Try.ntmps93
  go_wp2_with (go_at_call 110; refine (hcon _ ?_ ?_).mono ?_)
  · exact Kd.C_below HR.out ((Below.refl _ _).alloc (Nat.le_refl _) _)
  · go_simp
  · rintro e w' ⟨rfl, hb'⟩
    go_wp2
    go_ret
    exact ⟨rfl, below_step ((Below.refl _ _).alloc (Nat.le_refl _) _) hb'⟩

end Go.Proofs.Ytnnimbbffbfhoaa.PFnBeltRoom
