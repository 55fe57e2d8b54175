-- Written by a program of this session (wip/myprint.py: the kit's print with changes): not by print.sh itself.
import Derived.Test.YtbdjbdoelbmjcaaPFnBeltEntersx0
import Derived.Test.YtbdjbdoelbmjcaaPFnBeltEntersx10
import Derived.Test.YtbdjbdoelbmjcaaPFnBeltEntersx12
namespace Go.Proofs.Ytbdjbdoelbmjcaa.PFnBeltEnters
open Go.RowKit Go.Proofs.YtbdjbdoelbmjcaaW.PrintWords Go.Proofs.YtbdjbdoelbmjcaaW.PrintLast Go.Proofs.YtbdjbdoelbmjcaaW.PrintMore
open Go renaming Act.put → uc
open Go.Proofs.YtbdjbdoelbmjcaaW.PrintLast renaming i64_w → uZ, i32_w → ua
open Go.Proofs.YtbdjbdoelbmjcaaW.PrintWords renaming Aside0.mk → uD, pw_below_drewN → uE, blk_cell → uF, blk_alloc → uG, blk_drewN → uH, blk_frozen → uI, blk_drew → uJ, below_drew1 → uK, below_alloc → uL, below_set → uM, below_size → uN, below_step → uO, blk_put → uP, Kd.R_drewN → uS, Kd.R_drew → uT, Kd.R_alloc → uU, Kd.R_far → uV, Kd.R_types → uW, Kd.R_mono → uX
open List renaming setIfInBounds_toArray → uA, set_cons_zero → uB, set_cons_succ → uC
open Bool renaming true → T, false → F
attribute [local go_sem] max2_int min2_int max_two min_two max_three min_three max_four min_four   -- for this text's walks alone
set_option linter.unusedVariables false
set_option linter.unusedSimpArgs false

/-! ### spec_DrawEnter: function 46 -/
def spec_DrawEnter.f (k : Nat) (l0 : List Int) : Option (Int × Int × Bool × (List (S53)) × Int × Int) := (spec_l01New.f k l0).bind fun bt378 => ((spec_l02Any.f k bt378.1 bt378.2.1 bt378.2.2).bind fun bt382 => ((spec_l01PickInt.f bt378.1 bt382.2.2.2.2.1 bt382.2.2.2.2.2 (([99, 99, 99, 0, 1, 5, 11] : List Int))).bind fun bt394 => ((spec_l01PickInt.f bt378.1 bt394.2.1 bt394.2.2 (([1, 2, 3, 5, 8, 20, 60, 61, 0] : List Int))).bind fun bt400 => (some (bt382.1, bt382.2.1, bt382.2.2.1, bt382.2.2.2.1, bt394.1, bt400.1)))))
theorem spec_DrawEnter.mono : ∀ a0 k, LeO (spec_DrawEnter.f k a0) (spec_DrawEnter.f (k + 1) a0) := by
 intro a0 k
 unfold spec_DrawEnter.f
 repeat' first
   | (with_reducible exact spec_l01New.mono _ _)
   | (with_reducible exact spec_l02Any.mono _ _ _ _)
   | (with_reducible exact LeO.refl _)
   | (with_reducible exact LeO.none _)
   | (with_reducible refine LeO.ite ?_ ?_)
   | (with_reducible refine LeO.bind ?_ (fun _ => ?_))
   | exact spec_l01New.mono _ _
   | exact spec_l02Any.mono _ _ _ _
   | exact LeO.none _
   | refine LeO.ite ?_ ?_
   | refine LeO.bind ?_ (fun _ => ?_)
def spec_DrawEnter.T4 : Bool × List (List Nat × List Nat) := (true, [([], []), ([], []), ([], []), ([], []), ([2, 3], [2, 3]), ([0, 4, 0], [0]), ([1, 5, 0, 1, 5], [1]), ([4, 6, 0, 1, 2, 3, 4, 5, 6], [4])])
def spec_DrawEnter.B4 : List Nat := [0, 0, 0, 0, 12, 29, 63, 127]
theorem spec_DrawEnter.tab4 : rtab .any (opsOf Try.f46 4) = spec_DrawEnter.T4 := by kernel_rfl
theorem spec_DrawEnter.bits4 : waitsOk spec_DrawEnter.T4.2 spec_DrawEnter.B4 = true := by kernel_rfl
set_option maxHeartbeats 8000000 in
set_option maxRecDepth 100000 in
theorem spec_DrawEnter.calls (k : Nat) (A0 : Option Addr) (c0 : Nat) (l0 : List Int) (r1 : Int) (r2 : Int) (r3 : Bool) (r4 : List (S53)) (r5 : Int) (r6 : Int) (w : World) (hr0 : Kd.C (Kd.int .u8) w A0 l0.length l0) (hc0 : l0.length ≤ c0) (h : spec_DrawEnter.f k l0 = some (r1, r2, r3, r4, r5, r6)) :
  Calls Try.prog 46 #[.slice A0 l0.length c0] w fun e w' => ∃ v3_ : Value, e = .returned (.tuple #[.agg #[.int .i64 r1, .int .i64 r2, .bool r3, v3_], .int .i64 r5, .int .i64 r6]) ∧ Kd.R k53 53 w' w.heap.size (fun _ => True) v3_ r4 ∧ Below w.heap.size w w' := by
 have hu29 := Try.underlying29
 have HR0 := uD hr0
 have HC0 := uD hc0
 clear hr0 hc0
 have HB := uD (Below.refl w.heap.size w)
 have H : ((spec_l01New.f k l0).bind fun bt378 => ((spec_l02Any.f k bt378.1 bt378.2.1 bt378.2.2).bind fun bt382 => ((spec_l01PickInt.f bt378.1 bt382.2.2.2.2.1 bt382.2.2.2.2.2 (([99, 99, 99, 0, 1, 5, 11] : List Int))).bind fun bt394 => ((spec_l01PickInt.f bt378.1 bt394.2.1 bt394.2.2 (([1, 2, 3, 5, 8, 20, 60, 61, 0] : List Int))).bind fun bt400 => (some (bt382.1, bt382.2.1, bt382.2.2.1, bt382.2.2.2.1, bt394.1, bt400.1)))))) = some (r1, r2, r3, r4, r5, r6) := h
 clear h
 replace H := Option.bind_eq_some_iff.mp H
 obtain ⟨⟨t378, t379, t380⟩, A20, H⟩ := H
 replace H : ((spec_l02Any.f k t378 t379 t380).bind fun bt382 => ((spec_l01PickInt.f t378 bt382.2.2.2.2.1 bt382.2.2.2.2.2 (([99, 99, 99, 0, 1, 5, 11] : List Int))).bind fun bt394 => ((spec_l01PickInt.f t378 bt394.2.1 bt394.2.2 (([1, 2, 3, 5, 8, 20, 60, 61, 0] : List Int))).bind fun bt400 => (some (bt382.1, bt382.2.1, bt382.2.2.1, bt382.2.2.2.1, bt394.1, bt400.1))))) = some (r1, r2, r3, r4, r5, r6) := H
 have A2 := uD A20
 clear A20
 replace H := Option.bind_eq_some_iff.mp H
 obtain ⟨⟨t382, t383, t384, t385, t388, t389⟩, A30, H⟩ := H
 replace H : ((spec_l01PickInt.f t378 t388 t389 (([99, 99, 99, 0, 1, 5, 11] : List Int))).bind fun bt394 => ((spec_l01PickInt.f t378 bt394.2.1 bt394.2.2 (([1, 2, 3, 5, 8, 20, 60, 61, 0] : List Int))).bind fun bt400 => (some (t382, t383, t384, t385, bt394.1, bt400.1)))) = some (r1, r2, r3, r4, r5, r6) := H
 have A3 := uD A30
 clear A30
 obtain ⟨y391, hy391⟩ : ∃ y_ : List Int, y_ = (([99, 99, 99, 0, 1, 5, 11] : List Int)) := ⟨_, rfl⟩
 replace H : ((spec_l01PickInt.f t378 t388 t389 y391).bind fun bt394 => ((spec_l01PickInt.f t378 bt394.2.1 bt394.2.2 (([1, 2, 3, 5, 8, 20, 60, 61, 0] : List Int))).bind fun bt400 => (some (t382, t383, t384, t385, bt394.1, bt400.1)))) = some (r1, r2, r3, r4, r5, r6) := by first | (rw [hy391]; with_reducible exact H) | (have H2_ := (Option.bind_some _ _).symm.trans H; rw [hy391]; with_reducible exact H2_) | (have H2_ := (Option.bind_some _ _).symm.trans H; with_reducible exact H2_) | with_reducible exact H | (rw [hy391]; exact H) | exact H
 have Ny391 := uD hy391
 clear hy391
 replace H := Option.bind_eq_some_iff.mp H
 obtain ⟨⟨t394, t395, t396⟩, A40, H⟩ := H
 replace H : ((spec_l01PickInt.f t378 t395 t396 (([1, 2, 3, 5, 8, 20, 60, 61, 0] : List Int))).bind fun bt400 => (some (t382, t383, t384, t385, t394, bt400.1))) = some (r1, r2, r3, r4, r5, r6) := H
 have A4 := uD A40
 clear A40
 obtain ⟨y397, hy397⟩ : ∃ y_ : List Int, y_ = (([1, 2, 3, 5, 8, 20, 60, 61, 0] : List Int)) := ⟨_, rfl⟩
 replace H : ((spec_l01PickInt.f t378 t395 t396 y397).bind fun bt400 => (some (t382, t383, t384, t385, t394, bt400.1))) = some (r1, r2, r3, r4, r5, r6) := by first | (rw [hy397]; with_reducible exact H) | (have H2_ := (Option.bind_some _ _).symm.trans H; rw [hy397]; with_reducible exact H2_) | (have H2_ := (Option.bind_some _ _).symm.trans H; with_reducible exact H2_) | with_reducible exact H | (rw [hy397]; exact H) | exact H
 have Ny397 := uD hy397
 clear hy397
 replace H := Option.bind_eq_some_iff.mp H
 obtain ⟨⟨t400, t401, t402⟩, A50, H⟩ := H
 replace H : (some (t382, t383, t384, t385, t394, t400)) = some (r1, r2, r3, r4, r5, r6) := H
 have A5 := uD A50
 clear A50
 simp only [Option.some.injEq, Prod.mk.injEq] at H
 obtain ⟨rfl, rfl, rfl, rfl, rfl, rfl⟩ := H
 go_enter Try.func46, Try.ntmps46
 try go_wp2_with (first | ((with_reducible refine gate_dst (N := 2) rfl ?_); refine bx 2 #[.int .i64 0, .int .i64 0, .bool false, .slice none 0 0] 29 ?_; intro gb377 hg w6 hbox hb; have BK377 := uD (hbox); have GW377 := uD ((by rw [hg]; exact (uN (pb HB)) : w.heap.size ≤ gb377)); have GE377 := uD ((by rw [hg]; exact (uN (pb HB)) : w.heap.size ≤ gb377)); replace HB := uD (uO (pb HB) hb); clear hb hbox hg) | ((with_reducible refine gate_callee (f := 65) rfl ?_); refine gl (some 9) Try.func65 #[.slice A0 l0.length c0] ?_; (with_reducible refine (spec_l01New.calls k _ _ l0 t378 t379 t380 w _ ?side1 ?side2 ?side3 A2.out).mono ?_); (case side1 => repeat (first | (with_reducible first | exact HB.out | apply uL | apply uE | apply uK | refine uM ?_ GE377.out) | exact HB.out)); (case side2 => exact HR0.out); (case side3 => exact HC0.out); rintro e w7 ⟨g381, rfl, hi, hb, hb2⟩; refine ⟨_, rfl, ?_⟩; replace HB := uD (hb); have HI381 := uD (hi); have NB381_377 := uD (IsS85.ne_blk hi (blk_below (pk BK377) hb2) (by decide)); have NB377_381 := uD (Ne.symm (IsS85.ne_blk hi (blk_below (pk BK377) hb2) (by decide))); replace BK377 := uD (blk_below (pk BK377) hb2); (try clear hb); (try clear hb2); (try clear hk); (try clear hi)) | ((with_reducible refine gate_callee (f := 66) rfl ?_); refine gl (some 11) Try.func66 #[.pointer (some ⟨g381, 0, none⟩)] ?_; (with_reducible refine (spec_l02Any.calls k g381 t378 t379 t380 t382 t383 t384 t385 t388 t389 w _ ?side1 ?side2 A3.out).mono ?_); (case side1 => exact IsS85.p HI381); (case side2 => exact pB HB (IsS85.ge HI381.out)); rintro e w8 ⟨v386, rfl, ho0, hi, hb, hk⟩; refine ⟨_, rfl, ?_⟩; replace BK377 := uD (KeepBut.blk hk (pk BK377) NB377_381.out (by simp)); have HO387 := uD (Kd.R_lower ho0 (uN (pB HB (IsS85.ge HI381.out)))); replace HB := uD (hb); replace HI381 := uD (hi); (try clear hb); (try clear hb2); (try clear hk); (try clear hi); (try clear ho0)) | ((with_reducible refine gate_dst (N := 6) rfl ?_); refine bx 6 #[.int .i64 0, .int .i64 0, .bool false, .slice none 0 0] 29 ?_; intro gb390 hg w9 hbox hb; replace HO387 := uD (Kd.R_below (pr HO387) hb); have BK390 := uD (hbox); have GW390 := uD ((by rw [hg]; exact (uN (pB HB (IsS85.ge HI381.out))) : w.heap.size ≤ gb390)); have GE390 := uD ((by rw [hg]; exact (uN (pB HB (IsS85.ge HI381.out))) : w.heap.size ≤ gb390)); replace HB := uD (uO (pB HB (IsS85.ge HI381.out)) hb); have NB377_390 := uD ((by rw [hg]; exact Nat.ne_of_lt (blk_lt (pk BK377)) : gb377 ≠ gb390)); have NB390_377 := uD ((by rw [hg]; exact Nat.ne_of_gt (blk_lt (pk BK377)) : gb390 ≠ gb377)); replace BK377 := uD (blk_below (pk BK377) hb); have NB381_390 := uD ((by rw [hg]; exact Nat.ne_of_lt (IsS85.lt (show IsS85 w _ g381 t378 t388 t389 from IsS85.p HI381)) : g381 ≠ gb390)); have NB390_381 := uD ((by rw [hg]; exact Nat.ne_of_gt (IsS85.lt (show IsS85 w _ g381 t378 t388 t389 from IsS85.p HI381)) : gb390 ≠ g381)); replace HI381 := uD (IsS85.below (IsS85.p HI381) hb); clear hb hbox hg; have hnb10 := NB390_377.out; have hnc10 := NB377_390.out; have hnb11 := NB390_381.out; have hnc11 := NB381_390.out; obtain ⟨hcz12_0, hcz12_1, hcz12_2, hcz12_3, hfz12_0, hfz12_1, hfz12_2, hfz12_3⟩ := cz4 BK390; obtain ⟨Ao13, co13, eo13⟩ := Kd.R_slice HO387.out; subst eo13) | ((with_reducible refine gate_dst (N := 13) rfl ?_); refine Kd.R_lit (Kd.int .i64) _ 3 ?hg (N := 13) ?hd (xs := ([99, 99, 99, 0, 1, 5, 11] : List Int)) (inner := [.int .i64 99, .int .i64 99, .int .i64 99, .int .i64 0, .int .i64 1, .int .i64 5, .int .i64 11]) (ok := fun _ => True) (okp := fun _ => True) ?hr ?hp (fun _ hk => hk) trivial (Below.refl _ _) (Nat.le_refl _) (by simp) ?_; (case hd => rfl); (case hg => rfl); (case hr => first | (go_simp; done) | (go_simp; rfl)); (case hp => exact (Reps.one (show Kd.M (Kd.int .i64) _ _ _ 99 [.int .i64 99] from rfl) (Reps.one (show Kd.M (Kd.int .i64) _ _ _ 99 [.int .i64 99] from rfl) (Reps.one (show Kd.M (Kd.int .i64) _ _ _ 99 [.int .i64 99] from rfl) (Reps.one (show Kd.M (Kd.int .i64) _ _ _ 0 [.int .i64 0] from rfl) (Reps.one (show Kd.M (Kd.int .i64) _ _ _ 1 [.int .i64 1] from rfl) (Reps.one (show Kd.M (Kd.int .i64) _ _ _ 5 [.int .i64 5] from rfl) (Reps.one (show Kd.M (Kd.int .i64) _ _ _ 11 [.int .i64 11] from rfl) (Reps.none _ _))))))))); intro v392 w14 ho15 hb hg_ hnew_; clear hg_ hnew_; (first | rw [← Ny391.out] at ho15 | (simp only [Int.reduceToNat] at ho15; rw [← Ny391.out] at ho15)); replace HO387 := uD (Kd.R_below (by (with_reducible repeat (first | apply uU | apply uS | apply uT)); exact (uX (uV (p := ⟨gb390, 3, none⟩) (uV (p := ⟨gb390, 2, none⟩) (uV (p := ⟨gb390, 1, none⟩) (uV (p := ⟨gb390, 0, none⟩) (uW HO387.out BK390.out (by decide)) (fun _ hk => hk.2) (.int .i64 t382)) (fun _ hk => hk.2) (.int .i64 t383)) (fun _ hk => hk.2) (.bool t384)) (fun _ hk => hk.2) (.slice Ao13 t385.length co13)) (fun _ h_ => h_.1))) hb); have HO393 := uD (Kd.R_lower ho15 (uN (pB HB (IsS85.ge HI381.out)))); replace BK377 := uD (blk_below (g := gb377) (o := .cells #[.int .i64 0, .int .i64 0, .bool false, .slice none 0 0] 29 (0, 0)) (by exact ps BK377) hb); replace BK390 := uD (blk_below (g := gb390) (o := .cells #[.int .i64 t382, .int .i64 t383, .bool t384, .slice Ao13 t385.length co13] 29 (0, 0)) (by (with_reducible repeat first|apply uH|apply uJ|apply uG); refine uP (cs := #[.int .i64 t382, .int .i64 t383, .bool t384, .slice none 0 0]) ?_ 3 _ rfl; (with_reducible repeat first|apply uH|apply uJ|apply uG); refine uP (cs := #[.int .i64 t382, .int .i64 t383, .bool false, .slice none 0 0]) ?_ 2 _ rfl; (with_reducible repeat first|apply uH|apply uJ|apply uG); refine uP (cs := #[.int .i64 t382, .int .i64 0, .bool false, .slice none 0 0]) ?_ 1 _ rfl; (with_reducible repeat first|apply uH|apply uJ|apply uG); refine uP (cs := #[.int .i64 0, .int .i64 0, .bool false, .slice none 0 0]) ?_ 0 _ rfl; (with_reducible repeat first|apply uH|apply uJ|apply uG); exact BK390.out) hb); replace HB := uD (uO (pB HB (IsS85.ge HI381.out)) hb); replace HI381 := uD (IsS85.below (show IsS85 w ((((w9.setCell ⟨gb390, 0, none⟩ (.int .i64 t382)).setCell ⟨gb390, 1, none⟩ (.int .i64 t383)).setCell ⟨gb390, 2, none⟩ (.bool t384)).setCell ⟨gb390, 3, none⟩ (.slice Ao13 t385.length co13)) g381 t378 t388 t389 from IsS85.p HI381) hb); clear hb ho15; obtain ⟨Ao16, co16, eo16⟩ := Kd.R_slice HO393.out; subst eo16) | ((with_reducible refine gate_callee (f := 67) rfl ?_); refine gl (some 14) Try.func67 #[.pointer (some ⟨g381, 0, none⟩), .slice Ao16 y391.length co16] ?_; (with_reducible refine (spec_l01PickInt.calls g381 t378 t388 t389 _ _ y391 t394 t395 t396 w _ ?side1 ?side2 ?side3 ?side4 ?side5 A4.out).mono ?_); (case side1 => exact IsS85.p HI381); (case side2 => exact pB HB (IsS85.ge HI381.out)); (case side3 => exact pc ((Kd.R_reads' HO393.out).2.2)); (case side4 => exact (Kd.R_reads' HO393.out).2.1); (case side5 => exact far_slice (IsS85.own_ne HI381.out HO393.out (by decide))); rintro e w17 ⟨rfl, hi, hb, hk⟩; refine ⟨_, rfl, ?_⟩; replace BK377 := uD (KeepBut.blk hk (pk BK377) NB377_381.out (by simp)); replace HO387 := uD (uX (Kd.R_keep (IsS85.apart (show IsS85 w _ g381 t378 t388 t389 from IsS85.p HI381) (pr HO387) (by decide)) hk (fun _ h => h.2)) (fun _ h => h.1)); replace BK390 := uD (KeepBut.blk hk (pk BK390) NB390_381.out (by simp)); replace HO393 := uD (uX (Kd.R_keep (IsS85.apart (show IsS85 w _ g381 t378 t388 t389 from IsS85.p HI381) (pr HO393) (by decide)) hk (fun _ h => h.2)) (fun _ h => h.1)); replace HB := uD (hb); replace HI381 := uD (hi); (try clear hb); (try clear hb2); (try clear hk); (try clear hi)))
 replace HO387 := uD (uT HO387.out)
 replace HO393 := uD (uT HO393.out)
 replace BK377 := uD (uJ BK377.out)
 replace BK390 := uD (uJ BK390.out)
 replace HI381 := uD (IsS85.drew HI381.out)
 replace HB := uD (uK HB.out)
 refine start_ (n := 8) (S := fun w' => w'.cell? ⟨gb390, 0, none⟩ = some (.int .i64 t382) ∧ w'.cell? ⟨gb390, 1, none⟩ = some (.int .i64 t383) ∧ w'.cell? ⟨gb390, 2, none⟩ = some (.bool t384) ∧ w'.cell? ⟨gb390, 3, none⟩ = some (.slice Ao13 t385.length co13)) (ds := []) #[F,F,F,F,F,F,F,F] (by kernel_rfl) rfl rfl ⟨(uF BK390.out 0).trans rfl, (uF BK390.out 1).trans rfl, (uF BK390.out 2).trans rfl, (uF BK390.out 3).trans rfl⟩ (fun hHeld => ?_); refine with_tabW spec_DrawEnter.tab4 spec_DrawEnter.bits4 (fun HT_ HW_ => ?_)
 generalize w17.drew = w18 at HO387 HO393 BK377 BK390 HI381 HB hHeld ⊢
 refine pu 1 (some 16) #[F,T,F,F,F,F,F,F] HT_ ?_
 refine pu 2 (some 17) #[F,T,T,F,F,F,F,F] HT_ ?_
 refine tk 0 (some 15) #[T,T,T,F,F,F,F,F] HT_ HW_ hHeld ?_
 refine one_ (i := 3) (N := some 18) #[T,T,T,T,F,F,F,F] rfl rfl (one_of HT_.out (by kernel_rfl)) (by decide) (fun K hK => ?_)
 refine Kd.R_lit_step (Kd.int .i64) _ 3 ?hg (N := 18) ?hd (xs := ([1, 2, 3, 5, 8, 20, 60, 61, 0] : List Int)) (inner := [.int .i64 1, .int .i64 2, .int .i64 3, .int .i64 5, .int .i64 8, .int .i64 20, .int .i64 60, .int .i64 61, .int .i64 0]) (ok := fun _ => True) (okp := fun _ => True) ?hr ?hp (fun _ hk => hk) trivial (Below.refl _ _) (Nat.le_refl _) (by simp) ?_; (case hd => rfl); (case hg => rfl); (case hr => first | (go_simp; done) | (go_simp; rfl)); (case hp => exact (Reps.one (show Kd.M (Kd.int .i64) _ _ _ 1 [.int .i64 1] from rfl) (Reps.one (show Kd.M (Kd.int .i64) _ _ _ 2 [.int .i64 2] from rfl) (Reps.one (show Kd.M (Kd.int .i64) _ _ _ 3 [.int .i64 3] from rfl) (Reps.one (show Kd.M (Kd.int .i64) _ _ _ 5 [.int .i64 5] from rfl) (Reps.one (show Kd.M (Kd.int .i64) _ _ _ 8 [.int .i64 8] from rfl) (Reps.one (show Kd.M (Kd.int .i64) _ _ _ 20 [.int .i64 20] from rfl) (Reps.one (show Kd.M (Kd.int .i64) _ _ _ 60 [.int .i64 60] from rfl) (Reps.one (show Kd.M (Kd.int .i64) _ _ _ 61 [.int .i64 61] from rfl) (Reps.one (show Kd.M (Kd.int .i64) _ _ _ 0 [.int .i64 0] from rfl) (Reps.none _ _)))))))))))
 intro v398 w19 ho20 hb hg_ hnew_
 clear hg_ hnew_
 (first | rw [← Ny397.out] at ho20 | (simp only [Int.reduceToNat] at ho20; rw [← Ny397.out] at ho20))
 replace HO387 := uD (Kd.R_below (pr HO387) hb)
 have HO399 := uD (Kd.R_lower (Kd.R_new' ho20 (Kd.R_lt (pr HO393))) (uN (pB HB (IsS85.ge HI381.out))))
 replace HO393 := uD (Kd.R_elder' (pr HO393) (Kd.R_base ho20) hb)
 replace BK377 := uD (blk_below (pk BK377) hb)
 replace BK390 := uD (blk_below (pk BK390) hb)
 replace HB := uD (uO (pB HB (IsS85.ge HI381.out)) hb)
 replace HI381 := uD (IsS85.below (IsS85.p HI381) hb)
 clear hb ho20
 obtain ⟨Ao21, co21, eo21⟩ := Kd.R_slice HO399.out
 (first | subst eo21 | (injection eo21 with f1_ f2_ f3_; have f4_ := f1_.symm; have f5_ := f3_.symm; clear f1_ f2_ f3_; subst f4_; subst f5_))
 refine hK.out _ _ ⟨(uF BK390.out 0).trans rfl, (uF BK390.out 1).trans rfl, (uF BK390.out 2).trans rfl, (uF BK390.out 3).trans rfl⟩ (fun hHeld => ?_)
 clear hK K
 refine norm_ (a' := ?_) ?_ ?_
 rotate_left
 ·show uc _ (some 18) _ = _
  simp only [uc, uA, uB, uC, uZ, ua]
  rfl
 refine one_ (i := 4) (N := some 19) #[T,T,T,T,T,F,F,F] rfl rfl (one_of HT_.out (by kernel_rfl)) (by decide) (fun K hK => ?_)
 refine goes_ Try.func67 (by kernel_rfl) rfl #[.pointer (some ⟨g381, 0, none⟩), .slice Ao21 y397.length co21] (by rfl) rfl rfl (by (try simp only [List.map_toArray, List.map_cons, List.map_nil]); first | done | rfl | (simp only [List.length_drop, List.length_take]; rfl)) ?_
 with_reducible refine (spec_l01PickInt.calls g381 t378 t395 t396 _ _ y397 t400 t401 t402 w _ ?side1 ?side2 ?side3 ?side4 ?side5 A5.out).mono ?_
 (case side1 => exact IsS85.p HI381)
 (case side2 => exact pB HB (IsS85.ge HI381.out))
 (case side3 => exact pc ((Kd.R_reads' HO399.out).2.2))
 (case side4 => exact (Kd.R_reads' HO399.out).2.1)
 (case side5 => exact far_slice (IsS85.own_ne HI381.out HO399.out (by decide)))
 rintro e w22 ⟨rfl, hi, hb, hk⟩
 refine ⟨_, rfl, ?_⟩
 replace BK377 := uD (KeepBut.blk hk (pk BK377) NB377_381.out (by simp))
 replace HO387 := uD (uX (Kd.R_keep (IsS85.apart (show IsS85 w _ g381 t378 t395 t396 from IsS85.p HI381) (pr HO387) (by decide)) hk (fun _ h => h.2)) (fun _ h => h.1))
 replace BK390 := uD (KeepBut.blk hk (pk BK390) NB390_381.out (by simp))
 replace HO393 := uD (uX (Kd.R_keep (IsS85.apart (show IsS85 w _ g381 t378 t395 t396 from IsS85.p HI381) (pr HO393) (by decide)) hk (fun _ h => h.2)) (fun _ h => h.1))
 replace HO399 := uD (uX (Kd.R_keep (IsS85.apart (show IsS85 w _ g381 t378 t395 t396 from IsS85.p HI381) (pr HO399) (by decide)) hk (fun _ h => h.2)) (fun _ h => h.1))
 replace HB := uD (hb)
 replace HI381 := uD (hi)
 (try clear hb)
 (try clear hb2)
 (try clear hk)
 (try clear hi)
 refine hK.out _ _ ⟨(uF BK390.out 0).trans rfl, (uF BK390.out 1).trans rfl, (uF BK390.out 2).trans rfl, (uF BK390.out 3).trans rfl⟩ (fun hHeld => ?_)
 clear hK K
 refine norm_ (a' := ?_) ?_ ?_
 rotate_left
 ·show uc _ (some 19) _ = _
  simp only [uc, uA, uB, uC, uZ, ua]
  rfl
 refine one_ (i := 5) (N := none) #[T,T,T,T,T,T,F,F] rfl rfl (one_of HT_.out (by kernel_rfl)) (by decide) (fun K hK => ?_)
 have hs23 : w22.cell? ⟨gb377, 0, none⟩ = some (.int .i64 0) := (uF BK377.out 0).trans rfl
 have hfs23 := uI BK377.out 0
 have hns23_1 := NB390_377.out
 have hms23_1 := NB377_390.out
 have hs24 : w22.cell? ⟨gb377, 1, none⟩ = some (.int .i64 0) := (uF BK377.out 1).trans rfl
 have hfs24 := uI BK377.out 1
 have hns24_1 := NB390_377.out
 have hms24_1 := NB377_390.out
 have hs25 : w22.cell? ⟨gb377, 2, none⟩ = some (.bool false) := (uF BK377.out 2).trans rfl
 have hfs25 := uI BK377.out 2
 have hns25_1 := NB390_377.out
 have hms25_1 := NB377_390.out
 have hs26 : w22.cell? ⟨gb377, 3, none⟩ = some (.slice none 0 0) := (uF BK377.out 3).trans rfl
 have hfs26 := uI BK377.out 3
 have hns26_1 := NB390_377.out
 have hms26_1 := NB377_390.out
 refine skip_ (w1 := ?_) (by rfl) rfl ?_ ?_
 rotate_left
 ·go_simp
  rfl
 refine hK.out _ _ ⟨((cell_far (p := ⟨gb377, _, none⟩) NB390_377.out _).trans (((cell_far (p := ⟨gb377, _, none⟩) NB390_377.out _).trans (((cell_far (p := ⟨gb377, _, none⟩) NB390_377.out _).trans (((cell_far (p := ⟨gb377, _, none⟩) NB390_377.out _).trans (hHeld.1)))))))), ((cell_far (p := ⟨gb377, _, none⟩) NB390_377.out _).trans (((cell_far (p := ⟨gb377, _, none⟩) NB390_377.out _).trans (((cell_far (p := ⟨gb377, _, none⟩) NB390_377.out _).trans (((cell_far (p := ⟨gb377, _, none⟩) NB390_377.out _).trans (hHeld.2.1)))))))), ((cell_far (p := ⟨gb377, _, none⟩) NB390_377.out _).trans (((cell_far (p := ⟨gb377, _, none⟩) NB390_377.out _).trans (((cell_far (p := ⟨gb377, _, none⟩) NB390_377.out _).trans (((cell_far (p := ⟨gb377, _, none⟩) NB390_377.out _).trans (hHeld.2.2.1)))))))), ((cell_far (p := ⟨gb377, _, none⟩) NB390_377.out _).trans (((cell_far (p := ⟨gb377, _, none⟩) NB390_377.out _).trans (((cell_far (p := ⟨gb377, _, none⟩) NB390_377.out _).trans (((cell_far (p := ⟨gb377, _, none⟩) NB390_377.out _).trans (hHeld.2.2.2))))))))⟩ (fun hHeld => ?_)
 clear hK K
 refine pu 6 (some 3) #[T,T,T,T,T,T,T,F] HT_ ?_
 refine pu 7 (some 4) #[T,T,T,T,T,T,T,T] HT_ ?_
 refine done_ (done_of HT_.out (by kernel_rfl)) ?_
 try go_wp2
 refine bodyPost_ret (results_ctt rfl _ _ gb377 29 #[.int .i64 t382, .int .i64 t383, .bool t384, .slice Ao13 t385.length co13] (0, 0) _ rfl (by (with_reducible repeat first|apply uH|apply uJ|apply uG); refine uP (cs := #[.int .i64 t382, .int .i64 t383, .bool t384, .slice none 0 0]) ?_ 3 _ rfl; (with_reducible repeat first|apply uH|apply uJ|apply uG); refine uP (cs := #[.int .i64 t382, .int .i64 t383, .bool false, .slice none 0 0]) ?_ 2 _ rfl; (with_reducible repeat first|apply uH|apply uJ|apply uG); refine uP (cs := #[.int .i64 t382, .int .i64 0, .bool false, .slice none 0 0]) ?_ 1 _ rfl; (with_reducible repeat first|apply uH|apply uJ|apply uG); refine uP (cs := #[.int .i64 0, .int .i64 0, .bool false, .slice none 0 0]) ?_ 0 _ rfl; (with_reducible repeat first|apply uH|apply uJ|apply uG); exact BK377.out) Try.underlying29 rfl (by kernel_rfl)) rfl ?_
 exact ⟨_, by first | rfl | (simp [errW_none, errW_some] <;> rfl) | (simp [*, errW_none, errW_some] <;> rfl), by (with_reducible repeat (first | apply uU | apply uS | apply uT)); exact uX (uV (p := ⟨gb377, 3, none⟩) (uV (p := ⟨gb377, 2, none⟩) (uV (p := ⟨gb377, 1, none⟩) (uV (p := ⟨gb377, 0, none⟩) (uW HO387.out BK377.out (by decide)) (fun _ hk => hk.2) (.int .i64 t382)) (fun _ hk => hk.2) (.int .i64 t383)) (fun _ hk => hk.2) (.bool t384)) (fun _ hk => hk.2) (.slice Ao13 t385.length co13)) (fun _ hk => trivial), pB HB (IsS85.ge HI381.out)⟩

end Go.Proofs.Ytbdjbdoelbmjcaa.PFnBeltEnters
