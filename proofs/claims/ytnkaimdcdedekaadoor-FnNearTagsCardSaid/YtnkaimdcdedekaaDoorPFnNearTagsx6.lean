-- Written by a program of this session (wip/myprint.py: the kit's print with changes): not by print.sh itself.
import Derived.Test.YtnkaimdcdedekaaDoorPFnNearTagsx0
import Derived.Test.YtnkaimdcdedekaaDoorPFnNearTagsx5
namespace Go.Proofs.YtnkaimdcdedekaaDoor.PFnNearTags
open Go.RowKit Go.Proofs.YtnkaimdcdedekaaDoorW.PrintWords Go.Proofs.YtnkaimdcdedekaaDoorW.PrintLast Go.Proofs.YtnkaimdcdedekaaDoorW.PrintMore
open Go renaming Act.put → uc
open Go.Proofs.YtnkaimdcdedekaaDoorW.PrintLast renaming any_of → uY, i64_w → uZ, i32_w → ua, pure_ → ub
open Go.Proofs.YtnkaimdcdedekaaDoorW.PrintWords renaming Aside0.mk → uD, blk_cell → uF, blk_alloc → uG, blk_drewN → uH, blk_drew → uJ, below_drew1 → uK, below_size → uN, below_step → uO, blk_put → uP, Kd.R_drewN → uS, Kd.R_drew → uT, Kd.R_alloc → uU, Kd.R_mono → uX
open List renaming setIfInBounds_toArray → uA, set_cons_zero → uB, set_cons_succ → uC
open Bool renaming true → T, false → F
attribute [local go_sem] max2_int min2_int max_two min_two max_three min_three max_four min_four   -- for this text's walks alone
set_option linter.unusedVariables false
set_option linter.unusedSimpArgs false

/-! ### spec_TagCheck: function 44 -/
def spec_TagCheck.f (a0_0 : Int) (a0_1 : Int) (a0_2 : Int) : Option (Int) := (spec_TagOk.f a0_0 a0_1 a0_2).bind fun t244 => (if t244 = true then ((spec_TagNumber.f a0_0 a0_1 a0_2).bind fun t245 => (some (Int.tmod t245 7))) else (some (-1)))
set_option maxHeartbeats 8000000 in
set_option maxRecDepth 100000 in
theorem spec_TagCheck.calls (a0_0 : Int) (a0_1 : Int) (a0_2 : Int) (r : Int) (w : World) (h : spec_TagCheck.f a0_0 a0_1 a0_2 = some r) :
  Calls Tryd.prog 44 #[.agg #[.int .i64 a0_0, .int .i64 a0_1, .int .i64 a0_2]] w fun e w' => e = .returned (.int .i64 r) ∧ Below w.heap.size w w' := by
 have hu25 := Tryd.underlying25
 have HB := uD (Below.refl w.heap.size w)
 have H : ((spec_TagOk.f a0_0 a0_1 a0_2).bind fun t244 => (if t244 = true then ((spec_TagNumber.f a0_0 a0_1 a0_2).bind fun t245 => (some (Int.tmod t245 7))) else (some (-1)))) = some r := h
 clear h
 replace H := Option.bind_eq_some_iff.mp H
 obtain ⟨t244, A20, H⟩ := H
 replace H : (if t244 = true then ((spec_TagNumber.f a0_0 a0_1 a0_2).bind fun t245 => (some (Int.tmod t245 7))) else (some (-1))) = some r := H
 have A2 := uD A20
 clear A20
 by_cases c3 : t244 = true
 ·subst c3
  have H1 : ((spec_TagNumber.f a0_0 a0_1 a0_2).bind fun t245 => (some (Int.tmod t245 7))) = some r := by rw [if_pos rfl] at H; first | done | exact H
  clear H
  have H := H1
  clear H1
  replace H := Option.bind_eq_some_iff.mp H
  obtain ⟨t245, A40, H⟩ := H
  replace H : (some (Int.tmod t245 7)) = some r := H
  have A4 := uD A40
  clear A40
  obtain rfl := Option.some.inj H
  go_enter Tryd.func44, Tryd.ntmps44
  go_wp2_with (first | ((with_reducible refine gate_dst (N := 1) rfl ?_); refine bx 1 #[.int .i64 a0_0, .int .i64 a0_1, .int .i64 a0_2] 25 ?_; intro gb243 hg w5 hbox hb; have BK243 := uD (hbox); have GW243 := uD ((by rw [hg]; exact (uN (pb HB)) : w.heap.size ≤ gb243)); have GE243 := uD ((by rw [hg]; exact (uN (pb HB)) : w.heap.size ≤ gb243)); replace HB := uD (uO (pb HB) hb); clear hb hbox hg; obtain ⟨hcz6_0, hcz6_1, hcz6_2, hfz6_0, hfz6_1, hfz6_2⟩ := cz3 BK243) | ((with_reducible refine gate_callee (f := 42) rfl ?_); refine gl (some 4) Tryd.func42 #[.agg #[.int .i64 a0_0, .int .i64 a0_1, .int .i64 a0_2]] ?_; (with_reducible refine (spec_TagOk.calls a0_0 a0_1 a0_2 true _ A2.out).mono ?_); rintro e w7 ⟨rfl, hb⟩; refine ⟨_, rfl, ?_⟩; replace BK243 := uD (blk_below (pk BK243) hb); replace HB := uD (uO (pb HB) hb); (try clear hb); (try clear hb2); (try clear hk); (try clear hi); obtain ⟨hcz8_0, hcz8_1, hcz8_2, hfz8_0, hfz8_1, hfz8_2⟩ := cz3 BK243) | ((with_reducible refine gate_callee (f := 35) rfl ?_); refine gl (some 7) Tryd.func35 #[.agg #[.int .i64 a0_0, .int .i64 a0_1, .int .i64 a0_2]] ?_; (with_reducible refine (spec_TagNumber.calls a0_0 a0_1 a0_2 t245 _ A4.out).mono ?_); rintro e w9 ⟨rfl, hb⟩; refine ⟨_, rfl, ?_⟩; replace BK243 := uD (blk_below (pk BK243) hb); replace HB := uD (uO (pb HB) hb); (try clear hb); (try clear hb2); (try clear hk); (try clear hi)))
  go_ret
  exact ⟨by first | rfl | (simp [errW_none, errW_some] <;> rfl) | (simp [*, errW_none, errW_some] <;> rfl), pb HB⟩
 ·replace c3 := Bool.eq_false_iff.mpr c3
  subst c3
  have H1 : (some (-1)) = some r := by rw [if_neg (show ¬ (false = true) by decide)] at H; first | done | exact H
  clear H
  have H := H1
  clear H1
  obtain rfl := Option.some.inj H
  go_enter Tryd.func44, Tryd.ntmps44
  go_wp2_with (first | ((with_reducible refine gate_dst (N := 1) rfl ?_); refine bx 1 #[.int .i64 a0_0, .int .i64 a0_1, .int .i64 a0_2] 25 ?_; intro gb243 hg w10 hbox hb; have BK243 := uD (hbox); have GW243 := uD ((by rw [hg]; exact (uN (pb HB)) : w.heap.size ≤ gb243)); have GE243 := uD ((by rw [hg]; exact (uN (pb HB)) : w.heap.size ≤ gb243)); replace HB := uD (uO (pb HB) hb); clear hb hbox hg; obtain ⟨hcz11_0, hcz11_1, hcz11_2, hfz11_0, hfz11_1, hfz11_2⟩ := cz3 BK243) | ((with_reducible refine gate_callee (f := 42) rfl ?_); refine gl (some 4) Tryd.func42 #[.agg #[.int .i64 a0_0, .int .i64 a0_1, .int .i64 a0_2]] ?_; (with_reducible refine (spec_TagOk.calls a0_0 a0_1 a0_2 false _ A2.out).mono ?_); rintro e w12 ⟨rfl, hb⟩; refine ⟨_, rfl, ?_⟩; replace BK243 := uD (blk_below (pk BK243) hb); replace HB := uD (uO (pb HB) hb); (try clear hb); (try clear hb2); (try clear hk); (try clear hi)))
  go_ret
  exact ⟨by first | rfl | (simp [errW_none, errW_some] <;> rfl) | (simp [*, errW_none, errW_some] <;> rfl), pb HB⟩

/-! ### spec_l01OfNumber: function 45 -/
def spec_l01OfNumber.f (a0 : Int) : Option (Int × Int × Int) := some (wrap64 (Int.tdiv a0 1000000000), Int.tmod (wrap64 (Int.tdiv a0 1000000)) 1000, Int.tmod a0 1000000)
set_option maxHeartbeats 8000000 in
set_option maxRecDepth 100000 in
theorem spec_l01OfNumber.calls (a0 : Int) (r1 : Int) (r2 : Int) (r3 : Int) (w : World) (h : spec_l01OfNumber.f a0 = some (r1, r2, r3)) :
  Calls Tryd.prog 45 #[.int .i64 a0] w fun e w' => e = .returned (.agg #[.int .i64 r1, .int .i64 r2, .int .i64 r3]) ∧ Below w.heap.size w w' := by
 have hu25 := Tryd.underlying25
 have HB := uD (Below.refl w.heap.size w)
 have H : (some (wrap64 (Int.tdiv a0 1000000000), Int.tmod (wrap64 (Int.tdiv a0 1000000)) 1000, Int.tmod a0 1000000)) = some (r1, r2, r3) := h
 clear h
 simp only [Option.some.injEq, Prod.mk.injEq] at H
 obtain ⟨rfl, rfl, rfl⟩ := H
 go_enter Tryd.func45, Tryd.ntmps45
 go_wp2_with (first | ((with_reducible refine gate_dst (N := 2) rfl ?_); refine bx 2 #[.int .i64 0, .int .i64 0, .int .i64 0] 25 ?_; intro gb246 hg w2 hbox hb; have BK246 := uD (hbox); have GW246 := uD ((by rw [hg]; exact (uN (pb HB)) : w.heap.size ≤ gb246)); have GE246 := uD ((by rw [hg]; exact (uN (pb HB)) : w.heap.size ≤ gb246)); replace HB := uD (uO (pb HB) hb); clear hb hbox hg; obtain ⟨hcz3_0, hcz3_1, hcz3_2, hfz3_0, hfz3_1, hfz3_2⟩ := cz3 BK246))
 refine bodyPost_ret (results_cell_row rfl _ _ gb246 25 #[.int .i64 (wrap64 (Int.tdiv a0 1000000000)), .int .i64 (Int.tmod (wrap64 (Int.tdiv a0 1000000)) 1000), .int .i64 (Int.tmod a0 1000000)] (0, 0) _ rfl (by (with_reducible repeat first|apply uH|apply uJ|apply uG); refine uP (cs := #[.int .i64 (wrap64 (Int.tdiv a0 1000000000)), .int .i64 (Int.tmod (wrap64 (Int.tdiv a0 1000000)) 1000), .int .i64 0]) ?_ 2 _ rfl; (with_reducible repeat first|apply uH|apply uJ|apply uG); refine uP (cs := #[.int .i64 (wrap64 (Int.tdiv a0 1000000000)), .int .i64 0, .int .i64 0]) ?_ 1 _ rfl; (with_reducible repeat first|apply uH|apply uJ|apply uG); refine uP (cs := #[.int .i64 0, .int .i64 0, .int .i64 0]) ?_ 0 _ rfl; (with_reducible repeat first|apply uH|apply uJ|apply uG); exact BK246.out) Tryd.underlying25 rfl (by kernel_rfl)) rfl ?_
 exact ⟨by first | rfl | (simp [errW_none, errW_some] <;> rfl) | (simp [*, errW_none, errW_some] <;> rfl), pb HB⟩

/-! ### spec_l01Insert: function 52 -/
def spec_l01Insert.l0 : Nat → List (S25) → List (S25) → Bool → Int → Int → Int → Int → Option ((List (S25)))
 | 0, _, _, _, _, _, _, _ => none
 | k + 1, x0, x5, x6, x7, x248000, x248001, x248002 => if x7 < (x0.length : Int) then (if x6 = true then (if 0 ≤ x7 then (if x5.length < 5864062014805 then (spec_l01Insert.l0 k x0 (x5 ++ [(⟨(rd_T25 x0 x7).f0, (rd_T25 x0 x7).f1, (rd_T25 x0 x7).f2⟩ : S25)]) x6 (wrap64 (x7 + 1)) x248000 x248001 x248002) else (none)) else (none)) else ((spec_TagNumber.f x248000 x248001 x248002).bind fun t258 => (if 0 ≤ x7 then ((spec_TagNumber.f ((rd_T25 x0 x7).f0) ((rd_T25 x0 x7).f1) ((rd_T25 x0 x7).f2)).bind fun t260 => (if t258 < t260 then (if x5.length < 5864062014805 then ((some (x5 ++ [(⟨x248000, x248001, x248002⟩ : S25)] : List (S25))).bind fun y261 => (if y261.length < 5864062014805 then (spec_l01Insert.l0 k x0 (y261 ++ [(⟨(rd_T25 x0 x7).f0, (rd_T25 x0 x7).f1, (rd_T25 x0 x7).f2⟩ : S25)]) true (wrap64 (x7 + 1)) x248000 x248001 x248002) else (none))) else (none)) else (if x5.length < 5864062014805 then (spec_l01Insert.l0 k x0 (x5 ++ [(⟨(rd_T25 x0 x7).f0, (rd_T25 x0 x7).f1, (rd_T25 x0 x7).f2⟩ : S25)]) x6 (wrap64 (x7 + 1)) x248000 x248001 x248002) else (none)))) else (none)))) else (if x6 = true then (some x5) else (if x5.length < 5864062014805 then (some (x5 ++ [(⟨x248000, x248001, x248002⟩ : S25)])) else (none)))
def spec_l01Insert.f (k : Nat) (l0 : List (S25)) (a1_0 : Int) (a1_1 : Int) (a1_2 : Int) : Option ((List (S25))) := spec_l01Insert.l0 k l0 (([] : List (S25))) false 0 a1_0 a1_1 a1_2
theorem spec_l01Insert.mono_l : ∀ k, (∀ y0 y1 y2 y3 y4 y5 y6, LeO (spec_l01Insert.l0 k y0 y1 y2 y3 y4 y5 y6) (spec_l01Insert.l0 (k + 1) y0 y1 y2 y3 y4 y5 y6))
 | 0 => fun _ _ _ _ _ _ _ r h => by simp [spec_l01Insert.l0] at h
 | k + 1 => by
  have ih0 := spec_l01Insert.mono_l k
  ·intro y0 y1 y2 y3 y4 y5 y6
   unfold spec_l01Insert.l0
   repeat' first
   | (with_reducible exact ih0 _ _ _ _ _ _ _)
   | (with_reducible exact LeO.refl _)
   | (with_reducible exact LeO.none _)
   | (with_reducible refine LeO.ite ?_ ?_)
   | (with_reducible refine LeO.bind ?_ (fun _ => ?_))
   | exact ih0 _ _ _ _ _ _ _
   | exact LeO.none _
   | refine LeO.ite ?_ ?_
   | refine LeO.bind ?_ (fun _ => ?_)
theorem spec_l01Insert.mono : ∀ a0 a1 a2 a3 k, LeO (spec_l01Insert.f k a0 a1 a2 a3) (spec_l01Insert.f (k + 1) a0 a1 a2 a3) := by
 intro a0 a1 a2 a3 k
 have ih0 := spec_l01Insert.mono_l k
 unfold spec_l01Insert.f
 repeat' first
   | (with_reducible exact ih0 _ _ _ _ _ _ _)
   | (with_reducible exact LeO.refl _)
   | (with_reducible exact LeO.none _)
   | (with_reducible refine LeO.ite ?_ ?_)
   | (with_reducible refine LeO.bind ?_ (fun _ => ?_))
   | exact ih0 _ _ _ _ _ _ _
   | exact LeO.none _
   | refine LeO.ite ?_ ?_
   | refine LeO.bind ?_ (fun _ => ?_)
def spec_l01Insert.T6 : Bool × List (List Nat × List Nat) := (true, [([], []), ([0], [0]), ([1], [1]), ([2], [2]), ([3, 2, 2], [2, 3]), ([2], [2]), ([2], [2]), ([5, 6, 2], [2, 5, 6]), ([7, 2], [2, 7]), ([8, 4, 2], [2, 8]), ([4, 9, 2], [2, 4, 9]), ([2, 10], [2, 10])])
def spec_l01Insert.B6 : List Nat := [0, 1, 3, 7, 15, 7, 7, 103, 231, 511, 1023, 2047]
theorem spec_l01Insert.tab6 : rtab .any (opsOf Tryd.f52 6) = spec_l01Insert.T6 := by kernel_rfl
theorem spec_l01Insert.bits6 : waitsOk spec_l01Insert.T6.2 spec_l01Insert.B6 = true := by kernel_rfl
set_option maxHeartbeats 8000000 in
set_option maxRecDepth 100000 in
theorem spec_l01Insert.calls (k : Nat) (A0 : Option Addr) (c0 : Nat) (l0 : List (S25)) (a1_0 : Int) (a1_1 : Int) (a1_2 : Int) (r : List (S25)) (w : World) (hr0 : Kd.C k25 w A0 l0.length l0) (hc0 : l0.length ≤ c0) (h : spec_l01Insert.f k l0 a1_0 a1_1 a1_2 = some r) :
  Calls Tryd.prog 52 #[.slice A0 l0.length c0, .agg #[.int .i64 a1_0, .int .i64 a1_1, .int .i64 a1_2]] w fun e w' => ∃ v0_ : Value, e = .returned (v0_) ∧ Kd.R k25 25 w' w.heap.size (fun _ => True) v0_ r ∧ Below w.heap.size w w' := by
 have hu25 := Tryd.underlying25
 have HR0 := uD hr0
 have HC0 := uD hc0
 clear hr0 hc0
 have HB := uD (Below.refl w.heap.size w)
 have H : (spec_l01Insert.l0 k l0 (([] : List (S25))) false 0 a1_0 a1_1 a1_2) = some r := h
 clear h
 obtain ⟨y248, hy248⟩ : ∃ y_ : List (S25), y_ = (([] : List (S25))) := ⟨_, rfl⟩
 replace H : (spec_l01Insert.l0 k l0 y248 false 0 a1_0 a1_1 a1_2) = some r := by first | (rw [hy248]; with_reducible exact H) | (have H2_ := (Option.bind_some _ _).symm.trans H; rw [hy248]; with_reducible exact H2_) | (have H2_ := (Option.bind_some _ _).symm.trans H; with_reducible exact H2_) | with_reducible exact H | (rw [hy248]; exact H) | exact H
 have Ny248 := uD hy248
 clear hy248
 have H' := uD H
 clear H
 go_enter Tryd.func52, Tryd.ntmps52
 go_wp2_with (first | ((with_reducible refine gate_dst (N := 3) rfl ?_); refine bx 3 #[.int .i64 a1_0, .int .i64 a1_1, .int .i64 a1_2] 25 ?_; intro gb247 hg w3 hbox hb; have BK247 := uD (hbox); have GW247 := uD ((by rw [hg]; exact (uN (pb HB)) : w.heap.size ≤ gb247)); have GE247 := uD ((by rw [hg]; exact (uN (pb HB)) : w.heap.size ≤ gb247)); replace HB := uD (uO (pb HB) hb); clear hb hbox hg) | ((with_reducible refine gate_dst (N := 8) rfl ?_); refine Kd.R_lit k25 _ 25 ?hg (N := 8) ?hd (xs := ([] : List (S25))) (inner := []) (ok := fun _ => True) (okp := fun _ => True) ?hr ?hp (fun _ hk => hk) trivial (Below.refl _ _) (Nat.le_refl _) (by simp) ?_; (case hd => rfl); (case hg => rfl); (case hr => first | (go_simp; done) | (go_simp; rfl)); (case hp => exact (Reps.none _ _)); intro v249 w4 ho5 hb hg_ hnew_; clear hg_ hnew_; (first | rw [← Ny248.out] at ho5 | (simp only [Int.reduceToNat] at ho5; rw [← Ny248.out] at ho5)); have HO250 := uD (Kd.R_lower (Kd.R_newB ho5 (pk BK247)) (uN (pb HB))); replace BK247 := uD (blk_below (pk BK247) hb); replace HB := uD (uO (pb HB) hb); clear hb ho5))
 go_loopg [5, 6, 7] k (fun kq v5 v6 v7 w' => ∃ (x5_1 : List (S25)) (x6_1 : Bool) (x7_1 : Int), v6 = .bool x6_1 ∧ v7 = .int .i64 x7_1 ∧ Aside0 (spec_l01Insert.l0 kq l0 x5_1 x6_1 x7_1 a1_0 a1_1 a1_2 = some r) ∧ Aside0 (kq ≤ k) ∧ Aside0 (Kd.R k25 25 w' w.heap.size (fun k_ => k_ ≠ gb247) v5 x5_1) ∧ Aside0 (w'.heap[gb247]? = some (.cells #[.int .i64 a1_0, .int .i64 a1_1, .int .i64 a1_2] 25 (0, 0))) ∧ Aside0 (Below w.heap.size w w'))
 case atStart => exact ⟨(y248), (false), (0), (by first | rfl | (simp; done) | (simp [*]; done)), (by first | rfl | (simp; done) | (simp [*]; done)), H', ⟨Nat.le_refl _⟩, ⟨by (with_reducible repeat (first | apply uU | apply uS | apply uT)); exact uX HO250.out (fun _ hk => hk.2)⟩, ⟨by (with_reducible repeat first|apply uH|apply uJ|apply uG); exact BK247.out⟩, ⟨pb HB⟩⟩
 case round =>
  clear H'
  try clear p2
  try clear c5
  obtain ⟨x5_1, x6_1, x7_1, rfl, rfl, HA, HK1, HO_5, BK247, HB⟩ := hrel
  cases gk with
  | zero => exact absurd HA.out (by simp [spec_l01Insert.l0])
  | succ k1 =>
   have H := HA.out
   clear HA
   simp only [spec_l01Insert.l0] at H
   by_cases c6 : x7_1 < (l0.length : Int)
   ·rw [if_pos c6] at H
    have c6b0 : decide (x7_1 < (l0.length : Int)) = true := decide_eq_true c6
    clear c6
    by_cases c7 : x6_1 = true
    ·subst c7
     have H1 : (if 0 ≤ x7_1 then (if x5_1.length < 5864062014805 then (spec_l01Insert.l0 k1 l0 (x5_1 ++ [(⟨(rd_T25 l0 x7_1).f0, (rd_T25 l0 x7_1).f1, (rd_T25 l0 x7_1).f2⟩ : S25)]) true (wrap64 (x7_1 + 1)) a1_0 a1_1 a1_2) else (none)) else (none)) = some r := by rw [if_pos rfl] at H; first | done | exact H
     clear H
     have H := H1
     clear H1
     by_cases c8 : 0 ≤ x7_1
     ·rw [if_pos c8] at H
      have c8b0 : decide (0 ≤ x7_1) = true := decide_eq_true c8
      clear c8
      by_cases c9 : x5_1.length < 5864062014805
      ·rw [if_pos c9] at H
       have LMc9 := uD c9
       clear c9
       obtain ⟨y255, hy255⟩ : ∃ y_ : List (S25), y_ = (x5_1 ++ [(⟨(rd_T25 l0 x7_1).f0, (rd_T25 l0 x7_1).f1, (rd_T25 l0 x7_1).f2⟩ : S25)]) := ⟨_, rfl⟩
       replace H : (spec_l01Insert.l0 k1 l0 y255 true (wrap64 (x7_1 + 1)) a1_0 a1_1 a1_2) = some r := by first | (rw [hy255]; with_reducible exact H) | (have H2_ := (Option.bind_some _ _).symm.trans H; rw [hy255]; with_reducible exact H2_) | (have H2_ := (Option.bind_some _ _).symm.trans H; with_reducible exact H2_) | with_reducible exact H | (rw [hy255]; exact H) | exact H
       have Ny255 := uD hy255
       clear hy255
       have H' := uD H
       clear H
       try go_wp2
       replace HO_5 := uD (uT HO_5.out)
       replace BK247 := uD (uJ BK247.out)
       replace HB := uD (uK HB.out)
       refine start_ (n := 12) (S := fun w' => True) (ds := []) #[F,F,F,F,F,F,F,F,F,F,F,F] (by kernel_rfl) rfl rfl trivial (fun hHeld => ?_); refine with_tabW spec_l01Insert.tab6 spec_l01Insert.bits6 (fun HT_ HW_ => ?_)
       generalize wr.drew = w10 at HO_5 BK247 HB hHeld ⊢
       refine pu 0 (some 15) #[T,F,F,F,F,F,F,F,F,F,F,F] HT_ ?_
       refine pu 1 (some 16) #[T,T,F,F,F,F,F,F,F,F,F,F] HT_ ?_
       refine pu 2 (some 17) #[T,T,T,F,F,F,F,F,F,F,F,F] HT_ ?_
       refine ub (i := 3) (N := some 18) (v := undef) (a' := ?_) #[T,T,T,T,F,F,F,F,F,F,F,F] rfl rfl (uY HT_.out (by kernel_rfl)) (fun _ _ _ h => h) (Or.inr ⟨by rfl, rfl⟩) ?_ ?_
       rotate_left
       ·simp only [uc, uA, uB, uC, uZ, ua]
        rfl
       refine ub (i := 4) (N := some 19) (v := undef) (a' := ?_) #[T,T,T,T,T,F,F,F,F,F,F,F] rfl rfl (uY HT_.out (by kernel_rfl)) (fun _ _ _ h => h) (Or.inr ⟨by rfl, rfl⟩) ?_ ?_
       rotate_left
       ·simp only [uc, uA, uB, uC, uZ, ua]
        rfl
       refine ub (i := 5) (N := some 20) (v := undef) (a' := ?_) #[T,T,T,T,T,T,F,F,F,F,F,F] rfl rfl (uY HT_.out (by kernel_rfl)) (fun _ _ _ h => h) (Or.inr ⟨by rfl, rfl⟩) ?_ ?_
       rotate_left
       ·simp only [uc, uA, uB, uC, uZ, ua]
        rfl
       refine ub (i := 6) (N := some 21) (v := undef) (a' := ?_) #[T,T,T,T,T,T,T,F,F,F,F,F] rfl rfl (uY HT_.out (by kernel_rfl)) (fun _ _ _ h => h) (Or.inr ⟨by rfl, rfl⟩) ?_ ?_
       rotate_left
       ·simp only [uc, uA, uB, uC, uZ, ua]
        rfl
       refine ub (i := 7) (N := some 22) (v := undef) (a' := ?_) #[T,T,T,T,T,T,T,T,F,F,F,F] rfl rfl (uY HT_.out (by kernel_rfl)) (fun _ _ _ h => h) (Or.inr ⟨by rfl, rfl⟩) ?_ ?_
       rotate_left
       ·simp only [uc, uA, uB, uC, uZ, ua]
        rfl
       refine ub (i := 8) (N := some 23) (v := undef) (a' := ?_) #[T,T,T,T,T,T,T,T,T,F,F,F] rfl rfl (uY HT_.out (by kernel_rfl)) (fun _ _ _ h => h) (Or.inr ⟨by rfl, rfl⟩) ?_ ?_
       rotate_left
       ·simp only [uc, uA, uB, uC, uZ, ua]
        rfl
       refine ub (i := 9) (N := some 24) (v := undef) (a' := ?_) #[T,T,T,T,T,T,T,T,T,T,F,F] rfl rfl (uY HT_.out (by kernel_rfl)) (fun _ _ _ h => h) (Or.inr ⟨by rfl, rfl⟩) ?_ ?_
       rotate_left
       ·simp only [uc, uA, uB, uC, uZ, ua]
        rfl
       refine ub (i := 10) (N := some 25) (v := undef) (a' := ?_) #[T,T,T,T,T,T,T,T,T,T,T,F] rfl rfl (uY HT_.out (by kernel_rfl)) (fun _ _ _ h => h) (Or.inr ⟨by rfl, rfl⟩) ?_ ?_
       rotate_left
       ·simp only [uc, uA, uB, uC, uZ, ua]
        rfl
       refine pu 11 (some 26) #[T,T,T,T,T,T,T,T,T,T,T,T] HT_ ?_
       refine done_ (done_of HT_.out (by kernel_rfl)) ?_
       have p254 : 0 ≤ (x7_1 : Int) := of_decide_eq_true (by first | (with_reducible assumption) | assumption)
       have q254 : x7_1 < (l0.length : Int) := of_decide_eq_true (by first | (with_reducible assumption) | assumption)
       obtain ⟨ad254, e254, hx254_0, hx254_1, hx254_2⟩ := at_T25 HR0.out x7_1 p254 q254
       cases e254
       replace hx254_0 := (HB.out.cell (World.block_lt_of_cell? w _ hx254_0)).trans hx254_0
       replace hx254_1 := (HB.out.cell (World.block_lt_of_cell? w _ hx254_1)).trans hx254_1
       replace hx254_2 := (HB.out.cell (World.block_lt_of_cell? w _ hx254_2)).trans hx254_2
       replace p254 := eq_true p254
       replace q254 := eq_true q254
       try go_wp2_with (first | ((with_reducible refine gate_builtin (b := .append) (xs := #[.tmp 31, .tmp 36]) rfl ?_); at_builtin; refine Kd.R_append k25 (w0 := w) w.heap.size rfl (.tmp 31) (.tmp 36) 32 25 (.agg #[(.int .i64 0), (.int .i64 0), (.int .i64 0)]) 24 rfl Tryd.underlying32 info25 rfl (by decide) (by omega) u5 x5_1 (⟨(rd_T25 l0 x7_1).f0, (rd_T25 l0 x7_1).f1, (rd_T25 l0 x7_1).f2⟩ : S25) [.int .i64 ((rd_T25 l0 x7_1).f0), .int .i64 ((rd_T25 l0 x7_1).f1), .int .i64 ((rd_T25 l0 x7_1).f2)] (fun k_ => k_ ≠ gb247) (fun _ => False) rfl rfl ?aP (fun _ hk => hk.elim) ?aF ?aO ?aB ?aS ?aL ?_; (case aP => exact k25_mkM _ _ _ (⟨(rd_T25 l0 x7_1).f0, (rd_T25 l0 x7_1).f1, (rd_T25 l0 x7_1).f2⟩ : S25)); (case aB => exact (pb HB)); (case aF => exact (fun k_ hk => Kd.freshB (pk BK247) k_ hk)); (case aO => exact (pr HO_5)); (case aS => exact (uN (pb HB))); (case aL => have := LMc9.out; omega); intro v256 w11 ho hb hg hat; rw [← Ny255.out] at ho; replace BK247 := uD (blk_grown (pk BK247) hg (Kd.R_away HO_5.out (fun _ hk => hk))); replace HB := uD (hb); have HO257 := uD (ho); clear HO_5; clear ho hb hg hat))
       go_roundg k1
       case measure => have := HK1.out; omega
       case rel => exact ⟨(y255), (true), (wrap64 (x7_1 + 1)), (by first | rfl | (simp; done) | (simp [*]; done)), (by first | rfl | (simp; done) | (simp [*]; done)), H', ⟨by have := HK1.out; omega⟩, ⟨by (with_reducible repeat (first | apply uU | apply uS | apply uT)); exact HO257.out⟩, ⟨by (with_reducible repeat first|apply uH|apply uJ|apply uG); exact BK247.out⟩, ⟨pb HB⟩⟩
      ·rw [if_neg c9] at H
       exact absurd H (by simp)
     ·rw [if_neg c8] at H
      exact absurd H (by simp)
    ·replace c7 := Bool.eq_false_iff.mpr c7
     subst c7
     have H1 : ((spec_TagNumber.f a1_0 a1_1 a1_2).bind fun t258 => (if 0 ≤ x7_1 then ((spec_TagNumber.f ((rd_T25 l0 x7_1).f0) ((rd_T25 l0 x7_1).f1) ((rd_T25 l0 x7_1).f2)).bind fun t260 => (if t258 < t260 then (if x5_1.length < 5864062014805 then ((some (x5_1 ++ [(⟨a1_0, a1_1, a1_2⟩ : S25)] : List (S25))).bind fun y261 => (if y261.length < 5864062014805 then (spec_l01Insert.l0 k1 l0 (y261 ++ [(⟨(rd_T25 l0 x7_1).f0, (rd_T25 l0 x7_1).f1, (rd_T25 l0 x7_1).f2⟩ : S25)]) true (wrap64 (x7_1 + 1)) a1_0 a1_1 a1_2) else (none))) else (none)) else (if x5_1.length < 5864062014805 then (spec_l01Insert.l0 k1 l0 (x5_1 ++ [(⟨(rd_T25 l0 x7_1).f0, (rd_T25 l0 x7_1).f1, (rd_T25 l0 x7_1).f2⟩ : S25)]) false (wrap64 (x7_1 + 1)) a1_0 a1_1 a1_2) else (none)))) else (none))) = some r := by rw [if_neg (show ¬ (false = true) by decide)] at H; first | done | exact H
     clear H
     have H := H1
     clear H1
     replace H := Option.bind_eq_some_iff.mp H
     obtain ⟨t258, A120, H⟩ := H
     replace H : (if 0 ≤ x7_1 then ((spec_TagNumber.f ((rd_T25 l0 x7_1).f0) ((rd_T25 l0 x7_1).f1) ((rd_T25 l0 x7_1).f2)).bind fun t260 => (if t258 < t260 then (if x5_1.length < 5864062014805 then ((some (x5_1 ++ [(⟨a1_0, a1_1, a1_2⟩ : S25)] : List (S25))).bind fun y261 => (if y261.length < 5864062014805 then (spec_l01Insert.l0 k1 l0 (y261 ++ [(⟨(rd_T25 l0 x7_1).f0, (rd_T25 l0 x7_1).f1, (rd_T25 l0 x7_1).f2⟩ : S25)]) true (wrap64 (x7_1 + 1)) a1_0 a1_1 a1_2) else (none))) else (none)) else (if x5_1.length < 5864062014805 then (spec_l01Insert.l0 k1 l0 (x5_1 ++ [(⟨(rd_T25 l0 x7_1).f0, (rd_T25 l0 x7_1).f1, (rd_T25 l0 x7_1).f2⟩ : S25)]) false (wrap64 (x7_1 + 1)) a1_0 a1_1 a1_2) else (none)))) else (none)) = some r := H
     have A12 := uD A120
     clear A120
     by_cases c13 : 0 ≤ x7_1
     ·rw [if_pos c13] at H
      have c13b0 : decide (0 ≤ x7_1) = true := decide_eq_true c13
      clear c13
      replace H := Option.bind_eq_some_iff.mp H
      obtain ⟨t260, A140, H⟩ := H
      replace H : (if t258 < t260 then (if x5_1.length < 5864062014805 then ((some (x5_1 ++ [(⟨a1_0, a1_1, a1_2⟩ : S25)] : List (S25))).bind fun y261 => (if y261.length < 5864062014805 then (spec_l01Insert.l0 k1 l0 (y261 ++ [(⟨(rd_T25 l0 x7_1).f0, (rd_T25 l0 x7_1).f1, (rd_T25 l0 x7_1).f2⟩ : S25)]) true (wrap64 (x7_1 + 1)) a1_0 a1_1 a1_2) else (none))) else (none)) else (if x5_1.length < 5864062014805 then (spec_l01Insert.l0 k1 l0 (x5_1 ++ [(⟨(rd_T25 l0 x7_1).f0, (rd_T25 l0 x7_1).f1, (rd_T25 l0 x7_1).f2⟩ : S25)]) false (wrap64 (x7_1 + 1)) a1_0 a1_1 a1_2) else (none))) = some r := H
      have A14 := uD A140
      clear A140
      by_cases c15 : t258 < t260
      ·rw [if_pos c15] at H
       have c15b0 : decide (t258 < t260) = true := decide_eq_true c15
       clear c15
       by_cases c16 : x5_1.length < 5864062014805
       ·rw [if_pos c16] at H
        have LMc16 := uD c16
        clear c16
        obtain ⟨y261, hy261⟩ : ∃ y_ : List (S25), y_ = (x5_1 ++ [(⟨a1_0, a1_1, a1_2⟩ : S25)]) := ⟨_, rfl⟩
        replace H : (if y261.length < 5864062014805 then (spec_l01Insert.l0 k1 l0 (y261 ++ [(⟨(rd_T25 l0 x7_1).f0, (rd_T25 l0 x7_1).f1, (rd_T25 l0 x7_1).f2⟩ : S25)]) true (wrap64 (x7_1 + 1)) a1_0 a1_1 a1_2) else (none)) = some r := by first | (rw [hy261]; with_reducible exact H) | (have H2_ := (Option.bind_some _ _).symm.trans H; rw [hy261]; with_reducible exact H2_) | (have H2_ := (Option.bind_some _ _).symm.trans H; with_reducible exact H2_) | with_reducible exact H | (rw [hy261]; exact H) | exact H
        have Ny261 := uD hy261
        clear hy261
        by_cases c17 : y261.length < 5864062014805
        ·rw [if_pos c17] at H
         have LMc17 := uD c17
         clear c17
         obtain ⟨y265, hy265⟩ : ∃ y_ : List (S25), y_ = (y261 ++ [(⟨(rd_T25 l0 x7_1).f0, (rd_T25 l0 x7_1).f1, (rd_T25 l0 x7_1).f2⟩ : S25)]) := ⟨_, rfl⟩
         replace H : (spec_l01Insert.l0 k1 l0 y265 true (wrap64 (x7_1 + 1)) a1_0 a1_1 a1_2) = some r := by first | (rw [hy265]; with_reducible exact H) | (have H2_ := (Option.bind_some _ _).symm.trans H; rw [hy265]; with_reducible exact H2_) | (have H2_ := (Option.bind_some _ _).symm.trans H; with_reducible exact H2_) | with_reducible exact H | (rw [hy265]; exact H) | exact H
         have Ny265 := uD hy265
         clear hy265
         have H' := uD H
         clear H
         try go_wp2
         replace HO_5 := uD (uT HO_5.out)
         replace BK247 := uD (uJ BK247.out)
         replace HB := uD (uK HB.out)
         have p259 : 0 ≤ (x7_1 : Int) := of_decide_eq_true (by first | (with_reducible assumption) | assumption)
         have q259 : x7_1 < (l0.length : Int) := of_decide_eq_true (by first | (with_reducible assumption) | assumption)
         obtain ⟨ad259, e259, hx259_0, hx259_1, hx259_2⟩ := at_T25 HR0.out x7_1 p259 q259
         have hw259_2 := hx259_2
         have hw259_1 := hx259_1
         have hw259_0 := hx259_0
         cases e259
         replace hx259_0 := (HB.out.cell (World.block_lt_of_cell? w _ hx259_0)).trans hx259_0
         replace hx259_1 := (HB.out.cell (World.block_lt_of_cell? w _ hx259_1)).trans hx259_1
         replace hx259_2 := (HB.out.cell (World.block_lt_of_cell? w _ hx259_2)).trans hx259_2
         replace p259 := eq_true p259
         replace q259 := eq_true q259
         refine start_ (n := 12) (S := fun w' => w'.cell? ⟨gb247, 0, none⟩ = some (.int .i64 a1_0) ∧ w'.cell? ⟨gb247, 1, none⟩ = some (.int .i64 a1_1) ∧ w'.cell? ⟨gb247, 2, none⟩ = some (.int .i64 a1_2) ∧ w'.cell? (ad259.add ((x7_1).toNat * 3)) = some (.int .i64 ((rd_T25 l0 x7_1).f0)) ∧ w'.cell? ⟨(ad259.add ((x7_1).toNat * 3)).block, (ad259.add ((x7_1).toNat * 3)).off + 1, none⟩ = some (.int .i64 ((rd_T25 l0 x7_1).f1)) ∧ w'.cell? ⟨(ad259.add ((x7_1).toNat * 3)).block, (ad259.add ((x7_1).toNat * 3)).off + 2, none⟩ = some (.int .i64 ((rd_T25 l0 x7_1).f2))) (ds := []) #[F,F,F,F,F,F,F,F,F,F,F,F] (by kernel_rfl) rfl rfl ⟨(uF BK247.out 0).trans rfl, (uF BK247.out 1).trans rfl, (uF BK247.out 2).trans rfl, ((HB.out.cell (World.block_lt_of_cell? w _ hw259_0)).trans hw259_0), ((HB.out.cell (World.block_lt_of_cell? w _ hw259_1)).trans hw259_1), ((HB.out.cell (World.block_lt_of_cell? w _ hw259_2)).trans hw259_2)⟩ (fun hHeld => ?_); refine with_tabW spec_l01Insert.tab6 spec_l01Insert.bits6 (fun HT_ HW_ => ?_)
         generalize wr.drew = w18 at HO_5 BK247 HB hx259_0 hx259_1 hx259_2 hHeld ⊢
         refine pu 0 (some 15) #[T,F,F,F,F,F,F,F,F,F,F,F] HT_ ?_
         refine pu 1 (some 16) #[T,T,F,F,F,F,F,F,F,F,F,F] HT_ ?_
         refine pu 2 (some 17) #[T,T,T,F,F,F,F,F,F,F,F,F] HT_ ?_
         refine pu 5 (some 20) #[T,T,T,F,F,T,F,F,F,F,F,F] HT_ ?_
         refine pu 6 (some 21) #[T,T,T,F,F,T,T,F,F,F,F,F] HT_ ?_
         refine pu 7 (some 22) #[T,T,T,F,F,T,T,T,F,F,F,F] HT_ ?_
         refine tk 3 (some 18) #[T,T,T,T,F,T,T,T,F,F,F,F] HT_ HW_ hHeld ?_
         refine tk 8 (some 23) #[T,T,T,T,F,T,T,T,T,F,F,F] HT_ HW_ hHeld ?_
         refine one_ (i := 4) (N := some 19) #[T,T,T,T,T,T,T,T,T,F,F,F] rfl rfl (one_of HT_.out (by kernel_rfl)) (by decide) (fun K hK => ?_)
         refine goes_ Tryd.func35 (by kernel_rfl) rfl #[.agg #[.int .i64 a1_0, .int .i64 a1_1, .int .i64 a1_2]] (by rfl) rfl rfl (by (try simp only [List.map_toArray, List.map_cons, List.map_nil]); first | done | rfl | (simp only [List.length_drop, List.length_take]; rfl)) ?_
         with_reducible refine (spec_TagNumber.calls a1_0 a1_1 a1_2 t258 _ A12.out).mono ?_
         rintro e w19 ⟨rfl, hb⟩
         refine ⟨_, rfl, ?_⟩
         replace HO_5 := uD (Kd.R_below (pr HO_5) hb)
         replace BK247 := uD (blk_below (pk BK247) hb)
         replace HB := uD (uO (pb HB) hb)
         (try clear hb)
         (try clear hb2)
         (try clear hk)
         (try clear hi)
         refine hK.out _ _ ⟨(uF BK247.out 0).trans rfl, (uF BK247.out 1).trans rfl, (uF BK247.out 2).trans rfl, ((HB.out.cell (World.block_lt_of_cell? w _ hw259_0)).trans hw259_0), ((HB.out.cell (World.block_lt_of_cell? w _ hw259_1)).trans hw259_1), ((HB.out.cell (World.block_lt_of_cell? w _ hw259_2)).trans hw259_2)⟩ (fun hHeld => ?_)
         clear hK K
         refine norm_ (a' := ?_) ?_ ?_
         rotate_left
         ·show uc _ (some 19) _ = _
          simp only [uc, uA, uB, uC, uZ, ua]
          rfl
         refine one_ (i := 9) (N := some 24) #[T,T,T,T,T,T,T,T,T,T,F,F] rfl rfl (one_of HT_.out (by kernel_rfl)) (by decide) (fun K hK => ?_)
         refine goes_ Tryd.func35 (by kernel_rfl) rfl #[.agg #[.int .i64 ((rd_T25 l0 x7_1).f0), .int .i64 ((rd_T25 l0 x7_1).f1), .int .i64 ((rd_T25 l0 x7_1).f2)]] (by rfl) rfl rfl (by (try simp only [List.map_toArray, List.map_cons, List.map_nil]); first | done | rfl | (simp only [List.length_drop, List.length_take]; rfl)) ?_
         with_reducible refine (spec_TagNumber.calls ((rd_T25 l0 x7_1).f0) ((rd_T25 l0 x7_1).f1) ((rd_T25 l0 x7_1).f2) t260 _ A14.out).mono ?_
         rintro e w20 ⟨rfl, hb⟩
         refine ⟨_, rfl, ?_⟩
         replace HO_5 := uD (Kd.R_below (pr HO_5) hb)
         replace BK247 := uD (blk_below (pk BK247) hb)
         replace HB := uD (uO (pb HB) hb)
         (try clear hb)
         (try clear hb2)
         (try clear hk)
         (try clear hi)
         refine hK.out _ _ ⟨(uF BK247.out 0).trans rfl, (uF BK247.out 1).trans rfl, (uF BK247.out 2).trans rfl, ((HB.out.cell (World.block_lt_of_cell? w _ hw259_0)).trans hw259_0), ((HB.out.cell (World.block_lt_of_cell? w _ hw259_1)).trans hw259_1), ((HB.out.cell (World.block_lt_of_cell? w _ hw259_2)).trans hw259_2)⟩ (fun hHeld => ?_)
         clear hK K
         refine norm_ (a' := ?_) ?_ ?_
         rotate_left
         ·show uc _ (some 24) _ = _
          simp only [uc, uA, uB, uC, uZ, ua]
          rfl
         refine pu 10 (some 25) #[T,T,T,T,T,T,T,T,T,T,T,F] HT_ ?_
         refine pu 11 (some 26) #[T,T,T,T,T,T,T,T,T,T,T,T] HT_ ?_
         refine done_ (done_of HT_.out (by kernel_rfl)) ?_
         obtain ⟨hcz21_0, hcz21_1, hcz21_2, hfz21_0, hfz21_1, hfz21_2⟩ := cz3 BK247
         try go_wp2_with (first | ((with_reducible refine gate_builtin (b := .append) (xs := #[.tmp 27, .tmp 29]) rfl ?_); at_builtin; refine Kd.R_append k25 (w0 := w) w.heap.size rfl (.tmp 27) (.tmp 29) 32 25 (.agg #[(.int .i64 0), (.int .i64 0), (.int .i64 0)]) 24 rfl Tryd.underlying32 info25 rfl (by decide) (by omega) u5 x5_1 (⟨a1_0, a1_1, a1_2⟩ : S25) [.int .i64 a1_0, .int .i64 a1_1, .int .i64 a1_2] (fun k_ => k_ ≠ gb247) (fun _ => False) rfl rfl ?aP (fun _ hk => hk.elim) ?aF ?aO ?aB ?aS ?aL ?_; (case aP => exact k25_mkM _ _ _ (⟨a1_0, a1_1, a1_2⟩ : S25)); (case aB => exact (pb HB)); (case aF => exact (fun k_ hk => Kd.freshB (pk BK247) k_ hk)); (case aO => exact (pr HO_5)); (case aS => exact (uN (pb HB))); (case aL => have := LMc16.out; omega); intro v262 w22 ho hb hg hat; rw [← Ny261.out] at ho; replace BK247 := uD (blk_grown (pk BK247) hg (Kd.R_away HO_5.out (fun _ hk => hk))); replace HB := uD (hb); have HO263 := uD (ho); clear HO_5; clear ho hb hg hat; have p264 : 0 ≤ (x7_1 : Int) := of_decide_eq_true (by first | (with_reducible assumption) | assumption); have q264 : x7_1 < (l0.length : Int) := of_decide_eq_true (by first | (with_reducible assumption) | assumption); obtain ⟨ad264, e264, hx264_0, hx264_1, hx264_2⟩ := at_T25 HR0.out x7_1 p264 q264; obtain rfl : ad259 = ad264 := (by injection e264); replace hx264_0 := (HB.out.cell (World.block_lt_of_cell? w _ hx264_0)).trans hx264_0; replace hx264_1 := (HB.out.cell (World.block_lt_of_cell? w _ hx264_1)).trans hx264_1; replace hx264_2 := (HB.out.cell (World.block_lt_of_cell? w _ hx264_2)).trans hx264_2; replace p264 := eq_true p264; replace q264 := eq_true q264) | ((with_reducible refine gate_builtin (b := .append) (xs := #[.tmp 31, .tmp 36]) rfl ?_); at_builtin; refine Kd.R_append k25 (w0 := w) w.heap.size rfl (.tmp 31) (.tmp 36) 32 25 (.agg #[(.int .i64 0), (.int .i64 0), (.int .i64 0)]) 24 rfl Tryd.underlying32 info25 rfl (by decide) (by omega) v262 y261 (⟨(rd_T25 l0 x7_1).f0, (rd_T25 l0 x7_1).f1, (rd_T25 l0 x7_1).f2⟩ : S25) [.int .i64 ((rd_T25 l0 x7_1).f0), .int .i64 ((rd_T25 l0 x7_1).f1), .int .i64 ((rd_T25 l0 x7_1).f2)] (fun k_ => k_ ≠ gb247) (fun _ => False) rfl rfl ?aP (fun _ hk => hk.elim) ?aF ?aO ?aB ?aS ?aL ?_; (case aP => exact k25_mkM _ _ _ (⟨(rd_T25 l0 x7_1).f0, (rd_T25 l0 x7_1).f1, (rd_T25 l0 x7_1).f2⟩ : S25)); (case aB => exact (pb HB)); (case aF => exact (fun k_ hk => Kd.freshB (pk BK247) k_ hk)); (case aO => exact (pr HO263)); (case aS => exact (uN (pb HB))); (case aL => have := LMc17.out; omega); intro v266 w23 ho hb hg hat; rw [← Ny265.out] at ho; replace BK247 := uD (blk_grown (pk BK247) hg (Kd.R_away HO263.out (fun _ hk => hk))); replace HB := uD (hb); have HO267 := uD (ho); clear HO263; clear ho hb hg hat))
         go_roundg k1
         case measure => have := HK1.out; omega
         case rel => exact ⟨(y265), (true), (wrap64 (x7_1 + 1)), (by first | rfl | (simp; done) | (simp [*]; done)), (by first | rfl | (simp; done) | (simp [*]; done)), H', ⟨by have := HK1.out; omega⟩, ⟨by (with_reducible repeat (first | apply uU | apply uS | apply uT)); exact HO267.out⟩, ⟨by (with_reducible repeat first|apply uH|apply uJ|apply uG); exact BK247.out⟩, ⟨pb HB⟩⟩
        ·rw [if_neg c17] at H
         exact absurd H (by simp)
       ·rw [if_neg c16] at H
        exact absurd H (by simp)
      ·rw [if_neg c15] at H
       have c15b0 : decide (t258 < t260) = false := decide_eq_false c15
       clear c15
       by_cases c24 : x5_1.length < 5864062014805
       ·rw [if_pos c24] at H
        have LMc24 := uD c24
        clear c24
        obtain ⟨y269, hy269⟩ : ∃ y_ : List (S25), y_ = (x5_1 ++ [(⟨(rd_T25 l0 x7_1).f0, (rd_T25 l0 x7_1).f1, (rd_T25 l0 x7_1).f2⟩ : S25)]) := ⟨_, rfl⟩
        replace H : (spec_l01Insert.l0 k1 l0 y269 false (wrap64 (x7_1 + 1)) a1_0 a1_1 a1_2) = some r := by first | (rw [hy269]; with_reducible exact H) | (have H2_ := (Option.bind_some _ _).symm.trans H; rw [hy269]; with_reducible exact H2_) | (have H2_ := (Option.bind_some _ _).symm.trans H; with_reducible exact H2_) | with_reducible exact H | (rw [hy269]; exact H) | exact H
        have Ny269 := uD hy269
        clear hy269
        have H' := uD H
        clear H
        try go_wp2
        replace HO_5 := uD (uT HO_5.out)
        replace BK247 := uD (uJ BK247.out)
        replace HB := uD (uK HB.out)
        have p259 : 0 ≤ (x7_1 : Int) := of_decide_eq_true (by first | (with_reducible assumption) | assumption)
        have q259 : x7_1 < (l0.length : Int) := of_decide_eq_true (by first | (with_reducible assumption) | assumption)
        obtain ⟨ad259, e259, hx259_0, hx259_1, hx259_2⟩ := at_T25 HR0.out x7_1 p259 q259
        have hw259_2 := hx259_2
        have hw259_1 := hx259_1
        have hw259_0 := hx259_0
        cases e259
        replace hx259_0 := (HB.out.cell (World.block_lt_of_cell? w _ hx259_0)).trans hx259_0
        replace hx259_1 := (HB.out.cell (World.block_lt_of_cell? w _ hx259_1)).trans hx259_1
        replace hx259_2 := (HB.out.cell (World.block_lt_of_cell? w _ hx259_2)).trans hx259_2
        replace p259 := eq_true p259
        replace q259 := eq_true q259
        refine start_ (n := 12) (S := fun w' => w'.cell? ⟨gb247, 0, none⟩ = some (.int .i64 a1_0) ∧ w'.cell? ⟨gb247, 1, none⟩ = some (.int .i64 a1_1) ∧ w'.cell? ⟨gb247, 2, none⟩ = some (.int .i64 a1_2) ∧ w'.cell? (ad259.add ((x7_1).toNat * 3)) = some (.int .i64 ((rd_T25 l0 x7_1).f0)) ∧ w'.cell? ⟨(ad259.add ((x7_1).toNat * 3)).block, (ad259.add ((x7_1).toNat * 3)).off + 1, none⟩ = some (.int .i64 ((rd_T25 l0 x7_1).f1)) ∧ w'.cell? ⟨(ad259.add ((x7_1).toNat * 3)).block, (ad259.add ((x7_1).toNat * 3)).off + 2, none⟩ = some (.int .i64 ((rd_T25 l0 x7_1).f2))) (ds := []) #[F,F,F,F,F,F,F,F,F,F,F,F] (by kernel_rfl) rfl rfl ⟨(uF BK247.out 0).trans rfl, (uF BK247.out 1).trans rfl, (uF BK247.out 2).trans rfl, ((HB.out.cell (World.block_lt_of_cell? w _ hw259_0)).trans hw259_0), ((HB.out.cell (World.block_lt_of_cell? w _ hw259_1)).trans hw259_1), ((HB.out.cell (World.block_lt_of_cell? w _ hw259_2)).trans hw259_2)⟩ (fun hHeld => ?_); refine with_tabW spec_l01Insert.tab6 spec_l01Insert.bits6 (fun HT_ HW_ => ?_)
        generalize wr.drew = w25 at HO_5 BK247 HB hx259_0 hx259_1 hx259_2 hHeld ⊢
        refine pu 0 (some 15) #[T,F,F,F,F,F,F,F,F,F,F,F] HT_ ?_
        refine pu 1 (some 16) #[T,T,F,F,F,F,F,F,F,F,F,F] HT_ ?_
        refine pu 2 (some 17) #[T,T,T,F,F,F,F,F,F,F,F,F] HT_ ?_
        refine pu 5 (some 20) #[T,T,T,F,F,T,F,F,F,F,F,F] HT_ ?_
        refine pu 6 (some 21) #[T,T,T,F,F,T,T,F,F,F,F,F] HT_ ?_
        refine pu 7 (some 22) #[T,T,T,F,F,T,T,T,F,F,F,F] HT_ ?_
        refine tk 3 (some 18) #[T,T,T,T,F,T,T,T,F,F,F,F] HT_ HW_ hHeld ?_
        refine tk 8 (some 23) #[T,T,T,T,F,T,T,T,T,F,F,F] HT_ HW_ hHeld ?_
        refine one_ (i := 4) (N := some 19) #[T,T,T,T,T,T,T,T,T,F,F,F] rfl rfl (one_of HT_.out (by kernel_rfl)) (by decide) (fun K hK => ?_)
        refine goes_ Tryd.func35 (by kernel_rfl) rfl #[.agg #[.int .i64 a1_0, .int .i64 a1_1, .int .i64 a1_2]] (by rfl) rfl rfl (by (try simp only [List.map_toArray, List.map_cons, List.map_nil]); first | done | rfl | (simp only [List.length_drop, List.length_take]; rfl)) ?_
        with_reducible refine (spec_TagNumber.calls a1_0 a1_1 a1_2 t258 _ A12.out).mono ?_
        rintro e w26 ⟨rfl, hb⟩
        refine ⟨_, rfl, ?_⟩
        replace HO_5 := uD (Kd.R_below (pr HO_5) hb)
        replace BK247 := uD (blk_below (pk BK247) hb)
        replace HB := uD (uO (pb HB) hb)
        (try clear hb)
        (try clear hb2)
        (try clear hk)
        (try clear hi)
        refine hK.out _ _ ⟨(uF BK247.out 0).trans rfl, (uF BK247.out 1).trans rfl, (uF BK247.out 2).trans rfl, ((HB.out.cell (World.block_lt_of_cell? w _ hw259_0)).trans hw259_0), ((HB.out.cell (World.block_lt_of_cell? w _ hw259_1)).trans hw259_1), ((HB.out.cell (World.block_lt_of_cell? w _ hw259_2)).trans hw259_2)⟩ (fun hHeld => ?_)
        clear hK K
        refine norm_ (a' := ?_) ?_ ?_
        rotate_left
        ·show uc _ (some 19) _ = _
         simp only [uc, uA, uB, uC, uZ, ua]
         rfl
        refine one_ (i := 9) (N := some 24) #[T,T,T,T,T,T,T,T,T,T,F,F] rfl rfl (one_of HT_.out (by kernel_rfl)) (by decide) (fun K hK => ?_)
        refine goes_ Tryd.func35 (by kernel_rfl) rfl #[.agg #[.int .i64 ((rd_T25 l0 x7_1).f0), .int .i64 ((rd_T25 l0 x7_1).f1), .int .i64 ((rd_T25 l0 x7_1).f2)]] (by rfl) rfl rfl (by (try simp only [List.map_toArray, List.map_cons, List.map_nil]); first | done | rfl | (simp only [List.length_drop, List.length_take]; rfl)) ?_
        with_reducible refine (spec_TagNumber.calls ((rd_T25 l0 x7_1).f0) ((rd_T25 l0 x7_1).f1) ((rd_T25 l0 x7_1).f2) t260 _ A14.out).mono ?_
        rintro e w27 ⟨rfl, hb⟩
        refine ⟨_, rfl, ?_⟩
        replace HO_5 := uD (Kd.R_below (pr HO_5) hb)
        replace BK247 := uD (blk_below (pk BK247) hb)
        replace HB := uD (uO (pb HB) hb)
        (try clear hb)
        (try clear hb2)
        (try clear hk)
        (try clear hi)
        refine hK.out _ _ ⟨(uF BK247.out 0).trans rfl, (uF BK247.out 1).trans rfl, (uF BK247.out 2).trans rfl, ((HB.out.cell (World.block_lt_of_cell? w _ hw259_0)).trans hw259_0), ((HB.out.cell (World.block_lt_of_cell? w _ hw259_1)).trans hw259_1), ((HB.out.cell (World.block_lt_of_cell? w _ hw259_2)).trans hw259_2)⟩ (fun hHeld => ?_)
        clear hK K
        refine norm_ (a' := ?_) ?_ ?_
        rotate_left
        ·show uc _ (some 24) _ = _
         simp only [uc, uA, uB, uC, uZ, ua]
         rfl
        refine pu 10 (some 25) #[T,T,T,T,T,T,T,T,T,T,T,F] HT_ ?_
        refine pu 11 (some 26) #[T,T,T,T,T,T,T,T,T,T,T,T] HT_ ?_
        refine done_ (done_of HT_.out (by kernel_rfl)) ?_
        have p268 : 0 ≤ (x7_1 : Int) := of_decide_eq_true (by first | (with_reducible assumption) | assumption)
        have q268 : x7_1 < (l0.length : Int) := of_decide_eq_true (by first | (with_reducible assumption) | assumption)
        obtain ⟨ad268, e268, hx268_0, hx268_1, hx268_2⟩ := at_T25 HR0.out x7_1 p268 q268
        obtain rfl : ad259 = ad268 := (by injection e268)
        replace hx268_0 := (HB.out.cell (World.block_lt_of_cell? w _ hx268_0)).trans hx268_0
        replace hx268_1 := (HB.out.cell (World.block_lt_of_cell? w _ hx268_1)).trans hx268_1
        replace hx268_2 := (HB.out.cell (World.block_lt_of_cell? w _ hx268_2)).trans hx268_2
        replace p268 := eq_true p268
        replace q268 := eq_true q268
        try go_wp2_with (first | ((with_reducible refine gate_builtin (b := .append) (xs := #[.tmp 31, .tmp 36]) rfl ?_); at_builtin; refine Kd.R_append k25 (w0 := w) w.heap.size rfl (.tmp 31) (.tmp 36) 32 25 (.agg #[(.int .i64 0), (.int .i64 0), (.int .i64 0)]) 24 rfl Tryd.underlying32 info25 rfl (by decide) (by omega) u5 x5_1 (⟨(rd_T25 l0 x7_1).f0, (rd_T25 l0 x7_1).f1, (rd_T25 l0 x7_1).f2⟩ : S25) [.int .i64 ((rd_T25 l0 x7_1).f0), .int .i64 ((rd_T25 l0 x7_1).f1), .int .i64 ((rd_T25 l0 x7_1).f2)] (fun k_ => k_ ≠ gb247) (fun _ => False) rfl rfl ?aP (fun _ hk => hk.elim) ?aF ?aO ?aB ?aS ?aL ?_; (case aP => exact k25_mkM _ _ _ (⟨(rd_T25 l0 x7_1).f0, (rd_T25 l0 x7_1).f1, (rd_T25 l0 x7_1).f2⟩ : S25)); (case aB => exact (pb HB)); (case aF => exact (fun k_ hk => Kd.freshB (pk BK247) k_ hk)); (case aO => exact (pr HO_5)); (case aS => exact (uN (pb HB))); (case aL => have := LMc24.out; omega); intro v270 w28 ho hb hg hat; rw [← Ny269.out] at ho; replace BK247 := uD (blk_grown (pk BK247) hg (Kd.R_away HO_5.out (fun _ hk => hk))); replace HB := uD (hb); have HO271 := uD (ho); clear HO_5; clear ho hb hg hat))
        go_roundg k1
        case measure => have := HK1.out; omega
        case rel => exact ⟨(y269), (false), (wrap64 (x7_1 + 1)), (by first | rfl | (simp; done) | (simp [*]; done)), (by first | rfl | (simp; done) | (simp [*]; done)), H', ⟨by have := HK1.out; omega⟩, ⟨by (with_reducible repeat (first | apply uU | apply uS | apply uT)); exact HO271.out⟩, ⟨by (with_reducible repeat first|apply uH|apply uJ|apply uG); exact BK247.out⟩, ⟨pb HB⟩⟩
       ·rw [if_neg c24] at H
        exact absurd H (by simp)
     ·rw [if_neg c13] at H
      exact absurd H (by simp)
   ·rw [if_neg c6] at H
    have c6b0 : decide (x7_1 < (l0.length : Int)) = false := decide_eq_false c6
    clear c6
    by_cases c29 : x6_1 = true
    ·subst c29
     have H1 : (some x5_1) = some r := by rw [if_pos rfl] at H; first | done | exact H
     clear H
     have H := H1
     clear H1
     obtain rfl := Option.some.inj H
     go_wp2
     go_ret
     exact ⟨_, by first | rfl | (simp [errW_none, errW_some] <;> rfl) | (simp [*, errW_none, errW_some] <;> rfl), by (with_reducible repeat (first | apply uU | apply uS | apply uT)); exact uX HO_5.out (fun _ hk => trivial), pb HB⟩
    ·replace c29 := Bool.eq_false_iff.mpr c29
     subst c29
     have H1 : (if x5_1.length < 5864062014805 then (some (x5_1 ++ [(⟨a1_0, a1_1, a1_2⟩ : S25)])) else (none)) = some r := by rw [if_neg (show ¬ (false = true) by decide)] at H; first | done | exact H
     clear H
     have H := H1
     clear H1
     by_cases c30 : x5_1.length < 5864062014805
     ·rw [if_pos c30] at H
      have LMc30 := uD c30
      clear c30
      obtain ⟨y251, hy251⟩ : ∃ y_ : List (S25), y_ = (x5_1 ++ [(⟨a1_0, a1_1, a1_2⟩ : S25)]) := ⟨_, rfl⟩
      replace H : (some y251) = some r := by first | (rw [hy251]; with_reducible exact H) | (have H2_ := (Option.bind_some _ _).symm.trans H; rw [hy251]; with_reducible exact H2_) | (have H2_ := (Option.bind_some _ _).symm.trans H; with_reducible exact H2_) | with_reducible exact H | (rw [hy251]; exact H) | exact H
      have Ny251 := uD hy251
      clear hy251
      obtain rfl := Option.some.inj H
      obtain ⟨hcz31_0, hcz31_1, hcz31_2, hfz31_0, hfz31_1, hfz31_2⟩ := cz3 BK247
      go_wp2_with (first | ((with_reducible refine gate_builtin (b := .append) (xs := #[.tmp 40, .tmp 42]) rfl ?_); at_builtin; refine Kd.R_append k25 (w0 := w) w.heap.size rfl (.tmp 40) (.tmp 42) 32 25 (.agg #[(.int .i64 0), (.int .i64 0), (.int .i64 0)]) 24 rfl Tryd.underlying32 info25 rfl (by decide) (by omega) u5 x5_1 (⟨a1_0, a1_1, a1_2⟩ : S25) [.int .i64 a1_0, .int .i64 a1_1, .int .i64 a1_2] (fun k_ => k_ ≠ gb247) (fun _ => False) rfl rfl ?aP (fun _ hk => hk.elim) ?aF ?aO ?aB ?aS ?aL ?_; (case aP => exact k25_mkM _ _ _ (⟨a1_0, a1_1, a1_2⟩ : S25)); (case aB => exact (pb HB)); (case aF => exact (fun k_ hk => Kd.freshB (pk BK247) k_ hk)); (case aO => exact (pr HO_5)); (case aS => exact (uN (pb HB))); (case aL => have := LMc30.out; omega); intro v252 w32 ho hb hg hat; rw [← Ny251.out] at ho; replace BK247 := uD (blk_grown (pk BK247) hg (Kd.R_away HO_5.out (fun _ hk => hk))); replace HB := uD (hb); have HO253 := uD (ho); clear HO_5; clear ho hb hg hat))
      go_ret
      exact ⟨_, by first | rfl | (simp [errW_none, errW_some] <;> rfl) | (simp [*, errW_none, errW_some] <;> rfl), by (with_reducible repeat (first | apply uU | apply uS | apply uT)); exact uX HO253.out (fun _ hk => trivial), pb HB⟩
     ·rw [if_neg c30] at H
      exact absurd H (by simp)

end Go.Proofs.YtnkaimdcdedekaaDoor.PFnNearTags
