-- Written by a program of this session (wip/myprint.py: the kit's print with changes): not by print.sh itself.
import Derived.Test.YtnnimbbffbfhoaaPFnExactMissingx0
import Derived.Test.YtnnimbbffbfhoaaPFnExactMissingx3
import Derived.Test.YtnnimbbffbfhoaaPFnExactMissingx4
import Derived.Test.YtnnimbbffbfhoaaPFnExactMissingx5
import Derived.Test.YtnnimbbffbfhoaaPFnExactMissingx6
namespace Go.Proofs.Ytnnimbbffbfhoaa.PFnExactMissing
open Go.RowKit Go.Proofs.YtnnimbbffbfhoaaW.PrintWords Go.Proofs.YtnnimbbffbfhoaaW.PrintLast Go.Proofs.YtnnimbbffbfhoaaW.PrintMore
attribute [local go_sem] max2_int min2_int max_two min_two max_three min_three max_four min_four   -- for this text's walks alone
set_option linter.unusedVariables false
set_option linter.unusedSimpArgs false

/-! ### spec_Missing: function 30 -/
mutual
def spec_Missing.j0 : Nat → List (S47) → List (S49) → Int → List Int → Bool → Option (List Int)
 | 0, _, _, _, _, _ => none
 | k + 1, x0, x1, x2, x7, x18 => if x18 = true then (some x7) else ((spec_Assign.f k x0 x1).bind fun t192 => (spec_Missing.l0 k x0 x2 x7 t192 0))
def spec_Missing.l0 : Nat → List (S47) → Int → List Int → List Int → Int → Option (List Int)
 | 0, _, _, _, _, _ => none
 | k + 1, x0, x2, x7, x8, x9 => if x9 < (x0.length : Int) then (if 0 ≤ x9 then (if ((rd_T47 x0 x9).f2) < x2 then ((spec_l03Has.f k x8 ((rd_T47 x0 x9).f0)).bind fun t197 => (if t197 = true then (spec_Missing.l0 k x0 x2 x7 x8 (wrap64 (x9 + 1))) else (if x7.length < 17592186044416 then (spec_Missing.l0 k x0 x2 (x7 ++ [(rd_T47 x0 x9).f0]) x8 (wrap64 (x9 + 1))) else (none)))) else (spec_Missing.l0 k x0 x2 x7 x8 (wrap64 (x9 + 1)))) else (none)) else (some x7)
end
def spec_Missing.f (k : Nat) (l0 : List (S47)) (l1 : List (S49)) (a2 : Int) : Option (List Int) := (some (([] : List Int) : List Int)).bind fun y187 => ((spec_ExpectOk.f k l0).bind fun t190 => (if t190 = true then ((spec_SightsOk.f k l1).bind fun t191 => (spec_Missing.j0 k l0 l1 a2 y187 (!t191))) else (spec_Missing.j0 k l0 l1 a2 y187 true)))
theorem spec_Missing.mono_l : ∀ k, (∀ y0 y1 y2 y3 y4, LeO (spec_Missing.j0 k y0 y1 y2 y3 y4) (spec_Missing.j0 (k + 1) y0 y1 y2 y3 y4)) ∧ (∀ y0 y1 y2 y3 y4, LeO (spec_Missing.l0 k y0 y1 y2 y3 y4) (spec_Missing.l0 (k + 1) y0 y1 y2 y3 y4))
 | 0 => ⟨fun _ _ _ _ _ r h => by simp [spec_Missing.j0] at h, fun _ _ _ _ _ r h => by simp [spec_Missing.l0] at h⟩
 | k + 1 => by
  obtain ⟨ih0, ih1⟩ := spec_Missing.mono_l k
  refine ⟨?_, ?_⟩
  ·intro y0 y1 y2 y3 y4
   unfold spec_Missing.j0
   repeat' first
   | (with_reducible exact ih0 _ _ _ _ _)
   | (with_reducible exact ih1 _ _ _ _ _)
   | (with_reducible exact spec_Assign.mono _ _ _)
   | (with_reducible exact spec_ExpectOk.mono _ _)
   | (with_reducible exact spec_SightsOk.mono _ _)
   | (with_reducible exact spec_l03Has.mono _ _ _)
   | (with_reducible exact LeO.refl _)
   | (with_reducible exact LeO.none _)
   | (with_reducible refine LeO.ite ?_ ?_)
   | (with_reducible refine LeO.bind ?_ (fun _ => ?_))
   | exact ih0 _ _ _ _ _
   | exact ih1 _ _ _ _ _
   | exact spec_Assign.mono _ _ _
   | exact spec_ExpectOk.mono _ _
   | exact spec_SightsOk.mono _ _
   | exact spec_l03Has.mono _ _ _
   | exact LeO.none _
   | refine LeO.ite ?_ ?_
   | refine LeO.bind ?_ (fun _ => ?_)
  ·intro y0 y1 y2 y3 y4
   unfold spec_Missing.l0
   repeat' first
   | (with_reducible exact ih0 _ _ _ _ _)
   | (with_reducible exact ih1 _ _ _ _ _)
   | (with_reducible exact spec_Assign.mono _ _ _)
   | (with_reducible exact spec_ExpectOk.mono _ _)
   | (with_reducible exact spec_SightsOk.mono _ _)
   | (with_reducible exact spec_l03Has.mono _ _ _)
   | (with_reducible exact LeO.refl _)
   | (with_reducible exact LeO.none _)
   | (with_reducible refine LeO.ite ?_ ?_)
   | (with_reducible refine LeO.bind ?_ (fun _ => ?_))
   | exact ih0 _ _ _ _ _
   | exact ih1 _ _ _ _ _
   | exact spec_Assign.mono _ _ _
   | exact spec_ExpectOk.mono _ _
   | exact spec_SightsOk.mono _ _
   | exact spec_l03Has.mono _ _ _
   | exact LeO.none _
   | refine LeO.ite ?_ ?_
   | refine LeO.bind ?_ (fun _ => ?_)
theorem spec_Missing.mono : ∀ a0 a1 a2 k, LeO (spec_Missing.f k a0 a1 a2) (spec_Missing.f (k + 1) a0 a1 a2) := by
 intro a0 a1 a2 k
 obtain ⟨ih0, ih1⟩ := spec_Missing.mono_l k
 unfold spec_Missing.f
 repeat' first
   | (with_reducible exact ih0 _ _ _ _ _)
   | (with_reducible exact ih1 _ _ _ _ _)
   | (with_reducible exact spec_Assign.mono _ _ _)
   | (with_reducible exact spec_ExpectOk.mono _ _)
   | (with_reducible exact spec_SightsOk.mono _ _)
   | (with_reducible exact spec_l03Has.mono _ _ _)
   | (with_reducible exact LeO.refl _)
   | (with_reducible exact LeO.none _)
   | (with_reducible refine LeO.ite ?_ ?_)
   | (with_reducible refine LeO.bind ?_ (fun _ => ?_))
   | exact ih0 _ _ _ _ _
   | exact ih1 _ _ _ _ _
   | exact spec_Assign.mono _ _ _
   | exact spec_ExpectOk.mono _ _
   | exact spec_SightsOk.mono _ _
   | exact spec_l03Has.mono _ _ _
   | exact LeO.none _
   | refine LeO.ite ?_ ?_
   | refine LeO.bind ?_ (fun _ => ?_)
set_option maxHeartbeats 8000000 in
set_option maxRecDepth 100000 in
theorem spec_Missing.calls (k : Nat) (A0 : Option Addr) (c0 : Nat) (l0 : List (S47)) (A1 : Option Addr) (c1 : Nat) (l1 : List (S49)) (a2 : Int) (r : List Int) (w : World) (hr0 : Kd.C k47 w A0 l0.length l0) (hc0 : l0.length ≤ c0) (hr1 : Kd.C k49 w A1 l1.length l1) (hc1 : l1.length ≤ c1) (h : spec_Missing.f k l0 l1 a2 = some r) :
  Calls Try.prog 30 #[.slice A0 l0.length c0, .slice A1 l1.length c1, .int .i64 a2] w fun e w' => ∃ v0_ : Value, e = .returned (v0_) ∧ Kd.R (Kd.int .i64) 3 w' w.heap.size (fun _ => True) v0_ r ∧ Below w.heap.size w w' := by
 have HR0 := Aside0.mk hr0
 have HC0 := Aside0.mk hc0
 clear hr0 hc0
 have HR1 := Aside0.mk hr1
 have HC1 := Aside0.mk hc1
 clear hr1 hc1
 have HB := Aside0.mk (Below.refl w.heap.size w)
 have H : ((some (([] : List Int) : List Int)).bind fun y187 => ((spec_ExpectOk.f k l0).bind fun t190 => (if t190 = true then ((spec_SightsOk.f k l1).bind fun t191 => (spec_Missing.j0 k l0 l1 a2 y187 (!t191))) else (spec_Missing.j0 k l0 l1 a2 y187 true)))) = some r := h
 clear h
 obtain ⟨y187, hy187⟩ : ∃ y_ : List Int, y_ = (([] : List Int)) := ⟨_, rfl⟩
 replace H : ((spec_ExpectOk.f k l0).bind fun t190 => (if t190 = true then ((spec_SightsOk.f k l1).bind fun t191 => (spec_Missing.j0 k l0 l1 a2 y187 (!t191))) else (spec_Missing.j0 k l0 l1 a2 y187 true))) = some r := by first | (rw [hy187]; with_reducible exact H) | (have H2_ := (Option.bind_some _ _).symm.trans H; rw [hy187]; with_reducible exact H2_) | (have H2_ := (Option.bind_some _ _).symm.trans H; with_reducible exact H2_) | with_reducible exact H | (rw [hy187]; exact H) | exact H
 have Ny187 := Aside0.mk hy187
 clear hy187
 have HC4 := Aside0.mk H
 clear H
 go_enter Try.func30, Try.ntmps30
 go_upto_region 2 with (first | ((with_reducible refine gate_dst (N := 10) rfl ?_); refine Kd.R_lit (Kd.int .i64) _ 3 ?hg (N := 10) ?hd (xs := ([] : List Int)) (inner := []) (ok := fun _ => True) (okp := fun _ => True) ?hr ?hp (fun _ hk => hk) trivial (Below.refl _ _) (Nat.le_refl _) (by simp) ?_; (case hd => rfl); (case hg => rfl); (case hr => first | (go_simp; done) | (go_simp; rfl)); (case hp => exact (Reps.none _ _)); intro v188 w5 ho6 hb hg_ hnew_; clear hg_ hnew_; (first | rw [← Ny187.out] at ho6 | (simp only [Int.reduceToNat] at ho6; rw [← Ny187.out] at ho6)); have n0_ := Aside0.mk (Kd.R_lower ho6 (below_size (by repeat (first | (with_reducible first | exact HB.out | apply below_alloc | apply pw_below_drewN | apply below_drew1) | exact HB.out)))); have n1_ := Aside0.mk (below_step (by repeat (first | (with_reducible first | exact HB.out | apply below_alloc | apply pw_below_drewN | apply below_drew1) | exact HB.out)) hb); clear HB; have HO189 := n0_; have HB := n1_; clear n0_ n1_; clear hb ho6))
 (try simp only [Act.put, List.setIfInBounds_toArray, List.set_cons_zero, List.set_cons_succ])
 go_cut [18] (fun v18 wc => ∃ (kq : Nat) (x18_3 : Bool), v18 = .bool x18_3 ∧ Aside0 (spec_Missing.j0 kq l0 l1 a2 y187 x18_3 = some r) ∧ Aside0 (kq ≤ k) ∧ Aside0 (Kd.R (Kd.int .i64) 3 wc w.heap.size (fun _ => True) v188 y187) ∧ Aside0 (Below w.heap.size w wc))
 case first =>
  have H := HC4.out
  clear HC4
  replace H := Option.bind_eq_some_iff.mp H
  obtain ⟨t190, A70, H⟩ := H
  replace H : (if t190 = true then ((spec_SightsOk.f k l1).bind fun t191 => (spec_Missing.j0 k l0 l1 a2 y187 (!t191))) else (spec_Missing.j0 k l0 l1 a2 y187 true)) = some r := H
  have A7 := Aside0.mk A70
  clear A70
  by_cases c8 : t190 = true
  ·subst c8
   have H1 : ((spec_SightsOk.f k l1).bind fun t191 => (spec_Missing.j0 k l0 l1 a2 y187 (!t191))) = some r := by rw [if_pos rfl] at H; first | done | exact H
   clear H
   have H := H1
   clear H1
   replace H := Option.bind_eq_some_iff.mp H
   obtain ⟨t191, A90, H⟩ := H
   replace H : (spec_Missing.j0 k l0 l1 a2 y187 (!t191)) = some r := H
   have A9 := Aside0.mk A90
   clear A90
   have H' := Aside0.mk H
   clear H
   go_wp2_with (first | ((with_reducible refine gate_callee (f := 14) rfl ?_); refine goesL_ (some 12) rfl rfl Try.func14 (by kernel_rfl) rfl #[.slice A0 l0.length c0] rfl (by (try simp only [List.map_toArray, List.map_cons, List.map_nil]); first | done | rfl | (simp only [List.length_drop, List.length_take]; rfl)) ?_; (with_reducible refine (spec_ExpectOk.calls k _ _ l0 true _ ?side1 ?side2 A7.out).mono ?_); (case side1 => repeat (first | exact (Kd.C_below HR0.out HB.out) | (with_reducible refine Kd.C_alloc ?_ _) | (with_reducible refine Kd.C_drewN ?_ _) | (with_reducible refine Kd.C_drew ?_))); (case side2 => exact HC0.out); rintro e w' ⟨rfl, ⟨nd, rfl⟩⟩; refine ⟨_, rfl, ?_⟩) | (go_at_call 19; (with_reducible refine (spec_SightsOk.calls k _ _ l1 t191 _ ?side1 ?side2 A9.out).mono ?_); (case side1 => repeat (first | exact (Kd.C_below HR1.out (by repeat (first | (with_reducible first | exact HB.out | apply below_alloc | apply pw_below_drewN | apply below_drew1) | exact HB.out))) | (with_reducible refine Kd.C_alloc ?_ _) | (with_reducible refine Kd.C_drewN ?_ _) | (with_reducible refine Kd.C_drew ?_))); (case side2 => exact HC1.out); rintro e w10 ⟨rfl, hb⟩; have n0_ := Aside0.mk (Kd.R_below (by (with_reducible repeat (first | apply Kd.R_alloc | apply Kd.R_drewN | apply Kd.R_drew)); exact HO189.out) hb); have n1_ := Aside0.mk (below_step (by repeat (first | (with_reducible first | exact HB.out | apply below_alloc | apply pw_below_drewN | apply below_drew1) | exact HB.out)) hb); clear HO189; clear HB; have HO189 := n0_; have HB := n1_; clear n0_ n1_; (try clear hb); (try clear hb2); (try clear hk); (try clear hi)))
   go_meet
   case rel => exact ⟨_, (!t191), (by first | rfl | (simp; done) | (simp [*]; done)), H', ⟨by first | omega | exact Nat.le_refl _⟩, ⟨by (with_reducible repeat (first | apply Kd.R_alloc | apply Kd.R_drewN | apply Kd.R_drew)); exact HO189.out⟩, ⟨by repeat (first | (with_reducible first | exact HB.out | apply below_alloc | apply pw_below_drewN | apply below_drew1) | exact HB.out)⟩⟩
  ·replace c8 := Bool.eq_false_iff.mpr c8
   subst c8
   have H1 : (spec_Missing.j0 k l0 l1 a2 y187 true) = some r := by rw [if_neg (show ¬ (false = true) by decide)] at H; first | done | exact H
   clear H
   have H := H1
   clear H1
   have H' := Aside0.mk H
   clear H
   go_wp2_with (first | ((with_reducible refine gate_callee (f := 14) rfl ?_); refine goesL_ (some 12) rfl rfl Try.func14 (by kernel_rfl) rfl #[.slice A0 l0.length c0] rfl (by (try simp only [List.map_toArray, List.map_cons, List.map_nil]); first | done | rfl | (simp only [List.length_drop, List.length_take]; rfl)) ?_; (with_reducible refine (spec_ExpectOk.calls k _ _ l0 false _ ?side1 ?side2 A7.out).mono ?_); (case side1 => repeat (first | exact (Kd.C_below HR0.out HB.out) | (with_reducible refine Kd.C_alloc ?_ _) | (with_reducible refine Kd.C_drewN ?_ _) | (with_reducible refine Kd.C_drew ?_))); (case side2 => exact HC0.out); rintro e w' ⟨rfl, ⟨nd, rfl⟩⟩; refine ⟨_, rfl, ?_⟩))
   go_meet
   case rel => exact ⟨_, (true), (by first | rfl | (simp; done) | (simp [*]; done)), H', ⟨by first | omega | exact Nat.le_refl _⟩, ⟨by (with_reducible repeat (first | apply Kd.R_alloc | apply Kd.R_drewN | apply Kd.R_drew)); exact HO189.out⟩, ⟨by repeat (first | (with_reducible first | exact HB.out | apply below_alloc | apply pw_below_drewN | apply below_drew1) | exact HB.out)⟩⟩
 case rest =>
  clear HC4
  try clear c1
  try clear p2
  try clear c3
  try clear c8
  obtain ⟨kq, x18_3, rfl, HA, HJ3, HO_7, HB⟩ := hcut
  cases kq with
  | zero => exact absurd HA.out (by simp [spec_Missing.j0])
  | succ kj3 =>
   have H := HA.out
   clear HA
   simp only [spec_Missing.j0] at H
   by_cases c11 : x18_3 = true
   ·subst c11
    have H1 : (some y187) = some r := by rw [if_pos rfl] at H; first | done | exact H
    clear H
    have H := H1
    clear H1
    obtain rfl := Option.some.inj H
    go_wp2
    go_ret
    exact ⟨_, by first | rfl | (simp [errW_none, errW_some] <;> rfl) | (simp [*, errW_none, errW_some] <;> rfl), by (with_reducible repeat (first | apply Kd.R_alloc | apply Kd.R_drewN | apply Kd.R_drew)); exact HO_7.out, by repeat (first | (with_reducible first | exact HB.out | apply below_alloc | apply pw_below_drewN | apply below_drew1) | exact HB.out)⟩
   ·replace c11 := Bool.eq_false_iff.mpr c11
    subst c11
    have H1 : ((spec_Assign.f kj3 l0 l1).bind fun t192 => (spec_Missing.l0 kj3 l0 a2 y187 t192 0)) = some r := by rw [if_neg (show ¬ (false = true) by decide)] at H; first | done | exact H
    clear H
    have H := H1
    clear H1
    replace H := Option.bind_eq_some_iff.mp H
    obtain ⟨t192, A120, H⟩ := H
    replace H : (spec_Missing.l0 kj3 l0 a2 y187 t192 0) = some r := H
    have A12 := Aside0.mk A120
    clear A120
    have H' := Aside0.mk H
    clear H
    go_wp2_with (first | ((with_reducible refine gate_callee (f := 23) rfl ?_); refine goesL_ (some 22) rfl rfl Try.func23 (by kernel_rfl) rfl #[.slice A0 l0.length c0, .slice A1 l1.length c1] rfl (by (try simp only [List.map_toArray, List.map_cons, List.map_nil]); first | done | rfl | (simp only [List.length_drop, List.length_take]; rfl)) ?_; (with_reducible refine (spec_Assign.calls kj3 _ _ l0 _ _ l1 t192 _ ?side1 ?side2 ?side3 ?side4 A12.out).mono ?_); (case side1 => repeat (first | exact (Kd.C_below HR0.out HB.out) | (with_reducible refine Kd.C_alloc ?_ _) | (with_reducible refine Kd.C_drewN ?_ _) | (with_reducible refine Kd.C_drew ?_))); (case side2 => exact HC0.out); (case side3 => repeat (first | exact (Kd.C_below HR1.out HB.out) | (with_reducible refine Kd.C_alloc ?_ _) | (with_reducible refine Kd.C_drewN ?_ _) | (with_reducible refine Kd.C_drew ?_))); (case side4 => exact HC1.out); rintro e w13 ⟨v193, rfl, ho0, hb⟩; refine ⟨_, rfl, ?_⟩; have n0_ := Aside0.mk (Kd.R_elder' (by (with_reducible repeat (first | apply Kd.R_alloc | apply Kd.R_drewN | apply Kd.R_drew)); exact HO_7.out) (Kd.R_base ho0) hb); have n1_ := Aside0.mk (Kd.R_lower (Kd.R_new' ho0 (Kd.R_lt (by (with_reducible repeat (first | apply Kd.R_alloc | apply Kd.R_drewN | apply Kd.R_drew)); exact HO_7.out))) (below_size (by repeat (first | (with_reducible first | exact HB.out | apply below_alloc | apply pw_below_drewN | apply below_drew1) | exact HB.out)))); have n2_ := Aside0.mk (below_step (by repeat (first | (with_reducible first | exact HB.out | apply below_alloc | apply pw_below_drewN | apply below_drew1) | exact HB.out)) hb); clear HO_7; clear HB; have HO_7 := n0_; have HO194 := n1_; have HB := n2_; clear n0_ n1_ n2_; (try clear hb); (try clear hb2); (try clear hk); (try clear hi); (try clear ho0)))
    go_loopg [7, 9] kj3 (fun kq v7 v9 w' => ∃ (x7_2 : List Int) (x9_2 : Int), v9 = .int .i64 x9_2 ∧ Aside0 (spec_Missing.l0 kq l0 a2 x7_2 t192 x9_2 = some r) ∧ Aside0 (kq ≤ kj3) ∧ Aside0 (Kd.R (Kd.int .i64) 3 w' w.heap.size (fun k_ => some k_ ≠ (v193 : Value).ownBlock) v7 x7_2) ∧ Aside0 (Kd.R (Kd.int .i64) 3 w' w.heap.size (fun k_ => some k_ ≠ (v7 : Value).ownBlock) v193 t192) ∧ Aside0 (Below w.heap.size w w'))
    case atStart => exact ⟨(y187), (0), (by first | rfl | (simp; done) | (simp [*]; done)), H', ⟨Nat.le_refl _⟩, ⟨by (with_reducible repeat (first | apply Kd.R_alloc | apply Kd.R_drewN | apply Kd.R_drew)); exact Kd.R_mono HO_7.out (fun _ hk => hk.2)⟩, ⟨by (with_reducible repeat (first | apply Kd.R_alloc | apply Kd.R_drewN | apply Kd.R_drew)); exact Kd.R_mono HO194.out (fun _ hk => hk.2)⟩, ⟨by repeat (first | (with_reducible first | exact HB.out | apply below_alloc | apply pw_below_drewN | apply below_drew1) | exact HB.out)⟩⟩
    case round =>
     clear H'
     try clear c1
     try clear c2
     try clear p2
     try clear c3
     try clear c8
     try clear c11
     try clear p2
     obtain ⟨x7_2, x9_2, rfl, HA, HK2, HO_7, HO_8, HB⟩ := hrel
     cases gk with
     | zero => exact absurd HA.out (by simp [spec_Missing.l0])
     | succ k2 =>
      have H := HA.out
      clear HA
      simp only [spec_Missing.l0] at H
      by_cases c14 : x9_2 < (l0.length : Int)
      ·rw [if_pos c14] at H
       have c14b0 : decide (x9_2 < (l0.length : Int)) = true := decide_eq_true c14
       clear c14
       by_cases c15 : 0 ≤ x9_2
       ·rw [if_pos c15] at H
        have c15b0 : decide (0 ≤ x9_2) = true := decide_eq_true c15
        clear c15
        by_cases c16 : ((rd_T47 l0 x9_2).f2) < a2
        ·rw [if_pos c16] at H
         have c16b0 : decide (((rd_T47 l0 x9_2).f2) < a2) = true := decide_eq_true c16
         clear c16
         replace H := Option.bind_eq_some_iff.mp H
         obtain ⟨t197, A170, H⟩ := H
         replace H : (if t197 = true then (spec_Missing.l0 k2 l0 a2 x7_2 t192 (wrap64 (x9_2 + 1))) else (if x7_2.length < 17592186044416 then (spec_Missing.l0 k2 l0 a2 (x7_2 ++ [(rd_T47 l0 x9_2).f0]) t192 (wrap64 (x9_2 + 1))) else (none))) = some r := H
         have A17 := Aside0.mk A170
         clear A170
         by_cases c18 : t197 = true
         ·subst c18
          have H1 : (spec_Missing.l0 k2 l0 a2 x7_2 t192 (wrap64 (x9_2 + 1))) = some r := by rw [if_pos rfl] at H; first | done | exact H
          clear H
          have H := H1
          clear H1
          have H' := Aside0.mk H
          clear H
          have p195 : 0 ≤ (x9_2 : Int) := of_decide_eq_true (by first | (with_reducible assumption) | assumption)
          have q195 : x9_2 < (l0.length : Int) := of_decide_eq_true (by first | (with_reducible assumption) | assumption)
          obtain ⟨ad195, e195, hx195_0, hx195_1, hx195_2⟩ := at_T47 HR0.out x9_2 p195 q195
          cases e195
          replace hx195_0 := (HB.out.cell (World.block_lt_of_cell? w _ hx195_0)).trans hx195_0
          replace hx195_1 := (HB.out.cell (World.block_lt_of_cell? w _ hx195_1)).trans hx195_1
          replace hx195_2 := (HB.out.cell (World.block_lt_of_cell? w _ hx195_2)).trans hx195_2
          replace p195 := eq_true p195
          replace q195 := eq_true q195
          have p196 : 0 ≤ (x9_2 : Int) := of_decide_eq_true (by first | (with_reducible assumption) | assumption)
          have q196 : x9_2 < (l0.length : Int) := of_decide_eq_true (by first | (with_reducible assumption) | assumption)
          obtain ⟨ad196, e196, hx196_0, hx196_1, hx196_2⟩ := at_T47 HR0.out x9_2 p196 q196
          obtain rfl : ad195 = ad196 := (by injection e196)
          replace hx196_0 := (HB.out.cell (World.block_lt_of_cell? w _ hx196_0)).trans hx196_0
          replace hx196_1 := (HB.out.cell (World.block_lt_of_cell? w _ hx196_1)).trans hx196_1
          replace hx196_2 := (HB.out.cell (World.block_lt_of_cell? w _ hx196_2)).trans hx196_2
          replace p196 := eq_true p196
          replace q196 := eq_true q196
          obtain ⟨Ao19, co19, eo19⟩ := Kd.R_slice HO_8.out
          subst eo19
          go_wp2_with (first | (go_at_call 63; (with_reducible refine (spec_l03Has.calls k2 _ _ t192 ((rd_T47 l0 x9_2).f0) true _ ?side1 ?side2 A17.out).mono ?_); (case side1 => repeat (first | exact (Kd.R_reads' HO_8.out).2.2 | (with_reducible refine Kd.C_alloc ?_ _) | (with_reducible refine Kd.C_drewN ?_ _) | (with_reducible refine Kd.C_drew ?_))); (case side2 => exact (Kd.R_reads' HO_8.out).2.1); rintro e w' ⟨rfl, ⟨nd, rfl⟩⟩))
          go_roundg k2
          case measure => have := HJ3.out; have := HK2.out; omega
          case rel => exact ⟨(x7_2), (wrap64 (x9_2 + 1)), (by first | rfl | (simp; done) | (simp [*]; done)), H', ⟨by have := HJ3.out; have := HK2.out; omega⟩, ⟨by (with_reducible repeat (first | apply Kd.R_alloc | apply Kd.R_drewN | apply Kd.R_drew)); exact HO_7.out⟩, ⟨by (with_reducible repeat (first | apply Kd.R_alloc | apply Kd.R_drewN | apply Kd.R_drew)); exact HO_8.out⟩, ⟨by repeat (first | (with_reducible first | exact HB.out | apply below_alloc | apply pw_below_drewN | apply below_drew1) | exact HB.out)⟩⟩
         ·replace c18 := Bool.eq_false_iff.mpr c18
          subst c18
          have H1 : (if x7_2.length < 17592186044416 then (spec_Missing.l0 k2 l0 a2 (x7_2 ++ [(rd_T47 l0 x9_2).f0]) t192 (wrap64 (x9_2 + 1))) else (none)) = some r := by rw [if_neg (show ¬ (false = true) by decide)] at H; first | done | exact H
          clear H
          have H := H1
          clear H1
          by_cases c20 : x7_2.length < 17592186044416
          ·rw [if_pos c20] at H
           have LMc20 := Aside0.mk c20
           clear c20
           obtain ⟨y199, hy199⟩ : ∃ y_ : List Int, y_ = (x7_2 ++ [(rd_T47 l0 x9_2).f0]) := ⟨_, rfl⟩
           replace H : (spec_Missing.l0 k2 l0 a2 y199 t192 (wrap64 (x9_2 + 1))) = some r := by first | (rw [hy199]; with_reducible exact H) | (have H2_ := (Option.bind_some _ _).symm.trans H; rw [hy199]; with_reducible exact H2_) | (have H2_ := (Option.bind_some _ _).symm.trans H; with_reducible exact H2_) | with_reducible exact H | (rw [hy199]; exact H) | exact H
           have Ny199 := Aside0.mk hy199
           clear hy199
           have H' := Aside0.mk H
           clear H
           have p195 : 0 ≤ (x9_2 : Int) := of_decide_eq_true (by first | (with_reducible assumption) | assumption)
           have q195 : x9_2 < (l0.length : Int) := of_decide_eq_true (by first | (with_reducible assumption) | assumption)
           obtain ⟨ad195, e195, hx195_0, hx195_1, hx195_2⟩ := at_T47 HR0.out x9_2 p195 q195
           cases e195
           replace hx195_0 := (HB.out.cell (World.block_lt_of_cell? w _ hx195_0)).trans hx195_0
           replace hx195_1 := (HB.out.cell (World.block_lt_of_cell? w _ hx195_1)).trans hx195_1
           replace hx195_2 := (HB.out.cell (World.block_lt_of_cell? w _ hx195_2)).trans hx195_2
           replace p195 := eq_true p195
           replace q195 := eq_true q195
           have p196 : 0 ≤ (x9_2 : Int) := of_decide_eq_true (by first | (with_reducible assumption) | assumption)
           have q196 : x9_2 < (l0.length : Int) := of_decide_eq_true (by first | (with_reducible assumption) | assumption)
           obtain ⟨ad196, e196, hx196_0, hx196_1, hx196_2⟩ := at_T47 HR0.out x9_2 p196 q196
           obtain rfl : ad195 = ad196 := (by injection e196)
           replace hx196_0 := (HB.out.cell (World.block_lt_of_cell? w _ hx196_0)).trans hx196_0
           replace hx196_1 := (HB.out.cell (World.block_lt_of_cell? w _ hx196_1)).trans hx196_1
           replace hx196_2 := (HB.out.cell (World.block_lt_of_cell? w _ hx196_2)).trans hx196_2
           replace p196 := eq_true p196
           replace q196 := eq_true q196
           obtain ⟨Ao21, co21, eo21⟩ := Kd.R_slice HO_8.out
           subst eo21
           go_wp2_with (first | (go_at_call 63; (with_reducible refine (spec_l03Has.calls k2 _ _ t192 ((rd_T47 l0 x9_2).f0) false _ ?side1 ?side2 A17.out).mono ?_); (case side1 => repeat (first | exact (Kd.R_reads' HO_8.out).2.2 | (with_reducible refine Kd.C_alloc ?_ _) | (with_reducible refine Kd.C_drewN ?_ _) | (with_reducible refine Kd.C_drew ?_))); (case side2 => exact (Kd.R_reads' HO_8.out).2.1); rintro e w' ⟨rfl, ⟨nd, rfl⟩⟩; have p198 : 0 ≤ (x9_2 : Int) := of_decide_eq_true (by first | (with_reducible assumption) | assumption); have q198 : x9_2 < (l0.length : Int) := of_decide_eq_true (by first | (with_reducible assumption) | assumption); obtain ⟨ad198, e198, hx198_0, hx198_1, hx198_2⟩ := at_T47 HR0.out x9_2 p198 q198; obtain rfl : ad195 = ad198 := (by injection e198); replace hx198_0 := (HB.out.cell (World.block_lt_of_cell? w _ hx198_0)).trans hx198_0; replace hx198_1 := (HB.out.cell (World.block_lt_of_cell? w _ hx198_1)).trans hx198_1; replace hx198_2 := (HB.out.cell (World.block_lt_of_cell? w _ hx198_2)).trans hx198_2; replace p198 := eq_true p198; replace q198 := eq_true q198) | ((with_reducible refine gate_builtin (b := .append) (xs := #[.tmp 46, .tmp 52]) rfl ?_); at_builtin; refine Kd.R_append (Kd.int .i64) (w0 := w) w.heap.size rfl (.tmp 46) (.tmp 52) 36 3 (.int .i64 0) 8 rfl Try.underlying36 info3 rfl (by decide) (by omega) u7 x7_2 ((rd_T47 l0 x9_2).f0) [.int .i64 ((rd_T47 l0 x9_2).f0)] (fun k_ => some k_ ≠ (.slice Ao21 t192.length co21 : Value).ownBlock) (fun _ => False) rfl rfl ?aP (fun _ hk => hk.elim) ?aF ?aO ?aB ?aS ?aL ?_; (case aP => exact rfl); (case aB => exact (by repeat (first | (with_reducible first | exact HB.out | apply below_alloc | apply pw_below_drewN | apply below_drew1) | exact HB.out))); (case aF => exact (fun k_ hk => Kd.fresh' (Kd.R_lt (by (with_reducible repeat (first | apply Kd.R_alloc | apply Kd.R_drewN | apply Kd.R_drew)); exact HO_8.out)) k_ hk)); (case aO => exact (by (with_reducible repeat (first | apply Kd.R_alloc | apply Kd.R_drewN | apply Kd.R_drew)); exact HO_7.out)); (case aS => exact (below_size (by repeat (first | (with_reducible first | exact HB.out | apply below_alloc | apply pw_below_drewN | apply below_drew1) | exact HB.out)))); (case aL => have := LMc20.out; omega); intro v200 w22 ho hb hg hat; rw [← Ny199.out] at ho; have n0_ := Aside0.mk (Kd.R_after (ok := (fun _ => True)) (by (with_reducible repeat (first | apply Kd.R_alloc | apply Kd.R_drewN | apply Kd.R_drew)); exact Kd.R_mono HO_8.out (fun _ hk => ⟨trivial, hk⟩)) hg hat); have n1_ := Aside0.mk (hb); have n2_ := Aside0.mk (ho); clear HO_8; clear HB; clear HO_7; have HO_8 := n0_; have HB := n1_; have HO201 := n2_; clear n0_ n1_ n2_; clear ho hb hg hat))
           go_roundg k2
           case measure => have := HJ3.out; have := HK2.out; omega
           case rel => exact ⟨(y199), (wrap64 (x9_2 + 1)), (by first | rfl | (simp; done) | (simp [*]; done)), H', ⟨by have := HJ3.out; have := HK2.out; omega⟩, ⟨by (with_reducible repeat (first | apply Kd.R_alloc | apply Kd.R_drewN | apply Kd.R_drew)); exact HO201.out⟩, ⟨by (with_reducible repeat (first | apply Kd.R_alloc | apply Kd.R_drewN | apply Kd.R_drew)); exact Kd.R_mono HO_8.out (fun _ hk => hk.2)⟩, ⟨by repeat (first | (with_reducible first | exact HB.out | apply below_alloc | apply pw_below_drewN | apply below_drew1) | exact HB.out)⟩⟩
          ·rw [if_neg c20] at H
           exact absurd H (by simp)
        ·rw [if_neg c16] at H
         have c16b0 : decide (((rd_T47 l0 x9_2).f2) < a2) = false := decide_eq_false c16
         clear c16
         have H' := Aside0.mk H
         clear H
         have p195 : 0 ≤ (x9_2 : Int) := of_decide_eq_true (by first | (with_reducible assumption) | assumption)
         have q195 : x9_2 < (l0.length : Int) := of_decide_eq_true (by first | (with_reducible assumption) | assumption)
         obtain ⟨ad195, e195, hx195_0, hx195_1, hx195_2⟩ := at_T47 HR0.out x9_2 p195 q195
         cases e195
         replace hx195_0 := (HB.out.cell (World.block_lt_of_cell? w _ hx195_0)).trans hx195_0
         replace hx195_1 := (HB.out.cell (World.block_lt_of_cell? w _ hx195_1)).trans hx195_1
         replace hx195_2 := (HB.out.cell (World.block_lt_of_cell? w _ hx195_2)).trans hx195_2
         replace p195 := eq_true p195
         replace q195 := eq_true q195
         go_wp2
         go_roundg k2
         case measure => have := HJ3.out; have := HK2.out; omega
         case rel => exact ⟨(x7_2), (wrap64 (x9_2 + 1)), (by first | rfl | (simp; done) | (simp [*]; done)), H', ⟨by have := HJ3.out; have := HK2.out; omega⟩, ⟨by (with_reducible repeat (first | apply Kd.R_alloc | apply Kd.R_drewN | apply Kd.R_drew)); exact HO_7.out⟩, ⟨by (with_reducible repeat (first | apply Kd.R_alloc | apply Kd.R_drewN | apply Kd.R_drew)); exact HO_8.out⟩, ⟨by repeat (first | (with_reducible first | exact HB.out | apply below_alloc | apply pw_below_drewN | apply below_drew1) | exact HB.out)⟩⟩
       ·rw [if_neg c15] at H
        exact absurd H (by simp)
      ·rw [if_neg c14] at H
       have c14b0 : decide (x9_2 < (l0.length : Int)) = false := decide_eq_false c14
       clear c14
       obtain rfl := Option.some.inj H
       go_wp2
       go_ret
       exact ⟨_, by first | rfl | (simp [errW_none, errW_some] <;> rfl) | (simp [*, errW_none, errW_some] <;> rfl), by (with_reducible repeat (first | apply Kd.R_alloc | apply Kd.R_drewN | apply Kd.R_drew)); exact Kd.R_mono HO_7.out (fun _ hk => trivial), by repeat (first | (with_reducible first | exact HB.out | apply below_alloc | apply pw_below_drewN | apply below_drew1) | exact HB.out)⟩

-- NOT PRINTED: function 101 (impl_Expect_101)

-- NOT PRINTED: function 54 (impl_Expect_54)

/-! ### impl_ExpectOk: function 16 -/
set_option maxHeartbeats 400000 in
theorem impl_ExpectOk.pred (a b c bag : Int) (B : Nat) (W : World) (hc : W.cell? ⟨B, 0, none⟩ = some (.int .i64 bag)) :
    Calls Try.prog 55 #[.agg #[.int .i64 a, .int .i64 b, .int .i64 c], .pointer (some ⟨B, 0, none⟩)] W fun e w' => e = .returned (.bool (a == bag)) ∧ Below W.heap.size W w' := by
  have hlt : B < W.heap.size := World.block_lt_of_cell? W _ hc
  go_enter Try.func55, Try.ntmps55
  go_wp2
  go_ret
  exact ⟨rfl, (Below.refl _ _).alloc (Nat.le_refl _) _⟩
/-- The first index at which p holds; -1 where there is none. -/
def impl_ExpectOk.idx (bag : Int) : List S47 → Int → Int
  | [], _ => -1
  | x :: l, i => if (x.f0 == bag) = true then i else impl_ExpectOk.idx bag l (i + 1)
theorem impl_ExpectOk.idx_any (bag : Int) : ∀ (l : List S47) (i : Int), 0 ≤ i → decide (impl_ExpectOk.idx bag l i ≥ 0) = l.any (fun x => x.f0 == bag)
  | [], i, h => by simp [impl_ExpectOk.idx]
  | x :: l, i, h => by
    unfold impl_ExpectOk.idx
    rw [List.any_cons]
    cases hx : (x.f0 == bag) with
    | true => simp; omega
    | false => simp only [Bool.false_or, Bool.false_eq_true, if_false]; exact impl_ExpectOk.idx_any bag l (i + 1) (by omega)
set_option maxHeartbeats 1000000 in
theorem impl_ExpectOk.index (A : Option Addr) (c : Nat) (l : List S47) (bag : Int) (B : Nat) (w : World) (hr : Kd.C k47 w A l.length l) (hcell : w.cell? ⟨B, 0, none⟩ = some (.int .i64 bag)) :
    Calls Try.prog 101 #[.slice A l.length c, .func (.func 55) #[] #[.pointer (some ⟨B, 0, none⟩)]] w fun e w' => e = .returned (.int .i64 (impl_ExpectOk.idx bag l 0)) ∧ Below w.heap.size w w' := by
  have eg := enters_of Try.func55 (by kernel_rfl) rfl
  have HR := Aside0.mk hr
  have hm : l.length ≤ 9223372036854775807 := hr.2.1
  have HC := Aside0.mk hcell
  clear hr hcell
  go_enter Try.func101, Try.ntmps101
  go_wp2
  go_loopg [5, 8] l.length (fun gg _ v8 wr => ∃ kk : Nat, kk ≤ l.length ∧ l.length - kk ≤ gg ∧ v8 = .int .i64 kk ∧ Aside0 (Below w.heap.size w wr) ∧ Aside0 (impl_ExpectOk.idx bag l 0 = impl_ExpectOk.idx bag (l.drop kk) kk))
  case atStart => exact ⟨0, Nat.zero_le _, by omega, rfl, ⟨Below.refl _ w⟩, ⟨rfl⟩⟩
  case round =>
    obtain ⟨kk, hkk, hg, rfl, HB, HI⟩ := hrel
    by_cases hlt : kk < l.length
    · have h0 : (0 : Int) ≤ (kk : Int) := by omega
      have h1 : (kk : Int) < (l.length : Int) := by omega
      obtain ⟨ad, e1, hx0, hx1, hx2⟩ := at_T47 HR.out kk h0 h1
      cases e1
      simp only [Int.toNat_natCast] at hx0 hx1 hx2
      replace hx0 := pw_cell_below HB.out hx0
      replace hx1 := pw_cell_below HB.out hx1
      replace hx2 := pw_cell_below HB.out hx2
      have hcb := pw_cell_below HB.out HC.out
      have hp := impl_ExpectOk.pred (rd_T47 l kk).f0 (rd_T47 l kk).f1 (rd_T47 l kk).f2 bag B wr hcb
      have hd : l.drop kk = rd_T47 l kk :: l.drop (kk + 1) := by
        rw [List.drop_eq_getElem_cons hlt]
        simp [rd_T47, List.getD_eq_getElem?_getD, List.getElem?_eq_getElem hlt]
      have HD := Aside0.mk hd
      clear hd hcb
      cases hq : ((rd_T47 l kk).f0 == bag) with
      | true =>
        rw [hq] at hp
        have HQ := Aside0.mk hq
        clear hq
        go_wp2_with (go_at_call 55; refine hp.mono ?_; rintro e w' ⟨rfl, hb'⟩)
        go_ret
        refine ⟨?_, below_step HB.out hb'⟩
        rw [HI.out, HD.out, impl_ExpectOk.idx, if_pos HQ.out]
        rfl
      | false =>
        rw [hq] at hp
        have HQ := Aside0.mk hq
        clear hq
        go_wp2_with (go_at_call 55; refine hp.mono ?_; rintro e w' ⟨rfl, hb'⟩)
        go_roundg (l.length - (kk + 1))
        case measure => omega
        case rel =>
          refine ⟨kk + 1, by omega, by omega, by go_num, ⟨below_step HB.out hb'⟩, ⟨?_⟩⟩
          rw [HI.out, HD.out, impl_ExpectOk.idx, if_neg (by rw [HQ.out]; decide)]
          rfl
    · have : kk = l.length := by omega
      subst this
      go_wp2
      go_ret
      refine ⟨?_, HB.out⟩
      rw [HI.out, List.drop_eq_nil_of_le (Nat.le_refl _)]
      rfl

set_option maxHeartbeats 1000000 in
theorem impl_ExpectOk.contains (A : Option Addr) (c : Nat) (l : List S47) (bag : Int) (B : Nat) (w : World) (hr : Kd.C k47 w A l.length l) (hcell : w.cell? ⟨B, 0, none⟩ = some (.int .i64 bag)) :
    Calls Try.prog 54 #[.slice A l.length c, .func (.func 55) #[] #[.pointer (some ⟨B, 0, none⟩)]] w fun e w' => e = .returned (.bool (l.any (fun x => x.f0 == bag))) ∧ Below w.heap.size w w' := by
  have hi := impl_ExpectOk.index A c l bag B w hr hcell
  rw [← impl_ExpectOk.idx_any bag l 0 (by omega)]
  clear hr hcell
  go_enter Try.func54, Try.ntmps54
  go_wp2_with (go_at_call 101; refine hi.mono ?_; rintro e w' ⟨rfl, hb'⟩)
  go_ret
  exact ⟨rfl, hb'⟩
/-- Elements behind some that are met. -/
def impl_ExpectOk.go : List S47 → List S47 → Bool
  | _, [] => true
  | seen, x :: l => if x.f0 < 1 ∨ x.f1 < 0 ∨ x.f2 < x.f1 ∨ x.f2 > 100000 ∨ seen.any (fun y => y.f0 == x.f0) = true then false else impl_ExpectOk.go (seen ++ [x]) l
def impl_ExpectOk.f (l0 : List S47) : Option Bool := some (impl_ExpectOk.go [] l0 && decide ((l0.length : Int) ≤ 6))
set_option maxHeartbeats 2000000 in
theorem impl_ExpectOk.calls (A0 : Option Addr) (c0 : Nat) (l0 : List S47) (r : Bool) (w : World) (hr0 : Kd.C k47 w A0 l0.length l0) (hc0 : l0.length ≤ c0) (h : impl_ExpectOk.f l0 = some r) :
    Calls Try.prog 16 #[.slice A0 l0.length c0] w fun e w' => e = .returned (.bool r) ∧ Below w.heap.size w w' := by
  have HH := Aside0.mk (Option.some.inj h)
  have hcon := fun A c l B W h1 h2 => impl_ExpectOk.contains A c l (rd_T47 l0 0).f0 B W h1 h2
  clear h hcon
  have HR := Aside0.mk hr0
  have HC := Aside0.mk hc0
  have hm : l0.length ≤ 9223372036854775807 := hr0.2.1
  clear hr0 hc0
  go_enter Try.func16, Try.ntmps16
  go_wp2
  go_loopg [3, 4, 7] l0.length (fun gg _ _ v7 wr => ∃ kk : Nat, kk ≤ l0.length ∧ l0.length - kk ≤ gg ∧ v7 = .int .i64 kk ∧ Aside0 (Below w.heap.size w wr) ∧ Aside0 (impl_ExpectOk.go [] l0 = impl_ExpectOk.go (l0.take kk) (l0.drop kk)))
  case atStart => exact ⟨0, Nat.zero_le _, by omega, rfl, ⟨Below.refl _ w⟩, ⟨rfl⟩⟩
  case round =>
    obtain ⟨kk, hkk, hg, rfl, HB, HI⟩ := hrel
    by_cases hlt : kk < l0.length
    · have h0 : (0 : Int) ≤ (kk : Int) := by omega
      have h1 : (kk : Int) < (l0.length : Int) := by omega
      obtain ⟨ad, e1, hx0, hx1, hx2⟩ := at_T47 HR.out kk h0 h1
      cases e1
      simp only [Int.toNat_natCast] at hx0 hx1 hx2
      replace hx0 := pw_cell_below HB.out hx0
      replace hx1 := pw_cell_below HB.out hx1
      replace hx2 := pw_cell_below HB.out hx2
      have hd : l0.drop kk = rd_T47 l0 kk :: l0.drop (kk + 1) := by
        rw [List.drop_eq_getElem_cons hlt]
        simp [rd_T47, List.getD_eq_getElem?_getD, List.getElem?_eq_getElem hlt]
      have ht : l0.take (kk + 1) = l0.take kk ++ [rd_T47 l0 kk] := by
        rw [List.take_succ_eq_append_getElem hlt]
        simp [rd_T47, List.getD_eq_getElem?_getD, List.getElem?_eq_getElem hlt]
      have hkc : kk ≤ c0 := by have := HC.out; omega
      have HD := Aside0.mk hd
      have HT := Aside0.mk ht
      have htl : (l0.take kk).length = kk := by simp; omega
      have hcr : Kd.C k47 wr (some ad) kk (l0.take kk) := by
        have := Kd.C_take (m := kk) (Kd.C_below HR.out HB.out) (by omega)
        rwa [htl] at this
      have hw : ∀ (a b c : Int), Below wr.heap.size wr (wr.alloc (.cells #[.int .i64 a, .int .i64 b, .int .i64 c] 47)) := fun a b c => (Below.refl _ _).alloc (Nat.le_refl _) _
      have hcon : ∀ (a b c : Int), Calls Try.prog 54 #[.slice (some ad) kk c0, .func (.func 55) #[] #[.pointer (some ⟨wr.heap.size, 0, none⟩)]] (wr.alloc (.cells #[.int .i64 a, .int .i64 b, .int .i64 c] 47)) fun e w' => e = .returned (.bool ((l0.take kk).any (fun x => x.f0 == a))) ∧ Below (wr.alloc (.cells #[.int .i64 a, .int .i64 b, .int .i64 c] 47)).heap.size (wr.alloc (.cells #[.int .i64 a, .int .i64 b, .int .i64 c] 47)) w' := by
        intro a b c
        have hh := impl_ExpectOk.contains (some ad) c0 (l0.take kk) a wr.heap.size (wr.alloc (.cells #[.int .i64 a, .int .i64 b, .int .i64 c] 47)) (by rw [htl]; exact Kd.C_below hcr (hw a b c)) (by go_simp)
        rw [htl] at hh
        exact hh
      have HCON := Aside0.mk hcon
      have HW := Aside0.mk hw
      clear hd ht htl hcr hcon hw
      by_cases c1 : (rd_T47 l0 kk).f0 < 1
      · have b1 : decide ((rd_T47 l0 kk).f0 < 1) = true := decide_eq_true c1
        have C1 := Aside0.mk c1
        clear c1
        go_wp2
        go_ret
        refine ⟨?_, below_step HB.out (HW.out _ _ _)⟩
        rw [← HH.out, HI.out, HD.out, impl_ExpectOk.go, if_pos (.inl C1.out)]
        rfl
      · have b1 : decide ((rd_T47 l0 kk).f0 < 1) = false := decide_eq_false c1
        have C1 := Aside0.mk c1
        clear c1
        by_cases c2 : (rd_T47 l0 kk).f1 < 0
        · have b2 : decide ((rd_T47 l0 kk).f1 < 0) = true := decide_eq_true c2
          have C2 := Aside0.mk c2
          clear c2
          go_wp2
          go_ret
          refine ⟨?_, below_step HB.out (HW.out _ _ _)⟩
          rw [← HH.out, HI.out, HD.out, impl_ExpectOk.go, if_pos (.inr (.inl C2.out))]
          rfl
        · have b2 : decide ((rd_T47 l0 kk).f1 < 0) = false := decide_eq_false c2
          have C2 := Aside0.mk c2
          clear c2
          by_cases c3 : (rd_T47 l0 kk).f2 < (rd_T47 l0 kk).f1
          · have b3 : decide ((rd_T47 l0 kk).f2 < (rd_T47 l0 kk).f1) = true := decide_eq_true c3
            have C3 := Aside0.mk c3
            clear c3
            go_wp2
            go_ret
            refine ⟨?_, below_step HB.out (HW.out _ _ _)⟩
            rw [← HH.out, HI.out, HD.out, impl_ExpectOk.go, if_pos (.inr (.inr (.inl C3.out)))]
            rfl
          · have b3 : decide ((rd_T47 l0 kk).f2 < (rd_T47 l0 kk).f1) = false := decide_eq_false c3
            have C3 := Aside0.mk c3
            clear c3
            by_cases c4 : 100000 < (rd_T47 l0 kk).f2
            · have b4 : decide (100000 < (rd_T47 l0 kk).f2) = true := decide_eq_true c4
              have C4 := Aside0.mk c4
              clear c4
              go_wp2
              go_ret
              refine ⟨?_, below_step HB.out (HW.out _ _ _)⟩
              rw [← HH.out, HI.out, HD.out, impl_ExpectOk.go, if_pos (.inr (.inr (.inr (.inl C4.out))))]
              rfl
            · have b4 : decide (100000 < (rd_T47 l0 kk).f2) = false := decide_eq_false c4
              have C4 := Aside0.mk c4
              clear c4
              have hcc := HCON.out (rd_T47 l0 kk).f0 (rd_T47 l0 kk).f1 (rd_T47 l0 kk).f2
              cases hq : (l0.take kk).any (fun x => x.f0 == (rd_T47 l0 kk).f0) with
              | true =>
                rw [hq] at hcc
                have HQ := Aside0.mk hq
                clear hq
                go_wp2_with (go_at_call 54; refine hcc.mono ?_; rintro e w' ⟨rfl, hb'⟩)
                go_ret
                refine ⟨?_, below_step (below_step HB.out (HW.out _ _ _)) hb'⟩
                rw [← HH.out, HI.out, HD.out, impl_ExpectOk.go, if_pos (.inr (.inr (.inr (.inr HQ.out))))]
                rfl
              | false =>
                rw [hq] at hcc
                have HQ := Aside0.mk hq
                clear hq
                go_wp2_with (go_at_call 54; refine hcc.mono ?_; rintro e w' ⟨rfl, hb'⟩)
                go_roundg (l0.length - (kk + 1))
                case measure => omega
                case rel =>
                  refine ⟨kk + 1, by omega, by omega, by go_num, ⟨below_step (below_step HB.out (HW.out _ _ _)) hb'⟩, ⟨?_⟩⟩
                  rw [HI.out, HD.out, impl_ExpectOk.go, HT.out, if_neg]
                  rintro (h | h | h | h | h)
                  · have := C1.out; omega
                  · have := C2.out; omega
                  · have := C3.out; omega
                  · have := C4.out; omega
                  · rw [HQ.out] at h; cases h
    · have : kk = l0.length := by omega
      subst this
      go_wp2
      go_ret
      refine ⟨?_, HB.out⟩
      rw [← HH.out, HI.out, List.drop_eq_nil_of_le (Nat.le_refl _), impl_ExpectOk.go]
      simp

/-! ### impl_isTick: function 59 -/
def impl_isTick.f (a0 : Int) : Option (Bool) := if a0 ≥ 0 then (some (decide (a0 ≤ 100000))) else (some false)
set_option maxHeartbeats 8000000 in
set_option maxRecDepth 100000 in
theorem impl_isTick.calls (a0 : Int) (r : Bool) (w : World) (h : impl_isTick.f a0 = some r) :
  Calls Try.prog 59 #[.int .i64 a0] w fun e w' => e = .returned (.bool r) ∧ Drawn0 w w' := by
 have H : (if a0 ≥ 0 then (some (decide (a0 ≤ 100000))) else (some false)) = some r := h
 clear h
 by_cases c2 : a0 ≥ 0
 ·rw [if_pos c2] at H
  have c2b0 : decide (0 ≤ a0) = true := decide_eq_true c2
  clear c2
  obtain rfl := Option.some.inj H
  go_enter Try.func59, Try.ntmps59
  go_wp2
  go_ret
  exact ⟨by first | rfl | (simp; done) | (simp [*]; done), by repeat (first | exact Drawn0.refl _ | apply Drawn0.step)⟩
 ·rw [if_neg c2] at H
  have c2b0 : decide (0 ≤ a0) = false := decide_eq_false c2
  clear c2
  obtain rfl := Option.some.inj H
  go_enter Try.func59, Try.ntmps59
  go_wp2
  go_ret
  exact ⟨by first | rfl | (simp; done) | (simp [*]; done), by repeat (first | exact Drawn0.refl _ | apply Drawn0.step)⟩

-- NOT PRINTED: function 112 (impl_Sight_112)

-- NOT PRINTED: function 102 (impl_Sight_102)

/-! ### impl_isNamed: function 60 -/
set_option maxHeartbeats 400000 in
theorem impl_isNamed.pred (a b bag : Int) (B : Nat) (W : World) (hc : W.cell? ⟨B, 0, none⟩ = some (.int .i64 bag)) :
    Calls Try.prog 103 #[.agg #[.int .i64 a, .int .i64 b], .pointer (some ⟨B, 0, none⟩)] W fun e w' => e = .returned (.bool (b == bag)) ∧ Below W.heap.size W w' := by
  have hlt : B < W.heap.size := World.block_lt_of_cell? W _ hc
  go_enter Try.func103, Try.ntmps103
  go_wp2
  go_ret
  exact ⟨rfl, (Below.refl _ _).alloc (Nat.le_refl _) _⟩
/-- The first index at which p holds; -1 where there is none. -/
def impl_isNamed.idx (bag : Int) : List S49 → Int → Int
  | [], _ => -1
  | x :: l, i => if (x.f1 == bag) = true then i else impl_isNamed.idx bag l (i + 1)
theorem impl_isNamed.idx_any (bag : Int) : ∀ (l : List S49) (i : Int), 0 ≤ i → decide (impl_isNamed.idx bag l i ≥ 0) = l.any (fun x => x.f1 == bag)
  | [], i, h => by simp [impl_isNamed.idx]
  | x :: l, i, h => by
    unfold impl_isNamed.idx
    rw [List.any_cons]
    cases hx : (x.f1 == bag) with
    | true => simp; omega
    | false => simp only [Bool.false_or, Bool.false_eq_true, if_false]; exact impl_isNamed.idx_any bag l (i + 1) (by omega)
set_option maxHeartbeats 1000000 in
theorem impl_isNamed.index (A : Option Addr) (c : Nat) (l : List S49) (bag : Int) (B : Nat) (w : World) (hr : Kd.C k49 w A l.length l) (hcell : w.cell? ⟨B, 0, none⟩ = some (.int .i64 bag)) :
    Calls Try.prog 112 #[.slice A l.length c, .func (.func 103) #[] #[.pointer (some ⟨B, 0, none⟩)]] w fun e w' => e = .returned (.int .i64 (impl_isNamed.idx bag l 0)) ∧ Below w.heap.size w w' := by
  have eg := enters_of Try.func103 (by kernel_rfl) rfl
  have HR := Aside0.mk hr
  have hm : l.length ≤ 9223372036854775807 := hr.2.1
  have HC := Aside0.mk hcell
  clear hr hcell
  go_enter Try.func112, Try.ntmps112
  go_wp2
  go_loopg [5, 8] l.length (fun gg _ v8 wr => ∃ kk : Nat, kk ≤ l.length ∧ l.length - kk ≤ gg ∧ v8 = .int .i64 kk ∧ Aside0 (Below w.heap.size w wr) ∧ Aside0 (impl_isNamed.idx bag l 0 = impl_isNamed.idx bag (l.drop kk) kk))
  case atStart => exact ⟨0, Nat.zero_le _, by omega, rfl, ⟨Below.refl _ w⟩, ⟨rfl⟩⟩
  case round =>
    obtain ⟨kk, hkk, hg, rfl, HB, HI⟩ := hrel
    by_cases hlt : kk < l.length
    · have h0 : (0 : Int) ≤ (kk : Int) := by omega
      have h1 : (kk : Int) < (l.length : Int) := by omega
      obtain ⟨ad, e1, hx0, hx1⟩ := at_T49 HR.out kk h0 h1
      cases e1
      simp only [Int.toNat_natCast] at hx0 hx1
      replace hx0 := pw_cell_below HB.out hx0
      replace hx1 := pw_cell_below HB.out hx1
      have hcb := pw_cell_below HB.out HC.out
      have hp := impl_isNamed.pred (rd_T49 l kk).f0 (rd_T49 l kk).f1 bag B wr hcb
      have hd : l.drop kk = rd_T49 l kk :: l.drop (kk + 1) := by
        rw [List.drop_eq_getElem_cons hlt]
        simp [rd_T49, List.getD_eq_getElem?_getD, List.getElem?_eq_getElem hlt]
      have HD := Aside0.mk hd
      clear hd hcb
      cases hq : ((rd_T49 l kk).f1 == bag) with
      | true =>
        rw [hq] at hp
        have HQ := Aside0.mk hq
        clear hq
        go_wp2_with (go_at_call 103; refine hp.mono ?_; rintro e w' ⟨rfl, hb'⟩)
        go_ret
        refine ⟨?_, below_step HB.out hb'⟩
        rw [HI.out, HD.out, impl_isNamed.idx, if_pos HQ.out]
        rfl
      | false =>
        rw [hq] at hp
        have HQ := Aside0.mk hq
        clear hq
        go_wp2_with (go_at_call 103; refine hp.mono ?_; rintro e w' ⟨rfl, hb'⟩)
        go_roundg (l.length - (kk + 1))
        case measure => omega
        case rel =>
          refine ⟨kk + 1, by omega, by omega, by go_num, ⟨below_step HB.out hb'⟩, ⟨?_⟩⟩
          rw [HI.out, HD.out, impl_isNamed.idx, if_neg (by rw [HQ.out]; decide)]
          rfl
    · have : kk = l.length := by omega
      subst this
      go_wp2
      go_ret
      refine ⟨?_, HB.out⟩
      rw [HI.out, List.drop_eq_nil_of_le (Nat.le_refl _)]
      rfl

set_option maxHeartbeats 1000000 in
theorem impl_isNamed.contains (A : Option Addr) (c : Nat) (l : List S49) (bag : Int) (B : Nat) (w : World) (hr : Kd.C k49 w A l.length l) (hcell : w.cell? ⟨B, 0, none⟩ = some (.int .i64 bag)) :
    Calls Try.prog 102 #[.slice A l.length c, .func (.func 103) #[] #[.pointer (some ⟨B, 0, none⟩)]] w fun e w' => e = .returned (.bool (l.any (fun x => x.f1 == bag))) ∧ Below w.heap.size w w' := by
  have hi := impl_isNamed.index A c l bag B w hr hcell
  rw [← impl_isNamed.idx_any bag l 0 (by omega)]
  clear hr hcell
  go_enter Try.func102, Try.ntmps102
  go_wp2_with (go_at_call 112; refine hi.mono ?_; rintro e w' ⟨rfl, hb'⟩)
  go_ret
  exact ⟨rfl, hb'⟩
def impl_isNamed.f (l0 : List S49) (a1 : Int) : Option Bool := some (l0.any (fun x => x.f1 == a1))
set_option maxHeartbeats 1000000 in
theorem impl_isNamed.calls (A0 : Option Addr) (c0 : Nat) (l0 : List S49) (a1 : Int) (r : Bool) (w : World) (hr0 : Kd.C k49 w A0 l0.length l0) (hc0 : l0.length ≤ c0) (h : impl_isNamed.f l0 a1 = some r) :
    Calls Try.prog 60 #[.slice A0 l0.length c0, .int .i64 a1] w fun e w' => e = .returned (.bool r) ∧ Below w.heap.size w w' := by
  obtain rfl : l0.any (fun x => x.f1 == a1) = r := Option.some.inj h
  clear h
  have hcon := fun W h1 h2 => impl_isNamed.contains A0 c0 l0 a1 w.heap.size W h1 h2
  have HR := Aside0.mk hr0
  clear hr0 hc0
  go_enter Try.func60, Try.ntmps60
  go_wp2_with (go_at_call 102; refine (hcon _ ?_ ?_).mono ?_)
  · exact Kd.C_below HR.out ((Below.refl _ _).alloc (Nat.le_refl _) _)
  · go_simp
  · rintro e w' ⟨rfl, hb'⟩
    go_wp2
    go_ret
    exact ⟨rfl, below_step ((Below.refl _ _).alloc (Nat.le_refl _) _) hb'⟩

end Go.Proofs.Ytnnimbbffbfhoaa.PFnExactMissing
