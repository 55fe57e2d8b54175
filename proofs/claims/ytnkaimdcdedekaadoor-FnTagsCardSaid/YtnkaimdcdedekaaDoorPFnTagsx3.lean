-- Written by a program of this session (wip/myprint.py: the kit's print with changes): not by print.sh itself.
import Derived.Test.YtnkaimdcdedekaaDoorPFnTagsx0
import Derived.Test.YtnkaimdcdedekaaDoorPFnTagsx2
namespace Go.Proofs.YtnkaimdcdedekaaDoor.PFnTags
open Go.RowKit Go.Proofs.YtnkaimdcdedekaaDoorW.PrintWords Go.Proofs.YtnkaimdcdedekaaDoorW.PrintLast Go.Proofs.YtnkaimdcdedekaaDoorW.PrintMore
open Go renaming Act.put → uc
open Go.Proofs.YtnkaimdcdedekaaDoorW.PrintLast renaming i64_w → uZ, i32_w → ua, pure_ → ub
open Go.Proofs.YtnkaimdcdedekaaDoorW.PrintWords renaming Aside0.mk → uD, blk_cell → uF, blk_drew → uJ, below_drew1 → uK, below_set → uM, below_size → uN, below_step → uO, blk_put → uP, Kd.R_drewN → uS, Kd.R_drew → uT, Kd.R_alloc → uU, Kd.R_far → uV, Kd.R_mono → uX
open List renaming setIfInBounds_toArray → uA, set_cons_zero → uB, set_cons_succ → uC
open Bool renaming true → T, false → F
attribute [local go_sem] max2_int min2_int max_two min_two max_three min_three max_four min_four   -- for this text's walks alone
set_option linter.unusedVariables false
set_option linter.unusedSimpArgs false

/-! ### spec_Candidates: function 20 -/
theorem spec_Candidates.info : (Tryd.prog.info? 25).map (fun i => (i.zero, i.size, i.bytes)) = some (some (.agg #[(.int .i64 0), (.int .i64 0), (.int .i64 0)]), 3, 24) := by kernel_rfl
mutual
def spec_Candidates.j0 : Nat → ByteArray → Bool → Option ((List (S25)) × Bool)
 | 0, _, _ => none
 | k + 1, x0, x23 => if x23 = true then (some ((([] : List (S25))), false)) else (spec_Candidates.l0 k x0 0 0)
def spec_Candidates.l0 : Nat → ByteArray → Int → Int → Option ((List (S25)) × Bool)
 | 0, _, _, _ => none
 | k + 1, x0, x4, x5 => if x5 < 12 then (if 0 ≤ x5 then (if x5 < (x0.size : Int) then (if (bt x0 x5) = 63 then (spec_Candidates.l0 k x0 (wrap64 (x4 + 1)) (wrap64 (x5 + 1))) else (if x5 = 10 then (spec_Candidates.l0 k x0 x4 (wrap64 (x5 + 1))) else (if (bt x0 x5) < 48 then (some ((([] : List (S25))), false)) else (if (bt x0 x5) > 57 then (some ((([] : List (S25))), false)) else (spec_Candidates.l0 k x0 x4 (wrap64 (x5 + 1))))))) else (none)) else (none)) else (if x4 > 3 then (some ((([] : List (S25))), false)) else (spec_Candidates.l1 k x0 x4 1 0))
def spec_Candidates.l1 : Nat → ByteArray → Int → Int → Int → Option ((List (S25)) × Bool)
 | 0, _, _, _, _ => none
 | k + 1, x0, x4, x6, x7 => if x7 < x4 then (spec_Candidates.l1 k x0 x4 (wrap64 (x6 * 10)) (wrap64 (x7 + 1))) else (spec_Candidates.l2 k x0 x6 (([] : List (S25))) 0)
def spec_Candidates.l2 : Nat → ByteArray → Int → List (S25) → Int → Option ((List (S25)) × Bool)
 | 0, _, _, _, _ => none
 | k + 1, x0, x6, x8, x9 => if x9 < x6 then (spec_Candidates.l3 k x0 x6 x8 x9 (numsOf x0) x9 11) else (some (x8, true))
def spec_Candidates.l3 : Nat → ByteArray → Int → List (S25) → Int → List Int → Int → Int → Option ((List (S25)) × Bool)
 | 0, _, _, _, _, _, _, _ => none
 | k + 1, x0, x6, x8, x9, x10, x11, x12 => if x12 ≥ 0 then (if 0 ≤ x12 then (if x12 < (x10.length : Int) then (if (rd x10 x12) = 63 then (spec_Candidates.l3 k x0 x6 x8 x9 (x10.set (x12 : Int).toNat ((wrap64 (48 + (Int.tmod x11 10))) % 256)) (wrap64 (Int.tdiv x11 10)) (wrap64 (x12 - 1))) else (spec_Candidates.l3 k x0 x6 x8 x9 x10 x11 (wrap64 (x12 - 1)))) else (none)) else (none)) else (spec_Candidates.l4 k x0 x6 x8 x9 x10 0 0)
def spec_Candidates.l4 : Nat → ByteArray → Int → List (S25) → Int → List Int → Int → Int → Option ((List (S25)) × Bool)
 | 0, _, _, _, _, _, _, _ => none
 | k + 1, x0, x6, x8, x9, x10, x13, x14 => if x14 < 10 then (if 0 ≤ x14 then (if x14 < (x10.length : Int) then (spec_Candidates.l4 k x0 x6 x8 x9 x10 (wrap64 ((wrap64 ((wrap64 (10 * x13)) + (wrap64 (rd x10 x14)))) - 48)) (wrap64 (x14 + 1))) else (none)) else (none)) else ((spec_l01OfNumber.f x13).bind fun bt144 => ((spec_FormatTag.f k bt144.1 bt144.2.1 bt144.2.2).bind fun t148 => (if t148.toList = (strOfNums x10).toList then (if x8.length < 5864062014805 then (spec_Candidates.l2 k x0 x6 (x8 ++ [(⟨bt144.1, bt144.2.1, bt144.2.2⟩ : S25)]) (wrap64 (x9 + 1))) else (none)) else (spec_Candidates.l2 k x0 x6 x8 (wrap64 (x9 + 1))))))
end
def spec_Candidates.f (k : Nat) (a0 : ByteArray) : Option ((List (S25)) × Bool) := if (a0.size : Int) = 12 then (if 10 < (a0.size : Int) then (spec_Candidates.j0 k a0 ((bt a0 10) != 45)) else (none)) else (spec_Candidates.j0 k a0 true)
theorem spec_Candidates.mono_l : ∀ k, (∀ y0 y1, LeO (spec_Candidates.j0 k y0 y1) (spec_Candidates.j0 (k + 1) y0 y1)) ∧ (∀ y0 y1 y2, LeO (spec_Candidates.l0 k y0 y1 y2) (spec_Candidates.l0 (k + 1) y0 y1 y2)) ∧ (∀ y0 y1 y2 y3, LeO (spec_Candidates.l1 k y0 y1 y2 y3) (spec_Candidates.l1 (k + 1) y0 y1 y2 y3)) ∧ (∀ y0 y1 y2 y3, LeO (spec_Candidates.l2 k y0 y1 y2 y3) (spec_Candidates.l2 (k + 1) y0 y1 y2 y3)) ∧ (∀ y0 y1 y2 y3 y4 y5 y6, LeO (spec_Candidates.l3 k y0 y1 y2 y3 y4 y5 y6) (spec_Candidates.l3 (k + 1) y0 y1 y2 y3 y4 y5 y6)) ∧ (∀ y0 y1 y2 y3 y4 y5 y6, LeO (spec_Candidates.l4 k y0 y1 y2 y3 y4 y5 y6) (spec_Candidates.l4 (k + 1) y0 y1 y2 y3 y4 y5 y6))
 | 0 => ⟨fun _ _ r h => by simp [spec_Candidates.j0] at h, fun _ _ _ r h => by simp [spec_Candidates.l0] at h, fun _ _ _ _ r h => by simp [spec_Candidates.l1] at h, fun _ _ _ _ r h => by simp [spec_Candidates.l2] at h, fun _ _ _ _ _ _ _ r h => by simp [spec_Candidates.l3] at h, fun _ _ _ _ _ _ _ r h => by simp [spec_Candidates.l4] at h⟩
 | k + 1 => by
  obtain ⟨ih0, ih1, ih2, ih3, ih4, ih5⟩ := spec_Candidates.mono_l k
  refine ⟨?_, ?_, ?_, ?_, ?_, ?_⟩
  ·intro y0 y1
   unfold spec_Candidates.j0
   repeat' first
   | (with_reducible exact ih0 _ _)
   | (with_reducible exact ih1 _ _ _)
   | (with_reducible exact ih2 _ _ _ _)
   | (with_reducible exact ih3 _ _ _ _)
   | (with_reducible exact ih4 _ _ _ _ _ _ _)
   | (with_reducible exact ih5 _ _ _ _ _ _ _)
   | (with_reducible exact spec_FormatTag.mono _ _ _ _)
   | (with_reducible exact LeO.refl _)
   | (with_reducible exact LeO.none _)
   | (with_reducible refine LeO.ite ?_ ?_)
   | (with_reducible refine LeO.bind ?_ (fun _ => ?_))
   | exact ih0 _ _
   | exact ih1 _ _ _
   | exact ih2 _ _ _ _
   | exact ih3 _ _ _ _
   | exact ih4 _ _ _ _ _ _ _
   | exact ih5 _ _ _ _ _ _ _
   | exact spec_FormatTag.mono _ _ _ _
   | exact LeO.none _
   | refine LeO.ite ?_ ?_
   | refine LeO.bind ?_ (fun _ => ?_)
  ·intro y0 y1 y2
   unfold spec_Candidates.l0
   repeat' first
   | (with_reducible exact ih0 _ _)
   | (with_reducible exact ih1 _ _ _)
   | (with_reducible exact ih2 _ _ _ _)
   | (with_reducible exact ih3 _ _ _ _)
   | (with_reducible exact ih4 _ _ _ _ _ _ _)
   | (with_reducible exact ih5 _ _ _ _ _ _ _)
   | (with_reducible exact spec_FormatTag.mono _ _ _ _)
   | (with_reducible exact LeO.refl _)
   | (with_reducible exact LeO.none _)
   | (with_reducible refine LeO.ite ?_ ?_)
   | (with_reducible refine LeO.bind ?_ (fun _ => ?_))
   | exact ih0 _ _
   | exact ih1 _ _ _
   | exact ih2 _ _ _ _
   | exact ih3 _ _ _ _
   | exact ih4 _ _ _ _ _ _ _
   | exact ih5 _ _ _ _ _ _ _
   | exact spec_FormatTag.mono _ _ _ _
   | exact LeO.none _
   | refine LeO.ite ?_ ?_
   | refine LeO.bind ?_ (fun _ => ?_)
  ·intro y0 y1 y2 y3
   unfold spec_Candidates.l1
   repeat' first
   | (with_reducible exact ih0 _ _)
   | (with_reducible exact ih1 _ _ _)
   | (with_reducible exact ih2 _ _ _ _)
   | (with_reducible exact ih3 _ _ _ _)
   | (with_reducible exact ih4 _ _ _ _ _ _ _)
   | (with_reducible exact ih5 _ _ _ _ _ _ _)
   | (with_reducible exact spec_FormatTag.mono _ _ _ _)
   | (with_reducible exact LeO.refl _)
   | (with_reducible exact LeO.none _)
   | (with_reducible refine LeO.ite ?_ ?_)
   | (with_reducible refine LeO.bind ?_ (fun _ => ?_))
   | exact ih0 _ _
   | exact ih1 _ _ _
   | exact ih2 _ _ _ _
   | exact ih3 _ _ _ _
   | exact ih4 _ _ _ _ _ _ _
   | exact ih5 _ _ _ _ _ _ _
   | exact spec_FormatTag.mono _ _ _ _
   | exact LeO.none _
   | refine LeO.ite ?_ ?_
   | refine LeO.bind ?_ (fun _ => ?_)
  ·intro y0 y1 y2 y3
   unfold spec_Candidates.l2
   repeat' first
   | (with_reducible exact ih0 _ _)
   | (with_reducible exact ih1 _ _ _)
   | (with_reducible exact ih2 _ _ _ _)
   | (with_reducible exact ih3 _ _ _ _)
   | (with_reducible exact ih4 _ _ _ _ _ _ _)
   | (with_reducible exact ih5 _ _ _ _ _ _ _)
   | (with_reducible exact spec_FormatTag.mono _ _ _ _)
   | (with_reducible exact LeO.refl _)
   | (with_reducible exact LeO.none _)
   | (with_reducible refine LeO.ite ?_ ?_)
   | (with_reducible refine LeO.bind ?_ (fun _ => ?_))
   | exact ih0 _ _
   | exact ih1 _ _ _
   | exact ih2 _ _ _ _
   | exact ih3 _ _ _ _
   | exact ih4 _ _ _ _ _ _ _
   | exact ih5 _ _ _ _ _ _ _
   | exact spec_FormatTag.mono _ _ _ _
   | exact LeO.none _
   | refine LeO.ite ?_ ?_
   | refine LeO.bind ?_ (fun _ => ?_)
  ·intro y0 y1 y2 y3 y4 y5 y6
   unfold spec_Candidates.l3
   repeat' first
   | (with_reducible exact ih0 _ _)
   | (with_reducible exact ih1 _ _ _)
   | (with_reducible exact ih2 _ _ _ _)
   | (with_reducible exact ih3 _ _ _ _)
   | (with_reducible exact ih4 _ _ _ _ _ _ _)
   | (with_reducible exact ih5 _ _ _ _ _ _ _)
   | (with_reducible exact spec_FormatTag.mono _ _ _ _)
   | (with_reducible exact LeO.refl _)
   | (with_reducible exact LeO.none _)
   | (with_reducible refine LeO.ite ?_ ?_)
   | (with_reducible refine LeO.bind ?_ (fun _ => ?_))
   | exact ih0 _ _
   | exact ih1 _ _ _
   | exact ih2 _ _ _ _
   | exact ih3 _ _ _ _
   | exact ih4 _ _ _ _ _ _ _
   | exact ih5 _ _ _ _ _ _ _
   | exact spec_FormatTag.mono _ _ _ _
   | exact LeO.none _
   | refine LeO.ite ?_ ?_
   | refine LeO.bind ?_ (fun _ => ?_)
  ·intro y0 y1 y2 y3 y4 y5 y6
   unfold spec_Candidates.l4
   repeat' first
   | (with_reducible exact ih0 _ _)
   | (with_reducible exact ih1 _ _ _)
   | (with_reducible exact ih2 _ _ _ _)
   | (with_reducible exact ih3 _ _ _ _)
   | (with_reducible exact ih4 _ _ _ _ _ _ _)
   | (with_reducible exact ih5 _ _ _ _ _ _ _)
   | (with_reducible exact spec_FormatTag.mono _ _ _ _)
   | (with_reducible exact LeO.refl _)
   | (with_reducible exact LeO.none _)
   | (with_reducible refine LeO.ite ?_ ?_)
   | (with_reducible refine LeO.bind ?_ (fun _ => ?_))
   | exact ih0 _ _
   | exact ih1 _ _ _
   | exact ih2 _ _ _ _
   | exact ih3 _ _ _ _
   | exact ih4 _ _ _ _ _ _ _
   | exact ih5 _ _ _ _ _ _ _
   | exact spec_FormatTag.mono _ _ _ _
   | exact LeO.none _
   | refine LeO.ite ?_ ?_
   | refine LeO.bind ?_ (fun _ => ?_)
theorem spec_Candidates.mono : ∀ a0 k, LeO (spec_Candidates.f k a0) (spec_Candidates.f (k + 1) a0) := by
 intro a0 k
 obtain ⟨ih0, ih1, ih2, ih3, ih4, ih5⟩ := spec_Candidates.mono_l k
 unfold spec_Candidates.f
 repeat' first
   | (with_reducible exact ih0 _ _)
   | (with_reducible exact ih1 _ _ _)
   | (with_reducible exact ih2 _ _ _ _)
   | (with_reducible exact ih3 _ _ _ _)
   | (with_reducible exact ih4 _ _ _ _ _ _ _)
   | (with_reducible exact ih5 _ _ _ _ _ _ _)
   | (with_reducible exact spec_FormatTag.mono _ _ _ _)
   | (with_reducible exact LeO.refl _)
   | (with_reducible exact LeO.none _)
   | (with_reducible refine LeO.ite ?_ ?_)
   | (with_reducible refine LeO.bind ?_ (fun _ => ?_))
   | exact ih0 _ _
   | exact ih1 _ _ _
   | exact ih2 _ _ _ _
   | exact ih3 _ _ _ _
   | exact ih4 _ _ _ _ _ _ _
   | exact ih5 _ _ _ _ _ _ _
   | exact spec_FormatTag.mono _ _ _ _
   | exact LeO.none _
   | refine LeO.ite ?_ ?_
   | refine LeO.bind ?_ (fun _ => ?_)
set_option maxHeartbeats 8000000 in
set_option maxRecDepth 100000 in
theorem spec_Candidates.calls (k : Nat) (a0 : ByteArray) (r1 : List (S25)) (r2 : Bool) (w : World) (h : spec_Candidates.f k a0 = some (r1, r2)) :
  Calls Tryd.prog 20 #[.string a0] w fun e w' => ∃ v0_ : Value, e = .returned (.tuple #[v0_, .bool r2]) ∧ Kd.R k25 25 w' w.heap.size (fun _ => True) v0_ r1 ∧ Below w.heap.size w w' := by
 have hu25 := Tryd.underlying25
 have HB := uD (Below.refl w.heap.size w)
 have H : (if (a0.size : Int) = 12 then (if 10 < (a0.size : Int) then (spec_Candidates.j0 k a0 ((bt a0 10) != 45)) else (none)) else (spec_Candidates.j0 k a0 true)) = some (r1, r2) := h
 clear h
 have HC2 := uD H
 clear H
 go_enter Tryd.func20, Tryd.ntmps20
 go_upto_region 1 with (fail)
 go_cut [23] (fun v23 wc => ∃ (kq : Nat) (x23_1 : Bool), v23 = .bool x23_1 ∧ Aside0 (spec_Candidates.j0 kq a0 x23_1 = some (r1, r2)) ∧ Aside0 (kq ≤ k) ∧ Aside0 (Below w.heap.size w wc))
 case first =>
  have H := HC2.out
  clear HC2
  by_cases c3 : (a0.size : Int) = 12
  ·rw [if_pos c3] at H
   have c3b0 : ((a0.size : Int) == 12) = true := beq_iff_eq.mpr c3
   have c3b1 : ((a0.size : Int) != 12) = false := bne_eq_false_iff_eq.mpr c3
   clear c3
   (first | rw [c3b0] | (simp only [uZ, ua]; rw [c3b0]) | skip)
   by_cases c4 : 10 < (a0.size : Int)
   ·rw [if_pos c4] at H
    have c4b0 : decide (10 < (a0.size : Int)) = true := decide_eq_true c4
    have c4b1 : decide (10 < a0.size) = true := decide_eq_true (by omega)
    clear c4
    have H' := uD H
    clear H
    have p5 : 0 ≤ (10 : Int) := (by omega)
    have q5 : 10 < a0.size := (by have : (10 : Int) < (a0.size : Int) := of_decide_eq_true (by first | (with_reducible assumption) | assumption); omega)
    have hx5 : ∀ h : 10 < a0.size, ((a0[10]'h).toNat : Int) = bt a0 10 := bt_at a0 10
    clear p5
    have qi5 : (10 < (a0.size : Int)) = True := eq_true (of_decide_eq_true (by first | (with_reducible assumption) | assumption))
    replace q5 := eq_true q5
    go_wp2
    go_meet
    case rel => exact ⟨_, (((bt a0 10) != 45)), (by first | rfl | (simp; done) | (simp [*]; done)), H', ⟨by first | omega | exact Nat.le_refl _⟩, ⟨pb HB⟩⟩
   ·rw [if_neg c4] at H
    exact absurd H (by simp)
  ·rw [if_neg c3] at H
   have c3b0 : ((a0.size : Int) == 12) = false := beq_eq_false_iff_ne.mpr c3
   have c3b1 : ((a0.size : Int) != 12) = true := bne_iff_ne.mpr c3
   (first | rw [c3b0] | (simp only [uZ, ua]; rw [c3b0]) | skip)
   have H' := uD H
   clear H
   go_wp2
   go_meet
   case rel => exact ⟨_, (true), (by first | rfl | (simp; done) | (simp [*]; done)), H', ⟨by first | omega | exact Nat.le_refl _⟩, ⟨pb HB⟩⟩
 case rest =>
  clear HC2
  try clear c2
  try clear p2
  try clear c3
  try clear c3b0
  try clear c3b1
  try clear c4
  try clear c4b0
  try clear c4b1
  try clear p5
  try clear q5
  try clear hx5
  try clear qi5
  try clear p5
  try clear q5
  obtain ⟨kq, x23_1, rfl, HA, HJ1, HB⟩ := hcut
  cases kq with
  | zero => exact absurd HA.out (by simp [spec_Candidates.j0])
  | succ kj1 =>
   have H := HA.out
   clear HA
   simp only [spec_Candidates.j0] at H
   by_cases c6 : x23_1 = true
   ·subst c6
    have H1 : (some ((([] : List (S25))), false)) = some (r1, r2) := by rw [if_pos rfl] at H; first | done | exact H
    clear H
    have H := H1
    clear H1
    obtain ⟨y123, hy123⟩ : ∃ y_ : List (S25), y_ = (([] : List (S25))) := ⟨_, rfl⟩
    replace H : (some (y123, false)) = some (r1, r2) := by first | (rw [hy123]; with_reducible exact H) | (have H2_ := (Option.bind_some _ _).symm.trans H; rw [hy123]; with_reducible exact H2_) | (have H2_ := (Option.bind_some _ _).symm.trans H; with_reducible exact H2_) | with_reducible exact H | (rw [hy123]; exact H) | exact H
    have Ny123 := uD hy123
    clear hy123
    simp only [Option.some.injEq, Prod.mk.injEq] at H
    obtain ⟨rfl, rfl⟩ := H
    go_wp2_with (first | ((with_reducible refine gate_dst (N := 24) rfl ?_); refine Kd.R_lit k25 _ 25 ?hg (N := 24) ?hd (xs := ([] : List (S25))) (inner := []) (ok := fun _ => True) (okp := fun _ => True) ?hr ?hp (fun _ hk => hk) trivial (Below.refl _ _) (Nat.le_refl _) (by simp) ?_; (case hd => rfl); (case hg => rfl); (case hr => first | (go_simp; done) | (go_simp; rfl)); (case hp => exact (Reps.none _ _)); intro v124 w7 ho8 hb hg_ hnew_; clear hg_ hnew_; (first | rw [← Ny123.out] at ho8 | (simp only [Int.reduceToNat] at ho8; rw [← Ny123.out] at ho8)); have HO125 := uD (Kd.R_lower ho8 (uN (pb HB))); replace HB := uD (uO (pb HB) hb); clear hb ho8))
    go_ret2
    exact ⟨_, by first | rfl | (simp [errW_none, errW_some] <;> rfl) | (simp [*, errW_none, errW_some] <;> rfl), by (with_reducible repeat (first | apply uU | apply uS | apply uT)); exact HO125.out, pb HB⟩
   ·replace c6 := Bool.eq_false_iff.mpr c6
    subst c6
    have H1 : (spec_Candidates.l0 kj1 a0 0 0) = some (r1, r2) := by rw [if_neg (show ¬ (false = true) by decide)] at H; first | done | exact H
    clear H
    have H := H1
    clear H1
    have H' := uD H
    clear H
    go_wp2
    go_loopg [4, 5] kj1 (fun kq v4 v5 w' => ∃ (x4_2 : Int) (x5_2 : Int), v4 = .int .i64 x4_2 ∧ v5 = .int .i64 x5_2 ∧ Aside0 (spec_Candidates.l0 kq a0 x4_2 x5_2 = some (r1, r2)) ∧ Aside0 (kq ≤ kj1) ∧ Aside0 (Below w.heap.size w w'))
    case atStart => exact ⟨(0), (0), (by first | rfl | (simp; done) | (simp [*]; done)), (by first | rfl | (simp; done) | (simp [*]; done)), H', ⟨Nat.le_refl _⟩, ⟨pb HB⟩⟩
    case round =>
     clear H'
     try clear c2
     try clear p2
     try clear c3
     try clear c3b0
     try clear c3b1
     try clear c4
     try clear c4b0
     try clear c4b1
     try clear p5
     try clear q5
     try clear hx5
     try clear qi5
     try clear c6
     try clear p2
     try clear p5
     try clear q5
     obtain ⟨x4_2, x5_2, rfl, rfl, HA, HK2, HB⟩ := hrel
     cases gk with
     | zero => exact absurd HA.out (by simp [spec_Candidates.l0])
     | succ k2 =>
      have H := HA.out
      clear HA
      simp only [spec_Candidates.l0] at H
      by_cases c9 : x5_2 < 12
      ·rw [if_pos c9] at H
       have c9b0 : decide (x5_2 < 12) = true := decide_eq_true c9
       clear c9
       by_cases c10 : 0 ≤ x5_2
       ·rw [if_pos c10] at H
        have c10b0 : decide (0 ≤ x5_2) = true := decide_eq_true c10
        clear c10
        by_cases c11 : x5_2 < (a0.size : Int)
        ·rw [if_pos c11] at H
         have c11b0 : decide (x5_2 < (a0.size : Int)) = true := decide_eq_true c11
         clear c11
         by_cases c13 : (bt a0 x5_2) = 63
         ·rw [if_pos c13] at H
          have c13b0 : ((bt a0 x5_2) == 63) = true := beq_iff_eq.mpr c13
          have c13b1 : ((bt a0 x5_2) != 63) = false := bne_eq_false_iff_eq.mpr c13
          clear c13
          have H' := uD H
          clear H
          have p12 : 0 ≤ (x5_2 : Int) := of_decide_eq_true (by first | (with_reducible assumption) | assumption)
          have q12 : x5_2 < (a0.size : Int) := of_decide_eq_true (by first | (with_reducible assumption) | assumption)
          have hx12 := bt_at a0 x5_2
          replace p12 := eq_true p12
          replace q12 := eq_true q12
          go_wp2
          go_roundg k2
          case measure => have := HJ1.out; have := HK2.out; omega
          case rel => exact ⟨(wrap64 (x4_2 + 1)), (wrap64 (x5_2 + 1)), (by first | rfl | (simp; done) | (simp [*]; done)), (by first | rfl | (simp; done) | (simp [*]; done)), H', ⟨by have := HJ1.out; have := HK2.out; omega⟩, ⟨pb HB⟩⟩
         ·rw [if_neg c13] at H
          have c13b0 : ((bt a0 x5_2) == 63) = false := beq_eq_false_iff_ne.mpr c13
          have c13b1 : ((bt a0 x5_2) != 63) = true := bne_iff_ne.mpr c13
          by_cases c14 : x5_2 = 10
          ·rw [if_pos c14] at H
           have c14b0 : (x5_2 == 10) = true := beq_iff_eq.mpr c14
           have c14b1 : (x5_2 != 10) = false := bne_eq_false_iff_eq.mpr c14
           clear c14
           have H' := uD H
           clear H
           have p12 : 0 ≤ (x5_2 : Int) := of_decide_eq_true (by first | (with_reducible assumption) | assumption)
           have q12 : x5_2 < (a0.size : Int) := of_decide_eq_true (by first | (with_reducible assumption) | assumption)
           have hx12 := bt_at a0 x5_2
           replace p12 := eq_true p12
           replace q12 := eq_true q12
           go_wp2
           go_roundg k2
           case measure => have := HJ1.out; have := HK2.out; omega
           case rel => exact ⟨(x4_2), (wrap64 (x5_2 + 1)), (by first | rfl | (simp; done) | (simp [*]; done)), (by first | rfl | (simp; done) | (simp [*]; done)), H', ⟨by have := HJ1.out; have := HK2.out; omega⟩, ⟨pb HB⟩⟩
          ·rw [if_neg c14] at H
           have c14b0 : (x5_2 == 10) = false := beq_eq_false_iff_ne.mpr c14
           have c14b1 : (x5_2 != 10) = true := bne_iff_ne.mpr c14
           by_cases c16 : (bt a0 x5_2) < 48
           ·rw [if_pos c16] at H
            have c16b0 : decide ((bt a0 x5_2) < 48) = true := decide_eq_true c16
            clear c16
            obtain ⟨y126, hy126⟩ : ∃ y_ : List (S25), y_ = (([] : List (S25))) := ⟨_, rfl⟩
            replace H : (some (y126, false)) = some (r1, r2) := by first | (rw [hy126]; with_reducible exact H) | (have H2_ := (Option.bind_some _ _).symm.trans H; rw [hy126]; with_reducible exact H2_) | (have H2_ := (Option.bind_some _ _).symm.trans H; with_reducible exact H2_) | with_reducible exact H | (rw [hy126]; exact H) | exact H
            have Ny126 := uD hy126
            clear hy126
            simp only [Option.some.injEq, Prod.mk.injEq] at H
            obtain ⟨rfl, rfl⟩ := H
            have p12 : 0 ≤ (x5_2 : Int) := of_decide_eq_true (by first | (with_reducible assumption) | assumption)
            have q12 : x5_2 < (a0.size : Int) := of_decide_eq_true (by first | (with_reducible assumption) | assumption)
            have hx12 := bt_at a0 x5_2
            replace p12 := eq_true p12
            replace q12 := eq_true q12
            have p15 : 0 ≤ (x5_2 : Int) := of_decide_eq_true (by first | (with_reducible assumption) | assumption)
            have q15 : x5_2 < (a0.size : Int) := of_decide_eq_true (by first | (with_reducible assumption) | assumption)
            have hx15 := bt_at a0 x5_2
            replace p15 := eq_true p15
            replace q15 := eq_true q15
            go_wp2_with (first | ((with_reducible refine gate_dst (N := 49) rfl ?_); refine Kd.R_lit k25 _ 25 ?hg (N := 49) ?hd (xs := ([] : List (S25))) (inner := []) (ok := fun _ => True) (okp := fun _ => True) ?hr ?hp (fun _ hk => hk) trivial (Below.refl _ _) (Nat.le_refl _) (by simp) ?_; (case hd => rfl); (case hg => rfl); (case hr => first | (go_simp; done) | (go_simp; rfl)); (case hp => exact (Reps.none _ _)); intro v127 w17 ho18 hb hg_ hnew_; clear hg_ hnew_; (first | rw [← Ny126.out] at ho18 | (simp only [Int.reduceToNat] at ho18; rw [← Ny126.out] at ho18)); have HO128 := uD (Kd.R_lower ho18 (uN (pb HB))); replace HB := uD (uO (pb HB) hb); clear hb ho18))
            go_ret2
            exact ⟨_, by first | rfl | (simp [errW_none, errW_some] <;> rfl) | (simp [*, errW_none, errW_some] <;> rfl), by (with_reducible repeat (first | apply uU | apply uS | apply uT)); exact HO128.out, pb HB⟩
           ·rw [if_neg c16] at H
            have c16b0 : decide ((bt a0 x5_2) < 48) = false := decide_eq_false c16
            clear c16
            by_cases c20 : (bt a0 x5_2) > 57
            ·rw [if_pos c20] at H
             have c20b0 : decide (57 < (bt a0 x5_2)) = true := decide_eq_true c20
             clear c20
             obtain ⟨y129, hy129⟩ : ∃ y_ : List (S25), y_ = (([] : List (S25))) := ⟨_, rfl⟩
             replace H : (some (y129, false)) = some (r1, r2) := by first | (rw [hy129]; with_reducible exact H) | (have H2_ := (Option.bind_some _ _).symm.trans H; rw [hy129]; with_reducible exact H2_) | (have H2_ := (Option.bind_some _ _).symm.trans H; with_reducible exact H2_) | with_reducible exact H | (rw [hy129]; exact H) | exact H
             have Ny129 := uD hy129
             clear hy129
             simp only [Option.some.injEq, Prod.mk.injEq] at H
             obtain ⟨rfl, rfl⟩ := H
             have p12 : 0 ≤ (x5_2 : Int) := of_decide_eq_true (by first | (with_reducible assumption) | assumption)
             have q12 : x5_2 < (a0.size : Int) := of_decide_eq_true (by first | (with_reducible assumption) | assumption)
             have hx12 := bt_at a0 x5_2
             replace p12 := eq_true p12
             replace q12 := eq_true q12
             have p15 : 0 ≤ (x5_2 : Int) := of_decide_eq_true (by first | (with_reducible assumption) | assumption)
             have q15 : x5_2 < (a0.size : Int) := of_decide_eq_true (by first | (with_reducible assumption) | assumption)
             have hx15 := bt_at a0 x5_2
             replace p15 := eq_true p15
             replace q15 := eq_true q15
             have p19 : 0 ≤ (x5_2 : Int) := of_decide_eq_true (by first | (with_reducible assumption) | assumption)
             have q19 : x5_2 < (a0.size : Int) := of_decide_eq_true (by first | (with_reducible assumption) | assumption)
             have hx19 := bt_at a0 x5_2
             replace p19 := eq_true p19
             replace q19 := eq_true q19
             go_wp2_with (first | ((with_reducible refine gate_dst (N := 49) rfl ?_); refine Kd.R_lit k25 _ 25 ?hg (N := 49) ?hd (xs := ([] : List (S25))) (inner := []) (ok := fun _ => True) (okp := fun _ => True) ?hr ?hp (fun _ hk => hk) trivial (Below.refl _ _) (Nat.le_refl _) (by simp) ?_; (case hd => rfl); (case hg => rfl); (case hr => first | (go_simp; done) | (go_simp; rfl)); (case hp => exact (Reps.none _ _)); intro v130 w21 ho22 hb hg_ hnew_; clear hg_ hnew_; (first | rw [← Ny129.out] at ho22 | (simp only [Int.reduceToNat] at ho22; rw [← Ny129.out] at ho22)); have HO131 := uD (Kd.R_lower ho22 (uN (pb HB))); replace HB := uD (uO (pb HB) hb); clear hb ho22))
             go_ret2
             exact ⟨_, by first | rfl | (simp [errW_none, errW_some] <;> rfl) | (simp [*, errW_none, errW_some] <;> rfl), by (with_reducible repeat (first | apply uU | apply uS | apply uT)); exact HO131.out, pb HB⟩
            ·rw [if_neg c20] at H
             have c20b0 : decide (57 < (bt a0 x5_2)) = false := decide_eq_false c20
             clear c20
             have H' := uD H
             clear H
             have p12 : 0 ≤ (x5_2 : Int) := of_decide_eq_true (by first | (with_reducible assumption) | assumption)
             have q12 : x5_2 < (a0.size : Int) := of_decide_eq_true (by first | (with_reducible assumption) | assumption)
             have hx12 := bt_at a0 x5_2
             replace p12 := eq_true p12
             replace q12 := eq_true q12
             have p15 : 0 ≤ (x5_2 : Int) := of_decide_eq_true (by first | (with_reducible assumption) | assumption)
             have q15 : x5_2 < (a0.size : Int) := of_decide_eq_true (by first | (with_reducible assumption) | assumption)
             have hx15 := bt_at a0 x5_2
             replace p15 := eq_true p15
             replace q15 := eq_true q15
             have p19 : 0 ≤ (x5_2 : Int) := of_decide_eq_true (by first | (with_reducible assumption) | assumption)
             have q19 : x5_2 < (a0.size : Int) := of_decide_eq_true (by first | (with_reducible assumption) | assumption)
             have hx19 := bt_at a0 x5_2
             replace p19 := eq_true p19
             replace q19 := eq_true q19
             go_wp2
             go_roundg k2
             case measure => have := HJ1.out; have := HK2.out; omega
             case rel => exact ⟨(x4_2), (wrap64 (x5_2 + 1)), (by first | rfl | (simp; done) | (simp [*]; done)), (by first | rfl | (simp; done) | (simp [*]; done)), H', ⟨by have := HJ1.out; have := HK2.out; omega⟩, ⟨pb HB⟩⟩
        ·rw [if_neg c11] at H
         exact absurd H (by simp)
       ·rw [if_neg c10] at H
        exact absurd H (by simp)
      ·rw [if_neg c9] at H
       have c9b0 : decide (x5_2 < 12) = false := decide_eq_false c9
       clear c9
       by_cases c23 : x4_2 > 3
       ·rw [if_pos c23] at H
        have c23b0 : decide (3 < x4_2) = true := decide_eq_true c23
        clear c23
        obtain ⟨y132, hy132⟩ : ∃ y_ : List (S25), y_ = (([] : List (S25))) := ⟨_, rfl⟩
        replace H : (some (y132, false)) = some (r1, r2) := by first | (rw [hy132]; with_reducible exact H) | (have H2_ := (Option.bind_some _ _).symm.trans H; rw [hy132]; with_reducible exact H2_) | (have H2_ := (Option.bind_some _ _).symm.trans H; with_reducible exact H2_) | with_reducible exact H | (rw [hy132]; exact H) | exact H
        have Ny132 := uD hy132
        clear hy132
        simp only [Option.some.injEq, Prod.mk.injEq] at H
        obtain ⟨rfl, rfl⟩ := H
        go_wp2_with (first | ((with_reducible refine gate_dst (N := 52) rfl ?_); refine Kd.R_lit k25 _ 25 ?hg (N := 52) ?hd (xs := ([] : List (S25))) (inner := []) (ok := fun _ => True) (okp := fun _ => True) ?hr ?hp (fun _ hk => hk) trivial (Below.refl _ _) (Nat.le_refl _) (by simp) ?_; (case hd => rfl); (case hg => rfl); (case hr => first | (go_simp; done) | (go_simp; rfl)); (case hp => exact (Reps.none _ _)); intro v133 w24 ho25 hb hg_ hnew_; clear hg_ hnew_; (first | rw [← Ny132.out] at ho25 | (simp only [Int.reduceToNat] at ho25; rw [← Ny132.out] at ho25)); have HO134 := uD (Kd.R_lower ho25 (uN (pb HB))); replace HB := uD (uO (pb HB) hb); clear hb ho25))
        go_ret2
        exact ⟨_, by first | rfl | (simp [errW_none, errW_some] <;> rfl) | (simp [*, errW_none, errW_some] <;> rfl), by (with_reducible repeat (first | apply uU | apply uS | apply uT)); exact HO134.out, pb HB⟩
       ·rw [if_neg c23] at H
        have c23b0 : decide (3 < x4_2) = false := decide_eq_false c23
        clear c23
        have H' := uD H
        clear H
        go_wp2
        go_loopg [6, 7] k2 (fun kq v6 v7 w' => ∃ (x6_3 : Int) (x7_3 : Int), v6 = .int .i64 x6_3 ∧ v7 = .int .i64 x7_3 ∧ Aside0 (spec_Candidates.l1 kq a0 x4_2 x6_3 x7_3 = some (r1, r2)) ∧ Aside0 (kq ≤ k2) ∧ Aside0 (Below w.heap.size w w'))
        case atStart => exact ⟨(1), (0), (by first | rfl | (simp; done) | (simp [*]; done)), (by first | rfl | (simp; done) | (simp [*]; done)), H', ⟨Nat.le_refl _⟩, ⟨pb HB⟩⟩
        case round =>
         clear H'
         try clear c1
         try clear p1
         try clear q1
         try clear hx1
         try clear c2
         try clear p2
         try clear c3
         try clear c3b0
         try clear c3b1
         try clear c4
         try clear c4b0
         try clear c4b1
         try clear p5
         try clear q5
         try clear hx5
         try clear qi5
         try clear c6
         try clear p6
         try clear c9
         try clear c9b0
         try clear c10
         try clear c10b0
         try clear c11
         try clear c11b0
         try clear p12
         try clear q12
         try clear hx12
         try clear c13
         try clear c13b0
         try clear c13b1
         try clear c14
         try clear c14b0
         try clear c14b1
         try clear p15
         try clear q15
         try clear hx15
         try clear c16
         try clear c16b0
         try clear p19
         try clear q19
         try clear hx19
         try clear c20
         try clear c20b0
         try clear c23
         try clear c23b0
         try clear p12
         try clear p15
         try clear p19
         try clear p2
         try clear p5
         try clear q12
         try clear q15
         try clear q19
         try clear q5
         obtain ⟨x6_3, x7_3, rfl, rfl, HA, HK3, HB⟩ := hrel
         cases gk with
         | zero => exact absurd HA.out (by simp [spec_Candidates.l1])
         | succ k3 =>
          have H := HA.out
          clear HA
          simp only [spec_Candidates.l1] at H
          by_cases c26 : x7_3 < x4_2
          ·rw [if_pos c26] at H
           have c26b0 : decide (x7_3 < x4_2) = true := decide_eq_true c26
           clear c26
           have H' := uD H
           clear H
           go_wp2
           go_roundg k3
           case measure => have := HJ1.out; have := HK2.out; have := HK3.out; omega
           case rel => exact ⟨(wrap64 (x6_3 * 10)), (wrap64 (x7_3 + 1)), (by first | rfl | (simp; done) | (simp [*]; done)), (by first | rfl | (simp; done) | (simp [*]; done)), H', ⟨by have := HJ1.out; have := HK2.out; have := HK3.out; omega⟩, ⟨pb HB⟩⟩
          ·rw [if_neg c26] at H
           have c26b0 : decide (x7_3 < x4_2) = false := decide_eq_false c26
           clear c26
           obtain ⟨y135, hy135⟩ : ∃ y_ : List (S25), y_ = (([] : List (S25))) := ⟨_, rfl⟩
           replace H : (spec_Candidates.l2 k3 a0 x6_3 y135 0) = some (r1, r2) := by first | (rw [hy135]; with_reducible exact H) | (have H2_ := (Option.bind_some _ _).symm.trans H; rw [hy135]; with_reducible exact H2_) | (have H2_ := (Option.bind_some _ _).symm.trans H; with_reducible exact H2_) | with_reducible exact H | (rw [hy135]; exact H) | exact H
           have Ny135 := uD hy135
           clear hy135
           have H' := uD H
           clear H
           go_wp2_with (first | ((with_reducible refine gate_dst (N := 60) rfl ?_); refine Kd.R_lit k25 _ 25 ?hg (N := 60) ?hd (xs := ([] : List (S25))) (inner := []) (ok := fun _ => True) (okp := fun _ => True) ?hr ?hp (fun _ hk => hk) trivial (Below.refl _ _) (Nat.le_refl _) (by simp) ?_; (case hd => rfl); (case hg => rfl); (case hr => first | (go_simp; done) | (go_simp; rfl)); (case hp => exact (Reps.none _ _)); intro v136 w27 ho28 hb hg_ hnew_; clear hg_ hnew_; (first | rw [← Ny135.out] at ho28 | (simp only [Int.reduceToNat] at ho28; rw [← Ny135.out] at ho28)); have HO137 := uD (Kd.R_lower ho28 (uN (pb HB))); replace HB := uD (uO (pb HB) hb); clear hb ho28))
           go_loopg [8, 9] k3 (fun kq v8 v9 w' => ∃ (x8_4 : List (S25)) (x9_4 : Int), v9 = .int .i64 x9_4 ∧ Aside0 (spec_Candidates.l2 kq a0 x6_3 x8_4 x9_4 = some (r1, r2)) ∧ Aside0 (kq ≤ k3) ∧ Aside0 (Kd.R k25 25 w' w.heap.size (fun _ => True) v8 x8_4) ∧ Aside0 (Below w.heap.size w w'))
           case atStart => exact ⟨(y135), (0), (by first | rfl | (simp; done) | (simp [*]; done)), H', ⟨Nat.le_refl _⟩, ⟨by (with_reducible repeat (first | apply uU | apply uS | apply uT)); exact HO137.out⟩, ⟨pb HB⟩⟩
           case round =>
            clear H'
            try clear c1
            try clear p1
            try clear q1
            try clear hx1
            try clear c2
            try clear p2
            try clear c3
            try clear c3b0
            try clear c3b1
            try clear c4
            try clear c4b0
            try clear c4b1
            try clear p5
            try clear q5
            try clear hx5
            try clear qi5
            try clear c6
            try clear p6
            try clear c9
            try clear c9b0
            try clear c10
            try clear c10b0
            try clear c11
            try clear c11b0
            try clear p12
            try clear q12
            try clear hx12
            try clear c13
            try clear c13b0
            try clear c13b1
            try clear c14
            try clear c14b0
            try clear c14b1
            try clear p15
            try clear q15
            try clear hx15
            try clear c16
            try clear c16b0
            try clear p19
            try clear q19
            try clear hx19
            try clear c20
            try clear c20b0
            try clear c23
            try clear c23b0
            try clear c26
            try clear c26b0
            try clear p1
            try clear p12
            try clear p15
            try clear p19
            try clear p2
            try clear p5
            try clear p6
            try clear q1
            try clear q12
            try clear q15
            try clear q19
            try clear q5
            obtain ⟨x8_4, x9_4, rfl, HA, HK4, HO_8, HB⟩ := hrel
            cases gk with
            | zero => exact absurd HA.out (by simp [spec_Candidates.l2])
            | succ k4 =>
             have H := HA.out
             clear HA
             simp only [spec_Candidates.l2] at H
             by_cases c29 : x9_4 < x6_3
             ·rw [if_pos c29] at H
              have c29b0 : decide (x9_4 < x6_3) = true := decide_eq_true c29
              clear c29
              obtain ⟨y138, hy138⟩ : ∃ y_ : List Int, y_ = (numsOf a0) := ⟨_, rfl⟩
              replace H : (spec_Candidates.l3 k4 a0 x6_3 x8_4 x9_4 y138 x9_4 11) = some (r1, r2) := by first | (rw [hy138]; with_reducible exact H) | (have H2_ := (Option.bind_some _ _).symm.trans H; rw [hy138]; with_reducible exact H2_) | (have H2_ := (Option.bind_some _ _).symm.trans H; with_reducible exact H2_) | with_reducible exact H | (rw [hy138]; exact H) | exact H
              have Ny138 := uD hy138
              clear hy138
              have H' := uD H
              clear H
              go_wp2_with (first | ((with_reducible refine gate_dst (N := 67) rfl ?_); refine Fb.conv (t := 5) a0 y138 Ny138.out ?hg ?hr ?_; (case hg => rfl); (case hr => (have hcv_ := fun W => Go.Lib.run_convert_string_bytes (P := Tryd.prog) W 9 37 5 a0 Tryd.underlying9 Tryd.underlying37 Tryd.underlying5); first | (go_simp; done) | (go_simp; rfl)); intro go co w30 hg hcap hF hb; replace HO_8 := uD (Kd.R_below (Kd.R_elderB (pr HO_8) go (Nat.le_of_eq hg.symm)) hb); have HO_10 := uD hF; have GG := uD ((by rw [hg]; exact (uN (pb HB)) : w.heap.size ≤ go)); replace HB := uD (uO (pb HB) hb); clear hb hF hg hcap))
              obtain ⟨n, hn⟩ : ∃ n, y138.length = n := ⟨_, rfl⟩
              rw [hn]
              have HN0 := uD hn
              clear hn
              go_loopg [11, 12] k4 (fun kq v11 v12 w' => ∃ (x10_5 : List Int) (x11_5 : Int) (x12_5 : Int), v11 = .int .i64 x11_5 ∧ v12 = .int .i64 x12_5 ∧ Aside0 (spec_Candidates.l3 kq a0 x6_3 x8_4 x9_4 x10_5 x11_5 x12_5 = some (r1, r2)) ∧ Aside0 (kq ≤ k4) ∧ Aside0 (Kd.R k25 25 w' w.heap.size (fun k_ => True ∧ k_ ≠ go) u8 x8_4) ∧ Aside0 (Fb 5 w' go x10_5) ∧ Aside0 (x10_5.length = n) ∧ Aside0 (Below w.heap.size w w'))
              case atStart => exact ⟨(y138), (x9_4), (11), (by first | rfl | (simp; done) | (simp [*]; done)), (by first | rfl | (simp; done) | (simp [*]; done)), H', ⟨Nat.le_refl _⟩, ⟨by (with_reducible repeat (first | apply uU | apply uS | apply uT)); exact HO_8.out⟩, HO_10, HN0, ⟨pb HB⟩⟩
              case round =>
               clear H'
               try clear c1
               try clear p1
               try clear q1
               try clear hx1
               try clear c2
               try clear p2
               try clear c3
               try clear c3b0
               try clear c3b1
               try clear c4
               try clear c4b0
               try clear c4b1
               try clear p5
               try clear q5
               try clear hx5
               try clear qi5
               try clear c6
               try clear p6
               try clear c9
               try clear c9b0
               try clear c10
               try clear c10b0
               try clear c11
               try clear c11b0
               try clear p12
               try clear q12
               try clear hx12
               try clear c13
               try clear c13b0
               try clear c13b1
               try clear c14
               try clear c14b0
               try clear c14b1
               try clear p15
               try clear q15
               try clear hx15
               try clear c16
               try clear c16b0
               try clear p19
               try clear q19
               try clear hx19
               try clear c20
               try clear c20b0
               try clear c23
               try clear c23b0
               try clear c26
               try clear c26b0
               try clear c29
               try clear c29b0
               try clear p1
               try clear p12
               try clear p15
               try clear p19
               try clear p2
               try clear p5
               try clear p6
               try clear q1
               try clear q12
               try clear q15
               try clear q19
               try clear q5
               obtain ⟨x10_5, x11_5, x12_5, rfl, rfl, HA, HK5, HO_8, HO_10, HN, HB⟩ := hrel
               cases gk with
               | zero => exact absurd HA.out (by simp [spec_Candidates.l3])
               | succ k5 =>
                have H := HA.out
                clear HA
                simp only [spec_Candidates.l3] at H
                by_cases c32 : x12_5 ≥ 0
                ·rw [if_pos c32] at H
                 have c32b0 : decide (0 ≤ x12_5) = true := decide_eq_true c32
                 clear c32
                 by_cases c33 : 0 ≤ x12_5
                 ·rw [if_pos c33] at H
                  have c33b0 : decide (0 ≤ x12_5) = true := decide_eq_true c33
                  clear c33
                  (try simp [c33b0] at c32b0)
                  by_cases c34 : x12_5 < (x10_5.length : Int)
                  ·rw [if_pos c34] at H
                   have c34b0 : decide (x12_5 < (x10_5.length : Int)) = true := decide_eq_true c34
                   clear c34
                   by_cases c35 : (rd x10_5 x12_5) = 63
                   ·rw [if_pos c35] at H
                    have c35b0 : ((rd x10_5 x12_5) == 63) = true := beq_iff_eq.mpr c35
                    have c35b1 : ((rd x10_5 x12_5) != 63) = false := bne_eq_false_iff_eq.mpr c35
                    clear c35
                    obtain ⟨y142, hy142⟩ : ∃ y_ : List Int, y_ = (x10_5.set (x12_5 : Int).toNat ((wrap64 (48 + (Int.tmod x11_5 10))) % 256)) := ⟨_, rfl⟩
                    replace H : (spec_Candidates.l3 k5 a0 x6_3 x8_4 x9_4 y142 (wrap64 (Int.tdiv x11_5 10)) (wrap64 (x12_5 - 1))) = some (r1, r2) := by first | (rw [hy142]; with_reducible exact H) | (have H2_ := (Option.bind_some _ _).symm.trans H; rw [hy142]; with_reducible exact H2_) | (have H2_ := (Option.bind_some _ _).symm.trans H; with_reducible exact H2_) | with_reducible exact H | (rw [hy142]; exact H) | exact H
                    have Ny142 := uD hy142
                    clear hy142
                    have H' := uD H
                    clear H
                    have p141 : 0 ≤ (x12_5 : Int) := of_decide_eq_true (by first | (with_reducible assumption) | assumption)
                    have q141 : x12_5 < (x10_5.length : Int) := of_decide_eq_true (by first | (with_reducible assumption) | assumption)
                    have hx141_0 := (HO_10.out.cell x12_5 p141 q141).1
                    have qn141 := eq_true (show x12_5 < (n : Int) by rw [← HN.out]; exact q141)
                    replace p141 := eq_true p141
                    replace q141 := eq_true q141
                    have p36 : 0 ≤ (x12_5 : Int) := of_decide_eq_true (by first | (with_reducible assumption) | assumption)
                    have q36 : (x12_5 : Int) < ((x10_5.length : Int) : Int) := of_decide_eq_true (by first | (with_reducible assumption) | assumption)
                    obtain ⟨hx36_0, hf36_0⟩ := HO_10.out.cell (x12_5 : Int) p36 q36
                    have HP38 := uD (HO_10.out.put (x12_5 : Int) ((wrap64 (48 + (Int.tmod x11_5 10))) % 256) p36 q36)
                    replace p36 := eq_true p36
                    replace q36 := eq_true q36
                    go_wp2_with (first | ((with_reducible refine gate_store (t := 5) (p := 84) rfl ?_); refine store_event (t := 5) (p := 84) (v := ?vo_w39) (w1 := (wr.setCell ⟨go, (x12_5 : Int).toNat, none⟩ (.int .u8 ((wrap64 (48 + (Int.tmod x11_5 10))) % 256)))) ?hg ?ho ?hn ?hr ?_; (case ho => rfl); (case hg => rfl); (case hn => rfl); (case hr => first | (go_simp; done) | (go_simp; rfl)); intro w39 hw; have hp_ : Fb 5 w39 go y142 := (by rw [hw, Ny142.out]; exact HP38.out); replace HO_8 := uD ((by rw [hw]; exact uV (p := ⟨go, (x12_5 : Int).toNat, none⟩) (pr HO_8) (fun _ hk => hk.2) _ : Kd.R k25 25 w39 w.heap.size (fun k_ => True ∧ k_ ≠ go) u8 x8_4)); replace HO_10 := uD hp_; replace HB := uD ((by rw [hw]; exact uM (HB.out) GG.out : Below w.heap.size w w39)); clear hw hp_ HP38))
                    go_roundg k5
                    case measure => have := HJ1.out; have := HK2.out; have := HK3.out; have := HK4.out; have := HK5.out; omega
                    case rel => exact ⟨(y142), (wrap64 (Int.tdiv x11_5 10)), (wrap64 (x12_5 - 1)), (by first | rfl | (simp; done) | (simp [*]; done)), (by first | rfl | (simp; done) | (simp [*]; done)), H', ⟨by have := HJ1.out; have := HK2.out; have := HK3.out; have := HK4.out; have := HK5.out; omega⟩, ⟨by (with_reducible repeat (first | apply uU | apply uS | apply uT)); exact HO_8.out⟩, HO_10, ⟨by rw [Ny142.out, List.length_set]; exact HN.out⟩, ⟨pb HB⟩⟩
                   ·rw [if_neg c35] at H
                    have c35b0 : ((rd x10_5 x12_5) == 63) = false := beq_eq_false_iff_ne.mpr c35
                    have c35b1 : ((rd x10_5 x12_5) != 63) = true := bne_iff_ne.mpr c35
                    have H' := uD H
                    clear H
                    have p141 : 0 ≤ (x12_5 : Int) := of_decide_eq_true (by first | (with_reducible assumption) | assumption)
                    have q141 : x12_5 < (x10_5.length : Int) := of_decide_eq_true (by first | (with_reducible assumption) | assumption)
                    have hx141_0 := (HO_10.out.cell x12_5 p141 q141).1
                    have qn141 := eq_true (show x12_5 < (n : Int) by rw [← HN.out]; exact q141)
                    replace p141 := eq_true p141
                    replace q141 := eq_true q141
                    go_wp2
                    go_roundg k5
                    case measure => have := HJ1.out; have := HK2.out; have := HK3.out; have := HK4.out; have := HK5.out; omega
                    case rel => exact ⟨(x10_5), (x11_5), (wrap64 (x12_5 - 1)), (by first | rfl | (simp; done) | (simp [*]; done)), (by first | rfl | (simp; done) | (simp [*]; done)), H', ⟨by have := HJ1.out; have := HK2.out; have := HK3.out; have := HK4.out; have := HK5.out; omega⟩, ⟨by (with_reducible repeat (first | apply uU | apply uS | apply uT)); exact HO_8.out⟩, HO_10, HN, ⟨pb HB⟩⟩
                  ·rw [if_neg c34] at H
                   exact absurd H (by simp)
                 ·rw [if_neg c33] at H
                  exact absurd H (by simp)
                ·rw [if_neg c32] at H
                 have c32b0 : decide (0 ≤ x12_5) = false := decide_eq_false c32
                 clear c32
                 have H' := uD H
                 clear H
                 go_wp2
                 go_loopg [13, 14] k5 (fun kq v13 v14 w' => ∃ (x13_6 : Int) (x14_6 : Int), v13 = .int .i64 x13_6 ∧ v14 = .int .i64 x14_6 ∧ Aside0 (spec_Candidates.l4 kq a0 x6_3 x8_4 x9_4 x10_5 x13_6 x14_6 = some (r1, r2)) ∧ Aside0 (kq ≤ k5) ∧ Aside0 (Kd.R k25 25 w' w.heap.size (fun k_ => True ∧ k_ ≠ go) u8 x8_4) ∧ Aside0 (Fb 5 w' go x10_5) ∧ Aside0 (x10_5.length = n) ∧ Aside0 (Below w.heap.size w w'))
                 case atStart => exact ⟨(0), (0), (by first | rfl | (simp; done) | (simp [*]; done)), (by first | rfl | (simp; done) | (simp [*]; done)), H', ⟨Nat.le_refl _⟩, ⟨by (with_reducible repeat (first | apply uU | apply uS | apply uT)); exact HO_8.out⟩, HO_10, HN, ⟨pb HB⟩⟩
                 case round =>
                  clear H'
                  try clear c1
                  try clear p1
                  try clear q1
                  try clear hx1
                  try clear c2
                  try clear p2
                  try clear c3
                  try clear c3b0
                  try clear c3b1
                  try clear p3
                  try clear q3
                  try clear hx3
                  try clear hf3
                  try clear c4
                  try clear c4b0
                  try clear c4b1
                  try clear p5
                  try clear q5
                  try clear hx5
                  try clear qi5
                  try clear c6
                  try clear p6
                  try clear c9
                  try clear c9b0
                  try clear c10
                  try clear c10b0
                  try clear c11
                  try clear c11b0
                  try clear p12
                  try clear q12
                  try clear hx12
                  try clear c13
                  try clear c13b0
                  try clear c13b1
                  try clear c14
                  try clear c14b0
                  try clear c14b1
                  try clear p14
                  try clear q14
                  try clear hx14
                  try clear p15
                  try clear q15
                  try clear hx15
                  try clear c16
                  try clear c16b0
                  try clear p19
                  try clear q19
                  try clear hx19
                  try clear c20
                  try clear c20b0
                  try clear c23
                  try clear c23b0
                  try clear c26
                  try clear c26b0
                  try clear c29
                  try clear c29b0
                  try clear c32
                  try clear c32b0
                  try clear c33
                  try clear c33b0
                  try clear c34
                  try clear c34b0
                  try clear c35
                  try clear c35b0
                  try clear c35b1
                  try clear p36
                  try clear q36
                  try clear hx36
                  try clear hf36
                  try clear hx141_0
                  try clear hx36_0
                  try clear p1
                  try clear p12
                  try clear p141
                  try clear p15
                  try clear p19
                  try clear p2
                  try clear p36
                  try clear p5
                  try clear p6
                  try clear q1
                  try clear q12
                  try clear q141
                  try clear q15
                  try clear q19
                  try clear q36
                  try clear q5
                  obtain ⟨x13_6, x14_6, rfl, rfl, HA, HK6, HO_8, HO_10, HN, HB⟩ := hrel
                  cases gk with
                  | zero => exact absurd HA.out (by simp [spec_Candidates.l4])
                  | succ k6 =>
                   have H := HA.out
                   clear HA
                   simp only [spec_Candidates.l4] at H
                   by_cases c41 : x14_6 < 10
                   ·rw [if_pos c41] at H
                    have c41b0 : decide (x14_6 < 10) = true := decide_eq_true c41
                    clear c41
                    by_cases c42 : 0 ≤ x14_6
                    ·rw [if_pos c42] at H
                     have c42b0 : decide (0 ≤ x14_6) = true := decide_eq_true c42
                     clear c42
                     by_cases c43 : x14_6 < (x10_5.length : Int)
                     ·rw [if_pos c43] at H
                      have c43b0 : decide (x14_6 < (x10_5.length : Int)) = true := decide_eq_true c43
                      clear c43
                      have H' := uD H
                      clear H
                      have p143 : 0 ≤ (x14_6 : Int) := of_decide_eq_true (by first | (with_reducible assumption) | assumption)
                      have q143 : x14_6 < (x10_5.length : Int) := of_decide_eq_true (by first | (with_reducible assumption) | assumption)
                      have hx143_0 := (HO_10.out.cell x14_6 p143 q143).1
                      have qn143 := eq_true (show x14_6 < (n : Int) by rw [← HN.out]; exact q143)
                      replace p143 := eq_true p143
                      replace q143 := eq_true q143
                      go_wp2
                      go_roundg k6
                      case measure => have := HJ1.out; have := HK2.out; have := HK3.out; have := HK4.out; have := HK5.out; have := HK6.out; omega
                      case rel => exact ⟨(wrap64 ((wrap64 ((wrap64 (10 * x13_6)) + (wrap64 (rd x10_5 x14_6)))) - 48)), (wrap64 (x14_6 + 1)), (by first | rfl | (simp; done) | (simp [*]; done)), (by first | rfl | (simp; done) | (simp [*]; done)), H', ⟨by have := HJ1.out; have := HK2.out; have := HK3.out; have := HK4.out; have := HK5.out; have := HK6.out; omega⟩, ⟨by (with_reducible repeat (first | apply uU | apply uS | apply uT)); exact HO_8.out⟩, HO_10, HN, ⟨pb HB⟩⟩
                     ·rw [if_neg c43] at H
                      exact absurd H (by simp)
                    ·rw [if_neg c42] at H
                     exact absurd H (by simp)
                   ·rw [if_neg c41] at H
                    have c41b0 : decide (x14_6 < 10) = false := decide_eq_false c41
                    clear c41
                    replace H := Option.bind_eq_some_iff.mp H
                    obtain ⟨⟨t144, t145, t146⟩, A450, H⟩ := H
                    replace H : ((spec_FormatTag.f k6 t144 t145 t146).bind fun t148 => (if t148.toList = (strOfNums x10_5).toList then (if x8_4.length < 5864062014805 then (spec_Candidates.l2 k6 a0 x6_3 (x8_4 ++ [(⟨t144, t145, t146⟩ : S25)]) (wrap64 (x9_4 + 1))) else (none)) else (spec_Candidates.l2 k6 a0 x6_3 x8_4 (wrap64 (x9_4 + 1))))) = some (r1, r2) := H
                    have A45 := uD A450
                    clear A450
                    replace H := Option.bind_eq_some_iff.mp H
                    obtain ⟨t148, A460, H⟩ := H
                    replace H : (if t148.toList = (strOfNums x10_5).toList then (if x8_4.length < 5864062014805 then (spec_Candidates.l2 k6 a0 x6_3 (x8_4 ++ [(⟨t144, t145, t146⟩ : S25)]) (wrap64 (x9_4 + 1))) else (none)) else (spec_Candidates.l2 k6 a0 x6_3 x8_4 (wrap64 (x9_4 + 1)))) = some (r1, r2) := H
                    have A46 := uD A460
                    clear A460
                    by_cases c47 : t148.toList = (strOfNums x10_5).toList
                    ·rw [if_pos c47] at H
                     have c47b0 : (t148.toList == (strOfNums x10_5).toList) = true := beq_iff_eq.mpr c47
                     have c47b1 : (t148.toList != (strOfNums x10_5).toList) = false := bne_eq_false_iff_eq.mpr c47
                     clear c47
                     by_cases c48 : x8_4.length < 5864062014805
                     ·rw [if_pos c48] at H
                      have LMc48 := uD c48
                      clear c48
                      obtain ⟨y149, hy149⟩ : ∃ y_ : List (S25), y_ = (x8_4 ++ [(⟨t144, t145, t146⟩ : S25)]) := ⟨_, rfl⟩
                      replace H : (spec_Candidates.l2 k6 a0 x6_3 y149 (wrap64 (x9_4 + 1))) = some (r1, r2) := by first | (rw [hy149]; with_reducible exact H) | (have H2_ := (Option.bind_some _ _).symm.trans H; rw [hy149]; with_reducible exact H2_) | (have H2_ := (Option.bind_some _ _).symm.trans H; with_reducible exact H2_) | with_reducible exact H | (rw [hy149]; exact H) | exact H
                      have Ny149 := uD hy149
                      clear hy149
                      have H' := uD H
                      clear H
                      go_wp2_with (first | ((with_reducible refine gate_callee (f := 45) rfl ?_); refine gl (some 101) Tryd.func45 #[.int .i64 x13_6] ?_; (with_reducible refine (spec_l01OfNumber.calls x13_6 t144 t145 t146 _ A45.out).mono ?_); rintro e w49 ⟨rfl, hb⟩; refine ⟨_, rfl, ?_⟩; replace HO_8 := uD (Kd.R_below (pr HO_8) hb); replace HO_10 := uD (HO_10.out.below hb); replace HB := uD (uO (pb HB) hb); clear hb) | ((with_reducible refine gate_dst (N := 15) rfl ?_); refine bx 15 #[.int .i64 0, .int .i64 0, .int .i64 0] 25 ?_; intro gt hg w50 hbox hb; have NG := uD (show go ≠ gt by rw [hg]; exact Nat.ne_of_lt HO_10.out.lt); have GT := uD (show w.heap.size ≤ gt by rw [hg]; exact uN (pb HB)); replace HO_8 := uD (Kd.R_below (Kd.R_elderB (pr HO_8) gt (Nat.le_of_eq hg.symm)) hb); replace HO_10 := uD (HO_10.out.below hb); have BT := uD (hbox); replace HB := uD (uO (pb HB) hb); clear hb hbox hg; obtain ⟨hcz0, hcz1, hcz2, hfz0, hfz1, hfz2⟩ := cz3 BT))
                      have n0_ : Aside0 (Kd.R k25 25 (((w50.setCell ⟨gt, 0, none⟩ (.int .i64 t144)).setCell ⟨gt, 1, none⟩ (.int .i64 t145)).setCell ⟨gt, 2, none⟩ (.int .i64 t146)) w.heap.size (fun k_ => (True ∧ k_ ≠ go) ∧ k_ ≠ gt) u8 x8_4) := ⟨uV (p := ⟨gt, 2, none⟩) (uV (p := ⟨gt, 1, none⟩) (uV (p := ⟨gt, 0, none⟩) HO_8.out (fun _ hk => hk.2) (.int .i64 t144)) (fun _ hk => hk.2) (.int .i64 t145)) (fun _ hk => hk.2) (.int .i64 t146)⟩
                      have n1_ : Aside0 (Fb 5 (((w50.setCell ⟨gt, 0, none⟩ (.int .i64 t144)).setCell ⟨gt, 1, none⟩ (.int .i64 t145)).setCell ⟨gt, 2, none⟩ (.int .i64 t146)) go x10_5) := ⟨((HO_10.out.far (p := ⟨gt, 0, none⟩) NG.out _).far (p := ⟨gt, 1, none⟩) NG.out _).far (p := ⟨gt, 2, none⟩) NG.out _⟩
                      have n2_ : Aside0 ((((w50.setCell ⟨gt, 0, none⟩ (.int .i64 t144)).setCell ⟨gt, 1, none⟩ (.int .i64 t145)).setCell ⟨gt, 2, none⟩ (.int .i64 t146)).heap[gt]? = some (.cells #[.int .i64 t144, .int .i64 t145, .int .i64 t146] 25 (0, 0))) := ⟨by refine uP (cs := #[.int .i64 t144, .int .i64 t145, .int .i64 0]) ?_ 2 _ rfl; refine uP (cs := #[.int .i64 t144, .int .i64 0, .int .i64 0]) ?_ 1 _ rfl; refine uP (cs := #[.int .i64 0, .int .i64 0, .int .i64 0]) ?_ 0 _ rfl; exact BT.out⟩
                      have n4_ : Aside0 (Below w.heap.size w (((w50.setCell ⟨gt, 0, none⟩ (.int .i64 t144)).setCell ⟨gt, 1, none⟩ (.int .i64 t145)).setCell ⟨gt, 2, none⟩ (.int .i64 t146))) := ⟨uM (uM (uM HB.out GT.out) GT.out) GT.out⟩
                      generalize (((w50.setCell ⟨gt, 0, none⟩ (.int .i64 t144)).setCell ⟨gt, 1, none⟩ (.int .i64 t145)).setCell ⟨gt, 2, none⟩ (.int .i64 t146)) = w52 at n0_ n1_ n2_ n4_ ⊢
                      clear HO_8 HO_10 BT HB hcz0 hcz1 hcz2 hfz0 hfz1 hfz2
                      have HO_8 := uD (uT n0_.out)
                      have HO_10 := uD (n1_.out.drew)
                      have BT := uD (uJ n2_.out)
                      have HB := uD (uK n4_.out)
                      clear n0_ n1_ n2_ n4_
                      refine start_ (n := 5) (S := fun w' => w'.cell? ⟨gt, 0, none⟩ = some (.int .i64 t144) ∧ w'.cell? ⟨gt, 1, none⟩ = some (.int .i64 t145) ∧ w'.cell? ⟨gt, 2, none⟩ = some (.int .i64 t146) ∧ (convert 37 9 (.slice (some ⟨go, 0, none⟩) n co)).run Tryd.prog w' = .ok (.string (strOfNums x10_5)) w') (ds := []) #[F,F,F,F,F] (by kernel_rfl) rfl rfl ⟨(uF BT.out 0).trans rfl, (uF BT.out 1).trans rfl, (uF BT.out 2).trans rfl, (by have h_ := Fb.string Tryd.underlying37 Tryd.underlying5 Tryd.underlying9 HO_10.out co; rw [HN.out] at h_; exact h_)⟩ (fun hHeld => ?_)
                      generalize w52.drew = w53 at HO_8 HO_10 BT HB hHeld ⊢
                      refine ub (i := 2) (N := some 104) (v := ?_) (a' := ?_) #[F,F,T,F,F] rfl rfl (by kernel_rfl) (fun _ _ _ h => h) (Or.inl ⟨by rfl, ?_⟩) ?_ ?_
                      rotate_left;(intro w';go_simp;with_reducible rfl);rotate_left;(simp only [uc,uA,uB,uC,uZ,ua];rfl)
                      refine take_ (i := 3) (N := some 105) (v := ?_) (a' := ?_) #[F,F,T,T,F] rfl rfl (by kernel_rfl) (fun _ _ _ h => h) (Or.inl ⟨by rfl, ?_⟩) hHeld ?_ ?_
                      rotate_left;(rintro w' ⟨s0, s1, s2, s3⟩;go_simp;with_reducible rfl);rotate_left;(simp only [uc,uA,uB,uC,uZ,ua];rfl)
                      refine take_ (i := 0) (N := some 102) (v := ?_) (a' := ?_) #[T,F,T,T,F] rfl rfl (by kernel_rfl) (fun _ _ _ h => h) (Or.inl ⟨by rfl, ?_⟩) hHeld ?_ ?_
                      rotate_left;(rintro w' ⟨s0, s1, s2, s3⟩;go_simp;with_reducible rfl);rotate_left;(simp only [uc,uA,uB,uC,uZ,ua];rfl)
                      refine one_ (i := 1) (N := some 103) #[T,T,T,T,F] rfl rfl (by kernel_rfl) (by decide) (fun K hK => ?_)
                      refine goes_ Tryd.func12 (by kernel_rfl) rfl #[.agg #[.int .i64 t144, .int .i64 t145, .int .i64 t146]] (by rfl) rfl rfl (by (try simp only [List.map_toArray, List.map_cons, List.map_nil]); first | done | rfl) ?_
                      with_reducible refine (spec_FormatTag.calls k6 t144 t145 t146 t148 _ A46.out).mono ?_
                      rintro e w54 ⟨rfl, hb⟩
                      refine ⟨_, rfl, ?_⟩
                      replace HO_8 := uD (Kd.R_below HO_8.out hb)
                      replace HO_10 := uD (HO_10.out.below hb)
                      replace BT := uD (blk_below BT.out hb)
                      replace HB := uD (uO HB.out hb)
                      clear hb hHeld
                      refine hK.out _ _ ⟨(uF BT.out 0).trans rfl, (uF BT.out 1).trans rfl, (uF BT.out 2).trans rfl, (by have h_ := Fb.string Tryd.underlying37 Tryd.underlying5 Tryd.underlying9 HO_10.out co; rw [HN.out] at h_; exact h_)⟩ (fun hHeld => ?_)
                      clear hK K
                      refine norm_ (a' := ?_) ?_ ?_
                      rotate_left
                      ·show uc _ (some 103) _ = _
                       simp only [uc, uA, uB, uC, uZ, ua]
                       rfl
                      refine ub (i := 4) (N := some 106) (v := ?_) (a' := ?_) #[T,T,T,T,T] rfl rfl (by kernel_rfl) (fun _ _ _ h => h) (Or.inl ⟨by rfl, ?_⟩) ?_ ?_
                      rotate_left;(intro w';go_simp;with_reducible rfl);rotate_left;(simp only [uc,uA,uB,uC,uZ,ua];rfl)
                      refine done_ (by kernel_rfl) ?_
                      clear hHeld
                      obtain ⟨hcz57_0, hcz57_1, hcz57_2, hfz57_0, hfz57_1, hfz57_2⟩ := cz3 BT
                      try go_wp2_with (first | ((with_reducible refine gate_builtin (b := .append) (xs := #[.tmp 107, .tmp 109]) rfl ?_); at_builtin; refine Kd.R_append k25 (w0 := w) w.heap.size rfl (.tmp 107) (.tmp 109) 32 25 (.agg #[(.int .i64 0), (.int .i64 0), (.int .i64 0)]) 24 rfl Tryd.underlying32 spec_Candidates.info rfl (by decide) (by omega) u8 x8_4 (⟨t144, t145, t146⟩ : S25) [.int .i64 t144, .int .i64 t145, .int .i64 t146] (fun k_ => (True ∧ k_ ≠ go) ∧ k_ ≠ gt) (fun _ => False) rfl rfl ?aP (fun _ hk => hk.elim) ?aF ?aO ?aB ?aS ?aL ?_; (case aP => exact k25_mkM _ _ _ (⟨t144, t145, t146⟩ : S25)); (case aB => exact (pb HB)); (case aF => exact (fun k_ hk => ⟨⟨trivial, Nat.ne_of_gt (Nat.lt_of_lt_of_le HO_10.out.lt hk)⟩, Nat.ne_of_gt (Nat.lt_of_lt_of_le (blk_lt BT.out) hk)⟩)); (case aO => exact (pr HO_8)); (case aS => exact (uN (pb HB))); (case aL => have := LMc48.out; omega); intro v150 w58 ho hb hg hat; rw [← Ny149.out] at ho; replace HB := uD (hb); have HO151 := uD (ho); clear HO_8; clear ho hb hg hat))
                      go_roundg k6
                      case measure => have := HJ1.out; have := HK2.out; have := HK3.out; have := HK4.out; have := HK5.out; have := HK6.out; omega
                      case rel => exact ⟨(y149), (wrap64 (x9_4 + 1)), (by first | rfl | (simp; done) | (simp [*]; done)), H', ⟨by have := HJ1.out; have := HK2.out; have := HK3.out; have := HK4.out; have := HK5.out; have := HK6.out; omega⟩, ⟨by (with_reducible repeat (first | apply uU | apply uS | apply uT)); exact uX HO151.out (fun _ hk => trivial)⟩, ⟨pb HB⟩⟩
                     ·rw [if_neg c48] at H
                      exact absurd H (by simp)
                    ·rw [if_neg c47] at H
                     have c47b0 : (t148.toList == (strOfNums x10_5).toList) = false := beq_eq_false_iff_ne.mpr c47
                     have c47b1 : (t148.toList != (strOfNums x10_5).toList) = true := bne_iff_ne.mpr c47
                     have H' := uD H
                     clear H
                     go_wp2_with (first | ((with_reducible refine gate_callee (f := 45) rfl ?_); refine gl (some 101) Tryd.func45 #[.int .i64 x13_6] ?_; (with_reducible refine (spec_l01OfNumber.calls x13_6 t144 t145 t146 _ A45.out).mono ?_); rintro e w49 ⟨rfl, hb⟩; refine ⟨_, rfl, ?_⟩; replace HO_8 := uD (Kd.R_below (pr HO_8) hb); replace HO_10 := uD (HO_10.out.below hb); replace HB := uD (uO (pb HB) hb); clear hb) | ((with_reducible refine gate_dst (N := 15) rfl ?_); refine bx 15 #[.int .i64 0, .int .i64 0, .int .i64 0] 25 ?_; intro gt hg w50 hbox hb; have NG := uD (show go ≠ gt by rw [hg]; exact Nat.ne_of_lt HO_10.out.lt); have GT := uD (show w.heap.size ≤ gt by rw [hg]; exact uN (pb HB)); replace HO_8 := uD (Kd.R_below (Kd.R_elderB (pr HO_8) gt (Nat.le_of_eq hg.symm)) hb); replace HO_10 := uD (HO_10.out.below hb); have BT := uD (hbox); replace HB := uD (uO (pb HB) hb); clear hb hbox hg; obtain ⟨hcz0, hcz1, hcz2, hfz0, hfz1, hfz2⟩ := cz3 BT))
                     have n0_ : Aside0 (Kd.R k25 25 (((w50.setCell ⟨gt, 0, none⟩ (.int .i64 t144)).setCell ⟨gt, 1, none⟩ (.int .i64 t145)).setCell ⟨gt, 2, none⟩ (.int .i64 t146)) w.heap.size (fun k_ => (True ∧ k_ ≠ go) ∧ k_ ≠ gt) u8 x8_4) := ⟨uV (p := ⟨gt, 2, none⟩) (uV (p := ⟨gt, 1, none⟩) (uV (p := ⟨gt, 0, none⟩) HO_8.out (fun _ hk => hk.2) (.int .i64 t144)) (fun _ hk => hk.2) (.int .i64 t145)) (fun _ hk => hk.2) (.int .i64 t146)⟩
                     have n1_ : Aside0 (Fb 5 (((w50.setCell ⟨gt, 0, none⟩ (.int .i64 t144)).setCell ⟨gt, 1, none⟩ (.int .i64 t145)).setCell ⟨gt, 2, none⟩ (.int .i64 t146)) go x10_5) := ⟨((HO_10.out.far (p := ⟨gt, 0, none⟩) NG.out _).far (p := ⟨gt, 1, none⟩) NG.out _).far (p := ⟨gt, 2, none⟩) NG.out _⟩
                     have n2_ : Aside0 ((((w50.setCell ⟨gt, 0, none⟩ (.int .i64 t144)).setCell ⟨gt, 1, none⟩ (.int .i64 t145)).setCell ⟨gt, 2, none⟩ (.int .i64 t146)).heap[gt]? = some (.cells #[.int .i64 t144, .int .i64 t145, .int .i64 t146] 25 (0, 0))) := ⟨by refine uP (cs := #[.int .i64 t144, .int .i64 t145, .int .i64 0]) ?_ 2 _ rfl; refine uP (cs := #[.int .i64 t144, .int .i64 0, .int .i64 0]) ?_ 1 _ rfl; refine uP (cs := #[.int .i64 0, .int .i64 0, .int .i64 0]) ?_ 0 _ rfl; exact BT.out⟩
                     have n4_ : Aside0 (Below w.heap.size w (((w50.setCell ⟨gt, 0, none⟩ (.int .i64 t144)).setCell ⟨gt, 1, none⟩ (.int .i64 t145)).setCell ⟨gt, 2, none⟩ (.int .i64 t146))) := ⟨uM (uM (uM HB.out GT.out) GT.out) GT.out⟩
                     generalize (((w50.setCell ⟨gt, 0, none⟩ (.int .i64 t144)).setCell ⟨gt, 1, none⟩ (.int .i64 t145)).setCell ⟨gt, 2, none⟩ (.int .i64 t146)) = w52 at n0_ n1_ n2_ n4_ ⊢
                     clear HO_8 HO_10 BT HB hcz0 hcz1 hcz2 hfz0 hfz1 hfz2
                     have HO_8 := uD (uT n0_.out)
                     have HO_10 := uD (n1_.out.drew)
                     have BT := uD (uJ n2_.out)
                     have HB := uD (uK n4_.out)
                     clear n0_ n1_ n2_ n4_
                     refine start_ (n := 5) (S := fun w' => w'.cell? ⟨gt, 0, none⟩ = some (.int .i64 t144) ∧ w'.cell? ⟨gt, 1, none⟩ = some (.int .i64 t145) ∧ w'.cell? ⟨gt, 2, none⟩ = some (.int .i64 t146) ∧ (convert 37 9 (.slice (some ⟨go, 0, none⟩) n co)).run Tryd.prog w' = .ok (.string (strOfNums x10_5)) w') (ds := []) #[F,F,F,F,F] (by kernel_rfl) rfl rfl ⟨(uF BT.out 0).trans rfl, (uF BT.out 1).trans rfl, (uF BT.out 2).trans rfl, (by have h_ := Fb.string Tryd.underlying37 Tryd.underlying5 Tryd.underlying9 HO_10.out co; rw [HN.out] at h_; exact h_)⟩ (fun hHeld => ?_)
                     generalize w52.drew = w53 at HO_8 HO_10 BT HB hHeld ⊢
                     refine ub (i := 2) (N := some 104) (v := ?_) (a' := ?_) #[F,F,T,F,F] rfl rfl (by kernel_rfl) (fun _ _ _ h => h) (Or.inl ⟨by rfl, ?_⟩) ?_ ?_
                     rotate_left;(intro w';go_simp;with_reducible rfl);rotate_left;(simp only [uc,uA,uB,uC,uZ,ua];rfl)
                     refine take_ (i := 3) (N := some 105) (v := ?_) (a' := ?_) #[F,F,T,T,F] rfl rfl (by kernel_rfl) (fun _ _ _ h => h) (Or.inl ⟨by rfl, ?_⟩) hHeld ?_ ?_
                     rotate_left;(rintro w' ⟨s0, s1, s2, s3⟩;go_simp;with_reducible rfl);rotate_left;(simp only [uc,uA,uB,uC,uZ,ua];rfl)
                     refine take_ (i := 0) (N := some 102) (v := ?_) (a' := ?_) #[T,F,T,T,F] rfl rfl (by kernel_rfl) (fun _ _ _ h => h) (Or.inl ⟨by rfl, ?_⟩) hHeld ?_ ?_
                     rotate_left;(rintro w' ⟨s0, s1, s2, s3⟩;go_simp;with_reducible rfl);rotate_left;(simp only [uc,uA,uB,uC,uZ,ua];rfl)
                     refine one_ (i := 1) (N := some 103) #[T,T,T,T,F] rfl rfl (by kernel_rfl) (by decide) (fun K hK => ?_)
                     refine goes_ Tryd.func12 (by kernel_rfl) rfl #[.agg #[.int .i64 t144, .int .i64 t145, .int .i64 t146]] (by rfl) rfl rfl (by (try simp only [List.map_toArray, List.map_cons, List.map_nil]); first | done | rfl) ?_
                     with_reducible refine (spec_FormatTag.calls k6 t144 t145 t146 t148 _ A46.out).mono ?_
                     rintro e w54 ⟨rfl, hb⟩
                     refine ⟨_, rfl, ?_⟩
                     replace HO_8 := uD (Kd.R_below HO_8.out hb)
                     replace HO_10 := uD (HO_10.out.below hb)
                     replace BT := uD (blk_below BT.out hb)
                     replace HB := uD (uO HB.out hb)
                     clear hb hHeld
                     refine hK.out _ _ ⟨(uF BT.out 0).trans rfl, (uF BT.out 1).trans rfl, (uF BT.out 2).trans rfl, (by have h_ := Fb.string Tryd.underlying37 Tryd.underlying5 Tryd.underlying9 HO_10.out co; rw [HN.out] at h_; exact h_)⟩ (fun hHeld => ?_)
                     clear hK K
                     refine norm_ (a' := ?_) ?_ ?_
                     rotate_left
                     ·show uc _ (some 103) _ = _
                      simp only [uc, uA, uB, uC, uZ, ua]
                      rfl
                     refine ub (i := 4) (N := some 106) (v := ?_) (a' := ?_) #[T,T,T,T,T] rfl rfl (by kernel_rfl) (fun _ _ _ h => h) (Or.inl ⟨by rfl, ?_⟩) ?_ ?_
                     rotate_left;(intro w';go_simp;with_reducible rfl);rotate_left;(simp only [uc,uA,uB,uC,uZ,ua];rfl)
                     refine done_ (by kernel_rfl) ?_
                     try go_wp2
                     go_roundg k6
                     case measure => have := HJ1.out; have := HK2.out; have := HK3.out; have := HK4.out; have := HK5.out; have := HK6.out; omega
                     case rel => exact ⟨(x8_4), (wrap64 (x9_4 + 1)), (by first | rfl | (simp; done) | (simp [*]; done)), H', ⟨by have := HJ1.out; have := HK2.out; have := HK3.out; have := HK4.out; have := HK5.out; have := HK6.out; omega⟩, ⟨by (with_reducible repeat (first | apply uU | apply uS | apply uT)); exact uX HO_8.out (fun _ hk => trivial)⟩, ⟨pb HB⟩⟩
             ·rw [if_neg c29] at H
              have c29b0 : decide (x9_4 < x6_3) = false := decide_eq_false c29
              clear c29
              simp only [Option.some.injEq, Prod.mk.injEq] at H
              obtain ⟨rfl, rfl⟩ := H
              go_wp2
              go_ret2
              exact ⟨_, by first | rfl | (simp [errW_none, errW_some] <;> rfl) | (simp [*, errW_none, errW_some] <;> rfl), by (with_reducible repeat (first | apply uU | apply uS | apply uT)); exact HO_8.out, pb HB⟩

end Go.Proofs.YtnkaimdcdedekaaDoor.PFnTags
