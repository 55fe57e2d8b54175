-- Written by a program of this session (wip/myprint.py: the kit's print with changes): not by print.sh itself.
import Derived.Test.YtnkaimdcdedekaaDoorPFnNearTagsx0
import Derived.Test.YtnkaimdcdedekaaDoorPFnNearTagsx2
namespace Go.Proofs.YtnkaimdcdedekaaDoor.PFnNearTags
open Go.RowKit Go.Proofs.YtnkaimdcdedekaaDoorW.PrintWords Go.Proofs.YtnkaimdcdedekaaDoorW.PrintLast Go.Proofs.YtnkaimdcdedekaaDoorW.PrintMore
open Go renaming Act.put → uc
open Go.Proofs.YtnkaimdcdedekaaDoorW.PrintLast renaming any_of → uY, i64_w → uZ, i32_w → ua, pure_ → ub
open Go.Proofs.YtnkaimdcdedekaaDoorW.PrintWords renaming Aside0.mk → uD, pw_below_drewN → uE, below_drew1 → uK, below_alloc → uL, below_set → uM, below_step → uO, Kd.R_drewN → uS, Kd.R_drew → uT, Kd.R_alloc → uU, Kd.R_mono → uX
open List renaming setIfInBounds_toArray → uA, set_cons_zero → uB, set_cons_succ → uC
open Bool renaming true → T, false → F
attribute [local go_sem] max2_int min2_int max_two min_two max_three min_three max_four min_four   -- for this text's walks alone
set_option linter.unusedVariables false
set_option linter.unusedSimpArgs false

/-! ### impl_ascending: function 51 -/
mutual
def impl_ascending.l0 : Nat → List (S25) → Int → Int → Option ((List (S25)))
 | 0, _, _, _ => none
 | k + 1, x0, x6, x7 => if x7 < x6 then (impl_ascending.l1 k x0 x7 x6 x7) else (some x0)
def impl_ascending.l1 : Nat → List (S25) → Int → Int → Int → Option ((List (S25)))
 | 0, _, _, _, _ => none
 | k + 1, x0, x4, x6, x7 => if x4 > 0 then (if 0 ≤ (wrap64 (x4 - 1)) then (if (wrap64 (x4 - 1)) < (x0.length : Int) then ((impl_TagNumber.f ((rd_T25 x0 (wrap64 (x4 - 1))).f0) ((rd_T25 x0 (wrap64 (x4 - 1))).f1) ((rd_T25 x0 (wrap64 (x4 - 1))).f2)).bind fun t211 => (if 0 ≤ x4 then (if x4 < (x0.length : Int) then ((impl_TagNumber.f ((rd_T25 x0 x4).f0) ((rd_T25 x0 x4).f1) ((rd_T25 x0 x4).f2)).bind fun t213 => (if t211 > t213 then (impl_ascending.l1 k ((x0.set ((wrap64 (x4 - 1)) : Int).toNat (⟨(rd_T25 x0 x4).f0, (rd_T25 x0 x4).f1, (rd_T25 x0 x4).f2⟩ : S25)).set (x4 : Int).toNat (⟨(rd_T25 x0 (wrap64 (x4 - 1))).f0, (rd_T25 x0 (wrap64 (x4 - 1))).f1, (rd_T25 x0 (wrap64 (x4 - 1))).f2⟩ : S25)) (wrap64 (x4 - 1)) x6 x7) else (impl_ascending.l0 k x0 x6 (wrap64 (x7 + 1))))) else (none)) else (none))) else (none)) else (none)) else (impl_ascending.l0 k x0 x6 (wrap64 (x7 + 1)))
end
def impl_ascending.f (k : Nat) (l0 : List (S25)) : Option ((List (S25))) := impl_ascending.l0 k l0 (l0.length : Int) 0
theorem impl_ascending.mono_l : ∀ k, (∀ y0 y1 y2, LeO (impl_ascending.l0 k y0 y1 y2) (impl_ascending.l0 (k + 1) y0 y1 y2)) ∧ (∀ y0 y1 y2 y3, LeO (impl_ascending.l1 k y0 y1 y2 y3) (impl_ascending.l1 (k + 1) y0 y1 y2 y3))
 | 0 => ⟨fun _ _ _ r h => by simp [impl_ascending.l0] at h, fun _ _ _ _ r h => by simp [impl_ascending.l1] at h⟩
 | k + 1 => by
  obtain ⟨ih0, ih1⟩ := impl_ascending.mono_l k
  refine ⟨?_, ?_⟩
  ·intro y0 y1 y2
   unfold impl_ascending.l0
   repeat' first
   | (with_reducible exact ih0 _ _ _)
   | (with_reducible exact ih1 _ _ _ _)
   | (with_reducible exact LeO.refl _)
   | (with_reducible exact LeO.none _)
   | (with_reducible refine LeO.ite ?_ ?_)
   | (with_reducible refine LeO.bind ?_ (fun _ => ?_))
   | exact ih0 _ _ _
   | exact ih1 _ _ _ _
   | exact LeO.none _
   | refine LeO.ite ?_ ?_
   | refine LeO.bind ?_ (fun _ => ?_)
  ·intro y0 y1 y2 y3
   unfold impl_ascending.l1
   repeat' first
   | (with_reducible exact ih0 _ _ _)
   | (with_reducible exact ih1 _ _ _ _)
   | (with_reducible exact LeO.refl _)
   | (with_reducible exact LeO.none _)
   | (with_reducible refine LeO.ite ?_ ?_)
   | (with_reducible refine LeO.bind ?_ (fun _ => ?_))
   | exact ih0 _ _ _
   | exact ih1 _ _ _ _
   | exact LeO.none _
   | refine LeO.ite ?_ ?_
   | refine LeO.bind ?_ (fun _ => ?_)
theorem impl_ascending.mono : ∀ a0 k, LeO (impl_ascending.f k a0) (impl_ascending.f (k + 1) a0) := by
 intro a0 k
 obtain ⟨ih0, ih1⟩ := impl_ascending.mono_l k
 unfold impl_ascending.f
 repeat' first
   | (with_reducible exact ih0 _ _ _)
   | (with_reducible exact ih1 _ _ _ _)
   | (with_reducible exact LeO.refl _)
   | (with_reducible exact LeO.none _)
   | (with_reducible refine LeO.ite ?_ ?_)
   | (with_reducible refine LeO.bind ?_ (fun _ => ?_))
   | exact ih0 _ _ _
   | exact ih1 _ _ _ _
   | exact LeO.none _
   | refine LeO.ite ?_ ?_
   | refine LeO.bind ?_ (fun _ => ?_)
def impl_ascending.T5 : Bool × List (List Nat × List Nat) := (true, [([], []), ([0], [0]), ([1], [1]), ([2], [2]), ([2], [2]), ([4, 2], [2, 4]), ([3, 5, 2], [2, 3, 5]), ([6, 2], [2, 6]), ([7, 2, 2], [2, 7]), ([2], [2]), ([2], [2]), ([9, 10, 2], [2, 9, 10]), ([11, 2], [2, 11]), ([12, 8, 2], [2, 12]), ([8, 13, 2], [2, 8, 13]), ([2, 14], [2, 14])])
def impl_ascending.B5 : List Nat := [0, 1, 3, 7, 7, 23, 63, 127, 255, 7, 7, 1543, 3591, 8191, 16383, 32767]
theorem impl_ascending.tab5 : rtab .any (opsOf Tryd.f51 5) = impl_ascending.T5 := by kernel_rfl
theorem impl_ascending.bits5 : waitsOk impl_ascending.T5.2 impl_ascending.B5 = true := by kernel_rfl
def impl_ascending.T7 : Bool × List (List Nat × List Nat) := (true, [([], []), ([], []), ([1], [1]), ([], []), ([], []), ([], []), ([], []), ([5, 6], [5, 6]), ([7], [7]), ([], []), ([], []), ([10], [10]), ([9, 11], [9, 11]), ([12], [12]), ([0, 2, 0, 1, 2, 5, 6, 7, 8, 13], [0, 2]), ([14, 8, 0, 1, 2, 5, 6, 7, 8, 13], [8, 14]), ([3, 4, 0, 1, 2, 3, 4, 5, 6, 7, 8, 9, 10, 11, 12, 13, 14, 15], [3, 4]), ([16, 13, 15, 0, 1, 2, 3, 4, 5, 6, 7, 8, 9, 10, 11, 12, 13, 14, 15], [13, 16])])
def impl_ascending.B7 : List Nat := [0, 0, 2, 0, 0, 0, 0, 96, 224, 0, 0, 1024, 3584, 7680, 16359, 32743, 65535, 131071]
theorem impl_ascending.tab7 : rtab .any (opsOf Tryd.f51 7) = impl_ascending.T7 := by kernel_rfl
theorem impl_ascending.bits7 : waitsOk impl_ascending.T7.2 impl_ascending.B7 = true := by kernel_rfl
set_option maxHeartbeats 8000000 in
set_option maxRecDepth 100000 in
theorem impl_ascending.calls (k : Nat) (P0_ : Nat → Prop) (u9000_ : Value) (l0 : List (S25)) (r : List (S25)) (w0 w : World) (hB : Below w0.heap.size w0 w) (ho0 : Kd.R k25 25 w w0.heap.size P0_ u9000_ l0) (h : impl_ascending.f k l0 = some r) :
  Calls Tryd.prog 51 #[u9000_] w fun e w' => ∃ v0_ : Value, e = .returned (v0_) ∧ Kd.R k25 25 w' w0.heap.size (fun k_ => (P0_ k_ ∨ w.heap.size ≤ k_)) v0_ r ∧ Below w0.heap.size w0 w' ∧ Kept w w' (fun k_ => P0_ k_) := by
 have hu25 := Tryd.underlying25
 have HO0 := uD (show Kd.R k25 25 w w0.heap.size (fun k_ => (P0_ k_ ∨ w.heap.size ≤ k_)) u9000_ l0 from uX ho0 (fun k_ hk => (.inl hk)))
 have HK := uD (Kept.refl w (fun k_ => P0_ k_))
 have HW0 := uD hB.size
 have HB := uD hB
 clear hB
 have H : (impl_ascending.l0 k l0 (l0.length : Int) 0) = some r := h
 clear h
 have H' := uD H
 clear H
 obtain ⟨Ao2, co2, eo2⟩ := Kd.R_slice HO0.out
 subst eo2
 go_enter Tryd.func51, Tryd.ntmps51
 go_wp2
 go_loopg [7] k (fun kq v7 w' => ∃ (x0_1 : List (S25)) (x7_1 : Int), v7 = .int .i64 x7_1 ∧ Aside0 (impl_ascending.l0 kq x0_1 (l0.length : Int) x7_1 = some r) ∧ Aside0 (kq ≤ k) ∧ Aside0 (Kd.R k25 25 w' w0.heap.size (fun k_ => (P0_ k_ ∨ w.heap.size ≤ k_)) (.slice Ao2 l0.length co2) x0_1) ∧ Aside0 (Kept w w' (fun k_ => P0_ k_)) ∧ Aside0 (Below w0.heap.size w0 w'))
 case atStart => exact ⟨(l0), (0), (by first | rfl | (simp; done) | (simp [*]; done)), H', ⟨Nat.le_refl _⟩, ⟨by (with_reducible repeat (first | apply uU | apply uS | apply uT)); exact HO0.out⟩, ⟨by repeat (first | (with_reducible first | exact HK.out | apply Kept.alloc | apply Kept.drewN | apply Kept.drew) | exact HK.out)⟩, ⟨pb HB⟩⟩
 case round =>
  clear H'
  try clear p2
  obtain ⟨x0_1, x7_1, rfl, HA, HK1, HO_0, HK, HB⟩ := hrel
  have hl0_1 := (Kd.R_reads' HO_0.out).1
  rw [hl0_1] at HO_0
  (try simp only [hl0_1])
  cases gk with
  | zero => exact absurd HA.out (by simp [impl_ascending.l0])
  | succ k1 =>
   have H := HA.out
   clear HA
   simp only [impl_ascending.l0] at H
   by_cases c3 : x7_1 < (l0.length : Int)
   ·rw [if_pos c3] at H
    have c3b0 : decide (x7_1 < (l0.length : Int)) = true := decide_eq_true c3
    (try simp only [hl0_1] at c3b0)
    clear c3
    have H' := uD H
    clear H
    go_wp2
    go_loopg [4] k1 (fun kq v4 w' => ∃ (x0_2 : List (S25)) (x4_2 : Int), v4 = .int .i64 x4_2 ∧ Aside0 (impl_ascending.l1 kq x0_2 x4_2 (l0.length : Int) x7_1 = some r) ∧ Aside0 (kq ≤ k1) ∧ Aside0 (Kd.R k25 25 w' w0.heap.size (fun k_ => (P0_ k_ ∨ w.heap.size ≤ k_)) (.slice Ao2 x0_1.length co2) x0_2) ∧ Aside0 (Kept w w' (fun k_ => P0_ k_)) ∧ Aside0 (Below w0.heap.size w0 w'))
    case atStart => exact ⟨(x0_1), (x7_1), (by first | rfl | (simp; done) | (simp [*]; done)), H', ⟨Nat.le_refl _⟩, ⟨by (try simp only [hl0_1]); (with_reducible repeat (first | apply uU | apply uS | apply uT)); exact HO_0.out⟩, ⟨by repeat (first | (with_reducible first | exact HK.out | apply Kept.alloc | apply Kept.drewN | apply Kept.drew) | exact HK.out)⟩, ⟨pb HB⟩⟩
    case round =>
     clear H'
     try clear p2
     try clear c3
     try clear c3b0
     try clear p2
     obtain ⟨x0_2, x4_2, rfl, HA, HK2, HO_0, HK, HB⟩ := hrel
     have hl0_2 := (Kd.R_reads' HO_0.out).1
     rw [hl0_2] at HO_0
     (try simp only [hl0_2])
     cases gk with
     | zero => exact absurd HA.out (by simp [impl_ascending.l1])
     | succ k2 =>
      have H := HA.out
      clear HA
      simp only [impl_ascending.l1] at H
      by_cases c4 : x4_2 > 0
      ·rw [if_pos c4] at H
       have c4b0 : decide (0 < x4_2) = true := decide_eq_true c4
       clear c4
       obtain ⟨ji5, hji5⟩ : ∃ j_ : Int, (wrap64 (x4_2 - 1)) = j_ := ⟨_, rfl⟩
       replace H : (if 0 ≤ (ji5) then (if (ji5) < (x0_2.length : Int) then ((impl_TagNumber.f ((rd_T25 x0_2 (ji5)).f0) ((rd_T25 x0_2 (ji5)).f1) ((rd_T25 x0_2 (ji5)).f2)).bind fun t211 => (if 0 ≤ x4_2 then (if x4_2 < (x0_2.length : Int) then ((impl_TagNumber.f ((rd_T25 x0_2 x4_2).f0) ((rd_T25 x0_2 x4_2).f1) ((rd_T25 x0_2 x4_2).f2)).bind fun t213 => (if t211 > t213 then (impl_ascending.l1 k2 ((x0_2.set ((ji5) : Int).toNat (⟨(rd_T25 x0_2 x4_2).f0, (rd_T25 x0_2 x4_2).f1, (rd_T25 x0_2 x4_2).f2⟩ : S25)).set (x4_2 : Int).toNat (⟨(rd_T25 x0_2 (ji5)).f0, (rd_T25 x0_2 (ji5)).f1, (rd_T25 x0_2 (ji5)).f2⟩ : S25)) ji5 (l0.length : Int) x7_1) else (impl_ascending.l0 k2 x0_2 (l0.length : Int) (wrap64 (x7_1 + 1))))) else (none)) else (none))) else (none)) else (none)) = some r := by first | (rw [hji5] at H; exact H) | (simp only [hji5] at H ⊢; exact H)
       have hji5w : (IntKind.i64.wrap (x4_2 - 1)) = ji5 := (uZ _).trans hji5
       by_cases c6 : 0 ≤ (ji5)
       ·rw [if_pos c6] at H
        have c6b0 : decide (0 ≤ (ji5)) = true := decide_eq_true c6
        clear c6
        by_cases c7 : (ji5) < (x0_2.length : Int)
        ·rw [if_pos c7] at H
         have c7b0 : decide ((ji5) < (x0_2.length : Int)) = true := decide_eq_true c7
         (try simp only [hl0_1, hl0_2] at c7b0)
         clear c7
         replace H := Option.bind_eq_some_iff.mp H
         obtain ⟨t211, A80, H⟩ := H
         replace H : (if 0 ≤ x4_2 then (if x4_2 < (x0_2.length : Int) then ((impl_TagNumber.f ((rd_T25 x0_2 x4_2).f0) ((rd_T25 x0_2 x4_2).f1) ((rd_T25 x0_2 x4_2).f2)).bind fun t213 => (if t211 > t213 then (impl_ascending.l1 k2 ((x0_2.set ((ji5) : Int).toNat (⟨(rd_T25 x0_2 x4_2).f0, (rd_T25 x0_2 x4_2).f1, (rd_T25 x0_2 x4_2).f2⟩ : S25)).set (x4_2 : Int).toNat (⟨(rd_T25 x0_2 (ji5)).f0, (rd_T25 x0_2 (ji5)).f1, (rd_T25 x0_2 (ji5)).f2⟩ : S25)) ji5 (l0.length : Int) x7_1) else (impl_ascending.l0 k2 x0_2 (l0.length : Int) (wrap64 (x7_1 + 1))))) else (none)) else (none)) = some r := H
         have A8 := uD A80
         clear A80
         by_cases c9 : 0 ≤ x4_2
         ·rw [if_pos c9] at H
          have c9b0 : decide (0 ≤ x4_2) = true := decide_eq_true c9
          clear c9
          by_cases c10 : x4_2 < (x0_2.length : Int)
          ·rw [if_pos c10] at H
           have c10b0 : decide (x4_2 < (x0_2.length : Int)) = true := decide_eq_true c10
           (try simp only [hl0_1, hl0_2] at c10b0)
           clear c10
           replace H := Option.bind_eq_some_iff.mp H
           obtain ⟨t213, A110, H⟩ := H
           replace H : (if t211 > t213 then (impl_ascending.l1 k2 ((x0_2.set ((ji5) : Int).toNat (⟨(rd_T25 x0_2 x4_2).f0, (rd_T25 x0_2 x4_2).f1, (rd_T25 x0_2 x4_2).f2⟩ : S25)).set (x4_2 : Int).toNat (⟨(rd_T25 x0_2 (ji5)).f0, (rd_T25 x0_2 (ji5)).f1, (rd_T25 x0_2 (ji5)).f2⟩ : S25)) ji5 (l0.length : Int) x7_1) else (impl_ascending.l0 k2 x0_2 (l0.length : Int) (wrap64 (x7_1 + 1)))) = some r := H
           have A11 := uD A110
           clear A110
           by_cases c12 : t211 > t213
           ·rw [if_pos c12] at H
            have c12b0 : decide (t213 < t211) = true := decide_eq_true c12
            clear c12
            obtain ⟨y216, hy216⟩ : ∃ y_ : List (S25), y_ = (x0_2.set ((ji5) : Int).toNat (⟨(rd_T25 x0_2 x4_2).f0, (rd_T25 x0_2 x4_2).f1, (rd_T25 x0_2 x4_2).f2⟩ : S25)) := ⟨_, rfl⟩
            replace H : (impl_ascending.l1 k2 (y216.set (x4_2 : Int).toNat (⟨(rd_T25 x0_2 (ji5)).f0, (rd_T25 x0_2 (ji5)).f1, (rd_T25 x0_2 (ji5)).f2⟩ : S25)) ji5 (l0.length : Int) x7_1) = some r := by first | (rw [hy216]; with_reducible exact H) | (have H2_ := (Option.bind_some _ _).symm.trans H; rw [hy216]; with_reducible exact H2_) | (have H2_ := (Option.bind_some _ _).symm.trans H; with_reducible exact H2_) | with_reducible exact H | (rw [hy216]; exact H) | exact H
            have Ny216 := uD hy216
            clear hy216
            obtain ⟨y217, hy217⟩ : ∃ y_ : List (S25), y_ = (y216.set (x4_2 : Int).toNat (⟨(rd_T25 x0_2 (ji5)).f0, (rd_T25 x0_2 (ji5)).f1, (rd_T25 x0_2 (ji5)).f2⟩ : S25)) := ⟨_, rfl⟩
            replace H : (impl_ascending.l1 k2 y217 ji5 (l0.length : Int) x7_1) = some r := by first | (rw [hy217]; with_reducible exact H) | (have H2_ := (Option.bind_some _ _).symm.trans H; rw [hy217]; with_reducible exact H2_) | (have H2_ := (Option.bind_some _ _).symm.trans H; with_reducible exact H2_) | with_reducible exact H | (rw [hy217]; exact H) | exact H
            have Ny217 := uD hy217
            clear hy217
            have H' := uD H
            clear H
            try go_wp2
            replace HO_0 := uD (uT HO_0.out)
            replace HK := uD (Kept.drew HK.out)
            replace HB := uD (uK HB.out)
            have p210 : 0 ≤ ((ji5) : Int) := of_decide_eq_true (by first | (with_reducible assumption) | assumption)
            have q210 : (ji5) < (x0_2.length : Int) := of_decide_eq_true (by first | (with_reducible assumption) | assumption)
            obtain ⟨ad210, e210, hx210_0, hx210_1, hx210_2⟩ := at_T25 (Kd.R_reads' HO_0.out).2.2 (ji5) p210 q210
            cases e210
            replace p210 := eq_true p210
            replace q210 := eq_true q210
            have p212 : 0 ≤ (x4_2 : Int) := of_decide_eq_true (by first | (with_reducible assumption) | assumption)
            have q212 : x4_2 < (x0_2.length : Int) := of_decide_eq_true (by first | (with_reducible assumption) | assumption)
            obtain ⟨ad212, e212, hx212_0, hx212_1, hx212_2⟩ := at_T25 (Kd.R_reads' HO_0.out).2.2 x4_2 p212 q212
            obtain rfl : ad210 = ad212 := (by injection e212)
            replace p212 := eq_true p212
            replace q212 := eq_true q212
            refine start_ (n := 16) (S := fun w' => w'.cell? (ad210.add (((ji5)).toNat * 3)) = some (.int .i64 ((rd_T25 x0_2 (ji5)).f0)) ∧ w'.cell? ⟨(ad210.add (((ji5)).toNat * 3)).block, (ad210.add (((ji5)).toNat * 3)).off + 1, none⟩ = some (.int .i64 ((rd_T25 x0_2 (ji5)).f1)) ∧ w'.cell? ⟨(ad210.add (((ji5)).toNat * 3)).block, (ad210.add (((ji5)).toNat * 3)).off + 2, none⟩ = some (.int .i64 ((rd_T25 x0_2 (ji5)).f2)) ∧ w'.cell? (ad210.add ((x4_2).toNat * 3)) = some (.int .i64 ((rd_T25 x0_2 x4_2).f0)) ∧ w'.cell? ⟨(ad210.add ((x4_2).toNat * 3)).block, (ad210.add ((x4_2).toNat * 3)).off + 1, none⟩ = some (.int .i64 ((rd_T25 x0_2 x4_2).f1)) ∧ w'.cell? ⟨(ad210.add ((x4_2).toNat * 3)).block, (ad210.add ((x4_2).toNat * 3)).off + 2, none⟩ = some (.int .i64 ((rd_T25 x0_2 x4_2).f2))) (ds := []) #[F,F,F,F,F,F,F,F,F,F,F,F,F,F,F,F] (by kernel_rfl) rfl rfl ⟨hx210_0, hx210_1, hx210_2, hx212_0, hx212_1, hx212_2⟩ (fun hHeld => ?_); refine with_tabW impl_ascending.tab5 impl_ascending.bits5 (fun HT_ HW_ => ?_)
            generalize wr.drew = w15 at HO_0 HK HB hx210_0 hx210_1 hx210_2 hx212_0 hx212_1 hx212_2 hHeld ⊢
            refine pu 0 (some 11) #[T,F,F,F,F,F,F,F,F,F,F,F,F,F,F,F] HT_ ?_
            refine pu 1 (some 12) #[T,T,F,F,F,F,F,F,F,F,F,F,F,F,F,F] HT_ ?_
            refine pu 2 (some 13) #[T,T,T,F,F,F,F,F,F,F,F,F,F,F,F,F] HT_ ?_
            refine pu 3 (some 14) #[T,T,T,T,F,F,F,F,F,F,F,F,F,F,F,F] HT_ ?_
            refine pu 4 (some 15) #[T,T,T,T,T,F,F,F,F,F,F,F,F,F,F,F] HT_ ?_
            refine pu 5 (some 16) #[T,T,T,T,T,T,F,F,F,F,F,F,F,F,F,F] HT_ ?_
            refine pu 6 (some 17) #[T,T,T,T,T,T,T,F,F,F,F,F,F,F,F,F] HT_ ?_
            refine pu 9 (some 20) #[T,T,T,T,T,T,T,F,F,T,F,F,F,F,F,F] HT_ ?_
            refine pu 10 (some 21) #[T,T,T,T,T,T,T,F,F,T,T,F,F,F,F,F] HT_ ?_
            refine pu 11 (some 22) #[T,T,T,T,T,T,T,F,F,T,T,T,F,F,F,F] HT_ ?_
            refine tk 7 (some 18) #[T,T,T,T,T,T,T,T,F,T,T,T,F,F,F,F] HT_ HW_ hHeld ?_
            refine tk 12 (some 23) #[T,T,T,T,T,T,T,T,F,T,T,T,T,F,F,F] HT_ HW_ hHeld ?_
            refine one_ (i := 8) (N := some 19) #[T,T,T,T,T,T,T,T,T,T,T,T,T,F,F,F] rfl rfl (one_of HT_.out (by kernel_rfl)) (by decide) (fun K hK => ?_)
            refine goes_ Tryd.func28 (by kernel_rfl) rfl #[.agg #[.int .i64 ((rd_T25 x0_2 (ji5)).f0), .int .i64 ((rd_T25 x0_2 (ji5)).f1), .int .i64 ((rd_T25 x0_2 (ji5)).f2)]] (by rfl) rfl rfl (by (try simp only [List.map_toArray, List.map_cons, List.map_nil]); first | done | (simp only [hji5]; rfl) | rfl | (simp only [List.length_drop, List.length_take]; rfl)) ?_
            with_reducible refine (impl_TagNumber.calls ((rd_T25 x0_2 (ji5)).f0) ((rd_T25 x0_2 (ji5)).f1) ((rd_T25 x0_2 (ji5)).f2) t211 _ A8.out).mono ?_
            rintro e w16 ⟨rfl, hb⟩
            have HS0_ := (hb.cell (World.block_lt_of_cell? _ _ (hHeld.1))).trans (hHeld.1)
            have HS1_ := (hb.cell (World.block_lt_of_cell? _ _ (hHeld.2.1))).trans (hHeld.2.1)
            have HS2_ := (hb.cell (World.block_lt_of_cell? _ _ (hHeld.2.2.1))).trans (hHeld.2.2.1)
            have HS3_ := (hb.cell (World.block_lt_of_cell? _ _ (hHeld.2.2.2.1))).trans (hHeld.2.2.2.1)
            have HS4_ := (hb.cell (World.block_lt_of_cell? _ _ (hHeld.2.2.2.2.1))).trans (hHeld.2.2.2.2.1)
            have HS5_ := (hb.cell (World.block_lt_of_cell? _ _ (hHeld.2.2.2.2.2))).trans (hHeld.2.2.2.2.2)
            refine ⟨_, rfl, ?_⟩
            replace HO_0 := uD (Kd.R_below (pr HO_0) hb)
            replace HK := uD (Kept.below (S := (fun k_ => P0_ k_)) (by repeat (first | (with_reducible first | exact HK.out | apply Kept.alloc | apply Kept.drewN | apply Kept.drew) | exact HK.out)) hb)
            replace HB := uD (uO (pb HB) hb)
            (try clear hb)
            (try clear hb2)
            (try clear hk)
            (try clear hi)
            refine hK.out _ _ ⟨HS0_, HS1_, HS2_, HS3_, HS4_, HS5_⟩ (fun hHeld => ?_)
            clear hK K
            refine norm_ (a' := ?_) ?_ ?_
            rotate_left
            ·show uc _ (some 19) _ = _
             simp only [uc, uA, uB, uC, uZ, ua]
             rfl
            refine one_ (i := 13) (N := some 24) #[T,T,T,T,T,T,T,T,T,T,T,T,T,T,F,F] rfl rfl (one_of HT_.out (by kernel_rfl)) (by decide) (fun K hK => ?_)
            refine goes_ Tryd.func28 (by kernel_rfl) rfl #[.agg #[.int .i64 ((rd_T25 x0_2 x4_2).f0), .int .i64 ((rd_T25 x0_2 x4_2).f1), .int .i64 ((rd_T25 x0_2 x4_2).f2)]] (by rfl) rfl rfl (by (try simp only [List.map_toArray, List.map_cons, List.map_nil]); first | done | rfl | (simp only [List.length_drop, List.length_take]; rfl)) ?_
            with_reducible refine (impl_TagNumber.calls ((rd_T25 x0_2 x4_2).f0) ((rd_T25 x0_2 x4_2).f1) ((rd_T25 x0_2 x4_2).f2) t213 _ A11.out).mono ?_
            rintro e w17 ⟨rfl, hb⟩
            have HS0_ := (hb.cell (World.block_lt_of_cell? _ _ (hHeld.1))).trans (hHeld.1)
            have HS1_ := (hb.cell (World.block_lt_of_cell? _ _ (hHeld.2.1))).trans (hHeld.2.1)
            have HS2_ := (hb.cell (World.block_lt_of_cell? _ _ (hHeld.2.2.1))).trans (hHeld.2.2.1)
            have HS3_ := (hb.cell (World.block_lt_of_cell? _ _ (hHeld.2.2.2.1))).trans (hHeld.2.2.2.1)
            have HS4_ := (hb.cell (World.block_lt_of_cell? _ _ (hHeld.2.2.2.2.1))).trans (hHeld.2.2.2.2.1)
            have HS5_ := (hb.cell (World.block_lt_of_cell? _ _ (hHeld.2.2.2.2.2))).trans (hHeld.2.2.2.2.2)
            refine ⟨_, rfl, ?_⟩
            replace HO_0 := uD (Kd.R_below (pr HO_0) hb)
            replace HK := uD (Kept.below (S := (fun k_ => P0_ k_)) (by repeat (first | (with_reducible first | exact HK.out | apply Kept.alloc | apply Kept.drewN | apply Kept.drew) | exact HK.out)) hb)
            replace HB := uD (uO (pb HB) hb)
            (try clear hb)
            (try clear hb2)
            (try clear hk)
            (try clear hi)
            refine hK.out _ _ ⟨HS0_, HS1_, HS2_, HS3_, HS4_, HS5_⟩ (fun hHeld => ?_)
            clear hK K
            refine norm_ (a' := ?_) ?_ ?_
            rotate_left
            ·show uc _ (some 24) _ = _
             simp only [uc, uA, uB, uC, uZ, ua]
             rfl
            refine pu 14 (some 25) #[T,T,T,T,T,T,T,T,T,T,T,T,T,T,T,F] HT_ ?_
            refine pu 15 (some 26) #[T,T,T,T,T,T,T,T,T,T,T,T,T,T,T,T] HT_ ?_
            refine done_ (done_of HT_.out (by kernel_rfl)) ?_
            try go_wp2
            replace HO_0 := uD (uT HO_0.out)
            replace HK := uD (Kept.drew HK.out)
            replace HB := uD (uK HB.out)
            have p214 : 0 ≤ (x4_2 : Int) := of_decide_eq_true (by first | (with_reducible assumption) | assumption)
            have q214 : x4_2 < (x0_2.length : Int) := of_decide_eq_true (by first | (with_reducible assumption) | assumption)
            obtain ⟨ad214, e214, hx214_0, hx214_1, hx214_2⟩ := at_T25 (Kd.R_reads' HO_0.out).2.2 x4_2 p214 q214
            obtain rfl : ad210 = ad214 := (by injection e214)
            replace p214 := eq_true p214
            replace q214 := eq_true q214
            have p215 : 0 ≤ ((ji5) : Int) := of_decide_eq_true (by first | (with_reducible assumption) | assumption)
            have q215 : (ji5) < (x0_2.length : Int) := of_decide_eq_true (by first | (with_reducible assumption) | assumption)
            obtain ⟨ad215, e215, hx215_0, hx215_1, hx215_2⟩ := at_T25 (Kd.R_reads' HO_0.out).2.2 (ji5) p215 q215
            obtain rfl : ad210 = ad215 := (by injection e215)
            replace p215 := eq_true p215
            replace q215 := eq_true q215
            have p13 : 0 ≤ ((ji5) : Int) := of_decide_eq_true (by first | (with_reducible assumption) | assumption)
            have q13 : ((ji5) : Int) < ((x0_2.length : Int) : Int) := of_decide_eq_true (by first | (with_reducible assumption) | assumption)
            obtain ⟨go13, co13, eo13, gb13, gl13, cl13, HG13⟩ := Kd.R_form HO_0.out (by omega)
            (first | cases eo13 | (injection eo13 with ea_ en_ ec_; (first | subst ea_ | (injection ea_ with ea_; subst ea_)); subst ec_; clear en_))
            have GB13 := uD gb13
            have GG13 := uD HG13
            clear gb13 gl13 HG13
            have HMgo13 := uD (show (P0_ go13 ∨ w.heap.size ≤ go13) from (HO_0.out.1 _ rfl))
            (first | simp only [add_plain] at hx210_0 | skip)
            (first | simp only [add_plain] at hx210_1 | skip)
            (first | simp only [add_plain] at hx210_2 | skip)
            (first | simp only [add_plain] at hx212_0 | skip)
            (first | simp only [add_plain] at hx212_1 | skip)
            (first | simp only [add_plain] at hx212_2 | skip)
            (first | simp only [add_plain] at hx214_0 | skip)
            (first | simp only [add_plain] at hx214_1 | skip)
            (first | simp only [add_plain] at hx214_2 | skip)
            (first | simp only [add_plain] at hx215_0 | skip)
            (first | simp only [add_plain] at hx215_1 | skip)
            (first | simp only [add_plain] at hx215_2 | skip)
            obtain ⟨ce13, hcl13, hM13, hcc13, hfr13⟩ := Kd.R_elem HO_0.out z25 ((ji5) : Int) p13 q13
            obtain rfl := k25_openM hM13
            have hx13_0 : World.cell? _ ⟨go13, ((ji5) : Int).toNat * 3, none⟩ = some (.int .i64 ((rd_T25 x0_2 (ji5)).f0)) := hcc13 0 _ rfl
            have hx13_1 : World.cell? _ ⟨go13, ((ji5) : Int).toNat * 3 + 1, none⟩ = some (.int .i64 ((rd_T25 x0_2 (ji5)).f1)) := hcc13 1 _ rfl
            have hx13_2 : World.cell? _ ⟨go13, ((ji5) : Int).toNat * 3 + 2, none⟩ = some (.int .i64 ((rd_T25 x0_2 (ji5)).f2)) := hcc13 2 _ rfl
            have hf13_0 : World.frozen? _ ⟨go13, ((ji5) : Int).toNat * 3, none⟩ = false := hfr13 0
            have hf13_1 : World.frozen? _ ⟨go13, ((ji5) : Int).toNat * 3 + 1, none⟩ = false := hfr13 1
            have hf13_2 : World.frozen? _ ⟨go13, ((ji5) : Int).toNat * 3 + 2, none⟩ = false := hfr13 2
            clear hcl13 hcc13 hfr13 hM13
            replace p13 := eq_true p13
            replace q13 := eq_true q13
            obtain ⟨ce19, hcl19, hM19, hcc19, hfr19⟩ := Kd.R_elem HO_0.out z25 ((ji5) : Int) (of_decide_eq_true (by first | (with_reducible assumption) | assumption)) (by have h_ : ((ji5) : Int) < ((x0_2.length : Int) : Int) := of_decide_eq_true (by first | (with_reducible assumption) | assumption); first | exact h_ | (have e_ := (Kd.R_reads' HO_0.out).1; omega) | simpa using h_)
            obtain rfl := k25_openM hM19
            have HP19 := (Kd.R_seg HO_0.out ((ji5) : Int) (of_decide_eq_true (by first | (with_reducible assumption) | assumption)) (by have h_ : ((ji5) : Int) < ((x0_2.length : Int) : Int) := of_decide_eq_true (by first | (with_reducible assumption) | assumption); first | exact h_ | (have e_ := (Kd.R_reads' HO_0.out).1; omega) | simpa using h_) (seg := [.int .i64 ((rd_T25 x0_2 x4_2).f0), .int .i64 ((rd_T25 x0_2 x4_2).f1), .int .i64 ((rd_T25 x0_2 x4_2).f2)]) (j := 0) hcl19 hcc19 (show 3 ≤ 3 from by decide) (x' := (⟨(rd_T25 x0_2 x4_2).f0, (rd_T25 x0_2 x4_2).f1, (rd_T25 x0_2 x4_2).f2⟩ : S25)) (k25_mkM _ _ _ (⟨(rd_T25 x0_2 x4_2).f0, (rd_T25 x0_2 x4_2).f1, (rd_T25 x0_2 x4_2).f2⟩ : S25) ) (fun _ hk => hk)).1
            rw [← Ny216.out] at HP19
            have HQ19 := uD HP19
            clear hcl19 hcc19 hfr19 hM19 HP19
            have p14 : 0 ≤ (x4_2 : Int) := of_decide_eq_true (by first | (with_reducible assumption) | assumption)
            have q14 : (x4_2 : Int) < ((x0_2.length : Int) : Int) := of_decide_eq_true (by first | (with_reducible assumption) | assumption)
            obtain ⟨ce14, hcl14, hM14, hcc14, hfr14⟩ := Kd.R_elem HQ19.out z25 (x4_2 : Int) p14 q14
            obtain rfl := k25_openM hM14
            have hx14_0 : World.cell? _ ⟨go13, (x4_2 : Int).toNat * 3, none⟩ = some (.int .i64 ((rd_T25 y216 x4_2).f0)) := hcc14 0 _ rfl
            have hx14_1 : World.cell? _ ⟨go13, (x4_2 : Int).toNat * 3 + 1, none⟩ = some (.int .i64 ((rd_T25 y216 x4_2).f1)) := hcc14 1 _ rfl
            have hx14_2 : World.cell? _ ⟨go13, (x4_2 : Int).toNat * 3 + 2, none⟩ = some (.int .i64 ((rd_T25 y216 x4_2).f2)) := hcc14 2 _ rfl
            have hf14_0 : World.frozen? _ ⟨go13, (x4_2 : Int).toNat * 3, none⟩ = false := hfr14 0
            have hf14_1 : World.frozen? _ ⟨go13, (x4_2 : Int).toNat * 3 + 1, none⟩ = false := hfr14 1
            have hf14_2 : World.frozen? _ ⟨go13, (x4_2 : Int).toNat * 3 + 2, none⟩ = false := hfr14 2
            clear hcl14 hcc14 hfr14 hM14
            replace p14 := eq_true p14
            replace q14 := eq_true q14
            obtain ⟨ce20, hcl20, hM20, hcc20, hfr20⟩ := Kd.R_elem HQ19.out z25 (x4_2 : Int) (of_decide_eq_true (by first | (with_reducible assumption) | assumption)) (by have h_ : (x4_2 : Int) < ((x0_2.length : Int) : Int) := of_decide_eq_true (by first | (with_reducible assumption) | assumption); first | exact h_ | (have e_ := (Kd.R_reads' HO_0.out).1; omega) | simpa using h_)
            obtain rfl := k25_openM hM20
            have HP20 := (Kd.R_seg HQ19.out (x4_2 : Int) (of_decide_eq_true (by first | (with_reducible assumption) | assumption)) (by have h_ : (x4_2 : Int) < ((x0_2.length : Int) : Int) := of_decide_eq_true (by first | (with_reducible assumption) | assumption); first | exact h_ | (have e_ := (Kd.R_reads' HO_0.out).1; omega) | simpa using h_) (seg := [.int .i64 ((rd_T25 x0_2 (ji5)).f0), .int .i64 ((rd_T25 x0_2 (ji5)).f1), .int .i64 ((rd_T25 x0_2 (ji5)).f2)]) (j := 0) hcl20 hcc20 (show 3 ≤ 3 from by decide) (x' := (⟨(rd_T25 x0_2 (ji5)).f0, (rd_T25 x0_2 (ji5)).f1, (rd_T25 x0_2 (ji5)).f2⟩ : S25)) (k25_mkM _ _ _ (⟨(rd_T25 x0_2 (ji5)).f0, (rd_T25 x0_2 (ji5)).f1, (rd_T25 x0_2 (ji5)).f2⟩ : S25) ) (fun _ hk => hk)).1
            rw [← Ny217.out] at HP20
            have HQ20 := uD HP20
            clear hcl20 hcc20 hfr20 hM20 HP20
            have hj1_ : ji5 ≠ x4_2 := by intro h_; have h2_ := hji5; unfold wrap64 at h2_; omega
            have hj2_ : ji5.toNat ≠ x4_2.toNat := by have h1_ : 0 ≤ x4_2 := of_eq_true p214; have h2_ : 0 ≤ ji5 := of_eq_true p215; omega
            have hj3_ := eq_false hj2_
            have hj4_ := eq_false (Ne.symm hj2_)
            have hj00_ := eq_false (show ¬ ji5.toNat * 3 = x4_2.toNat * 3 by omega)
            have hk00_ := eq_false (show ¬ x4_2.toNat * 3 = ji5.toNat * 3 by omega)
            have hj01_ := eq_false (show ¬ ji5.toNat * 3 = x4_2.toNat * 3 + 1 by omega)
            have hk01_ := eq_false (show ¬ x4_2.toNat * 3 = ji5.toNat * 3 + 1 by omega)
            have hj02_ := eq_false (show ¬ ji5.toNat * 3 = x4_2.toNat * 3 + 2 by omega)
            have hk02_ := eq_false (show ¬ x4_2.toNat * 3 = ji5.toNat * 3 + 2 by omega)
            have hj10_ := eq_false (show ¬ ji5.toNat * 3 + 1 = x4_2.toNat * 3 by omega)
            have hk10_ := eq_false (show ¬ x4_2.toNat * 3 + 1 = ji5.toNat * 3 by omega)
            have hj11_ := eq_false (show ¬ ji5.toNat * 3 + 1 = x4_2.toNat * 3 + 1 by omega)
            have hk11_ := eq_false (show ¬ x4_2.toNat * 3 + 1 = ji5.toNat * 3 + 1 by omega)
            have hj12_ := eq_false (show ¬ ji5.toNat * 3 + 1 = x4_2.toNat * 3 + 2 by omega)
            have hk12_ := eq_false (show ¬ x4_2.toNat * 3 + 1 = ji5.toNat * 3 + 2 by omega)
            have hj20_ := eq_false (show ¬ ji5.toNat * 3 + 2 = x4_2.toNat * 3 by omega)
            have hk20_ := eq_false (show ¬ x4_2.toNat * 3 + 2 = ji5.toNat * 3 by omega)
            have hj21_ := eq_false (show ¬ ji5.toNat * 3 + 2 = x4_2.toNat * 3 + 1 by omega)
            have hk21_ := eq_false (show ¬ x4_2.toNat * 3 + 2 = ji5.toNat * 3 + 1 by omega)
            have hj22_ := eq_false (show ¬ ji5.toNat * 3 + 2 = x4_2.toNat * 3 + 2 by omega)
            have hk22_ := eq_false (show ¬ x4_2.toNat * 3 + 2 = ji5.toNat * 3 + 2 by omega)
            clear hj1_ hj2_
            refine start_ (n := 18) (S := fun w' => w'.cell? ⟨go13, ((x4_2).toNat * 3), none⟩ = some (.int .i64 ((rd_T25 x0_2 x4_2).f0)) ∧ w'.cell? ⟨go13, ((x4_2).toNat * 3) + 1, none⟩ = some (.int .i64 ((rd_T25 x0_2 x4_2).f1)) ∧ w'.cell? ⟨go13, ((x4_2).toNat * 3) + 2, none⟩ = some (.int .i64 ((rd_T25 x0_2 x4_2).f2)) ∧ w'.cell? ⟨go13, (((ji5)).toNat * 3), none⟩ = some (.int .i64 ((rd_T25 x0_2 (ji5)).f0)) ∧ w'.cell? ⟨go13, (((ji5)).toNat * 3) + 1, none⟩ = some (.int .i64 ((rd_T25 x0_2 (ji5)).f1)) ∧ w'.cell? ⟨go13, (((ji5)).toNat * 3) + 2, none⟩ = some (.int .i64 ((rd_T25 x0_2 (ji5)).f2))) (ds := [15, 17]) #[F,F,F,F,F,F,F,F,F,F,F,F,F,F,F,F,F,F] (by kernel_rfl) rfl rfl ⟨hx214_0, hx214_1, hx214_2, hx215_0, hx215_1, hx215_2⟩ (fun hHeld => ?_); refine with_tabW impl_ascending.tab7 impl_ascending.bits7 (fun HT_ HW_ => ?_)
            generalize w17.drew = w18 at HO_0 HK HB GG13 HQ19 HQ20 hf13_0 hf13_1 hf13_2 hf14_0 hf14_1 hf14_2 hx13_0 hx13_1 hx13_2 hx14_0 hx14_1 hx14_2 hx210_0 hx210_1 hx210_2 hx212_0 hx212_1 hx212_2 hx214_0 hx214_1 hx214_2 hx215_0 hx215_1 hx215_2 hHeld ⊢
            obtain ⟨cx_, hclx_, hMx_, hccx_, hfrx_⟩ := Kd.R_elem HO_0.out z25 (x4_2 : Int) (of_eq_true p214) (of_eq_true q214)
            have hfx0_ : World.frozen? _ ⟨go13, (x4_2 : Int).toNat * 3, none⟩ = false := hfrx_ 0
            have hfx1_ : World.frozen? _ ⟨go13, (x4_2 : Int).toNat * 3 + 1, none⟩ = false := hfrx_ 1
            have hfx2_ : World.frozen? _ ⟨go13, (x4_2 : Int).toNat * 3 + 2, none⟩ = false := hfrx_ 2
            clear hclx_ hMx_ hccx_ hfrx_
            refine pu 0 (some 29) #[T,F,F,F,F,F,F,F,F,F,F,F,F,F,F,F,F,F] HT_ ?_
            refine pu 1 (some 30) #[T,T,F,F,F,F,F,F,F,F,F,F,F,F,F,F,F,F] HT_ ?_
            refine pu 2 (some 31) #[T,T,T,F,F,F,F,F,F,F,F,F,F,F,F,F,F,F] HT_ ?_
            refine pu 3 (some 32) #[T,T,T,T,F,F,F,F,F,F,F,F,F,F,F,F,F,F] HT_ ?_
            refine pu 4 (some 33) #[T,T,T,T,T,F,F,F,F,F,F,F,F,F,F,F,F,F] HT_ ?_
            refine pu 5 (some 34) #[T,T,T,T,T,T,F,F,F,F,F,F,F,F,F,F,F,F] HT_ ?_
            refine pu 6 (some 35) #[T,T,T,T,T,T,T,F,F,F,F,F,F,F,F,F,F,F] HT_ ?_
            refine pu 7 (some 36) #[T,T,T,T,T,T,T,T,F,F,F,F,F,F,F,F,F,F] HT_ ?_
            refine pu 9 (some 38) #[T,T,T,T,T,T,T,T,F,T,F,F,F,F,F,F,F,F] HT_ ?_
            refine pu 10 (some 39) #[T,T,T,T,T,T,T,T,F,T,T,F,F,F,F,F,F,F] HT_ ?_
            refine pu 11 (some 40) #[T,T,T,T,T,T,T,T,F,T,T,T,F,F,F,F,F,F] HT_ ?_
            refine pu 12 (some 41) #[T,T,T,T,T,T,T,T,F,T,T,T,T,F,F,F,F,F] HT_ ?_
            refine tk 8 (some 37) #[T,T,T,T,T,T,T,T,T,T,T,T,T,F,F,F,F,F] HT_ HW_ hHeld ?_
            refine tk 13 (some 42) #[T,T,T,T,T,T,T,T,T,T,T,T,T,T,F,F,F,F] HT_ HW_ hHeld ?_
            refine pu 14 (some 43) #[T,T,T,T,T,T,T,T,T,T,T,T,T,T,T,F,F,F] HT_ ?_
            refine last_ (i := 15) (N := none) #[T,T,T,T,T,T,T,T,T,T,T,T,T,T,T,T,F,F] rfl rfl (one_of HT_.out (by kernel_rfl)) (by decide) (fun K hK => ?_)
            refine skip_ (w1 := ?_) (by rfl) rfl ?_ ?_
            rotate_left
            ·go_simp
             rfl
            refine hK.out _ _ ?_
            clear hK K
            refine pu 16 (some 44) #[T,T,T,T,T,T,T,T,T,T,T,T,T,T,T,T,T,F] HT_ ?_
            refine last_ (i := 17) (N := none) #[T,T,T,T,T,T,T,T,T,T,T,T,T,T,T,T,T,T] rfl rfl (one_of HT_.out (by kernel_rfl)) (by decide) (fun K hK => ?_)
            refine skip_ (w1 := ?_) (by rfl) rfl ?_ ?_
            rotate_left
            ·go_simp
             rfl
            refine hK.out _ _ ?_
            clear hK K
            refine done_ (done_of HT_.out (by kernel_rfl)) ?_
            try go_wp2
            (try simp only [← hl0_2])
            go_roundg k2
            case measure => have := HK1.out; have := HK2.out; omega
            case rel => exact ⟨(y217), (ji5), (by first | rfl | (simp; done) | (simp only [← hji5] <;> (first | rfl | simp)) | (simp [*]; done)), H', ⟨by have := HK1.out; have := HK2.out; omega⟩, ⟨by (try simp only [hl0_1]); (try simp only [hl0_2]); (with_reducible repeat (first | apply uU | apply uS | apply uT)); exact HQ20.out⟩, ⟨by repeat (first | (with_reducible first | exact HK.out | apply Kept.alloc | apply Kept.drewN | apply Kept.drew | refine Kept.setCell ?_ HMgo13.out _ | refine Kept.setCell ?_ HMgo13.out _ | refine Kept.setCell ?_ HMgo13.out _ | refine Kept.setCell ?_ HMgo13.out _ | refine Kept.setCell ?_ HMgo13.out _ | refine Kept.setCell ?_ HMgo13.out _) | exact HK.out)⟩, ⟨by repeat (first | (with_reducible first | exact HB.out | apply uL | apply uE | apply uK | refine uM ?_ GB13.out | refine uM ?_ GB13.out | refine uM ?_ GB13.out | refine uM ?_ GB13.out | refine uM ?_ GB13.out | refine uM ?_ GB13.out) | exact HB.out)⟩⟩
           ·rw [if_neg c12] at H
            have c12b0 : decide (t213 < t211) = false := decide_eq_false c12
            clear c12
            have H' := uD H
            clear H
            try go_wp2
            replace HO_0 := uD (uT HO_0.out)
            replace HK := uD (Kept.drew HK.out)
            replace HB := uD (uK HB.out)
            have p210 : 0 ≤ ((ji5) : Int) := of_decide_eq_true (by first | (with_reducible assumption) | assumption)
            have q210 : (ji5) < (x0_2.length : Int) := of_decide_eq_true (by first | (with_reducible assumption) | assumption)
            obtain ⟨ad210, e210, hx210_0, hx210_1, hx210_2⟩ := at_T25 (Kd.R_reads' HO_0.out).2.2 (ji5) p210 q210
            cases e210
            replace p210 := eq_true p210
            replace q210 := eq_true q210
            have p212 : 0 ≤ (x4_2 : Int) := of_decide_eq_true (by first | (with_reducible assumption) | assumption)
            have q212 : x4_2 < (x0_2.length : Int) := of_decide_eq_true (by first | (with_reducible assumption) | assumption)
            obtain ⟨ad212, e212, hx212_0, hx212_1, hx212_2⟩ := at_T25 (Kd.R_reads' HO_0.out).2.2 x4_2 p212 q212
            obtain rfl : ad210 = ad212 := (by injection e212)
            replace p212 := eq_true p212
            replace q212 := eq_true q212
            refine start_ (n := 16) (S := fun w' => w'.cell? (ad210.add (((ji5)).toNat * 3)) = some (.int .i64 ((rd_T25 x0_2 (ji5)).f0)) ∧ w'.cell? ⟨(ad210.add (((ji5)).toNat * 3)).block, (ad210.add (((ji5)).toNat * 3)).off + 1, none⟩ = some (.int .i64 ((rd_T25 x0_2 (ji5)).f1)) ∧ w'.cell? ⟨(ad210.add (((ji5)).toNat * 3)).block, (ad210.add (((ji5)).toNat * 3)).off + 2, none⟩ = some (.int .i64 ((rd_T25 x0_2 (ji5)).f2)) ∧ w'.cell? (ad210.add ((x4_2).toNat * 3)) = some (.int .i64 ((rd_T25 x0_2 x4_2).f0)) ∧ w'.cell? ⟨(ad210.add ((x4_2).toNat * 3)).block, (ad210.add ((x4_2).toNat * 3)).off + 1, none⟩ = some (.int .i64 ((rd_T25 x0_2 x4_2).f1)) ∧ w'.cell? ⟨(ad210.add ((x4_2).toNat * 3)).block, (ad210.add ((x4_2).toNat * 3)).off + 2, none⟩ = some (.int .i64 ((rd_T25 x0_2 x4_2).f2))) (ds := []) #[F,F,F,F,F,F,F,F,F,F,F,F,F,F,F,F] (by kernel_rfl) rfl rfl ⟨hx210_0, hx210_1, hx210_2, hx212_0, hx212_1, hx212_2⟩ (fun hHeld => ?_); refine with_tabW impl_ascending.tab5 impl_ascending.bits5 (fun HT_ HW_ => ?_)
            generalize wr.drew = w21 at HO_0 HK HB hx210_0 hx210_1 hx210_2 hx212_0 hx212_1 hx212_2 hHeld ⊢
            refine pu 0 (some 11) #[T,F,F,F,F,F,F,F,F,F,F,F,F,F,F,F] HT_ ?_
            refine pu 1 (some 12) #[T,T,F,F,F,F,F,F,F,F,F,F,F,F,F,F] HT_ ?_
            refine pu 2 (some 13) #[T,T,T,F,F,F,F,F,F,F,F,F,F,F,F,F] HT_ ?_
            refine pu 3 (some 14) #[T,T,T,T,F,F,F,F,F,F,F,F,F,F,F,F] HT_ ?_
            refine pu 4 (some 15) #[T,T,T,T,T,F,F,F,F,F,F,F,F,F,F,F] HT_ ?_
            refine pu 5 (some 16) #[T,T,T,T,T,T,F,F,F,F,F,F,F,F,F,F] HT_ ?_
            refine pu 6 (some 17) #[T,T,T,T,T,T,T,F,F,F,F,F,F,F,F,F] HT_ ?_
            refine pu 9 (some 20) #[T,T,T,T,T,T,T,F,F,T,F,F,F,F,F,F] HT_ ?_
            refine pu 10 (some 21) #[T,T,T,T,T,T,T,F,F,T,T,F,F,F,F,F] HT_ ?_
            refine pu 11 (some 22) #[T,T,T,T,T,T,T,F,F,T,T,T,F,F,F,F] HT_ ?_
            refine tk 7 (some 18) #[T,T,T,T,T,T,T,T,F,T,T,T,F,F,F,F] HT_ HW_ hHeld ?_
            refine tk 12 (some 23) #[T,T,T,T,T,T,T,T,F,T,T,T,T,F,F,F] HT_ HW_ hHeld ?_
            refine one_ (i := 8) (N := some 19) #[T,T,T,T,T,T,T,T,T,T,T,T,T,F,F,F] rfl rfl (one_of HT_.out (by kernel_rfl)) (by decide) (fun K hK => ?_)
            refine goes_ Tryd.func28 (by kernel_rfl) rfl #[.agg #[.int .i64 ((rd_T25 x0_2 (ji5)).f0), .int .i64 ((rd_T25 x0_2 (ji5)).f1), .int .i64 ((rd_T25 x0_2 (ji5)).f2)]] (by rfl) rfl rfl (by (try simp only [List.map_toArray, List.map_cons, List.map_nil]); first | done | (simp only [hji5]; rfl) | rfl | (simp only [List.length_drop, List.length_take]; rfl)) ?_
            with_reducible refine (impl_TagNumber.calls ((rd_T25 x0_2 (ji5)).f0) ((rd_T25 x0_2 (ji5)).f1) ((rd_T25 x0_2 (ji5)).f2) t211 _ A8.out).mono ?_
            rintro e w22 ⟨rfl, hb⟩
            have HS0_ := (hb.cell (World.block_lt_of_cell? _ _ (hHeld.1))).trans (hHeld.1)
            have HS1_ := (hb.cell (World.block_lt_of_cell? _ _ (hHeld.2.1))).trans (hHeld.2.1)
            have HS2_ := (hb.cell (World.block_lt_of_cell? _ _ (hHeld.2.2.1))).trans (hHeld.2.2.1)
            have HS3_ := (hb.cell (World.block_lt_of_cell? _ _ (hHeld.2.2.2.1))).trans (hHeld.2.2.2.1)
            have HS4_ := (hb.cell (World.block_lt_of_cell? _ _ (hHeld.2.2.2.2.1))).trans (hHeld.2.2.2.2.1)
            have HS5_ := (hb.cell (World.block_lt_of_cell? _ _ (hHeld.2.2.2.2.2))).trans (hHeld.2.2.2.2.2)
            refine ⟨_, rfl, ?_⟩
            replace HO_0 := uD (Kd.R_below (pr HO_0) hb)
            replace HK := uD (Kept.below (S := (fun k_ => P0_ k_)) (by repeat (first | (with_reducible first | exact HK.out | apply Kept.alloc | apply Kept.drewN | apply Kept.drew) | exact HK.out)) hb)
            replace HB := uD (uO (pb HB) hb)
            (try clear hb)
            (try clear hb2)
            (try clear hk)
            (try clear hi)
            refine hK.out _ _ ⟨HS0_, HS1_, HS2_, HS3_, HS4_, HS5_⟩ (fun hHeld => ?_)
            clear hK K
            refine norm_ (a' := ?_) ?_ ?_
            rotate_left
            ·show uc _ (some 19) _ = _
             simp only [uc, uA, uB, uC, uZ, ua]
             rfl
            refine one_ (i := 13) (N := some 24) #[T,T,T,T,T,T,T,T,T,T,T,T,T,T,F,F] rfl rfl (one_of HT_.out (by kernel_rfl)) (by decide) (fun K hK => ?_)
            refine goes_ Tryd.func28 (by kernel_rfl) rfl #[.agg #[.int .i64 ((rd_T25 x0_2 x4_2).f0), .int .i64 ((rd_T25 x0_2 x4_2).f1), .int .i64 ((rd_T25 x0_2 x4_2).f2)]] (by rfl) rfl rfl (by (try simp only [List.map_toArray, List.map_cons, List.map_nil]); first | done | rfl | (simp only [List.length_drop, List.length_take]; rfl)) ?_
            with_reducible refine (impl_TagNumber.calls ((rd_T25 x0_2 x4_2).f0) ((rd_T25 x0_2 x4_2).f1) ((rd_T25 x0_2 x4_2).f2) t213 _ A11.out).mono ?_
            rintro e w23 ⟨rfl, hb⟩
            have HS0_ := (hb.cell (World.block_lt_of_cell? _ _ (hHeld.1))).trans (hHeld.1)
            have HS1_ := (hb.cell (World.block_lt_of_cell? _ _ (hHeld.2.1))).trans (hHeld.2.1)
            have HS2_ := (hb.cell (World.block_lt_of_cell? _ _ (hHeld.2.2.1))).trans (hHeld.2.2.1)
            have HS3_ := (hb.cell (World.block_lt_of_cell? _ _ (hHeld.2.2.2.1))).trans (hHeld.2.2.2.1)
            have HS4_ := (hb.cell (World.block_lt_of_cell? _ _ (hHeld.2.2.2.2.1))).trans (hHeld.2.2.2.2.1)
            have HS5_ := (hb.cell (World.block_lt_of_cell? _ _ (hHeld.2.2.2.2.2))).trans (hHeld.2.2.2.2.2)
            refine ⟨_, rfl, ?_⟩
            replace HO_0 := uD (Kd.R_below (pr HO_0) hb)
            replace HK := uD (Kept.below (S := (fun k_ => P0_ k_)) (by repeat (first | (with_reducible first | exact HK.out | apply Kept.alloc | apply Kept.drewN | apply Kept.drew) | exact HK.out)) hb)
            replace HB := uD (uO (pb HB) hb)
            (try clear hb)
            (try clear hb2)
            (try clear hk)
            (try clear hi)
            refine hK.out _ _ ⟨HS0_, HS1_, HS2_, HS3_, HS4_, HS5_⟩ (fun hHeld => ?_)
            clear hK K
            refine norm_ (a' := ?_) ?_ ?_
            rotate_left
            ·show uc _ (some 24) _ = _
             simp only [uc, uA, uB, uC, uZ, ua]
             rfl
            refine pu 14 (some 25) #[T,T,T,T,T,T,T,T,T,T,T,T,T,T,T,F] HT_ ?_
            refine pu 15 (some 26) #[T,T,T,T,T,T,T,T,T,T,T,T,T,T,T,T] HT_ ?_
            refine done_ (done_of HT_.out (by kernel_rfl)) ?_
            try go_wp2
            (try simp only [← hl0_1, ← hl0_2])
            go_roundg k2
            case measure => have := HK1.out; have := HK2.out; omega
            case rel => exact ⟨(x0_2), (wrap64 (x7_1 + 1)), (by first | rfl | (simp; done) | (simp [*]; done)), H', ⟨by have := HK1.out; have := HK2.out; omega⟩, ⟨by (try simp only [hl0_1]); (try simp only [hl0_2]); (with_reducible repeat (first | apply uU | apply uS | apply uT)); exact HO_0.out⟩, ⟨by repeat (first | (with_reducible first | exact HK.out | apply Kept.alloc | apply Kept.drewN | apply Kept.drew) | exact HK.out)⟩, ⟨pb HB⟩⟩
          ·rw [if_neg c10] at H
           exact absurd H (by simp)
         ·rw [if_neg c9] at H
          exact absurd H (by simp)
        ·rw [if_neg c7] at H
         exact absurd H (by simp)
       ·rw [if_neg c6] at H
        exact absurd H (by simp)
      ·rw [if_neg c4] at H
       have c4b0 : decide (0 < x4_2) = false := decide_eq_false c4
       clear c4
       have H' := uD H
       clear H
       try go_wp2
       replace HO_0 := uD (uT HO_0.out)
       replace HK := uD (Kept.drew HK.out)
       replace HB := uD (uK HB.out)
       refine start_ (n := 16) (S := fun w' => True) (ds := []) #[F,F,F,F,F,F,F,F,F,F,F,F,F,F,F,F] (by kernel_rfl) rfl rfl trivial (fun hHeld => ?_); refine with_tabW impl_ascending.tab5 impl_ascending.bits5 (fun HT_ HW_ => ?_)
       generalize wr.drew = w24 at HO_0 HK HB hHeld ⊢
       refine pu 0 (some 11) #[T,F,F,F,F,F,F,F,F,F,F,F,F,F,F,F] HT_ ?_
       refine pu 1 (some 12) #[T,T,F,F,F,F,F,F,F,F,F,F,F,F,F,F] HT_ ?_
       refine pu 2 (some 13) #[T,T,T,F,F,F,F,F,F,F,F,F,F,F,F,F] HT_ ?_
       refine ub (i := 3) (N := some 14) (v := undef) (a' := ?_) #[T,T,T,T,F,F,F,F,F,F,F,F,F,F,F,F] rfl rfl (uY HT_.out (by kernel_rfl)) (fun _ _ _ h => h) (Or.inr ⟨by rfl, rfl⟩) ?_ ?_
       rotate_left
       ·simp only [uc, uA, uB, uC, uZ, ua]
        rfl
       refine ub (i := 4) (N := some 15) (v := undef) (a' := ?_) #[T,T,T,T,T,F,F,F,F,F,F,F,F,F,F,F] rfl rfl (uY HT_.out (by kernel_rfl)) (fun _ _ _ h => h) (Or.inr ⟨by rfl, rfl⟩) ?_ ?_
       rotate_left
       ·simp only [uc, uA, uB, uC, uZ, ua]
        rfl
       refine ub (i := 5) (N := some 16) (v := undef) (a' := ?_) #[T,T,T,T,T,T,F,F,F,F,F,F,F,F,F,F] rfl rfl (uY HT_.out (by kernel_rfl)) (fun _ _ _ h => h) (Or.inr ⟨by rfl, rfl⟩) ?_ ?_
       rotate_left
       ·simp only [uc, uA, uB, uC, uZ, ua]
        rfl
       refine ub (i := 6) (N := some 17) (v := undef) (a' := ?_) #[T,T,T,T,T,T,T,F,F,F,F,F,F,F,F,F] rfl rfl (uY HT_.out (by kernel_rfl)) (fun _ _ _ h => h) (Or.inr ⟨by rfl, rfl⟩) ?_ ?_
       rotate_left
       ·simp only [uc, uA, uB, uC, uZ, ua]
        rfl
       refine ub (i := 7) (N := some 18) (v := undef) (a' := ?_) #[T,T,T,T,T,T,T,T,F,F,F,F,F,F,F,F] rfl rfl (uY HT_.out (by kernel_rfl)) (fun _ _ _ h => h) (Or.inr ⟨by rfl, rfl⟩) ?_ ?_
       rotate_left
       ·simp only [uc, uA, uB, uC, uZ, ua]
        rfl
       refine ub (i := 8) (N := some 19) (v := undef) (a' := ?_) #[T,T,T,T,T,T,T,T,T,F,F,F,F,F,F,F] rfl rfl (uY HT_.out (by kernel_rfl)) (fun _ _ _ h => h) (Or.inr ⟨by rfl, rfl⟩) ?_ ?_
       rotate_left
       ·simp only [uc, uA, uB, uC, uZ, ua]
        rfl
       refine ub (i := 9) (N := some 20) (v := undef) (a' := ?_) #[T,T,T,T,T,T,T,T,T,T,F,F,F,F,F,F] rfl rfl (uY HT_.out (by kernel_rfl)) (fun _ _ _ h => h) (Or.inr ⟨by rfl, rfl⟩) ?_ ?_
       rotate_left
       ·simp only [uc, uA, uB, uC, uZ, ua]
        rfl
       refine ub (i := 10) (N := some 21) (v := undef) (a' := ?_) #[T,T,T,T,T,T,T,T,T,T,T,F,F,F,F,F] rfl rfl (uY HT_.out (by kernel_rfl)) (fun _ _ _ h => h) (Or.inr ⟨by rfl, rfl⟩) ?_ ?_
       rotate_left
       ·simp only [uc, uA, uB, uC, uZ, ua]
        rfl
       refine ub (i := 11) (N := some 22) (v := undef) (a' := ?_) #[T,T,T,T,T,T,T,T,T,T,T,T,F,F,F,F] rfl rfl (uY HT_.out (by kernel_rfl)) (fun _ _ _ h => h) (Or.inr ⟨by rfl, rfl⟩) ?_ ?_
       rotate_left
       ·simp only [uc, uA, uB, uC, uZ, ua]
        rfl
       refine ub (i := 12) (N := some 23) (v := undef) (a' := ?_) #[T,T,T,T,T,T,T,T,T,T,T,T,T,F,F,F] rfl rfl (uY HT_.out (by kernel_rfl)) (fun _ _ _ h => h) (Or.inr ⟨by rfl, rfl⟩) ?_ ?_
       rotate_left
       ·simp only [uc, uA, uB, uC, uZ, ua]
        rfl
       refine ub (i := 13) (N := some 24) (v := undef) (a' := ?_) #[T,T,T,T,T,T,T,T,T,T,T,T,T,T,F,F] rfl rfl (uY HT_.out (by kernel_rfl)) (fun _ _ _ h => h) (Or.inr ⟨by rfl, rfl⟩) ?_ ?_
       rotate_left
       ·simp only [uc, uA, uB, uC, uZ, ua]
        rfl
       refine ub (i := 14) (N := some 25) (v := undef) (a' := ?_) #[T,T,T,T,T,T,T,T,T,T,T,T,T,T,T,F] rfl rfl (uY HT_.out (by kernel_rfl)) (fun _ _ _ h => h) (Or.inr ⟨by rfl, rfl⟩) ?_ ?_
       rotate_left
       ·simp only [uc, uA, uB, uC, uZ, ua]
        rfl
       refine pu 15 (some 26) #[T,T,T,T,T,T,T,T,T,T,T,T,T,T,T,T] HT_ ?_
       refine done_ (done_of HT_.out (by kernel_rfl)) ?_
       try go_wp2
       (try simp only [← hl0_1, ← hl0_2])
       go_roundg k2
       case measure => have := HK1.out; have := HK2.out; omega
       case rel => exact ⟨(x0_2), (wrap64 (x7_1 + 1)), (by first | rfl | (simp; done) | (simp [*]; done)), H', ⟨by have := HK1.out; have := HK2.out; omega⟩, ⟨by (try simp only [hl0_1]); (try simp only [hl0_2]); (with_reducible repeat (first | apply uU | apply uS | apply uT)); exact HO_0.out⟩, ⟨by repeat (first | (with_reducible first | exact HK.out | apply Kept.alloc | apply Kept.drewN | apply Kept.drew) | exact HK.out)⟩, ⟨pb HB⟩⟩
   ·rw [if_neg c3] at H
    have c3b0 : decide (x7_1 < (l0.length : Int)) = false := decide_eq_false c3
    (try simp only [hl0_1] at c3b0)
    clear c3
    obtain rfl := Option.some.inj H
    go_wp2
    go_ret
    exact ⟨_, by first | rfl | (simp [errW_none, errW_some] <;> rfl) | (simp [*, errW_none, errW_some] <;> rfl), by (with_reducible repeat (first | apply uU | apply uS | apply uT)); exact HO_0.out, pb HB, by repeat (first | (with_reducible first | exact HK.out | apply Kept.alloc | apply Kept.drewN | apply Kept.drew) | exact HK.out)⟩

end Go.Proofs.YtnkaimdcdedekaaDoor.PFnNearTags
