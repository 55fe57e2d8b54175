-- Written by a program of this session (wip/myprint.py: the kit's print with changes): not by print.sh itself.
import Derived.Test.YtnkaimdcdedekaaDoorPFnNearTagsx0
import Derived.Test.YtnkaimdcdedekaaDoorPFnNearTagsx5
import Derived.Test.YtnkaimdcdedekaaDoorPFnNearTagsx6
namespace Go.Proofs.YtnkaimdcdedekaaDoor.PFnNearTags
open Go.RowKit Go.Proofs.YtnkaimdcdedekaaDoorW.PrintWords Go.Proofs.YtnkaimdcdedekaaDoorW.PrintLast Go.Proofs.YtnkaimdcdedekaaDoorW.PrintMore
open Go renaming Act.put → uc
open Go.Proofs.YtnkaimdcdedekaaDoorW.PrintLast renaming any_of → uY, i64_w → uZ, i32_w → ua, pure_ → ub
open Go.Proofs.YtnkaimdcdedekaaDoorW.PrintWords renaming Aside0.mk → uD, blk_cell → uF, blk_alloc → uG, blk_drewN → uH, blk_drew → uJ, below_drew1 → uK, below_set → uM, below_size → uN, below_step → uO, blk_put → uP, Kd.R_drewN → uS, Kd.R_drew → uT, Kd.R_alloc → uU, Kd.R_far → uV, Kd.R_types → uW, Kd.R_mono → uX
open List renaming setIfInBounds_toArray → uA, set_cons_zero → uB, set_cons_succ → uC
open Bool renaming true → T, false → F
attribute [local go_sem] max2_int min2_int max_two min_two max_three min_three max_four min_four   -- for this text's walks alone
set_option linter.unusedVariables false
set_option linter.unusedSimpArgs false

/-! ### spec_NearTags: function 31 -/
/-- The string's bytes as numbers. -/
def numsOf (s : ByteArray) : List Int := s.data.toList.map (fun b => (b.toNat : Int))
/-- Block g holds the numbers xs, in a row made of a string. -/
def spec_NearTags.Fb (w : World) (g : Nat) (xs : List Int) : Prop := ∃ (cur : Array Value) (m : Nat), w.heap[g]? = some (.cells cur 5 (m, m + 1)) ∧ xs.length ≤ m ∧ cur.size = m ∧ ∀ j, j < xs.length → cur[j]? = some (.int .u8 (xs.getD j 0))
theorem spec_NearTags.Fb.move {w w1 : World} {g : Nat} {xs : List Int} (h : spec_NearTags.Fb w g xs) (e : w1.heap[g]? = w.heap[g]?) : spec_NearTags.Fb w1 g xs := by
  obtain ⟨cur, m, h1, h2⟩ := h
  exact ⟨cur, m, e.trans h1, h2⟩
theorem spec_NearTags.Fb.lt {w : World} {g : Nat} {xs : List Int} (h : spec_NearTags.Fb w g xs) : g < w.heap.size := by
  obtain ⟨cur, m, h1, _⟩ := h
  exact blk_lt h1
theorem spec_NearTags.Fb.below {w w1 : World} {g : Nat} {xs : List Int} (h : spec_NearTags.Fb w g xs) (hb : Below w.heap.size w w1) : spec_NearTags.Fb w1 g xs := h.move (hb.block g h.lt)
theorem spec_NearTags.Fb.alloc {w : World} {g : Nat} {xs : List Int} (h : spec_NearTags.Fb w g xs) (o : Obj) : spec_NearTags.Fb (w.alloc o) g xs := h.below (below_alloc (Below.refl _ _) o)
theorem spec_NearTags.Fb.drew {w : World} {g : Nat} {xs : List Int} (h : spec_NearTags.Fb w g xs) : spec_NearTags.Fb w.drew g xs := h
theorem spec_NearTags.Fb.drewN {w : World} {g : Nat} {xs : List Int} (h : spec_NearTags.Fb w g xs) (n : Nat) : spec_NearTags.Fb (w.drewN n) g xs := h.below (pw_below_drewN (Below.refl _ _) n)
theorem spec_NearTags.Fb.cell {w : World} {g : Nat} {xs : List Int} (h : spec_NearTags.Fb w g xs) (i : Int) (h0 : 0 ≤ i) (h1 : i < (xs.length : Int)) : w.cell? ⟨g, i.toNat, none⟩ = some (.int .u8 (rd xs i)) ∧ w.frozen? ⟨g, i.toNat, none⟩ = false := by
  obtain ⟨cur, m, e, hm, hs, hc⟩ := h
  refine ⟨?_, ?_⟩
  · unfold World.cell?
    rw [e]
    exact hc i.toNat (by omega)
  · unfold World.frozen?
    rw [e]
    simp
    omega
theorem spec_NearTags.put_blk {w : World} {g : Nat} {t : TypeId} {cs : Array Value} {fz : Nat × Nat} (h : w.heap[g]? = some (.cells cs t fz)) (i : Nat) (u : Value) : (w.setCell ⟨g, i, none⟩ u).heap[g]? = some (.cells (cs.setIfInBounds i u) t fz) := by
  simp [World.setCell, Array.getElem?_modify, h]
theorem spec_NearTags.Fb.put {w : World} {g : Nat} {xs : List Int} (h : spec_NearTags.Fb w g xs) (i : Int) (x : Int) (h0 : 0 ≤ i) (h1 : i < (xs.length : Int)) : spec_NearTags.Fb (w.setCell ⟨g, i.toNat, none⟩ (.int .u8 x)) g (xs.set i.toNat x) := by
  obtain ⟨cur, m, e, hm, hs, hc⟩ := h
  refine ⟨cur.setIfInBounds i.toNat (.int .u8 x), m, ?_, by simpa using hm, by simpa using hs, fun j hj => ?_⟩
  · exact spec_NearTags.put_blk e _ _
  · rw [List.length_set] at hj
    by_cases c : i.toNat = j
    · subst c
      rw [Array.getElem?_setIfInBounds_self_of_lt (by omega)]
      simp [List.getD_eq_getElem?_getD, hj]
    · have := hc j hj
      simp only [List.getD_eq_getElem?_getD] at this ⊢
      rw [List.getElem?_set_ne c, Array.getElem?_setIfInBounds_ne c]
      exact this
theorem spec_NearTags.conv {P : Program} {ops : Array Oper} {rest : List Oper} {o : Oper} {a : Act} {Q : Exit → Act → World → Prop} {W : World} (s : ByteArray) (xs : List Int) (hx : xs = numsOf s) (hgd : o.guard = none)
    (hrun : (execOp a.eval o).run P W = .ok (.value (.slice (some ⟨W.heap.size, 0, none⟩) s.size (grownCap W s.size 0 5))) (Go.Lib.bytesWorld W 5 s))
    (h : ∀ g c w1, g = W.heap.size → spec_NearTags.Fb w1 g xs → Below W.heap.size W w1 → wpList P ops Q rest (a.put o.dst (.slice (some ⟨g, 0, none⟩) xs.length c)) w1) : wpList P ops Q (o :: rest) a W := by
  have hl : xs.length = s.size := by rw [hx]; simp [numsOf]
  refine Kd.event_run hgd hrun ?_
  rw [← hl]
  refine h W.heap.size _ _ rfl ⟨_, _, Go.Lib.bytesWorld_at_new W 5 s, ?_, rfl, fun j hj => ?_⟩ ⟨rfl, rfl, rfl, ?_, fun i hi => Go.Lib.bytesWorld_at_old W 5 s i hi⟩
  · rw [hl]; simp [Go.Lib.bytesCells]
  · subst hx
    rw [hl] at hj
    have hj' : j < s.data.size := hj
    simp [Go.Lib.bytesCells, Array.getElem?_append, numsOf, List.getD_eq_getElem?_getD]
    rw [if_pos hj, Array.getElem?_eq_getElem hj']
    rfl
  · rw [Go.Lib.bytesWorld_size]; omega
mutual
def spec_NearTags.l0 : Nat → List (S25) → ByteArray → Int → Int → Int → Int → Option ((List (S25)))
 | 0, _, _, _, _, _, _ => none
 | k + 1, x3, x4, x5, x273000, x273001, x273002 => if x5 < 10 then (spec_NearTags.l1 k x3 x4 x5 0 x273000 x273001 x273002) else (some x3)
def spec_NearTags.l1 : Nat → List (S25) → ByteArray → Int → Int → Int → Int → Int → Option ((List (S25)))
 | 0, _, _, _, _, _, _, _ => none
 | k + 1, x3, x4, x5, x6, x273000, x273001, x273002 => if x6 < 10 then ((some (numsOf x4 : List Int)).bind fun y279 => (if 0 ≤ x5 then (if x5 < (y279.length : Int) then (spec_NearTags.l2 k x3 x4 x5 x6 (y279.set (x5 : Int).toNat ((wrap64 (48 + x6)) % 256)) 0 0 x273000 x273001 x273002) else (none)) else (none))) else (spec_NearTags.l0 k x3 x4 (wrap64 (x5 + 1)) x273000 x273001 x273002)
def spec_NearTags.l2 : Nat → List (S25) → ByteArray → Int → Int → List Int → Int → Int → Int → Int → Int → Option ((List (S25)))
 | 0, _, _, _, _, _, _, _, _, _, _ => none
 | k + 1, x3, x4, x5, x6, x7, x8, x9, x273000, x273001, x273002 => if x9 < 10 then (if 0 ≤ x9 then (if x9 < (x7.length : Int) then (spec_NearTags.l2 k x3 x4 x5 x6 x7 (wrap64 ((wrap64 ((wrap64 (10 * x8)) + (wrap64 (rd x7 x9)))) - 48)) (wrap64 (x9 + 1)) x273000 x273001 x273002) else (none)) else (none)) else ((spec_l01OfNumber.f x8).bind fun bt284 => ((spec_TagNumber.f x273000 x273001 x273002).bind fun t288 => (if x8 = t288 then (spec_NearTags.l1 k x3 x4 x5 (wrap64 (x6 + 1)) x273000 x273001 x273002) else ((spec_TagOk.f bt284.1 bt284.2.1 bt284.2.2).bind fun t289 => (if t289 = true then ((spec_TagCheck.f bt284.1 bt284.2.1 bt284.2.2).bind fun t290 => ((spec_TagCheck.f x273000 x273001 x273002).bind fun t291 => (if t290 = t291 then ((spec_l01Insert.f k x3 bt284.1 bt284.2.1 bt284.2.2).bind fun t292 => (spec_NearTags.l1 k t292 x4 x5 (wrap64 (x6 + 1)) x273000 x273001 x273002)) else (spec_NearTags.l1 k x3 x4 x5 (wrap64 (x6 + 1)) x273000 x273001 x273002)))) else (spec_NearTags.l1 k x3 x4 x5 (wrap64 (x6 + 1)) x273000 x273001 x273002))))))
end
def spec_NearTags.f (k : Nat) (a0_0 : Int) (a0_1 : Int) (a0_2 : Int) : Option ((List (S25))) := (some (([] : List (S25)) : List (S25))).bind fun y273 => ((spec_TagOk.f a0_0 a0_1 a0_2).bind fun t276 => (if t276 = true then ((spec_TagNumber.f a0_0 a0_1 a0_2).bind fun t277 => ((spec_l01Ten.f k t277).bind fun t278 => (spec_NearTags.l0 k y273 t278 0 a0_0 a0_1 a0_2))) else (some y273)))
theorem spec_NearTags.mono_l : ∀ k, (∀ y0 y1 y2 y3 y4 y5, LeO (spec_NearTags.l0 k y0 y1 y2 y3 y4 y5) (spec_NearTags.l0 (k + 1) y0 y1 y2 y3 y4 y5)) ∧ (∀ y0 y1 y2 y3 y4 y5 y6, LeO (spec_NearTags.l1 k y0 y1 y2 y3 y4 y5 y6) (spec_NearTags.l1 (k + 1) y0 y1 y2 y3 y4 y5 y6)) ∧ (∀ y0 y1 y2 y3 y4 y5 y6 y7 y8 y9, LeO (spec_NearTags.l2 k y0 y1 y2 y3 y4 y5 y6 y7 y8 y9) (spec_NearTags.l2 (k + 1) y0 y1 y2 y3 y4 y5 y6 y7 y8 y9))
 | 0 => ⟨fun _ _ _ _ _ _ r h => by simp [spec_NearTags.l0] at h, fun _ _ _ _ _ _ _ r h => by simp [spec_NearTags.l1] at h, fun _ _ _ _ _ _ _ _ _ _ r h => by simp [spec_NearTags.l2] at h⟩
 | k + 1 => by
  obtain ⟨ih0, ih1, ih2⟩ := spec_NearTags.mono_l k
  refine ⟨?_, ?_, ?_⟩
  ·intro y0 y1 y2 y3 y4 y5
   unfold spec_NearTags.l0
   repeat' first
   | (with_reducible exact ih0 _ _ _ _ _ _)
   | (with_reducible exact ih1 _ _ _ _ _ _ _)
   | (with_reducible exact ih2 _ _ _ _ _ _ _ _ _ _)
   | (with_reducible exact spec_l01Insert.mono _ _ _ _ _)
   | (with_reducible exact spec_l01Ten.mono _ _)
   | (with_reducible exact LeO.refl _)
   | (with_reducible exact LeO.none _)
   | (with_reducible refine LeO.ite ?_ ?_)
   | (with_reducible refine LeO.bind ?_ (fun _ => ?_))
   | exact ih0 _ _ _ _ _ _
   | exact ih1 _ _ _ _ _ _ _
   | exact ih2 _ _ _ _ _ _ _ _ _ _
   | exact spec_l01Insert.mono _ _ _ _ _
   | exact spec_l01Ten.mono _ _
   | exact LeO.none _
   | refine LeO.ite ?_ ?_
   | refine LeO.bind ?_ (fun _ => ?_)
  ·intro y0 y1 y2 y3 y4 y5 y6
   unfold spec_NearTags.l1
   repeat' first
   | (with_reducible exact ih0 _ _ _ _ _ _)
   | (with_reducible exact ih1 _ _ _ _ _ _ _)
   | (with_reducible exact ih2 _ _ _ _ _ _ _ _ _ _)
   | (with_reducible exact spec_l01Insert.mono _ _ _ _ _)
   | (with_reducible exact spec_l01Ten.mono _ _)
   | (with_reducible exact LeO.refl _)
   | (with_reducible exact LeO.none _)
   | (with_reducible refine LeO.ite ?_ ?_)
   | (with_reducible refine LeO.bind ?_ (fun _ => ?_))
   | exact ih0 _ _ _ _ _ _
   | exact ih1 _ _ _ _ _ _ _
   | exact ih2 _ _ _ _ _ _ _ _ _ _
   | exact spec_l01Insert.mono _ _ _ _ _
   | exact spec_l01Ten.mono _ _
   | exact LeO.none _
   | refine LeO.ite ?_ ?_
   | refine LeO.bind ?_ (fun _ => ?_)
  ·intro y0 y1 y2 y3 y4 y5 y6 y7 y8 y9
   unfold spec_NearTags.l2
   repeat' first
   | (with_reducible exact ih0 _ _ _ _ _ _)
   | (with_reducible exact ih1 _ _ _ _ _ _ _)
   | (with_reducible exact ih2 _ _ _ _ _ _ _ _ _ _)
   | (with_reducible exact spec_l01Insert.mono _ _ _ _ _)
   | (with_reducible exact spec_l01Ten.mono _ _)
   | (with_reducible exact LeO.refl _)
   | (with_reducible exact LeO.none _)
   | (with_reducible refine LeO.ite ?_ ?_)
   | (with_reducible refine LeO.bind ?_ (fun _ => ?_))
   | exact ih0 _ _ _ _ _ _
   | exact ih1 _ _ _ _ _ _ _
   | exact ih2 _ _ _ _ _ _ _ _ _ _
   | exact spec_l01Insert.mono _ _ _ _ _
   | exact spec_l01Ten.mono _ _
   | exact LeO.none _
   | refine LeO.ite ?_ ?_
   | refine LeO.bind ?_ (fun _ => ?_)
theorem spec_NearTags.mono : ∀ a0 a1 a2 k, LeO (spec_NearTags.f k a0 a1 a2) (spec_NearTags.f (k + 1) a0 a1 a2) := by
 intro a0 a1 a2 k
 obtain ⟨ih0, ih1, ih2⟩ := spec_NearTags.mono_l k
 unfold spec_NearTags.f
 repeat' first
   | (with_reducible exact ih0 _ _ _ _ _ _)
   | (with_reducible exact ih1 _ _ _ _ _ _ _)
   | (with_reducible exact ih2 _ _ _ _ _ _ _ _ _ _)
   | (with_reducible exact spec_l01Insert.mono _ _ _ _ _)
   | (with_reducible exact spec_l01Ten.mono _ _)
   | (with_reducible exact LeO.refl _)
   | (with_reducible exact LeO.none _)
   | (with_reducible refine LeO.ite ?_ ?_)
   | (with_reducible refine LeO.bind ?_ (fun _ => ?_))
   | exact ih0 _ _ _ _ _ _
   | exact ih1 _ _ _ _ _ _ _
   | exact ih2 _ _ _ _ _ _ _ _ _ _
   | exact spec_l01Insert.mono _ _ _ _ _
   | exact spec_l01Ten.mono _ _
   | exact LeO.none _
   | refine LeO.ite ?_ ?_
   | refine LeO.bind ?_ (fun _ => ?_)
def spec_NearTags.T19 : Bool × List (List Nat × List Nat) := (true, [([], []), ([], []), ([1], [1]), ([0, 2], [0, 2]), ([3, 2], [3]), ([4], [4]), ([5, 4, 4], [4, 5]), ([4, 6], [4, 6]), ([7, 6], [7]), ([8], [8]), ([9, 8, 8], [8, 9]), ([8], [8]), ([11, 10, 8], [8, 11]), ([10, 12, 8], [8, 10, 12]), ([8, 13], [8, 13])])
def spec_NearTags.B19 : List Nat := [0, 0, 2, 7, 15, 31, 63, 127, 255, 511, 1023, 511, 4095, 8191, 16383]
theorem spec_NearTags.tab19 : rtab .any (opsOf Tryd.f31 19) = spec_NearTags.T19 := by kernel_rfl
theorem spec_NearTags.bits19 : waitsOk spec_NearTags.T19.2 spec_NearTags.B19 = true := by kernel_rfl
set_option maxHeartbeats 8000000 in
set_option maxRecDepth 100000 in
theorem spec_NearTags.calls (k : Nat) (a0_0 : Int) (a0_1 : Int) (a0_2 : Int) (r : List (S25)) (w : World) (h : spec_NearTags.f k a0_0 a0_1 a0_2 = some r) :
  Calls Tryd.prog 31 #[.agg #[.int .i64 a0_0, .int .i64 a0_1, .int .i64 a0_2]] w fun e w' => ∃ v0_ : Value, e = .returned (v0_) ∧ Kd.R k25 25 w' w.heap.size (fun _ => True) v0_ r ∧ Below w.heap.size w w' := by
 have hu25 := Tryd.underlying25
 have HB := uD (Below.refl w.heap.size w)
 have H : ((some (([] : List (S25)) : List (S25))).bind fun y273 => ((spec_TagOk.f a0_0 a0_1 a0_2).bind fun t276 => (if t276 = true then ((spec_TagNumber.f a0_0 a0_1 a0_2).bind fun t277 => ((spec_l01Ten.f k t277).bind fun t278 => (spec_NearTags.l0 k y273 t278 0 a0_0 a0_1 a0_2))) else (some y273)))) = some r := h
 clear h
 obtain ⟨y273, hy273⟩ : ∃ y_ : List (S25), y_ = (([] : List (S25))) := ⟨_, rfl⟩
 replace H : ((spec_TagOk.f a0_0 a0_1 a0_2).bind fun t276 => (if t276 = true then ((spec_TagNumber.f a0_0 a0_1 a0_2).bind fun t277 => ((spec_l01Ten.f k t277).bind fun t278 => (spec_NearTags.l0 k y273 t278 0 a0_0 a0_1 a0_2))) else (some y273))) = some r := by first | (rw [hy273]; with_reducible exact H) | (have H2_ := (Option.bind_some _ _).symm.trans H; rw [hy273]; with_reducible exact H2_) | (have H2_ := (Option.bind_some _ _).symm.trans H; with_reducible exact H2_) | with_reducible exact H | (rw [hy273]; exact H) | exact H
 have Ny273 := uD hy273
 clear hy273
 replace H := Option.bind_eq_some_iff.mp H
 obtain ⟨t276, A20, H⟩ := H
 replace H : (if t276 = true then ((spec_TagNumber.f a0_0 a0_1 a0_2).bind fun t277 => ((spec_l01Ten.f k t277).bind fun t278 => (spec_NearTags.l0 k y273 t278 0 a0_0 a0_1 a0_2))) else (some y273)) = some r := H
 have A2 := uD A20
 clear A20
 by_cases c3 : t276 = true
 ·subst c3
  have H1 : ((spec_TagNumber.f a0_0 a0_1 a0_2).bind fun t277 => ((spec_l01Ten.f k t277).bind fun t278 => (spec_NearTags.l0 k y273 t278 0 a0_0 a0_1 a0_2))) = some r := by rw [if_pos rfl] at H; first | done | exact H
  clear H
  have H := H1
  clear H1
  replace H := Option.bind_eq_some_iff.mp H
  obtain ⟨t277, A40, H⟩ := H
  replace H : ((spec_l01Ten.f k t277).bind fun t278 => (spec_NearTags.l0 k y273 t278 0 a0_0 a0_1 a0_2)) = some r := H
  have A4 := uD A40
  clear A40
  replace H := Option.bind_eq_some_iff.mp H
  obtain ⟨t278, A50, H⟩ := H
  replace H : (spec_NearTags.l0 k y273 t278 0 a0_0 a0_1 a0_2) = some r := H
  have A5 := uD A50
  clear A50
  have H' := uD H
  clear H
  go_enter Tryd.func31, Tryd.ntmps31
  go_wp2_with (first | ((with_reducible refine gate_dst (N := 1) rfl ?_); refine bx 1 #[.int .i64 a0_0, .int .i64 a0_1, .int .i64 a0_2] 25 ?_; intro gb272 hg w6 hbox hb; have BK272 := uD (hbox); have GW272 := uD ((by rw [hg]; exact (uN (pb HB)) : w.heap.size ≤ gb272)); have GE272 := uD ((by rw [hg]; exact (uN (pb HB)) : w.heap.size ≤ gb272)); replace HB := uD (uO (pb HB) hb); clear hb hbox hg) | ((with_reducible refine gate_dst (N := 11) rfl ?_); refine Kd.R_lit k25 _ 25 ?hg (N := 11) ?hd (xs := ([] : List (S25))) (inner := []) (ok := fun _ => True) (okp := fun _ => True) ?hr ?hp (fun _ hk => hk) trivial (Below.refl _ _) (Nat.le_refl _) (by simp) ?_; (case hd => rfl); (case hg => rfl); (case hr => first | (go_simp; done) | (go_simp; rfl)); (case hp => exact (Reps.none _ _)); intro v274 w7 ho8 hb hg_ hnew_; clear hg_ hnew_; (first | rw [← Ny273.out] at ho8 | (simp only [Int.reduceToNat] at ho8; rw [← Ny273.out] at ho8)); have HO275 := uD (Kd.R_lower (Kd.R_newB ho8 (pk BK272)) (uN (pb HB))); replace BK272 := uD (blk_below (pk BK272) hb); replace HB := uD (uO (pb HB) hb); clear hb ho8; obtain ⟨hcz9_0, hcz9_1, hcz9_2, hfz9_0, hfz9_1, hfz9_2⟩ := cz3 BK272) | ((with_reducible refine gate_callee (f := 42) rfl ?_); refine gl (some 13) Tryd.func42 #[.agg #[.int .i64 a0_0, .int .i64 a0_1, .int .i64 a0_2]] ?_; (with_reducible refine (spec_TagOk.calls a0_0 a0_1 a0_2 true _ A2.out).mono ?_); rintro e w10 ⟨rfl, hb⟩; refine ⟨_, rfl, ?_⟩; replace HO275 := uD (Kd.R_below (pr HO275) hb); replace BK272 := uD (blk_below (pk BK272) hb); replace HB := uD (uO (pb HB) hb); (try clear hb); (try clear hb2); (try clear hk); (try clear hi); obtain ⟨hcz11_0, hcz11_1, hcz11_2, hfz11_0, hfz11_1, hfz11_2⟩ := cz3 BK272) | ((with_reducible refine gate_callee (f := 35) rfl ?_); refine gl (some 17) Tryd.func35 #[.agg #[.int .i64 a0_0, .int .i64 a0_1, .int .i64 a0_2]] ?_; (with_reducible refine (spec_TagNumber.calls a0_0 a0_1 a0_2 t277 _ A4.out).mono ?_); rintro e w12 ⟨rfl, hb⟩; refine ⟨_, rfl, ?_⟩; replace HO275 := uD (Kd.R_below (pr HO275) hb); replace BK272 := uD (blk_below (pk BK272) hb); replace HB := uD (uO (pb HB) hb); (try clear hb); (try clear hb2); (try clear hk); (try clear hi)) | ((with_reducible refine gate_callee (f := 43) rfl ?_); refine gl (some 18) Tryd.func43 #[.int .i64 t277] ?_; (with_reducible refine (spec_l01Ten.calls k t277 t278 _ A5.out).mono ?_); rintro e w13 ⟨rfl, hb⟩; refine ⟨_, rfl, ?_⟩; replace HO275 := uD (Kd.R_below (pr HO275) hb); replace BK272 := uD (blk_below (pk BK272) hb); replace HB := uD (uO (pb HB) hb); (try clear hb); (try clear hb2); (try clear hk); (try clear hi)))
  go_loopg [3, 5] k (fun kq v3 v5 w' => ∃ (x3_1 : List (S25)) (x5_1 : Int), v5 = .int .i64 x5_1 ∧ Aside0 (spec_NearTags.l0 kq x3_1 t278 x5_1 a0_0 a0_1 a0_2 = some r) ∧ Aside0 (kq ≤ k) ∧ Aside0 (Kd.R k25 25 w' w.heap.size (fun k_ => k_ ≠ gb272) v3 x3_1) ∧ Aside0 (w'.heap[gb272]? = some (.cells #[.int .i64 a0_0, .int .i64 a0_1, .int .i64 a0_2] 25 (0, 0))) ∧ Aside0 (Below w.heap.size w w'))
  case atStart => exact ⟨(y273), (0), (by first | rfl | (simp; done) | (simp [*]; done)), H', ⟨Nat.le_refl _⟩, ⟨by (with_reducible repeat (first | apply uU | apply uS | apply uT)); exact uX HO275.out (fun _ hk => hk.2)⟩, ⟨by (with_reducible repeat first|apply uH|apply uJ|apply uG); exact BK272.out⟩, ⟨pb HB⟩⟩
  case round =>
   clear H'
   try clear p2
   try clear c3
   try clear c4
   try clear hcz11_0
   try clear hcz11_1
   try clear hcz11_2
   try clear hcz9_0
   try clear hcz9_1
   try clear hcz9_2
   try clear hfz11_0
   try clear hfz11_1
   try clear hfz11_2
   try clear hfz9_0
   try clear hfz9_1
   try clear hfz9_2
   obtain ⟨x3_1, x5_1, rfl, HA, HK1, HO_3, BK272, HB⟩ := hrel
   cases gk with
   | zero => exact absurd HA.out (by simp [spec_NearTags.l0])
   | succ k1 =>
    have H := HA.out
    clear HA
    simp only [spec_NearTags.l0] at H
    by_cases c14 : x5_1 < 10
    ·rw [if_pos c14] at H
     have c14b0 : decide (x5_1 < 10) = true := decide_eq_true c14
     clear c14
     have H' := uD H
     clear H
     go_wp2
     go_loopg [3, 6] k1 (fun kq v3 v6 w' => ∃ (x3_2 : List (S25)) (x6_2 : Int), v6 = .int .i64 x6_2 ∧ Aside0 (spec_NearTags.l1 kq x3_2 t278 x5_1 x6_2 a0_0 a0_1 a0_2 = some r) ∧ Aside0 (kq ≤ k1) ∧ Aside0 (Kd.R k25 25 w' w.heap.size (fun k_ => k_ ≠ gb272) v3 x3_2) ∧ Aside0 (w'.heap[gb272]? = some (.cells #[.int .i64 a0_0, .int .i64 a0_1, .int .i64 a0_2] 25 (0, 0))) ∧ Aside0 (Below w.heap.size w w'))
     case atStart => exact ⟨(x3_1), (0), (by first | rfl | (simp; done) | (simp [*]; done)), H', ⟨Nat.le_refl _⟩, ⟨by (with_reducible repeat (first | apply uU | apply uS | apply uT)); exact HO_3.out⟩, ⟨by (with_reducible repeat first|apply uH|apply uJ|apply uG); exact BK272.out⟩, ⟨pb HB⟩⟩
     case round =>
      clear H'
      try clear c1
      try clear p2
      try clear c3
      try clear c4
      try clear c14
      try clear c14b0
      try clear hcz11_0
      try clear hcz11_1
      try clear hcz11_2
      try clear hcz9_0
      try clear hcz9_1
      try clear hcz9_2
      try clear hfz11_0
      try clear hfz11_1
      try clear hfz11_2
      try clear hfz9_0
      try clear hfz9_1
      try clear hfz9_2
      try clear p2
      obtain ⟨x3_2, x6_2, rfl, HA, HK2, HO_3, BK272, HB⟩ := hrel
      cases gk with
      | zero => exact absurd HA.out (by simp [spec_NearTags.l1])
      | succ k2 =>
       have H := HA.out
       clear HA
       simp only [spec_NearTags.l1] at H
       by_cases c15 : x6_2 < 10
       ·rw [if_pos c15] at H
        have c15b0 : decide (x6_2 < 10) = true := decide_eq_true c15
        clear c15
        obtain ⟨y279, hy279⟩ : ∃ y_ : List Int, y_ = (numsOf t278) := ⟨_, rfl⟩
        replace H : (if 0 ≤ x5_1 then (if x5_1 < (y279.length : Int) then (spec_NearTags.l2 k2 x3_2 t278 x5_1 x6_2 (y279.set (x5_1 : Int).toNat ((wrap64 (48 + x6_2)) % 256)) 0 0 a0_0 a0_1 a0_2) else (none)) else (none)) = some r := by first | (rw [hy279]; with_reducible exact H) | (have H2_ := (Option.bind_some _ _).symm.trans H; rw [hy279]; with_reducible exact H2_) | (have H2_ := (Option.bind_some _ _).symm.trans H; with_reducible exact H2_) | with_reducible exact H | (rw [hy279]; exact H) | exact H
        have Ny279 := uD hy279
        clear hy279
        by_cases c16 : 0 ≤ x5_1
        ·rw [if_pos c16] at H
         have c16b0 : decide (0 ≤ x5_1) = true := decide_eq_true c16
         clear c16
         by_cases c17 : x5_1 < (y279.length : Int)
         ·rw [if_pos c17] at H
          have c17b0 : decide (x5_1 < (y279.length : Int)) = true := decide_eq_true c17
          clear c17
          obtain ⟨y282, hy282⟩ : ∃ y_ : List Int, y_ = (y279.set (x5_1 : Int).toNat ((wrap64 (48 + x6_2)) % 256)) := ⟨_, rfl⟩
          replace H : (spec_NearTags.l2 k2 x3_2 t278 x5_1 x6_2 y282 0 0 a0_0 a0_1 a0_2) = some r := by first | (rw [hy282]; with_reducible exact H) | (have H2_ := (Option.bind_some _ _).symm.trans H; rw [hy282]; with_reducible exact H2_) | (have H2_ := (Option.bind_some _ _).symm.trans H; with_reducible exact H2_) | with_reducible exact H | (rw [hy282]; exact H) | exact H
          have Ny282 := uD hy282
          clear hy282
          have H' := uD H
          clear H
          go_wp2_with (first | ((with_reducible refine gate_dst (N := 28) rfl ?_); refine spec_NearTags.conv t278 y279 Ny279.out ?hg ?hr ?_; (case hg => rfl); (case hr => (have hcv_ := fun W => Go.Lib.run_convert_string_bytes (P := Tryd.prog) W 9 37 5 t278 Tryd.underlying9 Tryd.underlying37 Tryd.underlying5); first | (go_simp; done) | (go_simp; rfl)); intro go18 co18 w19 hg hF hb; replace HO_3 := uD (Kd.R_below (Kd.R_elderB (pr HO_3) go18 (Nat.le_of_eq hg.symm)) hb); have HO281 := uD hF; have GB18 := uD ((by rw [hg]; exact (uN (pb HB)) : w.heap.size ≤ go18)); have NE18 := uD ((by rw [hg]; exact Nat.ne_of_lt (blk_lt (pk BK272)) : gb272 ≠ go18)); replace BK272 := uD (blk_below (pk BK272) hb); replace HB := uD (uO (pb HB) hb); clear hb hF hg; have p18 : 0 ≤ (x5_1 : Int) := of_decide_eq_true (by first | (with_reducible assumption) | assumption); have q18 : (x5_1 : Int) < ((y279.length : Int) : Int) := of_decide_eq_true (by first | (with_reducible assumption) | assumption); obtain ⟨hx18_0, hf18_0⟩ := spec_NearTags.Fb.cell HO281.out (x5_1 : Int) p18 q18; have HP21 := uD (spec_NearTags.Fb.put HO281.out (x5_1 : Int) ((wrap64 (48 + x6_2)) % 256) p18 q18); replace p18 := eq_true p18; replace q18 := eq_true q18) | ((with_reducible refine gate_store (t := 5) (p := 34) rfl ?_); refine store_event (t := 5) (p := 34) (v := ?vo_w22) (w1 := (w19.setCell ⟨go18, (x5_1 : Int).toNat, none⟩ (.int .u8 ((wrap64 (48 + x6_2)) % 256)))) ?hg ?ho ?hn ?hr ?_; (case ho => rfl); (case hg => rfl); (case hn => rfl); (case hr => first | (go_simp; done) | (go_simp; rfl)); intro w22 hw; have hp_ : spec_NearTags.Fb w22 go18 y282 := (by rw [hw, Ny282.out]; exact HP21.out); clear HP21; replace HO_3 := uD ((by rw [hw]; exact uX (Kd.R_far (p := ⟨go18, (x5_1 : Int).toNat, none⟩) HO_3.out (fun _ hk => hk.2) _) (fun _ hk => hk.1) : Kd.R k25 25 w22 w.heap.size (fun k_ => k_ ≠ gb272) u3 x3_2)); replace BK272 := uD ((by rw [hw]; exact blk_far (pk BK272) NE18.out _ : w22.heap[gb272]? = some (.cells #[.int .i64 a0_0, .int .i64 a0_1, .int .i64 a0_2] 25 (0, 0)))); replace HO281 := uD (hp_); replace HB := uD ((by rw [hw]; exact uM (HB.out) GB18.out : Below w.heap.size w w22)); clear hw hp_))
          go_loopg [8, 9] k2 (fun kq v8 v9 w' => ∃ (x8_3 : Int) (x9_3 : Int), v8 = .int .i64 x8_3 ∧ v9 = .int .i64 x9_3 ∧ Aside0 (spec_NearTags.l2 kq x3_2 t278 x5_1 x6_2 y282 x8_3 x9_3 a0_0 a0_1 a0_2 = some r) ∧ Aside0 (kq ≤ k2) ∧ Aside0 (Kd.R k25 25 w' w.heap.size (fun k_ => k_ ≠ gb272) u3 x3_2) ∧ Aside0 (spec_NearTags.Fb w' go18 y282) ∧ Aside0 (w'.heap[gb272]? = some (.cells #[.int .i64 a0_0, .int .i64 a0_1, .int .i64 a0_2] 25 (0, 0))) ∧ Aside0 (Below w.heap.size w w'))
          case atStart => exact ⟨(0), (0), (by first | rfl | (simp; done) | (simp [*]; done)), (by first | rfl | (simp; done) | (simp [*]; done)), H', ⟨Nat.le_refl _⟩, ⟨by (with_reducible repeat (first | apply uU | apply uS | apply uT)); exact HO_3.out⟩, ⟨by (with_reducible repeat (first | apply spec_NearTags.Fb.alloc | apply spec_NearTags.Fb.drewN | apply spec_NearTags.Fb.drew)); exact HO281.out⟩, ⟨by (with_reducible repeat first|apply uH|apply uJ|apply uG); exact BK272.out⟩, ⟨pb HB⟩⟩
          case round =>
           clear H'
           try clear c1
           try clear p1
           try clear q1
           try clear hx1
           try clear hf1
           try clear p2
           try clear c3
           try clear c4
           try clear p6
           try clear c14
           try clear c14b0
           try clear c15
           try clear c15b0
           try clear c16
           try clear c16b0
           try clear c17
           try clear c17b0
           try clear p18
           try clear q18
           try clear hx18
           try clear hf18
           try clear hcz11_0
           try clear hcz11_1
           try clear hcz11_2
           try clear hcz9_0
           try clear hcz9_1
           try clear hcz9_2
           try clear hfz11_0
           try clear hfz11_1
           try clear hfz11_2
           try clear hfz9_0
           try clear hfz9_1
           try clear hfz9_2
           try clear hx18_0
           try clear p18
           try clear p2
           try clear q18
           obtain ⟨x8_3, x9_3, rfl, rfl, HA, HK3, HO_3, HO_7, BK272, HB⟩ := hrel
           have hl7_3 : y279.length = y282.length := by rw [Ny282.out, List.length_set]
           (try simp only [hl7_3])
           cases gk with
           | zero => exact absurd HA.out (by simp [spec_NearTags.l2])
           | succ k3 =>
            have H := HA.out
            clear HA
            simp only [spec_NearTags.l2] at H
            by_cases c23 : x9_3 < 10
            ·rw [if_pos c23] at H
             have c23b0 : decide (x9_3 < 10) = true := decide_eq_true c23
             clear c23
             by_cases c24 : 0 ≤ x9_3
             ·rw [if_pos c24] at H
              have c24b0 : decide (0 ≤ x9_3) = true := decide_eq_true c24
              clear c24
              by_cases c25 : x9_3 < (y282.length : Int)
              ·rw [if_pos c25] at H
               have c25b0 : decide (x9_3 < (y282.length : Int)) = true := decide_eq_true c25
               (try simp only [hl7_3] at c25b0)
               clear c25
               have H' := uD H
               clear H
               have p283 : 0 ≤ (x9_3 : Int) := of_decide_eq_true (by first | (with_reducible assumption) | assumption)
               have q283 : x9_3 < (y282.length : Int) := of_decide_eq_true (by first | (with_reducible assumption) | assumption)
               have hx283_0 := (spec_NearTags.Fb.cell HO_7.out x9_3 p283 q283).1
               replace p283 := eq_true p283
               replace q283 := eq_true q283
               go_wp2
               (try simp only [← hl7_3])
               go_roundg k3
               case measure => have := HK1.out; have := HK2.out; have := HK3.out; omega
               case rel => exact ⟨(wrap64 ((wrap64 ((wrap64 (10 * x8_3)) + (wrap64 (rd y282 x9_3)))) - 48)), (wrap64 (x9_3 + 1)), (by first | rfl | (simp; done) | (simp [*]; done)), (by first | rfl | (simp; done) | (simp [*]; done)), H', ⟨by have := HK1.out; have := HK2.out; have := HK3.out; omega⟩, ⟨by (try simp only [hl7_3]); (with_reducible repeat (first | apply uU | apply uS | apply uT)); exact HO_3.out⟩, ⟨by (with_reducible repeat (first | apply spec_NearTags.Fb.alloc | apply spec_NearTags.Fb.drewN | apply spec_NearTags.Fb.drew)); exact HO_7.out⟩, ⟨by (try simp only [hl7_3]); (with_reducible repeat first|apply uH|apply uJ|apply uG); exact BK272.out⟩, ⟨pb HB⟩⟩
              ·rw [if_neg c25] at H
               exact absurd H (by simp)
             ·rw [if_neg c24] at H
              exact absurd H (by simp)
            ·rw [if_neg c23] at H
             clear HO_7
             have c23b0 : decide (x9_3 < 10) = false := decide_eq_false c23
             clear c23
             replace H := Option.bind_eq_some_iff.mp H
             obtain ⟨⟨t284, t285, t286⟩, A260, H⟩ := H
             replace H : ((spec_TagNumber.f a0_0 a0_1 a0_2).bind fun t288 => (if x8_3 = t288 then (spec_NearTags.l1 k3 x3_2 t278 x5_1 (wrap64 (x6_2 + 1)) a0_0 a0_1 a0_2) else ((spec_TagOk.f t284 t285 t286).bind fun t289 => (if t289 = true then ((spec_TagCheck.f t284 t285 t286).bind fun t290 => ((spec_TagCheck.f a0_0 a0_1 a0_2).bind fun t291 => (if t290 = t291 then ((spec_l01Insert.f k3 x3_2 t284 t285 t286).bind fun t292 => (spec_NearTags.l1 k3 t292 t278 x5_1 (wrap64 (x6_2 + 1)) a0_0 a0_1 a0_2)) else (spec_NearTags.l1 k3 x3_2 t278 x5_1 (wrap64 (x6_2 + 1)) a0_0 a0_1 a0_2)))) else (spec_NearTags.l1 k3 x3_2 t278 x5_1 (wrap64 (x6_2 + 1)) a0_0 a0_1 a0_2))))) = some r := H
             have A26 := uD A260
             clear A260
             replace H := Option.bind_eq_some_iff.mp H
             obtain ⟨t288, A270, H⟩ := H
             replace H : (if x8_3 = t288 then (spec_NearTags.l1 k3 x3_2 t278 x5_1 (wrap64 (x6_2 + 1)) a0_0 a0_1 a0_2) else ((spec_TagOk.f t284 t285 t286).bind fun t289 => (if t289 = true then ((spec_TagCheck.f t284 t285 t286).bind fun t290 => ((spec_TagCheck.f a0_0 a0_1 a0_2).bind fun t291 => (if t290 = t291 then ((spec_l01Insert.f k3 x3_2 t284 t285 t286).bind fun t292 => (spec_NearTags.l1 k3 t292 t278 x5_1 (wrap64 (x6_2 + 1)) a0_0 a0_1 a0_2)) else (spec_NearTags.l1 k3 x3_2 t278 x5_1 (wrap64 (x6_2 + 1)) a0_0 a0_1 a0_2)))) else (spec_NearTags.l1 k3 x3_2 t278 x5_1 (wrap64 (x6_2 + 1)) a0_0 a0_1 a0_2)))) = some r := H
             have A27 := uD A270
             clear A270
             by_cases c28 : x8_3 = t288
             ·rw [if_pos c28] at H
              have c28b0 : (x8_3 == t288) = true := beq_iff_eq.mpr c28
              have c28b1 : (x8_3 != t288) = false := bne_eq_false_iff_eq.mpr c28
              clear c28
              have H' := uD H
              clear H
              try go_wp2_with (first | ((with_reducible refine gate_callee (f := 45) rfl ?_); refine gl (some 49) Tryd.func45 #[.int .i64 x8_3] ?_; (with_reducible refine (spec_l01OfNumber.calls x8_3 t284 t285 t286 _ A26.out).mono ?_); rintro e w29 ⟨rfl, hb⟩; refine ⟨_, rfl, ?_⟩; replace HO_3 := uD (Kd.R_below (pr HO_3) hb); replace BK272 := uD (blk_below (pk BK272) hb); replace HB := uD (uO (pb HB) hb); (try clear hb); (try clear hb2); (try clear hk); (try clear hi)) | ((with_reducible refine gate_dst (N := 10) rfl ?_); refine bx 10 #[.int .i64 0, .int .i64 0, .int .i64 0] 25 ?_; intro gb287 hg w30 hbox hb; replace HO_3 := uD (Kd.R_below (Kd.R_elderB (pr HO_3) gb287 (Nat.le_of_eq hg.symm)) hb); have BK287 := uD (hbox); have GW287 := uD ((by rw [hg]; exact (uN (pb HB)) : w.heap.size ≤ gb287)); have GE287 := uD ((by rw [hg]; exact (uN (pb HB)) : w.heap.size ≤ gb287)); replace HB := uD (uO (pb HB) hb); have NB272_287 := uD ((by rw [hg]; exact Nat.ne_of_lt (blk_lt (pk BK272)) : gb272 ≠ gb287)); have NB287_272 := uD ((by rw [hg]; exact Nat.ne_of_gt (blk_lt (pk BK272)) : gb287 ≠ gb272)); replace BK272 := uD (blk_below (pk BK272) hb); clear hb hbox hg; have hnb31 := NB287_272.out; have hnc31 := NB272_287.out; obtain ⟨hcz32_0, hcz32_1, hcz32_2, hfz32_0, hfz32_1, hfz32_2⟩ := cz3 BK287))
              have n0_ : Aside0 (Kd.R k25 25 (((w30.setCell ⟨gb287, 0, none⟩ (.int .i64 t284)).setCell ⟨gb287, 1, none⟩ (.int .i64 t285)).setCell ⟨gb287, 2, none⟩ (.int .i64 t286)) w.heap.size (fun k_ => k_ ≠ gb272 ∧ k_ ≠ gb287) u3 x3_2) := ⟨by (with_reducible repeat (first | apply uU | apply uS | apply uT)); exact uX (uV (p := ⟨gb287, 2, none⟩) (uV (p := ⟨gb287, 1, none⟩) (uV (p := ⟨gb287, 0, none⟩) (uX HO_3.out (fun k_ hk => (⟨hk, hk.2⟩ : _ ∧ k_ ≠ gb287))) (fun _ hk => hk.2) (.int .i64 t284)) (fun _ hk => hk.2) (.int .i64 t285)) (fun _ hk => hk.2) (.int .i64 t286)) (fun _ hk => ⟨hk.1.1, hk.1.2⟩)⟩
              have n2_ : Aside0 ((((w30.setCell ⟨gb287, 0, none⟩ (.int .i64 t284)).setCell ⟨gb287, 1, none⟩ (.int .i64 t285)).setCell ⟨gb287, 2, none⟩ (.int .i64 t286)).heap[gb272]? = some (.cells #[.int .i64 a0_0, .int .i64 a0_1, .int .i64 a0_2] 25 (0, 0))) := ⟨by exact ps BK272⟩
              have n3_ : Aside0 ((((w30.setCell ⟨gb287, 0, none⟩ (.int .i64 t284)).setCell ⟨gb287, 1, none⟩ (.int .i64 t285)).setCell ⟨gb287, 2, none⟩ (.int .i64 t286)).heap[gb287]? = some (.cells #[.int .i64 t284, .int .i64 t285, .int .i64 t286] 25 (0, 0))) := ⟨by (with_reducible repeat first|apply uH|apply uJ|apply uG); refine uP (cs := #[.int .i64 t284, .int .i64 t285, .int .i64 0]) ?_ 2 _ rfl; (with_reducible repeat first|apply uH|apply uJ|apply uG); refine uP (cs := #[.int .i64 t284, .int .i64 0, .int .i64 0]) ?_ 1 _ rfl; (with_reducible repeat first|apply uH|apply uJ|apply uG); refine uP (cs := #[.int .i64 0, .int .i64 0, .int .i64 0]) ?_ 0 _ rfl; (with_reducible repeat first|apply uH|apply uJ|apply uG); exact BK287.out⟩
              have n4_ : Aside0 (Below w.heap.size w (((w30.setCell ⟨gb287, 0, none⟩ (.int .i64 t284)).setCell ⟨gb287, 1, none⟩ (.int .i64 t285)).setCell ⟨gb287, 2, none⟩ (.int .i64 t286))) := ⟨pb HB⟩
              (try clear HO_3)
              (try clear BK272)
              (try clear BK287)
              (try clear HB)
              generalize (((w30.setCell ⟨gb287, 0, none⟩ (.int .i64 t284)).setCell ⟨gb287, 1, none⟩ (.int .i64 t285)).setCell ⟨gb287, 2, none⟩ (.int .i64 t286)) = w33 at n0_ n2_ n3_ n4_ ⊢
              have HO_3 := n0_
              have BK272 := n2_
              have BK287 := n3_
              have HB := n4_
              clear n0_ n2_ n3_ n4_
              replace HO_3 := uD (uT HO_3.out)
              replace BK272 := uD (uJ BK272.out)
              replace BK287 := uD (uJ BK287.out)
              replace HB := uD (uK HB.out)
              refine start_ (n := 15) (S := fun w' => w'.cell? ⟨gb272, 0, none⟩ = some (.int .i64 a0_0) ∧ w'.cell? ⟨gb272, 1, none⟩ = some (.int .i64 a0_1) ∧ w'.cell? ⟨gb272, 2, none⟩ = some (.int .i64 a0_2)) (ds := []) #[F,F,F,F,F,F,F,F,F,F,F,F,F,F,F] (by kernel_rfl) rfl rfl ⟨(uF BK272.out 0).trans rfl, (uF BK272.out 1).trans rfl, (uF BK272.out 2).trans rfl⟩ (fun hHeld => ?_); refine with_tabW spec_NearTags.tab19 spec_NearTags.bits19 (fun HT_ HW_ => ?_)
              generalize w33.drew = w34 at HO_3 BK272 BK287 HB hHeld ⊢
              refine pu 0 (some 50) #[T,F,F,F,F,F,F,F,F,F,F,F,F,F,F] HT_ ?_
              refine tk 1 (some 51) #[T,T,F,F,F,F,F,F,F,F,F,F,F,F,F] HT_ HW_ hHeld ?_
              refine one_ (i := 2) (N := some 52) #[T,T,T,F,F,F,F,F,F,F,F,F,F,F,F] rfl rfl (one_of HT_.out (by kernel_rfl)) (by decide) (fun K hK => ?_)
              refine goes_ Tryd.func35 (by kernel_rfl) rfl #[.agg #[.int .i64 a0_0, .int .i64 a0_1, .int .i64 a0_2]] (by rfl) rfl rfl (by (try simp only [List.map_toArray, List.map_cons, List.map_nil]); first | done | rfl | (simp only [List.length_drop, List.length_take]; rfl)) ?_
              with_reducible refine (spec_TagNumber.calls a0_0 a0_1 a0_2 t288 _ A27.out).mono ?_
              rintro e w35 ⟨rfl, hb⟩
              refine ⟨_, rfl, ?_⟩
              replace HO_3 := uD (Kd.R_below (pr HO_3) hb)
              replace BK272 := uD (blk_below (pk BK272) hb)
              replace BK287 := uD (blk_below (pk BK287) hb)
              replace HB := uD (uO (pb HB) hb)
              (try clear hb)
              (try clear hb2)
              (try clear hk)
              (try clear hi)
              refine hK.out _ _ ⟨(uF BK272.out 0).trans rfl, (uF BK272.out 1).trans rfl, (uF BK272.out 2).trans rfl⟩ (fun hHeld => ?_)
              clear hK K
              refine norm_ (a' := ?_) ?_ ?_
              rotate_left
              ·show uc _ (some 52) _ = _
               simp only [uc, uA, uB, uC, uZ, ua]
               rfl
              refine pu 3 (some 53) #[T,T,T,T,F,F,F,F,F,F,F,F,F,F,F] HT_ ?_
              refine pu 4 (some 54) #[T,T,T,T,T,F,F,F,F,F,F,F,F,F,F] HT_ ?_
              refine ub (i := 5) (N := some 55) (v := undef) (a' := ?_) #[T,T,T,T,T,T,F,F,F,F,F,F,F,F,F] rfl rfl (uY HT_.out (by kernel_rfl)) (fun _ _ _ h => h) (Or.inr ⟨by rfl, rfl⟩) ?_ ?_
              rotate_left
              ·simp only [uc, uA, uB, uC, uZ, ua]
               rfl
              refine ub (i := 6) (N := some 56) (v := undef) (a' := ?_) #[T,T,T,T,T,T,T,F,F,F,F,F,F,F,F] rfl rfl (uY HT_.out (by kernel_rfl)) (fun _ _ _ h => h) (Or.inr ⟨by rfl, rfl⟩) ?_ ?_
              rotate_left
              ·simp only [uc, uA, uB, uC, uZ, ua]
               rfl
              refine pu 7 (some 57) #[T,T,T,T,T,T,T,T,F,F,F,F,F,F,F] HT_ ?_
              refine pu 8 (some 58) #[T,T,T,T,T,T,T,T,T,F,F,F,F,F,F] HT_ ?_
              refine ub (i := 9) (N := some 59) (v := undef) (a' := ?_) #[T,T,T,T,T,T,T,T,T,T,F,F,F,F,F] rfl rfl (uY HT_.out (by kernel_rfl)) (fun _ _ _ h => h) (Or.inr ⟨by rfl, rfl⟩) ?_ ?_
              rotate_left
              ·simp only [uc, uA, uB, uC, uZ, ua]
               rfl
              refine ub (i := 10) (N := some 60) (v := undef) (a' := ?_) #[T,T,T,T,T,T,T,T,T,T,T,F,F,F,F] rfl rfl (uY HT_.out (by kernel_rfl)) (fun _ _ _ h => h) (Or.inr ⟨by rfl, rfl⟩) ?_ ?_
              rotate_left
              ·simp only [uc, uA, uB, uC, uZ, ua]
               rfl
              refine ub (i := 11) (N := some 61) (v := undef) (a' := ?_) #[T,T,T,T,T,T,T,T,T,T,T,T,F,F,F] rfl rfl (uY HT_.out (by kernel_rfl)) (fun _ _ _ h => h) (Or.inr ⟨by rfl, rfl⟩) ?_ ?_
              rotate_left
              ·simp only [uc, uA, uB, uC, uZ, ua]
               rfl
              refine ub (i := 12) (N := some 62) (v := undef) (a' := ?_) #[T,T,T,T,T,T,T,T,T,T,T,T,T,F,F] rfl rfl (uY HT_.out (by kernel_rfl)) (fun _ _ _ h => h) (Or.inr ⟨by rfl, rfl⟩) ?_ ?_
              rotate_left
              ·simp only [uc, uA, uB, uC, uZ, ua]
               rfl
              refine ub (i := 13) (N := some 63) (v := undef) (a' := ?_) #[T,T,T,T,T,T,T,T,T,T,T,T,T,T,F] rfl rfl (uY HT_.out (by kernel_rfl)) (fun _ _ _ h => h) (Or.inr ⟨by rfl, rfl⟩) ?_ ?_
              rotate_left
              ·simp only [uc, uA, uB, uC, uZ, ua]
               rfl
              refine pu 14 (some 64) #[T,T,T,T,T,T,T,T,T,T,T,T,T,T,T] HT_ ?_
              refine done_ (done_of HT_.out (by kernel_rfl)) ?_
              try go_wp2
              (try simp only [← hl7_3])
              go_roundg k3
              case measure => have := HK1.out; have := HK2.out; have := HK3.out; omega
              case rel => exact ⟨(x3_2), (wrap64 (x6_2 + 1)), (by first | rfl | (simp; done) | (simp [*]; done)), H', ⟨by have := HK1.out; have := HK2.out; have := HK3.out; omega⟩, ⟨by (try simp only [hl7_3]); (with_reducible repeat (first | apply uU | apply uS | apply uT)); exact uX HO_3.out (fun _ hk => hk.1)⟩, ⟨by (try simp only [hl7_3]); (with_reducible repeat first|apply uH|apply uJ|apply uG); exact BK272.out⟩, ⟨pb HB⟩⟩
             ·rw [if_neg c28] at H
              have c28b0 : (x8_3 == t288) = false := beq_eq_false_iff_ne.mpr c28
              have c28b1 : (x8_3 != t288) = true := bne_iff_ne.mpr c28
              replace H := Option.bind_eq_some_iff.mp H
              obtain ⟨t289, A360, H⟩ := H
              replace H : (if t289 = true then ((spec_TagCheck.f t284 t285 t286).bind fun t290 => ((spec_TagCheck.f a0_0 a0_1 a0_2).bind fun t291 => (if t290 = t291 then ((spec_l01Insert.f k3 x3_2 t284 t285 t286).bind fun t292 => (spec_NearTags.l1 k3 t292 t278 x5_1 (wrap64 (x6_2 + 1)) a0_0 a0_1 a0_2)) else (spec_NearTags.l1 k3 x3_2 t278 x5_1 (wrap64 (x6_2 + 1)) a0_0 a0_1 a0_2)))) else (spec_NearTags.l1 k3 x3_2 t278 x5_1 (wrap64 (x6_2 + 1)) a0_0 a0_1 a0_2)) = some r := H
              have A36 := uD A360
              clear A360
              by_cases c37 : t289 = true
              ·subst c37
               have H1 : ((spec_TagCheck.f t284 t285 t286).bind fun t290 => ((spec_TagCheck.f a0_0 a0_1 a0_2).bind fun t291 => (if t290 = t291 then ((spec_l01Insert.f k3 x3_2 t284 t285 t286).bind fun t292 => (spec_NearTags.l1 k3 t292 t278 x5_1 (wrap64 (x6_2 + 1)) a0_0 a0_1 a0_2)) else (spec_NearTags.l1 k3 x3_2 t278 x5_1 (wrap64 (x6_2 + 1)) a0_0 a0_1 a0_2)))) = some r := by rw [if_pos rfl] at H; first | done | exact H
               clear H
               have H := H1
               clear H1
               replace H := Option.bind_eq_some_iff.mp H
               obtain ⟨t290, A380, H⟩ := H
               replace H : ((spec_TagCheck.f a0_0 a0_1 a0_2).bind fun t291 => (if t290 = t291 then ((spec_l01Insert.f k3 x3_2 t284 t285 t286).bind fun t292 => (spec_NearTags.l1 k3 t292 t278 x5_1 (wrap64 (x6_2 + 1)) a0_0 a0_1 a0_2)) else (spec_NearTags.l1 k3 x3_2 t278 x5_1 (wrap64 (x6_2 + 1)) a0_0 a0_1 a0_2))) = some r := H
               have A38 := uD A380
               clear A380
               replace H := Option.bind_eq_some_iff.mp H
               obtain ⟨t291, A390, H⟩ := H
               replace H : (if t290 = t291 then ((spec_l01Insert.f k3 x3_2 t284 t285 t286).bind fun t292 => (spec_NearTags.l1 k3 t292 t278 x5_1 (wrap64 (x6_2 + 1)) a0_0 a0_1 a0_2)) else (spec_NearTags.l1 k3 x3_2 t278 x5_1 (wrap64 (x6_2 + 1)) a0_0 a0_1 a0_2)) = some r := H
               have A39 := uD A390
               clear A390
               by_cases c40 : t290 = t291
               ·rw [if_pos c40] at H
                have c40b0 : (t290 == t291) = true := beq_iff_eq.mpr c40
                have c40b1 : (t290 != t291) = false := bne_eq_false_iff_eq.mpr c40
                clear c40
                replace H := Option.bind_eq_some_iff.mp H
                obtain ⟨t292, A410, H⟩ := H
                replace H : (spec_NearTags.l1 k3 t292 t278 x5_1 (wrap64 (x6_2 + 1)) a0_0 a0_1 a0_2) = some r := H
                have A41 := uD A410
                clear A410
                have H' := uD H
                clear H
                try go_wp2_with (first | ((with_reducible refine gate_callee (f := 45) rfl ?_); refine gl (some 49) Tryd.func45 #[.int .i64 x8_3] ?_; (with_reducible refine (spec_l01OfNumber.calls x8_3 t284 t285 t286 _ A26.out).mono ?_); rintro e w42 ⟨rfl, hb⟩; refine ⟨_, rfl, ?_⟩; replace HO_3 := uD (Kd.R_below (pr HO_3) hb); replace BK272 := uD (blk_below (pk BK272) hb); replace HB := uD (uO (pb HB) hb); (try clear hb); (try clear hb2); (try clear hk); (try clear hi)) | ((with_reducible refine gate_dst (N := 10) rfl ?_); refine bx 10 #[.int .i64 0, .int .i64 0, .int .i64 0] 25 ?_; intro gb287 hg w43 hbox hb; replace HO_3 := uD (Kd.R_below (Kd.R_elderB (pr HO_3) gb287 (Nat.le_of_eq hg.symm)) hb); have BK287 := uD (hbox); have GW287 := uD ((by rw [hg]; exact (uN (pb HB)) : w.heap.size ≤ gb287)); have GE287 := uD ((by rw [hg]; exact (uN (pb HB)) : w.heap.size ≤ gb287)); replace HB := uD (uO (pb HB) hb); have NB272_287 := uD ((by rw [hg]; exact Nat.ne_of_lt (blk_lt (pk BK272)) : gb272 ≠ gb287)); have NB287_272 := uD ((by rw [hg]; exact Nat.ne_of_gt (blk_lt (pk BK272)) : gb287 ≠ gb272)); replace BK272 := uD (blk_below (pk BK272) hb); clear hb hbox hg; have hnb44 := NB287_272.out; have hnc44 := NB272_287.out; obtain ⟨hcz45_0, hcz45_1, hcz45_2, hfz45_0, hfz45_1, hfz45_2⟩ := cz3 BK287))
                have n0_ : Aside0 (Kd.R k25 25 (((w43.setCell ⟨gb287, 0, none⟩ (.int .i64 t284)).setCell ⟨gb287, 1, none⟩ (.int .i64 t285)).setCell ⟨gb287, 2, none⟩ (.int .i64 t286)) w.heap.size (fun k_ => k_ ≠ gb272 ∧ k_ ≠ gb287) u3 x3_2) := ⟨by (with_reducible repeat (first | apply uU | apply uS | apply uT)); exact uX (uV (p := ⟨gb287, 2, none⟩) (uV (p := ⟨gb287, 1, none⟩) (uV (p := ⟨gb287, 0, none⟩) (uX HO_3.out (fun k_ hk => (⟨hk, hk.2⟩ : _ ∧ k_ ≠ gb287))) (fun _ hk => hk.2) (.int .i64 t284)) (fun _ hk => hk.2) (.int .i64 t285)) (fun _ hk => hk.2) (.int .i64 t286)) (fun _ hk => ⟨hk.1.1, hk.1.2⟩)⟩
                have n2_ : Aside0 ((((w43.setCell ⟨gb287, 0, none⟩ (.int .i64 t284)).setCell ⟨gb287, 1, none⟩ (.int .i64 t285)).setCell ⟨gb287, 2, none⟩ (.int .i64 t286)).heap[gb272]? = some (.cells #[.int .i64 a0_0, .int .i64 a0_1, .int .i64 a0_2] 25 (0, 0))) := ⟨by exact ps BK272⟩
                have n3_ : Aside0 ((((w43.setCell ⟨gb287, 0, none⟩ (.int .i64 t284)).setCell ⟨gb287, 1, none⟩ (.int .i64 t285)).setCell ⟨gb287, 2, none⟩ (.int .i64 t286)).heap[gb287]? = some (.cells #[.int .i64 t284, .int .i64 t285, .int .i64 t286] 25 (0, 0))) := ⟨by (with_reducible repeat first|apply uH|apply uJ|apply uG); refine uP (cs := #[.int .i64 t284, .int .i64 t285, .int .i64 0]) ?_ 2 _ rfl; (with_reducible repeat first|apply uH|apply uJ|apply uG); refine uP (cs := #[.int .i64 t284, .int .i64 0, .int .i64 0]) ?_ 1 _ rfl; (with_reducible repeat first|apply uH|apply uJ|apply uG); refine uP (cs := #[.int .i64 0, .int .i64 0, .int .i64 0]) ?_ 0 _ rfl; (with_reducible repeat first|apply uH|apply uJ|apply uG); exact BK287.out⟩
                have n4_ : Aside0 (Below w.heap.size w (((w43.setCell ⟨gb287, 0, none⟩ (.int .i64 t284)).setCell ⟨gb287, 1, none⟩ (.int .i64 t285)).setCell ⟨gb287, 2, none⟩ (.int .i64 t286))) := ⟨pb HB⟩
                (try clear HO_3)
                (try clear BK272)
                (try clear BK287)
                (try clear HB)
                generalize (((w43.setCell ⟨gb287, 0, none⟩ (.int .i64 t284)).setCell ⟨gb287, 1, none⟩ (.int .i64 t285)).setCell ⟨gb287, 2, none⟩ (.int .i64 t286)) = w46 at n0_ n2_ n3_ n4_ ⊢
                have HO_3 := n0_
                have BK272 := n2_
                have BK287 := n3_
                have HB := n4_
                clear n0_ n2_ n3_ n4_
                replace HO_3 := uD (uT HO_3.out)
                replace BK272 := uD (uJ BK272.out)
                replace BK287 := uD (uJ BK287.out)
                replace HB := uD (uK HB.out)
                refine start_ (n := 15) (S := fun w' => w'.cell? ⟨gb272, 0, none⟩ = some (.int .i64 a0_0) ∧ w'.cell? ⟨gb272, 1, none⟩ = some (.int .i64 a0_1) ∧ w'.cell? ⟨gb272, 2, none⟩ = some (.int .i64 a0_2) ∧ w'.cell? ⟨gb287, 0, none⟩ = some (.int .i64 t284) ∧ w'.cell? ⟨gb287, 1, none⟩ = some (.int .i64 t285) ∧ w'.cell? ⟨gb287, 2, none⟩ = some (.int .i64 t286)) (ds := []) #[F,F,F,F,F,F,F,F,F,F,F,F,F,F,F] (by kernel_rfl) rfl rfl ⟨(uF BK272.out 0).trans rfl, (uF BK272.out 1).trans rfl, (uF BK272.out 2).trans rfl, (uF BK287.out 0).trans rfl, (uF BK287.out 1).trans rfl, (uF BK287.out 2).trans rfl⟩ (fun hHeld => ?_); refine with_tabW spec_NearTags.tab19 spec_NearTags.bits19 (fun HT_ HW_ => ?_)
                generalize w46.drew = w47 at HO_3 BK272 BK287 HB hHeld ⊢
                refine pu 0 (some 50) #[T,F,F,F,F,F,F,F,F,F,F,F,F,F,F] HT_ ?_
                refine tk 1 (some 51) #[T,T,F,F,F,F,F,F,F,F,F,F,F,F,F] HT_ HW_ hHeld ?_
                refine one_ (i := 2) (N := some 52) #[T,T,T,F,F,F,F,F,F,F,F,F,F,F,F] rfl rfl (one_of HT_.out (by kernel_rfl)) (by decide) (fun K hK => ?_)
                refine goes_ Tryd.func35 (by kernel_rfl) rfl #[.agg #[.int .i64 a0_0, .int .i64 a0_1, .int .i64 a0_2]] (by rfl) rfl rfl (by (try simp only [List.map_toArray, List.map_cons, List.map_nil]); first | done | rfl | (simp only [List.length_drop, List.length_take]; rfl)) ?_
                with_reducible refine (spec_TagNumber.calls a0_0 a0_1 a0_2 t288 _ A27.out).mono ?_
                rintro e w48 ⟨rfl, hb⟩
                refine ⟨_, rfl, ?_⟩
                replace HO_3 := uD (Kd.R_below (pr HO_3) hb)
                replace BK272 := uD (blk_below (pk BK272) hb)
                replace BK287 := uD (blk_below (pk BK287) hb)
                replace HB := uD (uO (pb HB) hb)
                (try clear hb)
                (try clear hb2)
                (try clear hk)
                (try clear hi)
                refine hK.out _ _ ⟨(uF BK272.out 0).trans rfl, (uF BK272.out 1).trans rfl, (uF BK272.out 2).trans rfl, (uF BK287.out 0).trans rfl, (uF BK287.out 1).trans rfl, (uF BK287.out 2).trans rfl⟩ (fun hHeld => ?_)
                clear hK K
                refine norm_ (a' := ?_) ?_ ?_
                rotate_left
                ·show uc _ (some 52) _ = _
                 simp only [uc, uA, uB, uC, uZ, ua]
                 rfl
                refine pu 3 (some 53) #[T,T,T,T,F,F,F,F,F,F,F,F,F,F,F] HT_ ?_
                refine pu 4 (some 54) #[T,T,T,T,T,F,F,F,F,F,F,F,F,F,F] HT_ ?_
                refine tk 5 (some 55) #[T,T,T,T,T,T,F,F,F,F,F,F,F,F,F] HT_ HW_ hHeld ?_
                refine one_ (i := 6) (N := some 56) #[T,T,T,T,T,T,T,F,F,F,F,F,F,F,F] rfl rfl (one_of HT_.out (by kernel_rfl)) (by decide) (fun K hK => ?_)
                refine goes_ Tryd.func42 (by kernel_rfl) rfl #[.agg #[.int .i64 t284, .int .i64 t285, .int .i64 t286]] (by rfl) rfl rfl (by (try simp only [List.map_toArray, List.map_cons, List.map_nil]); first | done | rfl | (simp only [List.length_drop, List.length_take]; rfl)) ?_
                with_reducible refine (spec_TagOk.calls t284 t285 t286 true _ A36.out).mono ?_
                rintro e w49 ⟨rfl, hb⟩
                refine ⟨_, rfl, ?_⟩
                replace HO_3 := uD (Kd.R_below (pr HO_3) hb)
                replace BK272 := uD (blk_below (pk BK272) hb)
                replace BK287 := uD (blk_below (pk BK287) hb)
                replace HB := uD (uO (pb HB) hb)
                (try clear hb)
                (try clear hb2)
                (try clear hk)
                (try clear hi)
                refine hK.out _ _ ⟨(uF BK272.out 0).trans rfl, (uF BK272.out 1).trans rfl, (uF BK272.out 2).trans rfl, (uF BK287.out 0).trans rfl, (uF BK287.out 1).trans rfl, (uF BK287.out 2).trans rfl⟩ (fun hHeld => ?_)
                clear hK K
                refine norm_ (a' := ?_) ?_ ?_
                rotate_left
                ·show uc _ (some 56) _ = _
                 simp only [uc, uA, uB, uC, uZ, ua]
                 rfl
                refine pu 7 (some 57) #[T,T,T,T,T,T,T,T,F,F,F,F,F,F,F] HT_ ?_
                refine pu 8 (some 58) #[T,T,T,T,T,T,T,T,T,F,F,F,F,F,F] HT_ ?_
                refine tk 9 (some 59) #[T,T,T,T,T,T,T,T,T,T,F,F,F,F,F] HT_ HW_ hHeld ?_
                refine tk 11 (some 61) #[T,T,T,T,T,T,T,T,T,T,F,T,F,F,F] HT_ HW_ hHeld ?_
                refine one_ (i := 10) (N := some 60) #[T,T,T,T,T,T,T,T,T,T,T,T,F,F,F] rfl rfl (one_of HT_.out (by kernel_rfl)) (by decide) (fun K hK => ?_)
                refine goes_ Tryd.func44 (by kernel_rfl) rfl #[.agg #[.int .i64 t284, .int .i64 t285, .int .i64 t286]] (by rfl) rfl rfl (by (try simp only [List.map_toArray, List.map_cons, List.map_nil]); first | done | rfl | (simp only [List.length_drop, List.length_take]; rfl)) ?_
                with_reducible refine (spec_TagCheck.calls t284 t285 t286 t290 _ A38.out).mono ?_
                rintro e w50 ⟨rfl, hb⟩
                refine ⟨_, rfl, ?_⟩
                replace HO_3 := uD (Kd.R_below (pr HO_3) hb)
                replace BK272 := uD (blk_below (pk BK272) hb)
                replace BK287 := uD (blk_below (pk BK287) hb)
                replace HB := uD (uO (pb HB) hb)
                (try clear hb)
                (try clear hb2)
                (try clear hk)
                (try clear hi)
                refine hK.out _ _ ⟨(uF BK272.out 0).trans rfl, (uF BK272.out 1).trans rfl, (uF BK272.out 2).trans rfl, (uF BK287.out 0).trans rfl, (uF BK287.out 1).trans rfl, (uF BK287.out 2).trans rfl⟩ (fun hHeld => ?_)
                clear hK K
                refine norm_ (a' := ?_) ?_ ?_
                rotate_left
                ·show uc _ (some 60) _ = _
                 simp only [uc, uA, uB, uC, uZ, ua]
                 rfl
                refine one_ (i := 12) (N := some 62) #[T,T,T,T,T,T,T,T,T,T,T,T,T,F,F] rfl rfl (one_of HT_.out (by kernel_rfl)) (by decide) (fun K hK => ?_)
                refine goes_ Tryd.func44 (by kernel_rfl) rfl #[.agg #[.int .i64 a0_0, .int .i64 a0_1, .int .i64 a0_2]] (by rfl) rfl rfl (by (try simp only [List.map_toArray, List.map_cons, List.map_nil]); first | done | rfl | (simp only [List.length_drop, List.length_take]; rfl)) ?_
                with_reducible refine (spec_TagCheck.calls a0_0 a0_1 a0_2 t291 _ A39.out).mono ?_
                rintro e w51 ⟨rfl, hb⟩
                refine ⟨_, rfl, ?_⟩
                replace HO_3 := uD (Kd.R_below (pr HO_3) hb)
                replace BK272 := uD (blk_below (pk BK272) hb)
                replace BK287 := uD (blk_below (pk BK287) hb)
                replace HB := uD (uO (pb HB) hb)
                (try clear hb)
                (try clear hb2)
                (try clear hk)
                (try clear hi)
                refine hK.out _ _ ⟨(uF BK272.out 0).trans rfl, (uF BK272.out 1).trans rfl, (uF BK272.out 2).trans rfl, (uF BK287.out 0).trans rfl, (uF BK287.out 1).trans rfl, (uF BK287.out 2).trans rfl⟩ (fun hHeld => ?_)
                clear hK K
                refine norm_ (a' := ?_) ?_ ?_
                rotate_left
                ·show uc _ (some 62) _ = _
                 simp only [uc, uA, uB, uC, uZ, ua]
                 rfl
                refine pu 13 (some 63) #[T,T,T,T,T,T,T,T,T,T,T,T,T,T,F] HT_ ?_
                refine pu 14 (some 64) #[T,T,T,T,T,T,T,T,T,T,T,T,T,T,T] HT_ ?_
                refine done_ (done_of HT_.out (by kernel_rfl)) ?_
                obtain ⟨hcz52_0, hcz52_1, hcz52_2, hfz52_0, hfz52_1, hfz52_2⟩ := cz3 BK287
                obtain ⟨Ao53, co53, eo53⟩ := Kd.R_slice HO_3.out
                subst eo53
                try go_wp2_with (first | ((with_reducible refine gate_callee (f := 52) rfl ?_); refine gl (some 67) Tryd.func52 #[.slice Ao53 x3_2.length co53, .agg #[.int .i64 t284, .int .i64 t285, .int .i64 t286]] ?_; (with_reducible refine (spec_l01Insert.calls k3 _ _ x3_2 t284 t285 t286 t292 _ ?side1 ?side2 A41.out).mono ?_); (case side1 => exact pc ((Kd.R_reads' HO_3.out).2.2)); (case side2 => exact (Kd.R_reads' HO_3.out).2.1); rintro e w54 ⟨v293, rfl, ho0, hb⟩; refine ⟨_, rfl, ?_⟩; have HO294 := uD (Kd.R_lower (Kd.R_newB (Kd.R_newB (Kd.R_new' ho0 (Kd.R_lt (pr HO_3))) (pk BK272)) (pk BK287)) (uN (pb HB))); replace HO_3 := uD (Kd.R_elder' (pr HO_3) (Kd.R_base ho0) hb); replace BK272 := uD (blk_below (pk BK272) hb); replace BK287 := uD (blk_below (pk BK287) hb); replace HB := uD (uO (pb HB) hb); (try clear hb); (try clear hb2); (try clear hk); (try clear hi); (try clear ho0)))
                (try simp only [← hl7_3])
                go_roundg k3
                case measure => have := HK1.out; have := HK2.out; have := HK3.out; omega
                case rel => exact ⟨(t292), (wrap64 (x6_2 + 1)), (by first | rfl | (simp; done) | (simp [*]; done)), H', ⟨by have := HK1.out; have := HK2.out; have := HK3.out; omega⟩, ⟨by (try simp only [hl7_3]); (with_reducible repeat (first | apply uU | apply uS | apply uT)); exact uX HO294.out (fun _ hk => hk.1.2)⟩, ⟨by (try simp only [hl7_3]); (with_reducible repeat first|apply uH|apply uJ|apply uG); exact BK272.out⟩, ⟨pb HB⟩⟩
               ·rw [if_neg c40] at H
                have c40b0 : (t290 == t291) = false := beq_eq_false_iff_ne.mpr c40
                have c40b1 : (t290 != t291) = true := bne_iff_ne.mpr c40
                have H' := uD H
                clear H
                try go_wp2_with (first | ((with_reducible refine gate_callee (f := 45) rfl ?_); refine gl (some 49) Tryd.func45 #[.int .i64 x8_3] ?_; (with_reducible refine (spec_l01OfNumber.calls x8_3 t284 t285 t286 _ A26.out).mono ?_); rintro e w55 ⟨rfl, hb⟩; refine ⟨_, rfl, ?_⟩; replace HO_3 := uD (Kd.R_below (pr HO_3) hb); replace BK272 := uD (blk_below (pk BK272) hb); replace HB := uD (uO (pb HB) hb); (try clear hb); (try clear hb2); (try clear hk); (try clear hi)) | ((with_reducible refine gate_dst (N := 10) rfl ?_); refine bx 10 #[.int .i64 0, .int .i64 0, .int .i64 0] 25 ?_; intro gb287 hg w56 hbox hb; replace HO_3 := uD (Kd.R_below (Kd.R_elderB (pr HO_3) gb287 (Nat.le_of_eq hg.symm)) hb); have BK287 := uD (hbox); have GW287 := uD ((by rw [hg]; exact (uN (pb HB)) : w.heap.size ≤ gb287)); have GE287 := uD ((by rw [hg]; exact (uN (pb HB)) : w.heap.size ≤ gb287)); replace HB := uD (uO (pb HB) hb); have NB272_287 := uD ((by rw [hg]; exact Nat.ne_of_lt (blk_lt (pk BK272)) : gb272 ≠ gb287)); have NB287_272 := uD ((by rw [hg]; exact Nat.ne_of_gt (blk_lt (pk BK272)) : gb287 ≠ gb272)); replace BK272 := uD (blk_below (pk BK272) hb); clear hb hbox hg; have hnb57 := NB287_272.out; have hnc57 := NB272_287.out; obtain ⟨hcz58_0, hcz58_1, hcz58_2, hfz58_0, hfz58_1, hfz58_2⟩ := cz3 BK287))
                have n0_ : Aside0 (Kd.R k25 25 (((w56.setCell ⟨gb287, 0, none⟩ (.int .i64 t284)).setCell ⟨gb287, 1, none⟩ (.int .i64 t285)).setCell ⟨gb287, 2, none⟩ (.int .i64 t286)) w.heap.size (fun k_ => k_ ≠ gb272 ∧ k_ ≠ gb287) u3 x3_2) := ⟨by (with_reducible repeat (first | apply uU | apply uS | apply uT)); exact uX (uV (p := ⟨gb287, 2, none⟩) (uV (p := ⟨gb287, 1, none⟩) (uV (p := ⟨gb287, 0, none⟩) (uX HO_3.out (fun k_ hk => (⟨hk, hk.2⟩ : _ ∧ k_ ≠ gb287))) (fun _ hk => hk.2) (.int .i64 t284)) (fun _ hk => hk.2) (.int .i64 t285)) (fun _ hk => hk.2) (.int .i64 t286)) (fun _ hk => ⟨hk.1.1, hk.1.2⟩)⟩
                have n2_ : Aside0 ((((w56.setCell ⟨gb287, 0, none⟩ (.int .i64 t284)).setCell ⟨gb287, 1, none⟩ (.int .i64 t285)).setCell ⟨gb287, 2, none⟩ (.int .i64 t286)).heap[gb272]? = some (.cells #[.int .i64 a0_0, .int .i64 a0_1, .int .i64 a0_2] 25 (0, 0))) := ⟨by exact ps BK272⟩
                have n3_ : Aside0 ((((w56.setCell ⟨gb287, 0, none⟩ (.int .i64 t284)).setCell ⟨gb287, 1, none⟩ (.int .i64 t285)).setCell ⟨gb287, 2, none⟩ (.int .i64 t286)).heap[gb287]? = some (.cells #[.int .i64 t284, .int .i64 t285, .int .i64 t286] 25 (0, 0))) := ⟨by (with_reducible repeat first|apply uH|apply uJ|apply uG); refine uP (cs := #[.int .i64 t284, .int .i64 t285, .int .i64 0]) ?_ 2 _ rfl; (with_reducible repeat first|apply uH|apply uJ|apply uG); refine uP (cs := #[.int .i64 t284, .int .i64 0, .int .i64 0]) ?_ 1 _ rfl; (with_reducible repeat first|apply uH|apply uJ|apply uG); refine uP (cs := #[.int .i64 0, .int .i64 0, .int .i64 0]) ?_ 0 _ rfl; (with_reducible repeat first|apply uH|apply uJ|apply uG); exact BK287.out⟩
                have n4_ : Aside0 (Below w.heap.size w (((w56.setCell ⟨gb287, 0, none⟩ (.int .i64 t284)).setCell ⟨gb287, 1, none⟩ (.int .i64 t285)).setCell ⟨gb287, 2, none⟩ (.int .i64 t286))) := ⟨pb HB⟩
                (try clear HO_3)
                (try clear BK272)
                (try clear BK287)
                (try clear HB)
                generalize (((w56.setCell ⟨gb287, 0, none⟩ (.int .i64 t284)).setCell ⟨gb287, 1, none⟩ (.int .i64 t285)).setCell ⟨gb287, 2, none⟩ (.int .i64 t286)) = w59 at n0_ n2_ n3_ n4_ ⊢
                have HO_3 := n0_
                have BK272 := n2_
                have BK287 := n3_
                have HB := n4_
                clear n0_ n2_ n3_ n4_
                replace HO_3 := uD (uT HO_3.out)
                replace BK272 := uD (uJ BK272.out)
                replace BK287 := uD (uJ BK287.out)
                replace HB := uD (uK HB.out)
                refine start_ (n := 15) (S := fun w' => w'.cell? ⟨gb272, 0, none⟩ = some (.int .i64 a0_0) ∧ w'.cell? ⟨gb272, 1, none⟩ = some (.int .i64 a0_1) ∧ w'.cell? ⟨gb272, 2, none⟩ = some (.int .i64 a0_2) ∧ w'.cell? ⟨gb287, 0, none⟩ = some (.int .i64 t284) ∧ w'.cell? ⟨gb287, 1, none⟩ = some (.int .i64 t285) ∧ w'.cell? ⟨gb287, 2, none⟩ = some (.int .i64 t286)) (ds := []) #[F,F,F,F,F,F,F,F,F,F,F,F,F,F,F] (by kernel_rfl) rfl rfl ⟨(uF BK272.out 0).trans rfl, (uF BK272.out 1).trans rfl, (uF BK272.out 2).trans rfl, (uF BK287.out 0).trans rfl, (uF BK287.out 1).trans rfl, (uF BK287.out 2).trans rfl⟩ (fun hHeld => ?_); refine with_tabW spec_NearTags.tab19 spec_NearTags.bits19 (fun HT_ HW_ => ?_)
                generalize w59.drew = w60 at HO_3 BK272 BK287 HB hHeld ⊢
                refine pu 0 (some 50) #[T,F,F,F,F,F,F,F,F,F,F,F,F,F,F] HT_ ?_
                refine tk 1 (some 51) #[T,T,F,F,F,F,F,F,F,F,F,F,F,F,F] HT_ HW_ hHeld ?_
                refine one_ (i := 2) (N := some 52) #[T,T,T,F,F,F,F,F,F,F,F,F,F,F,F] rfl rfl (one_of HT_.out (by kernel_rfl)) (by decide) (fun K hK => ?_)
                refine goes_ Tryd.func35 (by kernel_rfl) rfl #[.agg #[.int .i64 a0_0, .int .i64 a0_1, .int .i64 a0_2]] (by rfl) rfl rfl (by (try simp only [List.map_toArray, List.map_cons, List.map_nil]); first | done | rfl | (simp only [List.length_drop, List.length_take]; rfl)) ?_
                with_reducible refine (spec_TagNumber.calls a0_0 a0_1 a0_2 t288 _ A27.out).mono ?_
                rintro e w61 ⟨rfl, hb⟩
                refine ⟨_, rfl, ?_⟩
                replace HO_3 := uD (Kd.R_below (pr HO_3) hb)
                replace BK272 := uD (blk_below (pk BK272) hb)
                replace BK287 := uD (blk_below (pk BK287) hb)
                replace HB := uD (uO (pb HB) hb)
                (try clear hb)
                (try clear hb2)
                (try clear hk)
                (try clear hi)
                refine hK.out _ _ ⟨(uF BK272.out 0).trans rfl, (uF BK272.out 1).trans rfl, (uF BK272.out 2).trans rfl, (uF BK287.out 0).trans rfl, (uF BK287.out 1).trans rfl, (uF BK287.out 2).trans rfl⟩ (fun hHeld => ?_)
                clear hK K
                refine norm_ (a' := ?_) ?_ ?_
                rotate_left
                ·show uc _ (some 52) _ = _
                 simp only [uc, uA, uB, uC, uZ, ua]
                 rfl
                refine pu 3 (some 53) #[T,T,T,T,F,F,F,F,F,F,F,F,F,F,F] HT_ ?_
                refine pu 4 (some 54) #[T,T,T,T,T,F,F,F,F,F,F,F,F,F,F] HT_ ?_
                refine tk 5 (some 55) #[T,T,T,T,T,T,F,F,F,F,F,F,F,F,F] HT_ HW_ hHeld ?_
                refine one_ (i := 6) (N := some 56) #[T,T,T,T,T,T,T,F,F,F,F,F,F,F,F] rfl rfl (one_of HT_.out (by kernel_rfl)) (by decide) (fun K hK => ?_)
                refine goes_ Tryd.func42 (by kernel_rfl) rfl #[.agg #[.int .i64 t284, .int .i64 t285, .int .i64 t286]] (by rfl) rfl rfl (by (try simp only [List.map_toArray, List.map_cons, List.map_nil]); first | done | rfl | (simp only [List.length_drop, List.length_take]; rfl)) ?_
                with_reducible refine (spec_TagOk.calls t284 t285 t286 true _ A36.out).mono ?_
                rintro e w62 ⟨rfl, hb⟩
                refine ⟨_, rfl, ?_⟩
                replace HO_3 := uD (Kd.R_below (pr HO_3) hb)
                replace BK272 := uD (blk_below (pk BK272) hb)
                replace BK287 := uD (blk_below (pk BK287) hb)
                replace HB := uD (uO (pb HB) hb)
                (try clear hb)
                (try clear hb2)
                (try clear hk)
                (try clear hi)
                refine hK.out _ _ ⟨(uF BK272.out 0).trans rfl, (uF BK272.out 1).trans rfl, (uF BK272.out 2).trans rfl, (uF BK287.out 0).trans rfl, (uF BK287.out 1).trans rfl, (uF BK287.out 2).trans rfl⟩ (fun hHeld => ?_)
                clear hK K
                refine norm_ (a' := ?_) ?_ ?_
                rotate_left
                ·show uc _ (some 56) _ = _
                 simp only [uc, uA, uB, uC, uZ, ua]
                 rfl
                refine pu 7 (some 57) #[T,T,T,T,T,T,T,T,F,F,F,F,F,F,F] HT_ ?_
                refine pu 8 (some 58) #[T,T,T,T,T,T,T,T,T,F,F,F,F,F,F] HT_ ?_
                refine tk 9 (some 59) #[T,T,T,T,T,T,T,T,T,T,F,F,F,F,F] HT_ HW_ hHeld ?_
                refine tk 11 (some 61) #[T,T,T,T,T,T,T,T,T,T,F,T,F,F,F] HT_ HW_ hHeld ?_
                refine one_ (i := 10) (N := some 60) #[T,T,T,T,T,T,T,T,T,T,T,T,F,F,F] rfl rfl (one_of HT_.out (by kernel_rfl)) (by decide) (fun K hK => ?_)
                refine goes_ Tryd.func44 (by kernel_rfl) rfl #[.agg #[.int .i64 t284, .int .i64 t285, .int .i64 t286]] (by rfl) rfl rfl (by (try simp only [List.map_toArray, List.map_cons, List.map_nil]); first | done | rfl | (simp only [List.length_drop, List.length_take]; rfl)) ?_
                with_reducible refine (spec_TagCheck.calls t284 t285 t286 t290 _ A38.out).mono ?_
                rintro e w63 ⟨rfl, hb⟩
                refine ⟨_, rfl, ?_⟩
                replace HO_3 := uD (Kd.R_below (pr HO_3) hb)
                replace BK272 := uD (blk_below (pk BK272) hb)
                replace BK287 := uD (blk_below (pk BK287) hb)
                replace HB := uD (uO (pb HB) hb)
                (try clear hb)
                (try clear hb2)
                (try clear hk)
                (try clear hi)
                refine hK.out _ _ ⟨(uF BK272.out 0).trans rfl, (uF BK272.out 1).trans rfl, (uF BK272.out 2).trans rfl, (uF BK287.out 0).trans rfl, (uF BK287.out 1).trans rfl, (uF BK287.out 2).trans rfl⟩ (fun hHeld => ?_)
                clear hK K
                refine norm_ (a' := ?_) ?_ ?_
                rotate_left
                ·show uc _ (some 60) _ = _
                 simp only [uc, uA, uB, uC, uZ, ua]
                 rfl
                refine one_ (i := 12) (N := some 62) #[T,T,T,T,T,T,T,T,T,T,T,T,T,F,F] rfl rfl (one_of HT_.out (by kernel_rfl)) (by decide) (fun K hK => ?_)
                refine goes_ Tryd.func44 (by kernel_rfl) rfl #[.agg #[.int .i64 a0_0, .int .i64 a0_1, .int .i64 a0_2]] (by rfl) rfl rfl (by (try simp only [List.map_toArray, List.map_cons, List.map_nil]); first | done | rfl | (simp only [List.length_drop, List.length_take]; rfl)) ?_
                with_reducible refine (spec_TagCheck.calls a0_0 a0_1 a0_2 t291 _ A39.out).mono ?_
                rintro e w64 ⟨rfl, hb⟩
                refine ⟨_, rfl, ?_⟩
                replace HO_3 := uD (Kd.R_below (pr HO_3) hb)
                replace BK272 := uD (blk_below (pk BK272) hb)
                replace BK287 := uD (blk_below (pk BK287) hb)
                replace HB := uD (uO (pb HB) hb)
                (try clear hb)
                (try clear hb2)
                (try clear hk)
                (try clear hi)
                refine hK.out _ _ ⟨(uF BK272.out 0).trans rfl, (uF BK272.out 1).trans rfl, (uF BK272.out 2).trans rfl, (uF BK287.out 0).trans rfl, (uF BK287.out 1).trans rfl, (uF BK287.out 2).trans rfl⟩ (fun hHeld => ?_)
                clear hK K
                refine norm_ (a' := ?_) ?_ ?_
                rotate_left
                ·show uc _ (some 62) _ = _
                 simp only [uc, uA, uB, uC, uZ, ua]
                 rfl
                refine pu 13 (some 63) #[T,T,T,T,T,T,T,T,T,T,T,T,T,T,F] HT_ ?_
                refine pu 14 (some 64) #[T,T,T,T,T,T,T,T,T,T,T,T,T,T,T] HT_ ?_
                refine done_ (done_of HT_.out (by kernel_rfl)) ?_
                try go_wp2
                (try simp only [← hl7_3])
                go_roundg k3
                case measure => have := HK1.out; have := HK2.out; have := HK3.out; omega
                case rel => exact ⟨(x3_2), (wrap64 (x6_2 + 1)), (by first | rfl | (simp; done) | (simp [*]; done)), H', ⟨by have := HK1.out; have := HK2.out; have := HK3.out; omega⟩, ⟨by (try simp only [hl7_3]); (with_reducible repeat (first | apply uU | apply uS | apply uT)); exact uX HO_3.out (fun _ hk => hk.1)⟩, ⟨by (try simp only [hl7_3]); (with_reducible repeat first|apply uH|apply uJ|apply uG); exact BK272.out⟩, ⟨pb HB⟩⟩
              ·replace c37 := Bool.eq_false_iff.mpr c37
               subst c37
               have H1 : (spec_NearTags.l1 k3 x3_2 t278 x5_1 (wrap64 (x6_2 + 1)) a0_0 a0_1 a0_2) = some r := by rw [if_neg (show ¬ (false = true) by decide)] at H; first | done | exact H
               clear H
               have H := H1
               clear H1
               have H' := uD H
               clear H
               try go_wp2_with (first | ((with_reducible refine gate_callee (f := 45) rfl ?_); refine gl (some 49) Tryd.func45 #[.int .i64 x8_3] ?_; (with_reducible refine (spec_l01OfNumber.calls x8_3 t284 t285 t286 _ A26.out).mono ?_); rintro e w65 ⟨rfl, hb⟩; refine ⟨_, rfl, ?_⟩; replace HO_3 := uD (Kd.R_below (pr HO_3) hb); replace BK272 := uD (blk_below (pk BK272) hb); replace HB := uD (uO (pb HB) hb); (try clear hb); (try clear hb2); (try clear hk); (try clear hi)) | ((with_reducible refine gate_dst (N := 10) rfl ?_); refine bx 10 #[.int .i64 0, .int .i64 0, .int .i64 0] 25 ?_; intro gb287 hg w66 hbox hb; replace HO_3 := uD (Kd.R_below (Kd.R_elderB (pr HO_3) gb287 (Nat.le_of_eq hg.symm)) hb); have BK287 := uD (hbox); have GW287 := uD ((by rw [hg]; exact (uN (pb HB)) : w.heap.size ≤ gb287)); have GE287 := uD ((by rw [hg]; exact (uN (pb HB)) : w.heap.size ≤ gb287)); replace HB := uD (uO (pb HB) hb); have NB272_287 := uD ((by rw [hg]; exact Nat.ne_of_lt (blk_lt (pk BK272)) : gb272 ≠ gb287)); have NB287_272 := uD ((by rw [hg]; exact Nat.ne_of_gt (blk_lt (pk BK272)) : gb287 ≠ gb272)); replace BK272 := uD (blk_below (pk BK272) hb); clear hb hbox hg; have hnb67 := NB287_272.out; have hnc67 := NB272_287.out; obtain ⟨hcz68_0, hcz68_1, hcz68_2, hfz68_0, hfz68_1, hfz68_2⟩ := cz3 BK287))
               have n0_ : Aside0 (Kd.R k25 25 (((w66.setCell ⟨gb287, 0, none⟩ (.int .i64 t284)).setCell ⟨gb287, 1, none⟩ (.int .i64 t285)).setCell ⟨gb287, 2, none⟩ (.int .i64 t286)) w.heap.size (fun k_ => k_ ≠ gb272 ∧ k_ ≠ gb287) u3 x3_2) := ⟨by (with_reducible repeat (first | apply uU | apply uS | apply uT)); exact uX (uV (p := ⟨gb287, 2, none⟩) (uV (p := ⟨gb287, 1, none⟩) (uV (p := ⟨gb287, 0, none⟩) (uX HO_3.out (fun k_ hk => (⟨hk, hk.2⟩ : _ ∧ k_ ≠ gb287))) (fun _ hk => hk.2) (.int .i64 t284)) (fun _ hk => hk.2) (.int .i64 t285)) (fun _ hk => hk.2) (.int .i64 t286)) (fun _ hk => ⟨hk.1.1, hk.1.2⟩)⟩
               have n2_ : Aside0 ((((w66.setCell ⟨gb287, 0, none⟩ (.int .i64 t284)).setCell ⟨gb287, 1, none⟩ (.int .i64 t285)).setCell ⟨gb287, 2, none⟩ (.int .i64 t286)).heap[gb272]? = some (.cells #[.int .i64 a0_0, .int .i64 a0_1, .int .i64 a0_2] 25 (0, 0))) := ⟨by exact ps BK272⟩
               have n3_ : Aside0 ((((w66.setCell ⟨gb287, 0, none⟩ (.int .i64 t284)).setCell ⟨gb287, 1, none⟩ (.int .i64 t285)).setCell ⟨gb287, 2, none⟩ (.int .i64 t286)).heap[gb287]? = some (.cells #[.int .i64 t284, .int .i64 t285, .int .i64 t286] 25 (0, 0))) := ⟨by (with_reducible repeat first|apply uH|apply uJ|apply uG); refine uP (cs := #[.int .i64 t284, .int .i64 t285, .int .i64 0]) ?_ 2 _ rfl; (with_reducible repeat first|apply uH|apply uJ|apply uG); refine uP (cs := #[.int .i64 t284, .int .i64 0, .int .i64 0]) ?_ 1 _ rfl; (with_reducible repeat first|apply uH|apply uJ|apply uG); refine uP (cs := #[.int .i64 0, .int .i64 0, .int .i64 0]) ?_ 0 _ rfl; (with_reducible repeat first|apply uH|apply uJ|apply uG); exact BK287.out⟩
               have n4_ : Aside0 (Below w.heap.size w (((w66.setCell ⟨gb287, 0, none⟩ (.int .i64 t284)).setCell ⟨gb287, 1, none⟩ (.int .i64 t285)).setCell ⟨gb287, 2, none⟩ (.int .i64 t286))) := ⟨pb HB⟩
               (try clear HO_3)
               (try clear BK272)
               (try clear BK287)
               (try clear HB)
               generalize (((w66.setCell ⟨gb287, 0, none⟩ (.int .i64 t284)).setCell ⟨gb287, 1, none⟩ (.int .i64 t285)).setCell ⟨gb287, 2, none⟩ (.int .i64 t286)) = w69 at n0_ n2_ n3_ n4_ ⊢
               have HO_3 := n0_
               have BK272 := n2_
               have BK287 := n3_
               have HB := n4_
               clear n0_ n2_ n3_ n4_
               replace HO_3 := uD (uT HO_3.out)
               replace BK272 := uD (uJ BK272.out)
               replace BK287 := uD (uJ BK287.out)
               replace HB := uD (uK HB.out)
               refine start_ (n := 15) (S := fun w' => w'.cell? ⟨gb272, 0, none⟩ = some (.int .i64 a0_0) ∧ w'.cell? ⟨gb272, 1, none⟩ = some (.int .i64 a0_1) ∧ w'.cell? ⟨gb272, 2, none⟩ = some (.int .i64 a0_2) ∧ w'.cell? ⟨gb287, 0, none⟩ = some (.int .i64 t284) ∧ w'.cell? ⟨gb287, 1, none⟩ = some (.int .i64 t285) ∧ w'.cell? ⟨gb287, 2, none⟩ = some (.int .i64 t286)) (ds := []) #[F,F,F,F,F,F,F,F,F,F,F,F,F,F,F] (by kernel_rfl) rfl rfl ⟨(uF BK272.out 0).trans rfl, (uF BK272.out 1).trans rfl, (uF BK272.out 2).trans rfl, (uF BK287.out 0).trans rfl, (uF BK287.out 1).trans rfl, (uF BK287.out 2).trans rfl⟩ (fun hHeld => ?_); refine with_tabW spec_NearTags.tab19 spec_NearTags.bits19 (fun HT_ HW_ => ?_)
               generalize w69.drew = w70 at HO_3 BK272 BK287 HB hHeld ⊢
               refine pu 0 (some 50) #[T,F,F,F,F,F,F,F,F,F,F,F,F,F,F] HT_ ?_
               refine tk 1 (some 51) #[T,T,F,F,F,F,F,F,F,F,F,F,F,F,F] HT_ HW_ hHeld ?_
               refine one_ (i := 2) (N := some 52) #[T,T,T,F,F,F,F,F,F,F,F,F,F,F,F] rfl rfl (one_of HT_.out (by kernel_rfl)) (by decide) (fun K hK => ?_)
               refine goes_ Tryd.func35 (by kernel_rfl) rfl #[.agg #[.int .i64 a0_0, .int .i64 a0_1, .int .i64 a0_2]] (by rfl) rfl rfl (by (try simp only [List.map_toArray, List.map_cons, List.map_nil]); first | done | rfl | (simp only [List.length_drop, List.length_take]; rfl)) ?_
               with_reducible refine (spec_TagNumber.calls a0_0 a0_1 a0_2 t288 _ A27.out).mono ?_
               rintro e w71 ⟨rfl, hb⟩
               refine ⟨_, rfl, ?_⟩
               replace HO_3 := uD (Kd.R_below (pr HO_3) hb)
               replace BK272 := uD (blk_below (pk BK272) hb)
               replace BK287 := uD (blk_below (pk BK287) hb)
               replace HB := uD (uO (pb HB) hb)
               (try clear hb)
               (try clear hb2)
               (try clear hk)
               (try clear hi)
               refine hK.out _ _ ⟨(uF BK272.out 0).trans rfl, (uF BK272.out 1).trans rfl, (uF BK272.out 2).trans rfl, (uF BK287.out 0).trans rfl, (uF BK287.out 1).trans rfl, (uF BK287.out 2).trans rfl⟩ (fun hHeld => ?_)
               clear hK K
               refine norm_ (a' := ?_) ?_ ?_
               rotate_left
               ·show uc _ (some 52) _ = _
                simp only [uc, uA, uB, uC, uZ, ua]
                rfl
               refine pu 3 (some 53) #[T,T,T,T,F,F,F,F,F,F,F,F,F,F,F] HT_ ?_
               refine pu 4 (some 54) #[T,T,T,T,T,F,F,F,F,F,F,F,F,F,F] HT_ ?_
               refine tk 5 (some 55) #[T,T,T,T,T,T,F,F,F,F,F,F,F,F,F] HT_ HW_ hHeld ?_
               refine one_ (i := 6) (N := some 56) #[T,T,T,T,T,T,T,F,F,F,F,F,F,F,F] rfl rfl (one_of HT_.out (by kernel_rfl)) (by decide) (fun K hK => ?_)
               refine goes_ Tryd.func42 (by kernel_rfl) rfl #[.agg #[.int .i64 t284, .int .i64 t285, .int .i64 t286]] (by rfl) rfl rfl (by (try simp only [List.map_toArray, List.map_cons, List.map_nil]); first | done | rfl | (simp only [List.length_drop, List.length_take]; rfl)) ?_
               with_reducible refine (spec_TagOk.calls t284 t285 t286 false _ A36.out).mono ?_
               rintro e w72 ⟨rfl, hb⟩
               refine ⟨_, rfl, ?_⟩
               replace HO_3 := uD (Kd.R_below (pr HO_3) hb)
               replace BK272 := uD (blk_below (pk BK272) hb)
               replace BK287 := uD (blk_below (pk BK287) hb)
               replace HB := uD (uO (pb HB) hb)
               (try clear hb)
               (try clear hb2)
               (try clear hk)
               (try clear hi)
               refine hK.out _ _ ⟨(uF BK272.out 0).trans rfl, (uF BK272.out 1).trans rfl, (uF BK272.out 2).trans rfl, (uF BK287.out 0).trans rfl, (uF BK287.out 1).trans rfl, (uF BK287.out 2).trans rfl⟩ (fun hHeld => ?_)
               clear hK K
               refine norm_ (a' := ?_) ?_ ?_
               rotate_left
               ·show uc _ (some 56) _ = _
                simp only [uc, uA, uB, uC, uZ, ua]
                rfl
               refine pu 7 (some 57) #[T,T,T,T,T,T,T,T,F,F,F,F,F,F,F] HT_ ?_
               refine pu 8 (some 58) #[T,T,T,T,T,T,T,T,T,F,F,F,F,F,F] HT_ ?_
               refine ub (i := 9) (N := some 59) (v := undef) (a' := ?_) #[T,T,T,T,T,T,T,T,T,T,F,F,F,F,F] rfl rfl (uY HT_.out (by kernel_rfl)) (fun _ _ _ h => h) (Or.inr ⟨by rfl, rfl⟩) ?_ ?_
               rotate_left
               ·simp only [uc, uA, uB, uC, uZ, ua]
                rfl
               refine ub (i := 10) (N := some 60) (v := undef) (a' := ?_) #[T,T,T,T,T,T,T,T,T,T,T,F,F,F,F] rfl rfl (uY HT_.out (by kernel_rfl)) (fun _ _ _ h => h) (Or.inr ⟨by rfl, rfl⟩) ?_ ?_
               rotate_left
               ·simp only [uc, uA, uB, uC, uZ, ua]
                rfl
               refine ub (i := 11) (N := some 61) (v := undef) (a' := ?_) #[T,T,T,T,T,T,T,T,T,T,T,T,F,F,F] rfl rfl (uY HT_.out (by kernel_rfl)) (fun _ _ _ h => h) (Or.inr ⟨by rfl, rfl⟩) ?_ ?_
               rotate_left
               ·simp only [uc, uA, uB, uC, uZ, ua]
                rfl
               refine ub (i := 12) (N := some 62) (v := undef) (a' := ?_) #[T,T,T,T,T,T,T,T,T,T,T,T,T,F,F] rfl rfl (uY HT_.out (by kernel_rfl)) (fun _ _ _ h => h) (Or.inr ⟨by rfl, rfl⟩) ?_ ?_
               rotate_left
               ·simp only [uc, uA, uB, uC, uZ, ua]
                rfl
               refine ub (i := 13) (N := some 63) (v := undef) (a' := ?_) #[T,T,T,T,T,T,T,T,T,T,T,T,T,T,F] rfl rfl (uY HT_.out (by kernel_rfl)) (fun _ _ _ h => h) (Or.inr ⟨by rfl, rfl⟩) ?_ ?_
               rotate_left
               ·simp only [uc, uA, uB, uC, uZ, ua]
                rfl
               refine pu 14 (some 64) #[T,T,T,T,T,T,T,T,T,T,T,T,T,T,T] HT_ ?_
               refine done_ (done_of HT_.out (by kernel_rfl)) ?_
               try go_wp2
               (try simp only [← hl7_3])
               go_roundg k3
               case measure => have := HK1.out; have := HK2.out; have := HK3.out; omega
               case rel => exact ⟨(x3_2), (wrap64 (x6_2 + 1)), (by first | rfl | (simp; done) | (simp [*]; done)), H', ⟨by have := HK1.out; have := HK2.out; have := HK3.out; omega⟩, ⟨by (try simp only [hl7_3]); (with_reducible repeat (first | apply uU | apply uS | apply uT)); exact uX HO_3.out (fun _ hk => hk.1)⟩, ⟨by (try simp only [hl7_3]); (with_reducible repeat first|apply uH|apply uJ|apply uG); exact BK272.out⟩, ⟨pb HB⟩⟩
         ·rw [if_neg c17] at H
          exact absurd H (by simp)
        ·rw [if_neg c16] at H
         exact absurd H (by simp)
       ·rw [if_neg c15] at H
        have c15b0 : decide (x6_2 < 10) = false := decide_eq_false c15
        clear c15
        have H' := uD H
        clear H
        go_wp2
        go_roundg k2
        case measure => have := HK1.out; have := HK2.out; omega
        case rel => exact ⟨(x3_2), (wrap64 (x5_1 + 1)), (by first | rfl | (simp; done) | (simp [*]; done)), H', ⟨by have := HK1.out; have := HK2.out; omega⟩, ⟨by (with_reducible repeat (first | apply uU | apply uS | apply uT)); exact HO_3.out⟩, ⟨by (with_reducible repeat first|apply uH|apply uJ|apply uG); exact BK272.out⟩, ⟨pb HB⟩⟩
    ·rw [if_neg c14] at H
     have c14b0 : decide (x5_1 < 10) = false := decide_eq_false c14
     clear c14
     obtain rfl := Option.some.inj H
     go_wp2
     go_ret
     exact ⟨_, by first | rfl | (simp [errW_none, errW_some] <;> rfl) | (simp [*, errW_none, errW_some] <;> rfl), by (with_reducible repeat (first | apply uU | apply uS | apply uT)); exact uX HO_3.out (fun _ hk => trivial), pb HB⟩
 ·replace c3 := Bool.eq_false_iff.mpr c3
  subst c3
  have H1 : (some y273) = some r := by rw [if_neg (show ¬ (false = true) by decide)] at H; first | done | exact H
  clear H
  have H := H1
  clear H1
  obtain rfl := Option.some.inj H
  go_enter Tryd.func31, Tryd.ntmps31
  go_wp2_with (first | ((with_reducible refine gate_dst (N := 1) rfl ?_); refine bx 1 #[.int .i64 a0_0, .int .i64 a0_1, .int .i64 a0_2] 25 ?_; intro gb272 hg w73 hbox hb; have BK272 := uD (hbox); have GW272 := uD ((by rw [hg]; exact (uN (pb HB)) : w.heap.size ≤ gb272)); have GE272 := uD ((by rw [hg]; exact (uN (pb HB)) : w.heap.size ≤ gb272)); replace HB := uD (uO (pb HB) hb); clear hb hbox hg) | ((with_reducible refine gate_dst (N := 11) rfl ?_); refine Kd.R_lit k25 _ 25 ?hg (N := 11) ?hd (xs := ([] : List (S25))) (inner := []) (ok := fun _ => True) (okp := fun _ => True) ?hr ?hp (fun _ hk => hk) trivial (Below.refl _ _) (Nat.le_refl _) (by simp) ?_; (case hd => rfl); (case hg => rfl); (case hr => first | (go_simp; done) | (go_simp; rfl)); (case hp => exact (Reps.none _ _)); intro v274 w74 ho75 hb hg_ hnew_; clear hg_ hnew_; (first | rw [← Ny273.out] at ho75 | (simp only [Int.reduceToNat] at ho75; rw [← Ny273.out] at ho75)); have HO275 := uD (Kd.R_lower (Kd.R_newB ho75 (pk BK272)) (uN (pb HB))); replace BK272 := uD (blk_below (pk BK272) hb); replace HB := uD (uO (pb HB) hb); clear hb ho75; obtain ⟨hcz76_0, hcz76_1, hcz76_2, hfz76_0, hfz76_1, hfz76_2⟩ := cz3 BK272) | ((with_reducible refine gate_callee (f := 42) rfl ?_); refine gl (some 13) Tryd.func42 #[.agg #[.int .i64 a0_0, .int .i64 a0_1, .int .i64 a0_2]] ?_; (with_reducible refine (spec_TagOk.calls a0_0 a0_1 a0_2 false _ A2.out).mono ?_); rintro e w77 ⟨rfl, hb⟩; refine ⟨_, rfl, ?_⟩; replace HO275 := uD (Kd.R_below (pr HO275) hb); replace BK272 := uD (blk_below (pk BK272) hb); replace HB := uD (uO (pb HB) hb); (try clear hb); (try clear hb2); (try clear hk); (try clear hi)))
  go_ret
  exact ⟨_, by first | rfl | (simp [errW_none, errW_some] <;> rfl) | (simp [*, errW_none, errW_some] <;> rfl), by (with_reducible repeat (first | apply uU | apply uS | apply uT)); exact uX HO275.out (fun _ hk => trivial), pb HB⟩

end Go.Proofs.YtnkaimdcdedekaaDoor.PFnNearTags
