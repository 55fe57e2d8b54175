-- Written by a program of this session (wip/myprint.py: the kit's print with changes): not by print.sh itself.
import Derived.Test.YtnnimbbffbfhoaaPFnAssignedx0
import Derived.Test.YtnnimbbffbfhoaaPFnAssignedx1
import Derived.Test.YtnnimbbffbfhoaaPFnAssignedx7
import Derived.Test.YtnnimbbffbfhoaaPFnAssignedx10
namespace Go.Proofs.Ytnnimbbffbfhoaa.PFnAssigned
open Go.RowKit Go.Proofs.YtnnimbbffbfhoaaW.PrintWords Go.Proofs.YtnnimbbffbfhoaaW.PrintLast Go.Proofs.YtnnimbbffbfhoaaW.PrintMore
open Bool renaming false → F
attribute [local go_sem] max2_int min2_int max_two min_two max_three min_three max_four min_four   -- for this text's walks alone
set_option linter.unusedVariables false
set_option linter.unusedSimpArgs false

/-! ### impl_MostAssigned: function 33 -/
/-- May the sight be taken for the window? -/
def impl_MostAssigned.fit (ls : List S49) (x : S49) (e : S47) : Bool := (impl_fits.f ls x.f0 x.f1 e.f0 e.f1 e.f2).getD false
/-- How many sights without a bag are taken for one. -/
def impl_MostAssigned.cnt : List S49 → List Int → Int
  | x :: l, q :: r => (if x.f1 = 0 ∧ q ≠ 0 then 1 else 0) + impl_MostAssigned.cnt l r
  | _, _ => 0
/-- The greatest count of all ways, from l on, that take t for the sights before; m: the greatest so far. -/
def impl_MostAssigned.wy (es : List S47) (ls : List S49) : List S49 → List Int → Int → Int
  | [], t, m => mx m (impl_MostAssigned.cnt ls t)
  | x :: l, t, m => es.foldl (fun m e => if (impl_MostAssigned.fit ls x e && !(t.any (fun q => q == e.f0))) = true then impl_MostAssigned.wy es ls l (t ++ [e.f0]) m else m) (impl_MostAssigned.wy es ls l (t ++ [x.f1]) m)
theorem impl_MostAssigned.fit_f (ls : List S49) (x : S49) (e : S47) : impl_fits.f ls x.f0 x.f1 e.f0 e.f1 e.f2 = some (impl_MostAssigned.fit ls x e) := by
  unfold impl_MostAssigned.fit impl_fits.f impl_isNamed.f
  by_cases c : x.f1 = 0
  · rw [if_pos c, Option.bind_some]
    by_cases c2 : (ls.any fun y => y.f1 == e.f0) = true
    · rw [if_pos c2]; rfl
    · rw [if_neg c2]
      by_cases c3 : x.f0 ≥ e.f1
      · rw [if_pos c3]; rfl
      · rw [if_neg c3]; rfl
  · rw [if_neg c]; rfl
theorem impl_MostAssigned.rd_at (l : List Int) (i : Nat) (h : i < l.length) : rd l (i : Int) = l[i] := by
  simp [rd, List.getD_eq_getElem?_getD, List.getElem?_eq_getElem h]
theorem impl_MostAssigned.rs_at (l : List S49) (i : Nat) (h : i < l.length) : rd_T49 l (i : Int) = l[i] := by
  simp [rd_T49, List.getD_eq_getElem?_getD, List.getElem?_eq_getElem h]
theorem impl_MostAssigned.re_at (l : List S47) (i : Nat) (h : i < l.length) : rd_T47 l (i : Int) = l[i] := by
  simp [rd_T47, List.getD_eq_getElem?_getD, List.getElem?_eq_getElem h]
theorem impl_MostAssigned.cnt_loop (ls : List S49) (t : List Int) (hl : t.length = ls.length) (hm : ls.length ≤ 100) (d : Nat) : ∀ (i : Nat) (n : Int), i + d = ls.length → 0 ≤ n → n ≤ i → impl_countTaken.l0 (d + 1) t n ls (ls.length : Int) (i : Int) = some (n + impl_MostAssigned.cnt (ls.drop i) (t.drop i)) := by
  induction d with
  | zero =>
    intro i n hi _ _
    rw [impl_countTaken.l0, if_neg (by omega), List.drop_eq_nil_of_le (by omega)]
    simp [impl_MostAssigned.cnt]
  | succ d ih =>
    intro i n hi h0 h1
    have hlt : i < ls.length := by omega
    have e1 : wrap64 ((i : Int) + 1) = ((i + 1 : Nat) : Int) := by unfold wrap64; omega
    have e2 : wrap64 (n + 1) = n + 1 := by unfold wrap64; omega
    rw [impl_countTaken.l0, if_pos (by omega), if_pos (by omega), if_pos (by omega), impl_MostAssigned.rs_at ls i hlt, impl_MostAssigned.rd_at t i (by omega), e1, e2, List.drop_eq_getElem_cons hlt, List.drop_eq_getElem_cons (show i < t.length by omega), impl_MostAssigned.cnt]
    by_cases c1 : ls[i].f1 = 0
    · rw [if_pos c1, if_pos (show (i : Int) < (t.length : Int) by omega)]
      by_cases c2 : t[i]'(by omega) = 0
      · rw [if_pos c2, ih (i + 1) n (by omega) h0 (by omega), if_neg (fun h => h.2 c2), Int.zero_add]
      · rw [if_neg c2, ih (i + 1) (n + 1) (by omega) (by omega) (by omega), if_pos ⟨c1, c2⟩, Int.add_assoc]
    · rw [if_neg c1, ih (i + 1) n (by omega) h0 (by omega), if_neg (fun h => c1 h.1), Int.zero_add]
theorem impl_MostAssigned.cnt_f (ls : List S49) (t : List Int) (hl : t.length = ls.length) (hm : ls.length ≤ 100) : impl_countTaken.f (ls.length + 1) ls t = some (impl_MostAssigned.cnt ls t) := by
  have h := impl_MostAssigned.cnt_loop ls t hl hm ls.length 0 0 (by omega) (by omega) (by omega)
  rw [Int.zero_add, List.drop_zero, List.drop_zero] at h
  exact h
theorem impl_MostAssigned.has_loop (l : List Int) (hl : l.length ≤ 200) (q : Int) (d : Nat) : ∀ j : Nat, j + d = l.length → ∃ r, slices_Index_int_int.l0 (d + 1) l q (l.length : Int) j = some r ∧ decide (r ≥ 0) = (l.drop j).any (fun y => y == q) := by
  induction d with
  | zero =>
    intro j hj
    rw [List.drop_eq_nil_of_le (by omega)]
    exact ⟨-1, by rw [slices_Index_int_int.l0, if_neg (by omega)], rfl⟩
  | succ d ih =>
    intro j hj
    have e1 : wrap64 ((j : Int) + 1) = ((j + 1 : Nat) : Int) := by unfold wrap64; omega
    have hlt : j < l.length := by omega
    rw [List.drop_eq_getElem_cons hlt, List.any_cons]
    by_cases c : l[j] = q
    · refine ⟨j, by rw [slices_Index_int_int.l0, if_pos (by omega), if_pos (by omega), if_pos (by omega), impl_MostAssigned.rd_at l j hlt, if_pos c.symm], ?_⟩
      simp [c]
    · obtain ⟨r, h1, h2⟩ := ih (j + 1) (by omega)
      refine ⟨r, by rw [slices_Index_int_int.l0, if_pos (by omega), if_pos (by omega), if_pos (by omega), impl_MostAssigned.rd_at l j hlt, if_neg (fun h => c h.symm), e1, h1], ?_⟩
      rw [show (l[j] == q) = false by simp [c], Bool.false_or]
      exact h2
theorem impl_MostAssigned.has (l : List Int) (hl : l.length ≤ 200) (q : Int) : slices_Contains_int_int.f (l.length + 1) l q = some (l.any (fun y => y == q)) := by
  obtain ⟨r, h1, h2⟩ := impl_MostAssigned.has_loop l hl q l.length 0 (by omega)
  unfold slices_Contains_int_int.f slices_Index_int_int.f
  rw [show ((0 : Nat) : Int) = 0 from rfl] at h1
  rw [h1, Option.bind_some, h2, List.drop_zero]
def impl_MostAssigned.K (w W : World) (g : Nat) : Prop := KeepBut w W g none ∧ W.os = w.os ∧ W.tape = w.tape ∧ W.output = w.output
theorem impl_MostAssigned.K.refl (w : World) (g : Nat) : impl_MostAssigned.K w w g := ⟨KeepBut.refl _ _ _, rfl, rfl, rfl⟩
theorem impl_MostAssigned.K.trans {w W X : World} {g : Nat} (h : impl_MostAssigned.K w W g) (k : impl_MostAssigned.K W X g) : impl_MostAssigned.K w X g := ⟨h.1.trans k.1 (.inl rfl), k.2.1.trans h.2.1, k.2.2.1.trans h.2.2.1, k.2.2.2.trans h.2.2.2⟩
theorem impl_MostAssigned.K.drew {w W : World} {g : Nat} (h : impl_MostAssigned.K w W g) : impl_MostAssigned.K w W.drew g := ⟨keep_drew h.1, h.2⟩
theorem impl_MostAssigned.K.drewN {w W : World} {g : Nat} (h : impl_MostAssigned.K w W g) (n : Nat) : impl_MostAssigned.K w (W.drewN n) g := ⟨keep_drewN h.1 n, h.2⟩
theorem impl_MostAssigned.K.alloc {w W : World} {g : Nat} (h : impl_MostAssigned.K w W g) (o : Obj) : impl_MostAssigned.K w (W.alloc o) g := ⟨keep_alloc h.1 o, h.2⟩
theorem impl_MostAssigned.K.set_ {w W : World} {g : Nat} (h : impl_MostAssigned.K w W g) (j : Nat) (u : Value) : impl_MostAssigned.K w (W.setCell ⟨g, j, none⟩ u) g := ⟨h.1.set_ j u, h.2⟩
theorem impl_MostAssigned.K.below {w W X : World} {g : Nat} (h : impl_MostAssigned.K w W g) (k : Below W.heap.size W X) : impl_MostAssigned.K w X g := h.trans ⟨KeepBut.of_below k g none, k.os, k.tape, k.output⟩
theorem impl_MostAssigned.K.grown {w W X : World} {g : Nat} (h : impl_MostAssigned.K w W g) (k : W.grownBy X none) : impl_MostAssigned.K w X g := h.trans ⟨KeepBut.of_grown k g, k.os, k.tape, k.output⟩
theorem impl_MostAssigned.nameL {P : Program} {md : Region.Mode} {ops : Array Oper} {Q : Exit → Act → World → Prop} {S : World → Prop} {ds : List Nat} {n : Nat} {l : Array Bool} {a : Act} {w : World} {F : World → Prop} (hF : F w) (h : ∀ W, F W → wpAnyLast P md ops Q S ds n l a W) : wpAnyLast P md ops Q S ds n l a w := h w hF
theorem impl_MostAssigned.nameC {P : Program} {c : Code} {Q : Exit → Act → World → Prop} {a : Act} {w : World} {F : World → Prop} (hF : F w) (h : ∀ W, F W → c.wp P Q a W) : c.wp P Q a w := h w hF
theorem impl_MostAssigned.olds {w : World} {At : Option Addr} {n : Nat} {t : List Int} (h : (Kd.int .i64).C w At n t) : ∀ b, At = some b → ∀ j u, (t.map (Value.int .i64))[j]? = some u → w.cell? (b.add j) = some u := by
  intro b hb j u hu
  rw [List.getElem?_map] at hu
  cases hj : t[j]? with
  | none => rw [hj] at hu; cases hu
  | some y =>
    rw [hj] at hu
    obtain rfl := Option.some.inj hu
    have hlt : j < t.length := (List.getElem?_eq_some_iff.1 hj).1
    obtain ⟨ad, e1, e2⟩ := Kd.at_int h (j : Int) (by omega) (by have := h.1; omega)
    rw [hb] at e1
    cases e1
    rw [Int.toNat_natCast, impl_MostAssigned.rd_at t j hlt] at e2
    rw [e2]
    congr 2
    exact (List.getElem?_eq_some_iff.1 hj).2
theorem impl_MostAssigned.cut (A : Option Addr) (n ct : Nat) (h : n ≤ ct) (hA : A = none → n = 0) : ∀ W, (Instr.sliceAt 36 (.slice A n ct) none (some (.int .i64 (n : Int))) (some (.int .i64 (n : Int)))).run Try.prog W = .ok (.slice A n n) W := by
  intro W
  have hu := Try.underlying36
  cases A with
  | none =>
    obtain rfl := hA rfl
    have e1 : ∀ y code, (Instr.sliceBound (.int .i64 0) y code).run Try.prog W = .ok 0 W := by
      intro y code
      simp [Instr.sliceBound, asIntOf, go_sem]
    simp [Instr.sliceAt, Instr.slice, Instr.sliceBounds, run_underlying hu, e1, go_sem]
  | some a =>
    have e1 : ∀ y code, n ≤ y → (Instr.sliceBound (.int .i64 (n : Int)) y code).run Try.prog W = .ok n W := by
      intro y code hy
      simp [Instr.sliceBound, asIntOf, go_sem]
      omega
    have e2 := e1 ct .slice3Acap h
    have e3 := e1 n .slice3B (Nat.le_refl _)
    simp [Instr.sliceAt, Instr.slice, Instr.sliceBounds, run_underlying hu, e2, e3, go_sem]
set_option maxHeartbeats 2000000 in
set_option maxRecDepth 100000 in
theorem impl_MostAssigned.clo (ls : List S49) (As : Option Addr) (cs : Nat) (Bo Bs : Nat) (t : List Int) (At : Option Addr) (ct : Nat) (m : Int) (w : World)
    (hS : ∀ W, KeepBut w W Bo none → Kd.C k49 W As ls.length ls) (hsc : ls.length ≤ cs) (hT : ∀ W, KeepBut w W Bo none → (Kd.int .i64).C W At t.length t) (htc : t.length ≤ ct) (hl : t.length = ls.length) (hm : ls.length ≤ 100)
    (hbo : w.heap[Bo]? = some (.cells #[.int .i64 m] 3 (0, 0))) (hbs : w.heap[Bs]? = some (.cells #[.slice As ls.length cs] 32 (0, 0))) :
    Calls Try.prog 69 #[.slice At t.length ct, .pointer (some ⟨Bo, 0, none⟩), .pointer (some ⟨Bs, 0, none⟩)] w fun e w' => e = .returned (.tuple #[]) ∧ w'.heap[Bo]? = some (.cells #[.int .i64 (mx m (impl_MostAssigned.cnt ls t))] 3 (0, 0)) ∧ impl_MostAssigned.K w w' Bo := by
  have HBo := Aside0.mk hbo
  have HBs := Aside0.mk hbs
  have HS := Aside0.mk hS
  have HSC := Aside0.mk hsc
  have HT := Aside0.mk hT
  have HTC := Aside0.mk htc
  have HL := Aside0.mk hl
  have HLL := Aside0.mk hm
  clear hbo hbs hS hsc hT htc hl hm
  by_cases hmx : m < impl_MostAssigned.cnt ls t
  · rw [show mx m (impl_MostAssigned.cnt ls t) = impl_MostAssigned.cnt ls t from by unfold mx; rw [if_pos hmx]]
    have hmi := eq_true hmx
    clear hmx
    go_enter Try.func69, Try.ntmps69
    try go_wp2
    refine start_ (n := 6) (S := fun w' => w'.cell? ⟨Bo, 0, none⟩ = some (.int .i64 m) ∧ w'.cell? ⟨Bs, 0, none⟩ = some (.slice As ls.length cs)) (ds := [5]) #[false, false, false, false, false, false] (by kernel_rfl) rfl rfl ⟨(blk_cell (blk_drew HBo.out) 0).trans rfl, (blk_cell (blk_drew HBs.out) 0).trans rfl⟩ (fun hHeld => ?_)
    refine impl_MostAssigned.nameL (F := fun W => impl_MostAssigned.K w W Bo ∧ W.heap[Bo]? = some (.cells #[.int .i64 m] 3 (0, 0)) ∧ (W.cell? ⟨Bo, 0, none⟩ = some (.int .i64 m) ∧ W.cell? ⟨Bs, 0, none⟩ = some (.slice As ls.length cs))) ⟨impl_MostAssigned.K.drew (impl_MostAssigned.K.refl _ _), blk_drew HBo.out, hHeld⟩ (fun w1 hF => ?_)
    clear hHeld
    obtain ⟨hk1, hb1, hHeld⟩ := hF
    have HK1 := Aside0.mk hk1
    have HB1 := Aside0.mk hb1
    clear hk1 hb1
    refine pure_ (i := 2) (N := some 6) (v := ?_) (a' := ?_) #[false, false, true, false, false, false] rfl rfl (by kernel_rfl) (fun _ _ _ h => h) (Or.inl ⟨by rfl, ?_⟩) ?_ ?_
    rotate_left
    · intro w'; go_simp; with_reducible rfl
    rotate_left
    · simp only [Act.put, List.setIfInBounds_toArray, List.set_cons_zero, List.set_cons_succ, i64_w, i32_w]; rfl
    refine take_ (i := 0) (N := some 4) (v := ?_) (a' := ?_) #[true, false, true, false, false, false] rfl rfl (by kernel_rfl) (fun _ _ _ h => h) (Or.inl ⟨by rfl, ?_⟩) hHeld ?_ ?_
    rotate_left
    · rintro w' ⟨s0, s1⟩; go_simp; with_reducible rfl
    rotate_left
    · simp only [Act.put, List.setIfInBounds_toArray, List.set_cons_zero, List.set_cons_succ, i64_w, i32_w]; rfl
    refine take_ (i := 1) (N := some 5) (v := ?_) (a' := ?_) #[true, true, true, false, false, false] rfl rfl (by kernel_rfl) (fun _ _ _ h => h) (Or.inl ⟨by rfl, ?_⟩) hHeld ?_ ?_
    rotate_left
    · rintro w' ⟨s0, s1⟩; go_simp; with_reducible rfl
    rotate_left
    · simp only [Act.put, List.setIfInBounds_toArray, List.set_cons_zero, List.set_cons_succ, i64_w, i32_w]; rfl
    refine one_ (i := 3) (N := some 7) #[true, true, true, true, false, false] rfl rfl (by kernel_rfl) (by decide) (fun K hK => ?_)
    refine goes_ Try.func70 (by kernel_rfl) rfl #[.slice As ls.length cs, .slice At t.length ct] (by rfl) rfl rfl (by (try simp only [List.map_toArray, List.map_cons, List.map_nil]); first | done | rfl) ?_
    refine (impl_countTaken.calls _ As cs ls At ct t _ _ (HS.out _ HK1.out.1) HSC.out (HT.out _ HK1.out.1) HTC.out (impl_MostAssigned.cnt_f ls t HL.out HLL.out)).mono ?_
    rintro e w2 ⟨rfl, hb⟩
    refine ⟨_, rfl, ?_⟩
    have HK2 := Aside0.mk (HK1.out.below hb)
    have hB2 : w2.heap[Bo]? = some (.cells #[.int .i64 m] 3 (0, 0)) := blk_below (pk HB1) hb
    have HB2 := Aside0.mk hB2
    have hc2 : w2.cell? ⟨Bo, 0, none⟩ = some (.int .i64 m) := (blk_cell hB2 0).trans rfl
    have hf2 : w2.frozen? ⟨Bo, 0, none⟩ = false := blk_frozen hB2 0
    have hs2 : w2.cell? ⟨Bs, 0, none⟩ = some (.slice As ls.length cs) := (hb.cell (World.block_lt_of_cell? _ _ hHeld.2)).trans hHeld.2
    clear hb hB2 HB1 HK1 hHeld
    refine hK.out _ _ ⟨hc2, hs2⟩ (fun hHeld => ?_)
    clear hK K
    refine norm_ (a' := ?_) ?_ ?_
    rotate_left
    · show Act.put _ (some 7) _ = _
      simp only [Act.put, List.setIfInBounds_toArray, List.set_cons_zero, List.set_cons_succ, i64_w, i32_w]; rfl
    refine pure_ (i := 4) (N := some 8) (v := ?_) (a' := ?_) #[true, true, true, true, true, false] rfl rfl (by kernel_rfl) (fun _ _ _ h => h) (Or.inl ⟨by rfl, ?_⟩) ?_ ?_
    rotate_left
    · intro w'; go_simp; with_reducible rfl
    rotate_left
    · simp only [Act.put, List.setIfInBounds_toArray, List.set_cons_zero, List.set_cons_succ, i64_w, i32_w]; rfl
    refine last_ (i := 5) (N := none) #[true, true, true, true, true, true] rfl rfl (by kernel_rfl) (by decide) (fun K hK => ?_)
    refine skip_ (w1 := ?_) (by rfl) rfl ?_ ?_
    rotate_left
    · go_simp
      rfl
    refine hK.out _ _ ?_
    clear hK K
    refine done_ (by kernel_rfl) ?_
    try go_wp2
    first | go_end0 | ((try simp only [Exit.inBlock, Exit.then]); refine bodyPost_ret (results_none rfl _ _ _) rfl ?_)
    exact ⟨rfl, blk_put (cs := #[.int .i64 m]) HB2.out 0 _ rfl, HK2.out.set_ 0 _⟩
  · rw [show mx m (impl_MostAssigned.cnt ls t) = m from by unfold mx; rw [if_neg hmx]]
    have hmi := eq_false hmx
    clear hmx
    go_enter Try.func69, Try.ntmps69
    try go_wp2
    refine start_ (n := 6) (S := fun w' => w'.cell? ⟨Bo, 0, none⟩ = some (.int .i64 m) ∧ w'.cell? ⟨Bs, 0, none⟩ = some (.slice As ls.length cs)) (ds := [5]) #[false, false, false, false, false, false] (by kernel_rfl) rfl rfl ⟨(blk_cell (blk_drew HBo.out) 0).trans rfl, (blk_cell (blk_drew HBs.out) 0).trans rfl⟩ (fun hHeld => ?_)
    refine impl_MostAssigned.nameL (F := fun W => impl_MostAssigned.K w W Bo ∧ W.heap[Bo]? = some (.cells #[.int .i64 m] 3 (0, 0)) ∧ (W.cell? ⟨Bo, 0, none⟩ = some (.int .i64 m) ∧ W.cell? ⟨Bs, 0, none⟩ = some (.slice As ls.length cs))) ⟨impl_MostAssigned.K.drew (impl_MostAssigned.K.refl _ _), blk_drew HBo.out, hHeld⟩ (fun w1 hF => ?_)
    clear hHeld
    obtain ⟨hk1, hb1, hHeld⟩ := hF
    have HK1 := Aside0.mk hk1
    have HB1 := Aside0.mk hb1
    clear hk1 hb1
    refine pure_ (i := 2) (N := some 6) (v := ?_) (a' := ?_) #[false, false, true, false, false, false] rfl rfl (by kernel_rfl) (fun _ _ _ h => h) (Or.inl ⟨by rfl, ?_⟩) ?_ ?_
    rotate_left
    · intro w'; go_simp; with_reducible rfl
    rotate_left
    · simp only [Act.put, List.setIfInBounds_toArray, List.set_cons_zero, List.set_cons_succ, i64_w, i32_w]; rfl
    refine take_ (i := 0) (N := some 4) (v := ?_) (a' := ?_) #[true, false, true, false, false, false] rfl rfl (by kernel_rfl) (fun _ _ _ h => h) (Or.inl ⟨by rfl, ?_⟩) hHeld ?_ ?_
    rotate_left
    · rintro w' ⟨s0, s1⟩; go_simp; with_reducible rfl
    rotate_left
    · simp only [Act.put, List.setIfInBounds_toArray, List.set_cons_zero, List.set_cons_succ, i64_w, i32_w]; rfl
    refine take_ (i := 1) (N := some 5) (v := ?_) (a' := ?_) #[true, true, true, false, false, false] rfl rfl (by kernel_rfl) (fun _ _ _ h => h) (Or.inl ⟨by rfl, ?_⟩) hHeld ?_ ?_
    rotate_left
    · rintro w' ⟨s0, s1⟩; go_simp; with_reducible rfl
    rotate_left
    · simp only [Act.put, List.setIfInBounds_toArray, List.set_cons_zero, List.set_cons_succ, i64_w, i32_w]; rfl
    refine one_ (i := 3) (N := some 7) #[true, true, true, true, false, false] rfl rfl (by kernel_rfl) (by decide) (fun K hK => ?_)
    refine goes_ Try.func70 (by kernel_rfl) rfl #[.slice As ls.length cs, .slice At t.length ct] (by rfl) rfl rfl (by (try simp only [List.map_toArray, List.map_cons, List.map_nil]); first | done | rfl) ?_
    refine (impl_countTaken.calls _ As cs ls At ct t _ _ (HS.out _ HK1.out.1) HSC.out (HT.out _ HK1.out.1) HTC.out (impl_MostAssigned.cnt_f ls t HL.out HLL.out)).mono ?_
    rintro e w2 ⟨rfl, hb⟩
    refine ⟨_, rfl, ?_⟩
    have HK2 := Aside0.mk (HK1.out.below hb)
    have hB2 : w2.heap[Bo]? = some (.cells #[.int .i64 m] 3 (0, 0)) := blk_below (pk HB1) hb
    have HB2 := Aside0.mk hB2
    have hc2 : w2.cell? ⟨Bo, 0, none⟩ = some (.int .i64 m) := (blk_cell hB2 0).trans rfl
    have hf2 : w2.frozen? ⟨Bo, 0, none⟩ = false := blk_frozen hB2 0
    have hs2 : w2.cell? ⟨Bs, 0, none⟩ = some (.slice As ls.length cs) := (hb.cell (World.block_lt_of_cell? _ _ hHeld.2)).trans hHeld.2
    clear hb hB2 HB1 HK1 hHeld
    refine hK.out _ _ ⟨hc2, hs2⟩ (fun hHeld => ?_)
    clear hK K
    refine norm_ (a' := ?_) ?_ ?_
    rotate_left
    · show Act.put _ (some 7) _ = _
      simp only [Act.put, List.setIfInBounds_toArray, List.set_cons_zero, List.set_cons_succ, i64_w, i32_w]; rfl
    refine pure_ (i := 4) (N := some 8) (v := ?_) (a' := ?_) #[true, true, true, true, true, false] rfl rfl (by kernel_rfl) (fun _ _ _ h => h) (Or.inl ⟨by rfl, ?_⟩) ?_ ?_
    rotate_left
    · intro w'; go_simp; with_reducible rfl
    rotate_left
    · simp only [Act.put, List.setIfInBounds_toArray, List.set_cons_zero, List.set_cons_succ, i64_w, i32_w]; rfl
    refine last_ (i := 5) (N := none) #[true, true, true, true, true, true] rfl rfl (by kernel_rfl) (by decide) (fun K hK => ?_)
    refine skip_ (w1 := ?_) (by rfl) rfl ?_ ?_
    rotate_left
    · go_simp
      rfl
    refine hK.out _ _ ?_
    clear hK K
    refine done_ (by kernel_rfl) ?_
    try go_wp2
    first | go_end0 | ((try simp only [Exit.inBlock, Exit.then]); refine bodyPost_ret (results_none rfl _ _ _) rfl ?_)
    exact ⟨rfl, blk_put (cs := #[.int .i64 m]) HB2.out 0 _ rfl, HK2.out.set_ 0 _⟩
def impl_MostAssigned.step (es : List S47) (ls l : List S49) (t : List Int) (x : S49) (m : Int) (e : S47) : Int := if (impl_MostAssigned.fit ls x e && !(t.any (fun q => q == e.f0))) = true then impl_MostAssigned.wy es ls l (t ++ [e.f0]) m else m
theorem impl_MostAssigned.wy_cons (es : List S47) (ls l : List S49) (t : List Int) (x : S49) (m : Int) : impl_MostAssigned.wy es ls (x :: l) t m = es.foldl (impl_MostAssigned.step es ls l t x) (impl_MostAssigned.wy es ls l (t ++ [x.f1]) m) := rfl
theorem impl_MostAssigned.fold_next {α : Type} (es : List S47) (kk : Nat) (h : kk < es.length) {f : α → S47 → α} {a : α} : (es.take (kk + 1)).foldl f a = f ((es.take kk).foldl f a) (rd_T47 es (kk : Int)) := by
  rw [List.take_succ_eq_append_getElem h, List.foldl_append, impl_MostAssigned.re_at es kk h]; rfl
theorem impl_MostAssigned.step_yes {es : List S47} {ls l : List S49} {t : List Int} {x : S49} {m : Int} {e : S47} (h : (impl_MostAssigned.fit ls x e && !(t.any (fun q => q == e.f0))) = true) : impl_MostAssigned.step es ls l t x m e = impl_MostAssigned.wy es ls l (t ++ [e.f0]) m := if_pos h
theorem impl_MostAssigned.step_no {es : List S47} {ls l : List S49} {t : List Int} {x : S49} {m : Int} {e : S47} (h : (impl_MostAssigned.fit ls x e && !(t.any (fun q => q == e.f0))) = false) : impl_MostAssigned.step es ls l t x m e = m := if_neg (by rw [h]; decide)
theorem impl_MostAssigned.newc (w : World) (v : Value) : ∀ j u, [v][j]? = some u → (w.alloc (.cells #[v] 3 (0, 0))).cell? ((⟨w.heap.size, 0, none⟩ : Addr).add j) = some u := by
  intro j u hj
  match j, hj with
  | 0, hj => simp at hj; subst hj; exact (blk_cell (heap_alloc_new w _) 0).trans rfl
  | j + 1, hj => simp at hj
theorem impl_MostAssigned.away {W1 : World} {g : Nat} {o o2 : Obj} (h : W1.heap[g]? = some o) : ∀ k, (W1.alloc o2).heap.size ≤ k → k ≠ g := by
  intro k hk
  have := blk_lt h
  have h2 : (W1.alloc o2).heap.size = W1.heap.size + 1 := by simp [World.alloc, -World.alloc_eq]
  omega
theorem impl_MostAssigned.grown {w4 : World} {b g : Nat} {v' : Value} (t : List Int) (x : Int) (hown : w4.ownsRow b 3 1 v' (t.length + 1) (t.map (Value.int .i64) ++ [.int .i64 x])) (ha : ∀ k, b ≤ k → k ≠ g) :
    ∃ A' c', v' = .slice A' (t ++ [x]).length c' ∧ (t ++ [x]).length ≤ c' ∧ ∀ W, KeepBut w4 W g none → (Kd.int .i64).C W A' (t ++ [x]).length (t ++ [x]) := by
  have hR : (Kd.int .i64).R 3 w4 b (fun k => b ≤ k) v' (t ++ [x]) := Kd.R_of_own (enc := Value.int .i64) (h1 := fun _ => rfl) (by simpa [encs] using hown) (fun k hk => own_base hown k hk)
  obtain ⟨A', c', rfl, hlc, _⟩ := Kd.R_reads hR
  exact ⟨A', c', rfl, hlc, Kd.C_foot_own hR (fun k hk => ha k hk)⟩
set_option maxHeartbeats 16000000 in
set_option maxRecDepth 100000 in
theorem impl_MostAssigned.ways (es : List S47) (ls : List S49) (ce cs Bo Bs : Nat) (hes : es.length ≤ 100) (hls : ls.length ≤ 100) (hce : es.length ≤ ce) (hcs : ls.length ≤ cs) (hne : Bs ≠ Bo) (d : Nat) : ∀ (Ae As : Option Addr) (t : List Int) (At : Option Addr) (ct : Nat) (m : Int) (w : World), d + t.length = ls.length →
    (∀ W, KeepBut w W Bo none → Kd.C k47 W Ae es.length es) → (∀ W, KeepBut w W Bo none → Kd.C k49 W As ls.length ls) → (∀ W, KeepBut w W Bo none → (Kd.int .i64).C W At t.length t) → t.length ≤ ct → w.heap[Bo]? = some (.cells #[.int .i64 m] 3 (0, 0)) → w.heap[Bs]? = some (.cells #[.slice As ls.length cs] 32 (0, 0)) →
    Calls Try.prog 68 #[.slice Ae es.length ce, .slice As ls.length cs, .slice At t.length ct, .func (.func 69) #[] #[.pointer (some ⟨Bo, 0, none⟩), .pointer (some ⟨Bs, 0, none⟩)]] w fun e w' => e = .returned (.tuple #[]) ∧ w'.heap[Bo]? = some (.cells #[.int .i64 (impl_MostAssigned.wy es ls (ls.drop t.length) t m)] 3 (0, 0)) ∧ impl_MostAssigned.K w w' Bo := by
  have eg := enters_of Try.func69 (by kernel_rfl) rfl
  obtain ⟨i0, hi3, hz3, hs3, hb3⟩ := info_parts info3
  induction d with
  | zero =>
    intro Ae As t At ct m w hd hE hS hT htc hbo hbs
    have hl : t.length = ls.length := by omega
    have hclo := impl_MostAssigned.clo ls As cs Bo Bs t At ct m w hS hcs hT htc hl hls hbo hbs
    rw [hl] at hclo ⊢
    rw [List.drop_length, impl_MostAssigned.wy]
    have hb0 : ((ls.length : Int) == (ls.length : Int)) = true := beq_self_eq_true _
    clear hE hS hT hbo hbs hl hd
    go_enter Try.func68, Try.ntmps68
    go_wp2_with (go_at_call 69; refine hclo.mono ?_; rintro e w' ⟨rfl, hb, hk⟩)
    first | go_end0 | ((try simp only [Exit.inBlock, Exit.then]); refine bodyPost_ret (results_none rfl _ _ _) rfl ?_)
    exact ⟨rfl, hb, hk⟩
  | succ d ih =>
    intro Ae As t At ct m w hd hE hS hT htc hbo hbs
    have hlt : t.length < ls.length := by omega
    have hAN : At = none → t.length = 0 := by
      have h := hT w (KeepBut.refl _ _ _)
      intro e
      subst e
      rcases Nat.eq_zero_or_pos t.length with h0 | h0
      · exact h0
      · obtain ⟨ad, e1, _⟩ := Kd.at_int h 0 (by omega) (by omega)
        cases e1
    have hcut := impl_MostAssigned.cut At t.length ct htc hAN
    have hb0 : ((t.length : Int) == (ls.length : Int)) = false := beq_eq_false_iff_ne.mpr (by omega)
    obtain ⟨ads, ea, hx0, hx1⟩ := at_T49 (hS w.drew (keep_drew (KeepBut.refl _ _ _))) (t.length : Int) (by omega) (by omega)
    subst ea
    simp only [Int.toNat_natCast] at hx1
    clear hx0
    have p1 := eq_true (show (0 : Int) ≤ (t.length : Int) by omega)
    have q1 := eq_true (show (t.length : Int) < (ls.length : Int) by omega)
    rw [List.drop_eq_getElem_cons hlt, ← impl_MostAssigned.rs_at ls t.length hlt, impl_MostAssigned.wy_cons]
    obtain ⟨M1, hM1⟩ : ∃ M, impl_MostAssigned.wy es ls (ls.drop (t.length + 1)) (t ++ [(rd_T49 ls (t.length : Int)).f1]) m = M := ⟨_, rfl⟩
    rw [hM1]
    have HM1 := Aside0.mk hM1
    clear hM1
    have IH := Aside0.mk (fun (t : List Int) (At : Option Addr) (ct : Nat) (m : Int) (w : World) => ih Ae (some ads) t At ct m w)
    have HBo := Aside0.mk hbo
    have HBs := Aside0.mk hbs
    have HE := Aside0.mk hE
    have HSI := Aside0.mk hS
    have HT := Aside0.mk hT
    have HTC := Aside0.mk htc
    have HCS := Aside0.mk hcs
    have HNE := Aside0.mk hne
    have HAN := Aside0.mk hAN
    have HD := Aside0.mk hd
    have HTL := Aside0.mk (show t.length ≤ 100 by omega)
    have HTL2 := Aside0.mk (show t.length ≤ 200 by omega)
    have HEL := Aside0.mk hes
    clear ih hbo hbs hE hS hT htc hAN hd hlt
    go_enter Try.func68, Try.ntmps68
    try go_wp2
    refine start_ (n := 15) (S := fun w' => w'.cell? ⟨(ads.add (t.length * 2)).block, (ads.add (t.length * 2)).off + 1, none⟩ = some (.int .i64 (rd_T49 ls (t.length : Int)).f1)) (ds := [11, 12, 14]) #[false, false, false, false, false, false, false, false, false, false, false, false, false, false, false] (by kernel_rfl) rfl rfl hx1 (fun hHeld => ?_)
    refine impl_MostAssigned.nameL (F := fun W => impl_MostAssigned.K w W Bo ∧ W.heap[Bo]? = some (.cells #[.int .i64 m] 3 (0, 0)) ∧ (W.cell? ⟨(ads.add (t.length * 2)).block, (ads.add (t.length * 2)).off + 1, none⟩ = some (.int .i64 (rd_T49 ls (t.length : Int)).f1))) ⟨impl_MostAssigned.K.drew (impl_MostAssigned.K.refl _ _), blk_drew HBo.out, hHeld⟩ (fun W1 hF => ?_)
    clear hHeld
    obtain ⟨hk1, hb1, hHeld⟩ := hF
    have HK1 := Aside0.mk hk1
    have HB1 := Aside0.mk hb1
    clear hk1 hb1
    refine pure_ (i := 0) (N := some 20) (v := ?_) (a' := ?_) #[true, false, false, false, false, false, false, false, false, false, false, false, false, false, false] rfl rfl (by kernel_rfl) (fun _ _ _ h => h) (Or.inl ⟨by rfl, ?_⟩) ?_ ?_
    rotate_left
    · intro w'; go_simp; with_reducible rfl
    rotate_left
    · simp only [Act.put, List.setIfInBounds_toArray, List.set_cons_zero, List.set_cons_succ, i64_w, i32_w]; rfl
    refine pure_ (i := 1) (N := some 21) (v := ?_) (a' := ?_) #[true, true, false, false, false, false, false, false, false, false, false, false, false, false, false] rfl rfl (by kernel_rfl) (fun _ _ _ h => h) (Or.inl ⟨by rfl, ?_⟩) ?_ ?_
    rotate_left
    · intro w'; go_simp; with_reducible rfl
    rotate_left
    · simp only [Act.put, List.setIfInBounds_toArray, List.set_cons_zero, List.set_cons_succ, i64_w, i32_w]; rfl
    refine pure_ (i := 2) (N := some 22) (v := ?_) (a' := ?_) #[true, true, true, false, false, false, false, false, false, false, false, false, false, false, false] rfl rfl (by kernel_rfl) (fun _ _ _ h => h) (Or.inl ⟨by rfl, ?_⟩) ?_ ?_
    rotate_left
    · intro w'; go_simp; with_reducible rfl
    rotate_left
    · simp only [Act.put, List.setIfInBounds_toArray, List.set_cons_zero, List.set_cons_succ, i64_w, i32_w]; rfl
    refine pure_ (i := 3) (N := some 23) (v := ?_) (a' := ?_) #[true, true, true, true, false, false, false, false, false, false, false, false, false, false, false] rfl rfl (by kernel_rfl) (fun _ _ _ h => h) (Or.inl ⟨by rfl, ?_⟩) ?_ ?_
    rotate_left
    · intro w'; go_simp; with_reducible rfl
    rotate_left
    · simp only [Act.put, List.setIfInBounds_toArray, List.set_cons_zero, List.set_cons_succ, i64_w, i32_w]; rfl
    refine pure_ (i := 4) (N := some 24) (v := ?_) (a' := ?_) #[true, true, true, true, true, false, false, false, false, false, false, false, false, false, false] rfl rfl (by kernel_rfl) (fun _ _ _ h => h) (Or.inl ⟨by rfl, ?_⟩) ?_ ?_
    rotate_left
    · intro w'; go_simp; with_reducible rfl
    rotate_left
    · simp only [Act.put, List.setIfInBounds_toArray, List.set_cons_zero, List.set_cons_succ, i64_w, i32_w]; rfl
    refine pure_ (i := 5) (N := some 25) (v := ?_) (a' := ?_) #[true, true, true, true, true, true, false, false, false, false, false, false, false, false, false] rfl rfl (by kernel_rfl) (fun _ _ _ h => h) (Or.inl ⟨by rfl, ?_⟩) ?_ ?_
    rotate_left
    · intro w'; go_simp; with_reducible rfl
    rotate_left
    · simp only [Act.put, List.setIfInBounds_toArray, List.set_cons_zero, List.set_cons_succ, i64_w, i32_w]; rfl
    refine pure_ (i := 6) (N := some 26) (v := ?_) (a' := ?_) #[true, true, true, true, true, true, true, false, false, false, false, false, false, false, false] rfl rfl (by kernel_rfl) (fun _ _ _ h => h) (Or.inl ⟨by rfl, ?_⟩) ?_ ?_
    rotate_left
    · intro w'; go_simp; with_reducible rfl
    rotate_left
    · simp only [Act.put, List.setIfInBounds_toArray, List.set_cons_zero, List.set_cons_succ, i64_w, i32_w]; rfl
    refine pure_ (i := 7) (N := some 27) (v := ?_) (a' := ?_) #[true, true, true, true, true, true, true, true, false, false, false, false, false, false, false] rfl rfl (by kernel_rfl) (fun _ _ _ h => h) (Or.inl ⟨by rfl, ?_⟩) ?_ ?_
    rotate_left
    · intro w'; go_simp; with_reducible rfl
    rotate_left
    · simp only [Act.put, List.setIfInBounds_toArray, List.set_cons_zero, List.set_cons_succ, i64_w, i32_w]; rfl
    refine pure_ (i := 8) (N := some 28) (v := ?_) (a' := ?_) #[true, true, true, true, true, true, true, true, true, false, false, false, false, false, false] rfl rfl (by kernel_rfl) (fun _ _ _ h => h) (Or.inl ⟨by rfl, ?_⟩) ?_ ?_
    rotate_left
    · intro w'; go_simp; with_reducible rfl
    rotate_left
    · simp only [Act.put, List.setIfInBounds_toArray, List.set_cons_zero, List.set_cons_succ, i64_w, i32_w]; rfl
    refine pure_ (i := 9) (N := some 29) (v := ?_) (a' := ?_) #[true, true, true, true, true, true, true, true, true, true, false, false, false, false, false] rfl rfl (by kernel_rfl) (fun _ _ _ h => h) (Or.inl ⟨by rfl, ?_⟩) ?_ ?_
    rotate_left
    · intro w'; go_simp; with_reducible rfl
    rotate_left
    · simp only [Act.put, List.setIfInBounds_toArray, List.set_cons_zero, List.set_cons_succ, i64_w, i32_w]; rfl
    refine pure_ (i := 13) (N := some 33) (v := ?_) (a' := ?_) #[true, true, true, true, true, true, true, true, true, true, false, false, false, true, false] rfl rfl (by kernel_rfl) (fun _ _ _ h => h) (Or.inl ⟨by rfl, ?_⟩) ?_ ?_
    rotate_left
    · intro w'; go_simp; with_reducible rfl
    rotate_left
    · simp only [Act.put, List.setIfInBounds_toArray, List.set_cons_zero, List.set_cons_succ, i64_w, i32_w]; rfl
    refine take_ (i := 10) (N := some 30) (v := ?_) (a' := ?_) #[true, true, true, true, true, true, true, true, true, true, true, false, false, true, false] rfl rfl (by kernel_rfl) (fun _ _ _ h => h) (Or.inl ⟨by rfl, ?_⟩) hHeld ?_ ?_
    rotate_left
    · rintro w' s0; go_simp; with_reducible rfl
    rotate_left
    · simp only [Act.put, List.setIfInBounds_toArray, List.set_cons_zero, List.set_cons_succ, i64_w, i32_w]; rfl
    refine last_ (i := 11) (N := some 31) #[true, true, true, true, true, true, true, true, true, true, true, true, false, true, false] rfl rfl (by kernel_rfl) (by decide) (fun K hK => ?_)
    refine value_ (w1 := ?_) (v := ?_) (by rfl) rfl ?_ ?_
    rotate_left 2
    · go_simp
      constructor
      · rfl
      · rfl
    refine hK.out _ _ ?_
    clear hK K
    refine norm_ (a' := ?_) ?_ ?_
    rotate_left
    · show Act.put _ (some 31) _ = _
      simp only [Act.put, List.setIfInBounds_toArray, List.set_cons_zero, List.set_cons_succ, i64_w, i32_w]; rfl
    refine last_ (i := 12) (N := some 32) #[true, true, true, true, true, true, true, true, true, true, true, true, true, true, false] rfl rfl (by kernel_rfl) (by decide) (fun K hK => ?_)
    refine step_append_grows rfl _ _ 36 rfl 3 i0 (.int .i64 0) 1 8 Try.underlying36 hi3 hz3 hs3 hb3 rfl (by decide) At t.length t.length (t.map (Value.int .i64)) (by rfl) (fun e_ => ⟨HAN.out e_, HAN.out e_⟩) (by simp) (impl_MostAssigned.olds (HT.out _ (keep_alloc HK1.out.1 _))) ⟨W1.heap.size, 0, none⟩ 1 1 [.int .i64 (rd_T49 ls (t.length : Int)).f1] (by rfl) rfl (impl_MostAssigned.newc W1 _) (by simp [Value.oneCell']) (by omega) (by unfold maxLen; have := HTL.out; omega) (by have := HTL.out; omega) ?_
    intro v' w4 hown hgrow
    have hK4 : impl_MostAssigned.K w w4 Bo := (HK1.out.alloc _).grown hgrow
    have hB4 : w4.heap[Bo]? = some (.cells #[.int .i64 m] 3 (0, 0)) := (KeepBut.of_grown hgrow Bs).blk (blk_alloc HB1.out _) (Ne.symm HNE.out) (by simp)
    have hS4 := hK4.1.blk HBs.out HNE.out (by simp)
    obtain ⟨A', c', rfl, hlc, hT4⟩ := impl_MostAssigned.grown (g := Bo) t ((rd_T49 ls (t.length : Int)).f1) hown (impl_MostAssigned.away HB1.out)
    have HK4 := Aside0.mk hK4
    have HB4 := Aside0.mk hB4
    have HS4 := Aside0.mk hS4
    have HT4 := Aside0.mk hT4
    have HLC := Aside0.mk hlc
    clear hK4 hB4 hS4 hT4 hlc hown hgrow
    refine hK.out _ _ ?_
    clear hK K
    refine norm_ (a' := ?_) ?_ ?_
    rotate_left
    · show Act.put _ (some 32) _ = _
      simp only [Act.put, List.setIfInBounds_toArray, List.set_cons_zero, List.set_cons_succ, i64_w, i32_w]; rfl
    refine last_ (i := 14) (N := some 34) #[true, true, true, true, true, true, true, true, true, true, true, true, true, true, true] rfl rfl (by kernel_rfl) (by decide) (fun K hK => ?_)
    refine goes_ Try.func68 (by kernel_rfl) rfl #[.slice Ae es.length ce, .slice (some ads) ls.length cs, .slice A' (t ++ [(rd_T49 ls (t.length : Int)).f1]).length c', .func (.func 69) #[] #[.pointer (some ⟨Bo, 0, none⟩), .pointer (some ⟨Bs, 0, none⟩)]] (by rfl) rfl rfl (by (try simp only [List.map_toArray, List.map_cons, List.map_nil]); first | done | rfl) ?_
    refine (IH.out (t ++ [(rd_T49 ls (t.length : Int)).f1]) A' c' (m) w4 (by simp; have := HD.out; omega) (fun W hk => HE.out W (HK4.out.1.trans hk (.inl rfl))) (fun W hk => HSI.out W (HK4.out.1.trans hk (.inl rfl))) HT4.out HLC.out HB4.out HS4.out).mono ?_
    rintro e w5 ⟨rfl, hb5, hk5⟩
    refine ⟨_, rfl, ?_⟩
    have HK5 := Aside0.mk (HK4.out.trans hk5)
    rw [show (t ++ [(rd_T49 ls (t.length : Int)).f1]).length = t.length + 1 by simp] at hb5
    have HB5 := Aside0.mk hb5
    clear hb5 hk5 HK4 HB4 HS4 HT4 HLC HK1 HB1
    refine hK.out _ _ ?_
    clear hK K
    refine norm_ (a' := ?_) ?_ ?_
    rotate_left
    · show Act.put _ (some 34) _ = _
      simp only [Act.put, List.setIfInBounds_toArray, List.set_cons_zero, List.set_cons_succ, i64_w, i32_w]; rfl
    refine done_ (by kernel_rfl) ?_
    rw [HM1.out] at HB5
    clear HM1 HBo
    try go_wp2
    go_loopg [10, 37] es.length (fun gg _ v37 wr => ∃ kk : Nat, kk ≤ es.length ∧ es.length - kk ≤ gg ∧ v37 = .int .i64 kk ∧ Aside0 (impl_MostAssigned.K w wr Bo) ∧ Aside0 (wr.heap[Bo]? = some (.cells #[.int .i64 ((es.take kk).foldl (impl_MostAssigned.step es ls (ls.drop (t.length + 1)) t (rd_T49 ls (t.length : Int))) M1)] 3 (0, 0))))
    case atStart => exact ⟨0, Nat.zero_le _, by omega, rfl, ⟨HK5.out⟩, ⟨HB5.out⟩⟩
    case round =>
      clear HK5 HB5
      obtain ⟨kk, hkk, hg, rfl, HK, HB⟩ := hrel
      by_cases hlt2 : kk < es.length
      · have HKL := Aside0.mk hlt2
        obtain ⟨ade, ee, hy0, hy1, hy2⟩ := at_T47 (HE.out wr HK.out.1) (kk : Int) (by omega) (by omega)
        cases ee
        simp only [Int.toNat_natCast] at hy0 hy1 hy2
        have p2 := eq_true (show (0 : Int) ≤ (kk : Int) by omega)
        have q2 := eq_true (show (kk : Int) < (es.length : Int) by omega)
        have q3 : decide ((kk : Int) < (es.length : Int)) = true := decide_eq_true (by omega)
        try go_wp2
        refine impl_MostAssigned.nameC (F := fun W => impl_MostAssigned.K w W Bo ∧ W.heap[Bo]? = some (.cells #[.int .i64 ((es.take kk).foldl (impl_MostAssigned.step es ls (ls.drop (t.length + 1)) t (rd_T49 ls (t.length : Int))) M1)] 3 (0, 0)) ∧ W.heap[wr.heap.size]? = some (.cells #[.int .i64 (rd_T47 es (kk : Int)).f0, .int .i64 (rd_T47 es (kk : Int)).f1, .int .i64 (rd_T47 es (kk : Int)).f2] 47 (0, 0))) ⟨HK.out.alloc _, blk_alloc HB.out _, heap_alloc_new wr _⟩ (fun W0 hF => ?_)
        clear HK HB hy0 hy1 hy2
        obtain ⟨hk, hb, hx⟩ := hF
        have HK := Aside0.mk hk
        have HB := Aside0.mk hb
        generalize wr.heap.size = gb at hx ⊢
        have HX := Aside0.mk hx
        clear hk hb hx
        obtain ⟨ads', ea, hz0, hz1⟩ := at_T49 (HSI.out W0.drew (keep_drew HK.out.1)) (t.length : Int) (by omega) (of_eq_true q1)
        cases ea
        simp only [Int.toNat_natCast] at hz0 hz1
        cases hfit : impl_MostAssigned.fit ls (rd_T49 ls (t.length : Int)) (rd_T47 es (kk : Int)) with
        | false =>
          have HF := Aside0.mk hfit
          have HN := Aside0.mk (show (impl_MostAssigned.fit ls (rd_T49 ls (t.length : Int)) (rd_T47 es (kk : Int)) && !(t.any (fun q => q == (rd_T47 es (kk : Int)).f0))) = false by rw [hfit]; rfl)
          clear hfit
          refine start_ (n := 14) (S := fun w' => w'.cell? (ads.add (t.length * 2)) = some (.int .i64 (rd_T49 ls (t.length : Int)).f0) ∧ w'.cell? ⟨(ads.add (t.length * 2)).block, (ads.add (t.length * 2)).off + 1, none⟩ = some (.int .i64 (rd_T49 ls (t.length : Int)).f1) ∧ w'.cell? ⟨gb, 0, none⟩ = some (.int .i64 (rd_T47 es (kk : Int)).f0) ∧ w'.cell? ⟨gb, 1, none⟩ = some (.int .i64 (rd_T47 es (kk : Int)).f1) ∧ w'.cell? ⟨gb, 2, none⟩ = some (.int .i64 (rd_T47 es (kk : Int)).f2)) (ds := []) #[false, false, false, false, false, false, false, false, false, false, false, false, false, false] (by kernel_rfl) rfl rfl ⟨hz0, hz1, (blk_cell (blk_drew HX.out) 0).trans rfl, (blk_cell (blk_drew HX.out) 1).trans rfl, (blk_cell (blk_drew HX.out) 2).trans rfl⟩ (fun hHeld => ?_)
          refine impl_MostAssigned.nameL (F := fun W => impl_MostAssigned.K w W Bo ∧ W.heap[Bo]? = some (.cells #[.int .i64 ((es.take kk).foldl (impl_MostAssigned.step es ls (ls.drop (t.length + 1)) t (rd_T49 ls (t.length : Int))) M1)] 3 (0, 0)) ∧ W.heap[gb]? = some (.cells #[.int .i64 (rd_T47 es (kk : Int)).f0, .int .i64 (rd_T47 es (kk : Int)).f1, .int .i64 (rd_T47 es (kk : Int)).f2] 47 (0, 0)) ∧ (W.cell? (ads.add (t.length * 2)) = some (.int .i64 (rd_T49 ls (t.length : Int)).f0) ∧ W.cell? ⟨(ads.add (t.length * 2)).block, (ads.add (t.length * 2)).off + 1, none⟩ = some (.int .i64 (rd_T49 ls (t.length : Int)).f1) ∧ W.cell? ⟨gb, 0, none⟩ = some (.int .i64 (rd_T47 es (kk : Int)).f0) ∧ W.cell? ⟨gb, 1, none⟩ = some (.int .i64 (rd_T47 es (kk : Int)).f1) ∧ W.cell? ⟨gb, 2, none⟩ = some (.int .i64 (rd_T47 es (kk : Int)).f2))) ⟨HK.out.drew, blk_drew HB.out, blk_drew HX.out, hHeld⟩ (fun W1 hF => ?_)
          clear hHeld hz0 hz1
          obtain ⟨hk1, hb1, hx1, hHeld⟩ := hF
          have HK1 := Aside0.mk hk1
          have HB1 := Aside0.mk hb1
          have HX1 := Aside0.mk hx1
          clear hk1 hb1 hx1 HK HB HX
          refine pure_ (i := 0) (N := some 41) (v := ?_) (a' := ?_) #[true, false, false, false, false, false, false, false, false, false, false, false, false, false] rfl rfl (by kernel_rfl) (fun _ _ _ h => h) (Or.inl ⟨by rfl, ?_⟩) ?_ ?_
          rotate_left
          · intro w'; go_simp; with_reducible rfl
          rotate_left
          · simp only [Act.put, List.setIfInBounds_toArray, List.set_cons_zero, List.set_cons_succ, i64_w, i32_w]; rfl
          refine pure_ (i := 1) (N := some 42) (v := ?_) (a' := ?_) #[true, true, false, false, false, false, false, false, false, false, false, false, false, false] rfl rfl (by kernel_rfl) (fun _ _ _ h => h) (Or.inl ⟨by rfl, ?_⟩) ?_ ?_
          rotate_left
          · intro w'; go_simp; with_reducible rfl
          rotate_left
          · simp only [Act.put, List.setIfInBounds_toArray, List.set_cons_zero, List.set_cons_succ, i64_w, i32_w]; rfl
          refine pure_ (i := 2) (N := some 43) (v := ?_) (a' := ?_) #[true, true, true, false, false, false, false, false, false, false, false, false, false, false] rfl rfl (by kernel_rfl) (fun _ _ _ h => h) (Or.inl ⟨by rfl, ?_⟩) ?_ ?_
          rotate_left
          · intro w'; go_simp; with_reducible rfl
          rotate_left
          · simp only [Act.put, List.setIfInBounds_toArray, List.set_cons_zero, List.set_cons_succ, i64_w, i32_w]; rfl
          refine pure_ (i := 3) (N := some 44) (v := ?_) (a' := ?_) #[true, true, true, true, false, false, false, false, false, false, false, false, false, false] rfl rfl (by kernel_rfl) (fun _ _ _ h => h) (Or.inl ⟨by rfl, ?_⟩) ?_ ?_
          rotate_left
          · intro w'; go_simp; with_reducible rfl
          rotate_left
          · simp only [Act.put, List.setIfInBounds_toArray, List.set_cons_zero, List.set_cons_succ, i64_w, i32_w]; rfl
          refine take_ (i := 4) (N := some 45) (v := ?_) (a' := ?_) #[true, true, true, true, true, false, false, false, false, false, false, false, false, false] rfl rfl (by kernel_rfl) (fun _ _ _ h => h) (Or.inl ⟨by rfl, ?_⟩) hHeld ?_ ?_
          rotate_left
          · rintro w' ⟨s0, s1, s2, s3, s4⟩; go_simp; with_reducible rfl
          rotate_left
          · simp only [Act.put, List.setIfInBounds_toArray, List.set_cons_zero, List.set_cons_succ, i64_w, i32_w]; rfl
          refine take_ (i := 5) (N := some 46) (v := ?_) (a' := ?_) #[true, true, true, true, true, true, false, false, false, false, false, false, false, false] rfl rfl (by kernel_rfl) (fun _ _ _ h => h) (Or.inl ⟨by rfl, ?_⟩) hHeld ?_ ?_
          rotate_left
          · rintro w' ⟨s0, s1, s2, s3, s4⟩; go_simp; with_reducible rfl
          rotate_left
          · simp only [Act.put, List.setIfInBounds_toArray, List.set_cons_zero, List.set_cons_succ, i64_w, i32_w]; rfl
          refine one_ (i := 6) (N := some 47) #[true, true, true, true, true, true, true, false, false, false, false, false, false, false] rfl rfl (by kernel_rfl) (by decide) (fun K hK => ?_)
          refine goes_ Try.func65 (by kernel_rfl) rfl #[.slice (some ads) ls.length cs, .agg #[.int .i64 (rd_T49 ls (t.length : Int)).f0, .int .i64 (rd_T49 ls (t.length : Int)).f1], .agg #[.int .i64 (rd_T47 es (kk : Int)).f0, .int .i64 (rd_T47 es (kk : Int)).f1, .int .i64 (rd_T47 es (kk : Int)).f2]] (by rfl) rfl rfl (by (try simp only [List.map_toArray, List.map_cons, List.map_nil]); first | done | rfl) ?_
          refine (impl_fits.calls (some ads) cs ls (rd_T49 ls (t.length : Int)).f0 (rd_T49 ls (t.length : Int)).f1 (rd_T47 es (kk : Int)).f0 (rd_T47 es (kk : Int)).f1 (rd_T47 es (kk : Int)).f2 false _ (HSI.out _ HK1.out.1) HCS.out ((impl_MostAssigned.fit_f ls (rd_T49 ls (t.length : Int)) (rd_T47 es (kk : Int))).trans (congrArg some HF.out))).mono ?_
          rintro e W2 ⟨rfl, hb⟩
          refine ⟨_, rfl, ?_⟩
          have HK2 := Aside0.mk (HK1.out.below hb)
          have HB2 := Aside0.mk (blk_below HB1.out hb)
          have HX2 := Aside0.mk (blk_below HX1.out hb)
          have hh := hHeld
          clear hHeld
          obtain ⟨h0, h1, h2, h3, h4⟩ := hh
          replace h0 := (hb.cell (World.block_lt_of_cell? _ _ h0)).trans h0
          replace h1 := (hb.cell (World.block_lt_of_cell? _ _ h1)).trans h1
          replace h2 := (hb.cell (World.block_lt_of_cell? _ _ h2)).trans h2
          replace h3 := (hb.cell (World.block_lt_of_cell? _ _ h3)).trans h3
          replace h4 := (hb.cell (World.block_lt_of_cell? _ _ h4)).trans h4
          clear hb HK1 HB1 HX1
          refine hK.out _ _ ⟨h0, h1, h2, h3, h4⟩ (fun hHeld => ?_)
          clear hK K h0 h1 h2 h3 h4
          refine norm_ (a' := ?_) ?_ ?_
          rotate_left
          · show Act.put _ (some 47) _ = _
            simp only [Act.put, List.setIfInBounds_toArray, List.set_cons_zero, List.set_cons_succ, i64_w, i32_w]; rfl
          refine pure_ (i := 7) (N := some 48) (v := ?_) (a' := ?_) #[true, true, true, true, true, true, true, true, false, false, false, false, false, false] rfl rfl (by kernel_rfl) (fun _ _ _ h => h) (Or.inl ⟨by rfl, ?_⟩) ?_ ?_
          rotate_left
          · intro w'; go_simp; with_reducible rfl
          rotate_left
          · simp only [Act.put, List.setIfInBounds_toArray, List.set_cons_zero, List.set_cons_succ, i64_w, i32_w]; rfl
          refine pure_ (i := 8) (N := some 49) (v := undef) (a' := ?_) #[true, true, true, true, true, true, true, true, true, false, false, false, false, false] rfl rfl (by kernel_rfl) (fun _ _ _ h => h) (Or.inr ⟨by rfl, rfl⟩) ?_ ?_
          rotate_left
          · simp only [Act.put, List.setIfInBounds_toArray, List.set_cons_zero, List.set_cons_succ, i64_w, i32_w]; rfl
          refine pure_ (i := 9) (N := some 50) (v := undef) (a' := ?_) #[true, true, true, true, true, true, true, true, true, true, false, false, false, false] rfl rfl (by kernel_rfl) (fun _ _ _ h => h) (Or.inr ⟨by rfl, rfl⟩) ?_ ?_
          rotate_left
          · simp only [Act.put, List.setIfInBounds_toArray, List.set_cons_zero, List.set_cons_succ, i64_w, i32_w]; rfl
          refine pure_ (i := 10) (N := some 51) (v := undef) (a' := ?_) #[true, true, true, true, true, true, true, true, true, true, true, false, false, false] rfl rfl (by kernel_rfl) (fun _ _ _ h => h) (Or.inr ⟨by rfl, rfl⟩) ?_ ?_
          rotate_left
          · simp only [Act.put, List.setIfInBounds_toArray, List.set_cons_zero, List.set_cons_succ, i64_w, i32_w]; rfl
          refine pure_ (i := 11) (N := some 52) (v := undef) (a' := ?_) #[true, true, true, true, true, true, true, true, true, true, true, true, false, false] rfl rfl (by kernel_rfl) (fun _ _ _ h => h) (Or.inr ⟨by rfl, rfl⟩) ?_ ?_
          rotate_left
          · simp only [Act.put, List.setIfInBounds_toArray, List.set_cons_zero, List.set_cons_succ, i64_w, i32_w]; rfl
          refine pure_ (i := 12) (N := some 53) (v := undef) (a' := ?_) #[true, true, true, true, true, true, true, true, true, true, true, true, true, false] rfl rfl (by kernel_rfl) (fun _ _ _ h => h) (Or.inr ⟨by rfl, rfl⟩) ?_ ?_
          rotate_left
          · simp only [Act.put, List.setIfInBounds_toArray, List.set_cons_zero, List.set_cons_succ, i64_w, i32_w]; rfl
          refine pure_ (i := 13) (N := some 54) (v := ?_) (a' := ?_) #[true, true, true, true, true, true, true, true, true, true, true, true, true, true] rfl rfl (by kernel_rfl) (fun _ _ _ h => h) (Or.inl ⟨by rfl, ?_⟩) ?_ ?_
          rotate_left
          · intro w'; go_simp; with_reducible rfl
          rotate_left
          · simp only [Act.put, List.setIfInBounds_toArray, List.set_cons_zero, List.set_cons_succ, i64_w, i32_w]; rfl
          refine done_ (by kernel_rfl) ?_
          try go_wp2
          go_roundg (es.length - (kk + 1))
          case measure => omega
          case rel => exact ⟨kk + 1, by omega, by omega, by go_num, ⟨HK2.out⟩, ⟨by rw [impl_MostAssigned.fold_next es kk HKL.out, impl_MostAssigned.step_no HN.out]; exact HB2.out⟩⟩
        | true =>
          have HF := Aside0.mk hfit
          cases hhas : t.any (fun q => q == (rd_T47 es (kk : Int)).f0) with
          | true =>
            have HH := Aside0.mk hhas
            have HN := Aside0.mk (show (impl_MostAssigned.fit ls (rd_T49 ls (t.length : Int)) (rd_T47 es (kk : Int)) && !(t.any (fun q => q == (rd_T47 es (kk : Int)).f0))) = false by rw [hfit, hhas]; rfl)
            clear hfit hhas
            refine start_ (n := 14) (S := fun w' => w'.cell? (ads.add (t.length * 2)) = some (.int .i64 (rd_T49 ls (t.length : Int)).f0) ∧ w'.cell? ⟨(ads.add (t.length * 2)).block, (ads.add (t.length * 2)).off + 1, none⟩ = some (.int .i64 (rd_T49 ls (t.length : Int)).f1) ∧ w'.cell? ⟨gb, 0, none⟩ = some (.int .i64 (rd_T47 es (kk : Int)).f0) ∧ w'.cell? ⟨gb, 1, none⟩ = some (.int .i64 (rd_T47 es (kk : Int)).f1) ∧ w'.cell? ⟨gb, 2, none⟩ = some (.int .i64 (rd_T47 es (kk : Int)).f2)) (ds := [11]) #[false, false, false, false, false, false, false, false, false, false, false, false, false, false] (by kernel_rfl) rfl rfl ⟨hz0, hz1, (blk_cell (blk_drew HX.out) 0).trans rfl, (blk_cell (blk_drew HX.out) 1).trans rfl, (blk_cell (blk_drew HX.out) 2).trans rfl⟩ (fun hHeld => ?_)
            refine impl_MostAssigned.nameL (F := fun W => impl_MostAssigned.K w W Bo ∧ W.heap[Bo]? = some (.cells #[.int .i64 ((es.take kk).foldl (impl_MostAssigned.step es ls (ls.drop (t.length + 1)) t (rd_T49 ls (t.length : Int))) M1)] 3 (0, 0)) ∧ W.heap[gb]? = some (.cells #[.int .i64 (rd_T47 es (kk : Int)).f0, .int .i64 (rd_T47 es (kk : Int)).f1, .int .i64 (rd_T47 es (kk : Int)).f2] 47 (0, 0)) ∧ (W.cell? (ads.add (t.length * 2)) = some (.int .i64 (rd_T49 ls (t.length : Int)).f0) ∧ W.cell? ⟨(ads.add (t.length * 2)).block, (ads.add (t.length * 2)).off + 1, none⟩ = some (.int .i64 (rd_T49 ls (t.length : Int)).f1) ∧ W.cell? ⟨gb, 0, none⟩ = some (.int .i64 (rd_T47 es (kk : Int)).f0) ∧ W.cell? ⟨gb, 1, none⟩ = some (.int .i64 (rd_T47 es (kk : Int)).f1) ∧ W.cell? ⟨gb, 2, none⟩ = some (.int .i64 (rd_T47 es (kk : Int)).f2))) ⟨HK.out.drew, blk_drew HB.out, blk_drew HX.out, hHeld⟩ (fun W1 hF => ?_)
            clear hHeld hz0 hz1
            obtain ⟨hk1, hb1, hx1, hHeld⟩ := hF
            have HK1 := Aside0.mk hk1
            have HB1 := Aside0.mk hb1
            have HX1 := Aside0.mk hx1
            clear hk1 hb1 hx1 HK HB HX
            refine pure_ (i := 0) (N := some 41) (v := ?_) (a' := ?_) #[true, false, false, false, false, false, false, false, false, false, false, false, false, false] rfl rfl (by kernel_rfl) (fun _ _ _ h => h) (Or.inl ⟨by rfl, ?_⟩) ?_ ?_
            rotate_left
            · intro w'; go_simp; with_reducible rfl
            rotate_left
            · simp only [Act.put, List.setIfInBounds_toArray, List.set_cons_zero, List.set_cons_succ, i64_w, i32_w]; rfl
            refine pure_ (i := 1) (N := some 42) (v := ?_) (a' := ?_) #[true, true, false, false, false, false, false, false, false, false, false, false, false, false] rfl rfl (by kernel_rfl) (fun _ _ _ h => h) (Or.inl ⟨by rfl, ?_⟩) ?_ ?_
            rotate_left
            · intro w'; go_simp; with_reducible rfl
            rotate_left
            · simp only [Act.put, List.setIfInBounds_toArray, List.set_cons_zero, List.set_cons_succ, i64_w, i32_w]; rfl
            refine pure_ (i := 2) (N := some 43) (v := ?_) (a' := ?_) #[true, true, true, false, false, false, false, false, false, false, false, false, false, false] rfl rfl (by kernel_rfl) (fun _ _ _ h => h) (Or.inl ⟨by rfl, ?_⟩) ?_ ?_
            rotate_left
            · intro w'; go_simp; with_reducible rfl
            rotate_left
            · simp only [Act.put, List.setIfInBounds_toArray, List.set_cons_zero, List.set_cons_succ, i64_w, i32_w]; rfl
            refine pure_ (i := 3) (N := some 44) (v := ?_) (a' := ?_) #[true, true, true, true, false, false, false, false, false, false, false, false, false, false] rfl rfl (by kernel_rfl) (fun _ _ _ h => h) (Or.inl ⟨by rfl, ?_⟩) ?_ ?_
            rotate_left
            · intro w'; go_simp; with_reducible rfl
            rotate_left
            · simp only [Act.put, List.setIfInBounds_toArray, List.set_cons_zero, List.set_cons_succ, i64_w, i32_w]; rfl
            refine take_ (i := 4) (N := some 45) (v := ?_) (a' := ?_) #[true, true, true, true, true, false, false, false, false, false, false, false, false, false] rfl rfl (by kernel_rfl) (fun _ _ _ h => h) (Or.inl ⟨by rfl, ?_⟩) hHeld ?_ ?_
            rotate_left
            · rintro w' ⟨s0, s1, s2, s3, s4⟩; go_simp; with_reducible rfl
            rotate_left
            · simp only [Act.put, List.setIfInBounds_toArray, List.set_cons_zero, List.set_cons_succ, i64_w, i32_w]; rfl
            refine take_ (i := 5) (N := some 46) (v := ?_) (a' := ?_) #[true, true, true, true, true, true, false, false, false, false, false, false, false, false] rfl rfl (by kernel_rfl) (fun _ _ _ h => h) (Or.inl ⟨by rfl, ?_⟩) hHeld ?_ ?_
            rotate_left
            · rintro w' ⟨s0, s1, s2, s3, s4⟩; go_simp; with_reducible rfl
            rotate_left
            · simp only [Act.put, List.setIfInBounds_toArray, List.set_cons_zero, List.set_cons_succ, i64_w, i32_w]; rfl
            refine one_ (i := 6) (N := some 47) #[true, true, true, true, true, true, true, false, false, false, false, false, false, false] rfl rfl (by kernel_rfl) (by decide) (fun K hK => ?_)
            refine goes_ Try.func65 (by kernel_rfl) rfl #[.slice (some ads) ls.length cs, .agg #[.int .i64 (rd_T49 ls (t.length : Int)).f0, .int .i64 (rd_T49 ls (t.length : Int)).f1], .agg #[.int .i64 (rd_T47 es (kk : Int)).f0, .int .i64 (rd_T47 es (kk : Int)).f1, .int .i64 (rd_T47 es (kk : Int)).f2]] (by rfl) rfl rfl (by (try simp only [List.map_toArray, List.map_cons, List.map_nil]); first | done | rfl) ?_
            refine (impl_fits.calls (some ads) cs ls (rd_T49 ls (t.length : Int)).f0 (rd_T49 ls (t.length : Int)).f1 (rd_T47 es (kk : Int)).f0 (rd_T47 es (kk : Int)).f1 (rd_T47 es (kk : Int)).f2 true _ (HSI.out _ HK1.out.1) HCS.out ((impl_MostAssigned.fit_f ls (rd_T49 ls (t.length : Int)) (rd_T47 es (kk : Int))).trans (congrArg some HF.out))).mono ?_
            rintro e W2 ⟨rfl, hb⟩
            refine ⟨_, rfl, ?_⟩
            have HK2 := Aside0.mk (HK1.out.below hb)
            have HB2 := Aside0.mk (blk_below HB1.out hb)
            have HX2 := Aside0.mk (blk_below HX1.out hb)
            have hh := hHeld
            clear hHeld
            obtain ⟨h0, h1, h2, h3, h4⟩ := hh
            replace h0 := (hb.cell (World.block_lt_of_cell? _ _ h0)).trans h0
            replace h1 := (hb.cell (World.block_lt_of_cell? _ _ h1)).trans h1
            replace h2 := (hb.cell (World.block_lt_of_cell? _ _ h2)).trans h2
            replace h3 := (hb.cell (World.block_lt_of_cell? _ _ h3)).trans h3
            replace h4 := (hb.cell (World.block_lt_of_cell? _ _ h4)).trans h4
            clear hb HK1 HB1 HX1
            refine hK.out _ _ ⟨h0, h1, h2, h3, h4⟩ (fun hHeld => ?_)
            clear hK K h0 h1 h2 h3 h4
            refine norm_ (a' := ?_) ?_ ?_
            rotate_left
            · show Act.put _ (some 47) _ = _
              simp only [Act.put, List.setIfInBounds_toArray, List.set_cons_zero, List.set_cons_succ, i64_w, i32_w]; rfl
            refine pure_ (i := 7) (N := some 48) (v := ?_) (a' := ?_) #[true, true, true, true, true, true, true, true, false, false, false, false, false, false] rfl rfl (by kernel_rfl) (fun _ _ _ h => h) (Or.inl ⟨by rfl, ?_⟩) ?_ ?_
            rotate_left
            · intro w'; go_simp; with_reducible rfl
            rotate_left
            · simp only [Act.put, List.setIfInBounds_toArray, List.set_cons_zero, List.set_cons_succ, i64_w, i32_w]; rfl
            refine pure_ (i := 8) (N := some 49) (v := ?_) (a' := ?_) #[true, true, true, true, true, true, true, true, true, false, false, false, false, false] rfl rfl (by kernel_rfl) (fun _ _ _ h => h) (Or.inl ⟨by rfl, ?_⟩) ?_ ?_
            rotate_left
            · intro w'; go_simp; with_reducible rfl
            rotate_left
            · simp only [Act.put, List.setIfInBounds_toArray, List.set_cons_zero, List.set_cons_succ, i64_w, i32_w]; rfl
            refine pure_ (i := 9) (N := some 50) (v := ?_) (a' := ?_) #[true, true, true, true, true, true, true, true, true, true, false, false, false, false] rfl rfl (by kernel_rfl) (fun _ _ _ h => h) (Or.inl ⟨by rfl, ?_⟩) ?_ ?_
            rotate_left
            · intro w'; go_simp; with_reducible rfl
            rotate_left
            · simp only [Act.put, List.setIfInBounds_toArray, List.set_cons_zero, List.set_cons_succ, i64_w, i32_w]; rfl
            refine take_ (i := 10) (N := some 51) (v := ?_) (a' := ?_) #[true, true, true, true, true, true, true, true, true, true, true, false, false, false] rfl rfl (by kernel_rfl) (fun _ _ _ h => h) (Or.inl ⟨by rfl, ?_⟩) hHeld ?_ ?_
            rotate_left
            · rintro w' ⟨s0, s1, s2, s3, s4⟩; go_simp; with_reducible rfl
            rotate_left
            · simp only [Act.put, List.setIfInBounds_toArray, List.set_cons_zero, List.set_cons_succ, i64_w, i32_w]; rfl
            refine last_ (i := 11) (N := some 52) #[true, true, true, true, true, true, true, true, true, true, true, true, false, false] rfl rfl (by kernel_rfl) (by decide) (fun K hK => ?_)
            refine goes_ Try.func66 (by kernel_rfl) rfl #[.slice At t.length ct, .int .i64 (rd_T47 es (kk : Int)).f0] (by rfl) rfl rfl (by (try simp only [List.map_toArray, List.map_cons, List.map_nil]); first | done | rfl) ?_
            refine (slices_Contains_int_int.calls _ At ct t (rd_T47 es (kk : Int)).f0 true W2 (HT.out _ HK2.out.1) HTC.out ((impl_MostAssigned.has t HTL2.out (rd_T47 es (kk : Int)).f0).trans (congrArg some HH.out))).mono ?_
            rintro e w' ⟨rfl, ⟨nd, rfl⟩⟩
            refine ⟨_, rfl, ?_⟩
            replace HK2 := Aside0.mk (HK2.out.drewN nd)
            replace HB2 := Aside0.mk (blk_drewN HB2.out nd)
            replace HX2 := Aside0.mk (blk_drewN HX2.out nd)
            clear hHeld
            refine hK.out _ _ ?_
            clear hK K
            refine norm_ (a' := ?_) ?_ ?_
            rotate_left
            · show Act.put _ (some 52) _ = _
              simp only [Act.put, List.setIfInBounds_toArray, List.set_cons_zero, List.set_cons_succ, i64_w, i32_w]; rfl
            refine pure_ (i := 12) (N := some 53) (v := ?_) (a' := ?_) #[true, true, true, true, true, true, true, true, true, true, true, true, true, false] rfl rfl (by kernel_rfl) (fun _ _ _ h => h) (Or.inl ⟨by rfl, ?_⟩) ?_ ?_
            rotate_left
            · intro w'; go_simp; with_reducible rfl
            rotate_left
            · simp only [Act.put, List.setIfInBounds_toArray, List.set_cons_zero, List.set_cons_succ, i64_w, i32_w]; rfl
            refine pure_ (i := 13) (N := some 54) (v := ?_) (a' := ?_) #[true, true, true, true, true, true, true, true, true, true, true, true, true, true] rfl rfl (by kernel_rfl) (fun _ _ _ h => h) (Or.inl ⟨by rfl, ?_⟩) ?_ ?_
            rotate_left
            · intro w'; go_simp; with_reducible rfl
            rotate_left
            · simp only [Act.put, List.setIfInBounds_toArray, List.set_cons_zero, List.set_cons_succ, i64_w, i32_w]; rfl
            refine done_ (by kernel_rfl) ?_
            try go_wp2
            go_roundg (es.length - (kk + 1))
            case measure => omega
            case rel => exact ⟨kk + 1, by omega, by omega, by go_num, ⟨HK2.out⟩, ⟨by rw [impl_MostAssigned.fold_next es kk HKL.out, impl_MostAssigned.step_no HN.out]; exact HB2.out⟩⟩
          | false =>
            have HH := Aside0.mk hhas
            have HN := Aside0.mk (show (impl_MostAssigned.fit ls (rd_T49 ls (t.length : Int)) (rd_T47 es (kk : Int)) && !(t.any (fun q => q == (rd_T47 es (kk : Int)).f0))) = true by rw [hfit, hhas]; rfl)
            clear hfit hhas
            refine start_ (n := 14) (S := fun w' => w'.cell? (ads.add (t.length * 2)) = some (.int .i64 (rd_T49 ls (t.length : Int)).f0) ∧ w'.cell? ⟨(ads.add (t.length * 2)).block, (ads.add (t.length * 2)).off + 1, none⟩ = some (.int .i64 (rd_T49 ls (t.length : Int)).f1) ∧ w'.cell? ⟨gb, 0, none⟩ = some (.int .i64 (rd_T47 es (kk : Int)).f0) ∧ w'.cell? ⟨gb, 1, none⟩ = some (.int .i64 (rd_T47 es (kk : Int)).f1) ∧ w'.cell? ⟨gb, 2, none⟩ = some (.int .i64 (rd_T47 es (kk : Int)).f2)) (ds := [11]) #[false, false, false, false, false, false, false, false, false, false, false, false, false, false] (by kernel_rfl) rfl rfl ⟨hz0, hz1, (blk_cell (blk_drew HX.out) 0).trans rfl, (blk_cell (blk_drew HX.out) 1).trans rfl, (blk_cell (blk_drew HX.out) 2).trans rfl⟩ (fun hHeld => ?_)
            refine impl_MostAssigned.nameL (F := fun W => impl_MostAssigned.K w W Bo ∧ W.heap[Bo]? = some (.cells #[.int .i64 ((es.take kk).foldl (impl_MostAssigned.step es ls (ls.drop (t.length + 1)) t (rd_T49 ls (t.length : Int))) M1)] 3 (0, 0)) ∧ W.heap[gb]? = some (.cells #[.int .i64 (rd_T47 es (kk : Int)).f0, .int .i64 (rd_T47 es (kk : Int)).f1, .int .i64 (rd_T47 es (kk : Int)).f2] 47 (0, 0)) ∧ (W.cell? (ads.add (t.length * 2)) = some (.int .i64 (rd_T49 ls (t.length : Int)).f0) ∧ W.cell? ⟨(ads.add (t.length * 2)).block, (ads.add (t.length * 2)).off + 1, none⟩ = some (.int .i64 (rd_T49 ls (t.length : Int)).f1) ∧ W.cell? ⟨gb, 0, none⟩ = some (.int .i64 (rd_T47 es (kk : Int)).f0) ∧ W.cell? ⟨gb, 1, none⟩ = some (.int .i64 (rd_T47 es (kk : Int)).f1) ∧ W.cell? ⟨gb, 2, none⟩ = some (.int .i64 (rd_T47 es (kk : Int)).f2))) ⟨HK.out.drew, blk_drew HB.out, blk_drew HX.out, hHeld⟩ (fun W1 hF => ?_)
            clear hHeld hz0 hz1
            obtain ⟨hk1, hb1, hx1, hHeld⟩ := hF
            have HK1 := Aside0.mk hk1
            have HB1 := Aside0.mk hb1
            have HX1 := Aside0.mk hx1
            clear hk1 hb1 hx1 HK HB HX
            refine pure_ (i := 0) (N := some 41) (v := ?_) (a' := ?_) #[true, false, false, false, false, false, false, false, false, false, false, false, false, false] rfl rfl (by kernel_rfl) (fun _ _ _ h => h) (Or.inl ⟨by rfl, ?_⟩) ?_ ?_
            rotate_left
            · intro w'; go_simp; with_reducible rfl
            rotate_left
            · simp only [Act.put, List.setIfInBounds_toArray, List.set_cons_zero, List.set_cons_succ, i64_w, i32_w]; rfl
            refine pure_ (i := 1) (N := some 42) (v := ?_) (a' := ?_) #[true, true, false, false, false, false, false, false, false, false, false, false, false, false] rfl rfl (by kernel_rfl) (fun _ _ _ h => h) (Or.inl ⟨by rfl, ?_⟩) ?_ ?_
            rotate_left
            · intro w'; go_simp; with_reducible rfl
            rotate_left
            · simp only [Act.put, List.setIfInBounds_toArray, List.set_cons_zero, List.set_cons_succ, i64_w, i32_w]; rfl
            refine pure_ (i := 2) (N := some 43) (v := ?_) (a' := ?_) #[true, true, true, false, false, false, false, false, false, false, false, false, false, false] rfl rfl (by kernel_rfl) (fun _ _ _ h => h) (Or.inl ⟨by rfl, ?_⟩) ?_ ?_
            rotate_left
            · intro w'; go_simp; with_reducible rfl
            rotate_left
            · simp only [Act.put, List.setIfInBounds_toArray, List.set_cons_zero, List.set_cons_succ, i64_w, i32_w]; rfl
            refine pure_ (i := 3) (N := some 44) (v := ?_) (a' := ?_) #[true, true, true, true, false, false, false, false, false, false, false, false, false, false] rfl rfl (by kernel_rfl) (fun _ _ _ h => h) (Or.inl ⟨by rfl, ?_⟩) ?_ ?_
            rotate_left
            · intro w'; go_simp; with_reducible rfl
            rotate_left
            · simp only [Act.put, List.setIfInBounds_toArray, List.set_cons_zero, List.set_cons_succ, i64_w, i32_w]; rfl
            refine take_ (i := 4) (N := some 45) (v := ?_) (a' := ?_) #[true, true, true, true, true, false, false, false, false, false, false, false, false, false] rfl rfl (by kernel_rfl) (fun _ _ _ h => h) (Or.inl ⟨by rfl, ?_⟩) hHeld ?_ ?_
            rotate_left
            · rintro w' ⟨s0, s1, s2, s3, s4⟩; go_simp; with_reducible rfl
            rotate_left
            · simp only [Act.put, List.setIfInBounds_toArray, List.set_cons_zero, List.set_cons_succ, i64_w, i32_w]; rfl
            refine take_ (i := 5) (N := some 46) (v := ?_) (a' := ?_) #[true, true, true, true, true, true, false, false, false, false, false, false, false, false] rfl rfl (by kernel_rfl) (fun _ _ _ h => h) (Or.inl ⟨by rfl, ?_⟩) hHeld ?_ ?_
            rotate_left
            · rintro w' ⟨s0, s1, s2, s3, s4⟩; go_simp; with_reducible rfl
            rotate_left
            · simp only [Act.put, List.setIfInBounds_toArray, List.set_cons_zero, List.set_cons_succ, i64_w, i32_w]; rfl
            refine one_ (i := 6) (N := some 47) #[true, true, true, true, true, true, true, false, false, false, false, false, false, false] rfl rfl (by kernel_rfl) (by decide) (fun K hK => ?_)
            refine goes_ Try.func65 (by kernel_rfl) rfl #[.slice (some ads) ls.length cs, .agg #[.int .i64 (rd_T49 ls (t.length : Int)).f0, .int .i64 (rd_T49 ls (t.length : Int)).f1], .agg #[.int .i64 (rd_T47 es (kk : Int)).f0, .int .i64 (rd_T47 es (kk : Int)).f1, .int .i64 (rd_T47 es (kk : Int)).f2]] (by rfl) rfl rfl (by (try simp only [List.map_toArray, List.map_cons, List.map_nil]); first | done | rfl) ?_
            refine (impl_fits.calls (some ads) cs ls (rd_T49 ls (t.length : Int)).f0 (rd_T49 ls (t.length : Int)).f1 (rd_T47 es (kk : Int)).f0 (rd_T47 es (kk : Int)).f1 (rd_T47 es (kk : Int)).f2 true _ (HSI.out _ HK1.out.1) HCS.out ((impl_MostAssigned.fit_f ls (rd_T49 ls (t.length : Int)) (rd_T47 es (kk : Int))).trans (congrArg some HF.out))).mono ?_
            rintro e W2 ⟨rfl, hb⟩
            refine ⟨_, rfl, ?_⟩
            have HK2 := Aside0.mk (HK1.out.below hb)
            have HB2 := Aside0.mk (blk_below HB1.out hb)
            have HX2 := Aside0.mk (blk_below HX1.out hb)
            have hh := hHeld
            clear hHeld
            obtain ⟨h0, h1, h2, h3, h4⟩ := hh
            replace h0 := (hb.cell (World.block_lt_of_cell? _ _ h0)).trans h0
            replace h1 := (hb.cell (World.block_lt_of_cell? _ _ h1)).trans h1
            replace h2 := (hb.cell (World.block_lt_of_cell? _ _ h2)).trans h2
            replace h3 := (hb.cell (World.block_lt_of_cell? _ _ h3)).trans h3
            replace h4 := (hb.cell (World.block_lt_of_cell? _ _ h4)).trans h4
            clear hb HK1 HB1 HX1
            refine hK.out _ _ ⟨h0, h1, h2, h3, h4⟩ (fun hHeld => ?_)
            clear hK K h0 h1 h2 h3 h4
            refine norm_ (a' := ?_) ?_ ?_
            rotate_left
            · show Act.put _ (some 47) _ = _
              simp only [Act.put, List.setIfInBounds_toArray, List.set_cons_zero, List.set_cons_succ, i64_w, i32_w]; rfl
            refine pure_ (i := 7) (N := some 48) (v := ?_) (a' := ?_) #[true, true, true, true, true, true, true, true, false, false, false, false, false, false] rfl rfl (by kernel_rfl) (fun _ _ _ h => h) (Or.inl ⟨by rfl, ?_⟩) ?_ ?_
            rotate_left
            · intro w'; go_simp; with_reducible rfl
            rotate_left
            · simp only [Act.put, List.setIfInBounds_toArray, List.set_cons_zero, List.set_cons_succ, i64_w, i32_w]; rfl
            refine pure_ (i := 8) (N := some 49) (v := ?_) (a' := ?_) #[true, true, true, true, true, true, true, true, true, false, false, false, false, false] rfl rfl (by kernel_rfl) (fun _ _ _ h => h) (Or.inl ⟨by rfl, ?_⟩) ?_ ?_
            rotate_left
            · intro w'; go_simp; with_reducible rfl
            rotate_left
            · simp only [Act.put, List.setIfInBounds_toArray, List.set_cons_zero, List.set_cons_succ, i64_w, i32_w]; rfl
            refine pure_ (i := 9) (N := some 50) (v := ?_) (a' := ?_) #[true, true, true, true, true, true, true, true, true, true, false, false, false, false] rfl rfl (by kernel_rfl) (fun _ _ _ h => h) (Or.inl ⟨by rfl, ?_⟩) ?_ ?_
            rotate_left
            · intro w'; go_simp; with_reducible rfl
            rotate_left
            · simp only [Act.put, List.setIfInBounds_toArray, List.set_cons_zero, List.set_cons_succ, i64_w, i32_w]; rfl
            refine take_ (i := 10) (N := some 51) (v := ?_) (a' := ?_) #[true, true, true, true, true, true, true, true, true, true, true, false, false, false] rfl rfl (by kernel_rfl) (fun _ _ _ h => h) (Or.inl ⟨by rfl, ?_⟩) hHeld ?_ ?_
            rotate_left
            · rintro w' ⟨s0, s1, s2, s3, s4⟩; go_simp; with_reducible rfl
            rotate_left
            · simp only [Act.put, List.setIfInBounds_toArray, List.set_cons_zero, List.set_cons_succ, i64_w, i32_w]; rfl
            refine last_ (i := 11) (N := some 52) #[true, true, true, true, true, true, true, true, true, true, true, true, false, false] rfl rfl (by kernel_rfl) (by decide) (fun K hK => ?_)
            refine goes_ Try.func66 (by kernel_rfl) rfl #[.slice At t.length ct, .int .i64 (rd_T47 es (kk : Int)).f0] (by rfl) rfl rfl (by (try simp only [List.map_toArray, List.map_cons, List.map_nil]); first | done | rfl) ?_
            refine (slices_Contains_int_int.calls _ At ct t (rd_T47 es (kk : Int)).f0 false W2 (HT.out _ HK2.out.1) HTC.out ((impl_MostAssigned.has t HTL2.out (rd_T47 es (kk : Int)).f0).trans (congrArg some HH.out))).mono ?_
            rintro e w' ⟨rfl, ⟨nd, rfl⟩⟩
            refine ⟨_, rfl, ?_⟩
            replace HK2 := Aside0.mk (HK2.out.drewN nd)
            replace HB2 := Aside0.mk (blk_drewN HB2.out nd)
            replace HX2 := Aside0.mk (blk_drewN HX2.out nd)
            clear hHeld
            refine hK.out _ _ ?_
            clear hK K
            refine norm_ (a' := ?_) ?_ ?_
            rotate_left
            · show Act.put _ (some 52) _ = _
              simp only [Act.put, List.setIfInBounds_toArray, List.set_cons_zero, List.set_cons_succ, i64_w, i32_w]; rfl
            refine pure_ (i := 12) (N := some 53) (v := ?_) (a' := ?_) #[true, true, true, true, true, true, true, true, true, true, true, true, true, false] rfl rfl (by kernel_rfl) (fun _ _ _ h => h) (Or.inl ⟨by rfl, ?_⟩) ?_ ?_
            rotate_left
            · intro w'; go_simp; with_reducible rfl
            rotate_left
            · simp only [Act.put, List.setIfInBounds_toArray, List.set_cons_zero, List.set_cons_succ, i64_w, i32_w]; rfl
            refine pure_ (i := 13) (N := some 54) (v := ?_) (a' := ?_) #[true, true, true, true, true, true, true, true, true, true, true, true, true, true] rfl rfl (by kernel_rfl) (fun _ _ _ h => h) (Or.inl ⟨by rfl, ?_⟩) ?_ ?_
            rotate_left
            · intro w'; go_simp; with_reducible rfl
            rotate_left
            · simp only [Act.put, List.setIfInBounds_toArray, List.set_cons_zero, List.set_cons_succ, i64_w, i32_w]; rfl
            refine done_ (by kernel_rfl) ?_
            try go_wp2
            refine impl_MostAssigned.nameC (F := fun W => impl_MostAssigned.K w W Bo ∧ W.heap[Bo]? = some (.cells #[.int .i64 ((es.take kk).foldl (impl_MostAssigned.step es ls (ls.drop (t.length + 1)) t (rd_T49 ls (t.length : Int))) M1)] 3 (0, 0)) ∧ W.heap[gb]? = some (.cells #[.int .i64 (rd_T47 es (kk : Int)).f0, .int .i64 (rd_T47 es (kk : Int)).f1, .int .i64 (rd_T47 es (kk : Int)).f2] 47 (0, 0))) ⟨HK2.out, HB2.out, HX2.out⟩ (fun W3 hF => ?_)
            clear HK2 HB2 HX2
            obtain ⟨hk3, hb3_, hx3⟩ := hF
            have HK3 := Aside0.mk hk3
            have HB3 := Aside0.mk hb3_
            have HX3 := Aside0.mk hx3
            clear hk3 hb3_ hx3
            refine start_ (n := 12) (S := fun w' => w'.cell? ⟨gb, 0, none⟩ = some (.int .i64 (rd_T47 es (kk : Int)).f0)) (ds := [8, 9, 11]) #[false, false, false, false, false, false, false, false, false, false, false, false] (by kernel_rfl) rfl rfl ((blk_cell (blk_drew HX3.out) 0).trans rfl) (fun hHeld => ?_)
            refine impl_MostAssigned.nameL (F := fun W => impl_MostAssigned.K w W Bo ∧ W.heap[Bo]? = some (.cells #[.int .i64 ((es.take kk).foldl (impl_MostAssigned.step es ls (ls.drop (t.length + 1)) t (rd_T49 ls (t.length : Int))) M1)] 3 (0, 0)) ∧ (W.cell? ⟨gb, 0, none⟩ = some (.int .i64 (rd_T47 es (kk : Int)).f0))) ⟨HK3.out.drew, blk_drew HB3.out, hHeld⟩ (fun W1 hF => ?_)
            clear hHeld
            obtain ⟨hk1, hb1, hHeld⟩ := hF
            have HK1 := Aside0.mk hk1
            have HB1 := Aside0.mk hb1
            clear hk1 hb1
            refine pure_ (i := 0) (N := some 55) (v := ?_) (a' := ?_) #[true, false, false, false, false, false, false, false, false, false, false, false] rfl rfl (by kernel_rfl) (fun _ _ _ h => h) (Or.inl ⟨by rfl, ?_⟩) ?_ ?_
            rotate_left
            · intro w'; go_simp; with_reducible rfl
            rotate_left
            · simp only [Act.put, List.setIfInBounds_toArray, List.set_cons_zero, List.set_cons_succ, i64_w, i32_w]; rfl
            refine pure_ (i := 1) (N := some 56) (v := ?_) (a' := ?_) #[true, true, false, false, false, false, false, false, false, false, false, false] rfl rfl (by kernel_rfl) (fun _ _ _ h => h) (Or.inl ⟨by rfl, ?_⟩) ?_ ?_
            rotate_left
            · intro w'; go_simp; with_reducible rfl
            rotate_left
            · simp only [Act.put, List.setIfInBounds_toArray, List.set_cons_zero, List.set_cons_succ, i64_w, i32_w]; rfl
            refine pure_ (i := 2) (N := some 57) (v := ?_) (a' := ?_) #[true, true, true, false, false, false, false, false, false, false, false, false] rfl rfl (by kernel_rfl) (fun _ _ _ h => h) (Or.inl ⟨by rfl, ?_⟩) ?_ ?_
            rotate_left
            · intro w'; go_simp; with_reducible rfl
            rotate_left
            · simp only [Act.put, List.setIfInBounds_toArray, List.set_cons_zero, List.set_cons_succ, i64_w, i32_w]; rfl
            refine pure_ (i := 3) (N := some 58) (v := ?_) (a' := ?_) #[true, true, true, true, false, false, false, false, false, false, false, false] rfl rfl (by kernel_rfl) (fun _ _ _ h => h) (Or.inl ⟨by rfl, ?_⟩) ?_ ?_
            rotate_left
            · intro w'; go_simp; with_reducible rfl
            rotate_left
            · simp only [Act.put, List.setIfInBounds_toArray, List.set_cons_zero, List.set_cons_succ, i64_w, i32_w]; rfl
            refine pure_ (i := 4) (N := some 59) (v := ?_) (a' := ?_) #[true, true, true, true, true, false, false, false, false, false, false, false] rfl rfl (by kernel_rfl) (fun _ _ _ h => h) (Or.inl ⟨by rfl, ?_⟩) ?_ ?_
            rotate_left
            · intro w'; go_simp; with_reducible rfl
            rotate_left
            · simp only [Act.put, List.setIfInBounds_toArray, List.set_cons_zero, List.set_cons_succ, i64_w, i32_w]; rfl
            refine pure_ (i := 5) (N := some 60) (v := ?_) (a' := ?_) #[true, true, true, true, true, true, false, false, false, false, false, false] rfl rfl (by kernel_rfl) (fun _ _ _ h => h) (Or.inl ⟨by rfl, ?_⟩) ?_ ?_
            rotate_left
            · intro w'; go_simp; with_reducible rfl
            rotate_left
            · simp only [Act.put, List.setIfInBounds_toArray, List.set_cons_zero, List.set_cons_succ, i64_w, i32_w]; rfl
            refine pure_ (i := 6) (N := some 61) (v := ?_) (a' := ?_) #[true, true, true, true, true, true, true, false, false, false, false, false] rfl rfl (by kernel_rfl) (fun _ _ _ h => h) (Or.inl ⟨by rfl, ?_⟩) ?_ ?_
            rotate_left
            · intro w'; go_simp; with_reducible rfl
            rotate_left
            · simp only [Act.put, List.setIfInBounds_toArray, List.set_cons_zero, List.set_cons_succ, i64_w, i32_w]; rfl
            refine pure_ (i := 10) (N := some 65) (v := ?_) (a' := ?_) #[true, true, true, true, true, true, true, false, false, false, true, false] rfl rfl (by kernel_rfl) (fun _ _ _ h => h) (Or.inl ⟨by rfl, ?_⟩) ?_ ?_
            rotate_left
            · intro w'; go_simp; with_reducible rfl
            rotate_left
            · simp only [Act.put, List.setIfInBounds_toArray, List.set_cons_zero, List.set_cons_succ, i64_w, i32_w]; rfl
            refine take_ (i := 7) (N := some 62) (v := ?_) (a' := ?_) #[true, true, true, true, true, true, true, true, false, false, true, false] rfl rfl (by kernel_rfl) (fun _ _ _ h => h) (Or.inl ⟨by rfl, ?_⟩) hHeld ?_ ?_
            rotate_left
            · rintro w' s0; go_simp; with_reducible rfl
            rotate_left
            · simp only [Act.put, List.setIfInBounds_toArray, List.set_cons_zero, List.set_cons_succ, i64_w, i32_w]; rfl
            refine last_ (i := 8) (N := some 63) #[true, true, true, true, true, true, true, true, true, false, true, false] rfl rfl (by kernel_rfl) (by decide) (fun K hK => ?_)
            refine value_ (w1 := ?_) (v := ?_) (by rfl) rfl ?_ ?_
            rotate_left 2
            · go_simp
              constructor
              · rfl
              · rfl
            refine hK.out _ _ ?_
            clear hK K
            refine norm_ (a' := ?_) ?_ ?_
            rotate_left
            · show Act.put _ (some 63) _ = _
              simp only [Act.put, List.setIfInBounds_toArray, List.set_cons_zero, List.set_cons_succ, i64_w, i32_w]; rfl
            refine last_ (i := 9) (N := some 64) #[true, true, true, true, true, true, true, true, true, true, true, false] rfl rfl (by kernel_rfl) (by decide) (fun K hK => ?_)
            refine step_append_grows rfl _ _ 36 rfl 3 i0 (.int .i64 0) 1 8 Try.underlying36 hi3 hz3 hs3 hb3 rfl (by decide) At t.length t.length (t.map (Value.int .i64)) (by rfl) (fun e_ => ⟨HAN.out e_, HAN.out e_⟩) (by simp) (impl_MostAssigned.olds (HT.out _ (keep_alloc HK1.out.1 _))) ⟨W1.heap.size, 0, none⟩ 1 1 [.int .i64 (rd_T47 es (kk : Int)).f0] (by rfl) rfl (impl_MostAssigned.newc W1 _) (by simp [Value.oneCell']) (by omega) (by unfold maxLen; have := HTL.out; omega) (by have := HTL.out; omega) ?_
            intro v' w4 hown hgrow
            have hK4 : impl_MostAssigned.K w w4 Bo := (HK1.out.alloc _).grown hgrow
            have hB4 : w4.heap[Bo]? = some (.cells #[.int .i64 ((es.take kk).foldl (impl_MostAssigned.step es ls (ls.drop (t.length + 1)) t (rd_T49 ls (t.length : Int))) M1)] 3 (0, 0)) := (KeepBut.of_grown hgrow Bs).blk (blk_alloc HB1.out _) (Ne.symm HNE.out) (by simp)
            have hS4 := hK4.1.blk HBs.out HNE.out (by simp)
            obtain ⟨A', c', rfl, hlc, hT4⟩ := impl_MostAssigned.grown (g := Bo) t ((rd_T47 es (kk : Int)).f0) hown (impl_MostAssigned.away HB1.out)
            have HK4 := Aside0.mk hK4
            have HB4 := Aside0.mk hB4
            have HS4 := Aside0.mk hS4
            have HT4 := Aside0.mk hT4
            have HLC := Aside0.mk hlc
            clear hK4 hB4 hS4 hT4 hlc hown hgrow
            refine hK.out _ _ ?_
            clear hK K
            refine norm_ (a' := ?_) ?_ ?_
            rotate_left
            · show Act.put _ (some 64) _ = _
              simp only [Act.put, List.setIfInBounds_toArray, List.set_cons_zero, List.set_cons_succ, i64_w, i32_w]; rfl
            refine last_ (i := 11) (N := some 66) #[true, true, true, true, true, true, true, true, true, true, true, true] rfl rfl (by kernel_rfl) (by decide) (fun K hK => ?_)
            refine goes_ Try.func68 (by kernel_rfl) rfl #[.slice (some ade) es.length ce, .slice (some ads) ls.length cs, .slice A' (t ++ [(rd_T47 es (kk : Int)).f0]).length c', .func (.func 69) #[] #[.pointer (some ⟨Bo, 0, none⟩), .pointer (some ⟨Bs, 0, none⟩)]] (by rfl) rfl rfl (by (try simp only [List.map_toArray, List.map_cons, List.map_nil]); first | done | rfl) ?_
            refine (IH.out (t ++ [(rd_T47 es (kk : Int)).f0]) A' c' (((es.take kk).foldl (impl_MostAssigned.step es ls (ls.drop (t.length + 1)) t (rd_T49 ls (t.length : Int))) M1)) w4 (by simp; have := HD.out; omega) (fun W hk => HE.out W (HK4.out.1.trans hk (.inl rfl))) (fun W hk => HSI.out W (HK4.out.1.trans hk (.inl rfl))) HT4.out HLC.out HB4.out HS4.out).mono ?_
            rintro e w5 ⟨rfl, hb5, hk5⟩
            refine ⟨_, rfl, ?_⟩
            have HK5 := Aside0.mk (HK4.out.trans hk5)
            rw [show (t ++ [(rd_T47 es (kk : Int)).f0]).length = t.length + 1 by simp] at hb5
            have HB5 := Aside0.mk hb5
            clear hb5 hk5 HK4 HB4 HS4 HT4 HLC HK1 HB1
            refine hK.out _ _ ?_
            clear hK K
            refine norm_ (a' := ?_) ?_ ?_
            rotate_left
            · show Act.put _ (some 66) _ = _
              simp only [Act.put, List.setIfInBounds_toArray, List.set_cons_zero, List.set_cons_succ, i64_w, i32_w]; rfl
            refine done_ (by kernel_rfl) ?_
            try go_wp2
            go_roundg (es.length - (kk + 1))
            case measure => omega
            case rel => exact ⟨kk + 1, by omega, by omega, by go_num, ⟨HK5.out⟩, ⟨by rw [impl_MostAssigned.fold_next es kk HKL.out, impl_MostAssigned.step_yes HN.out]; exact HB5.out⟩⟩
      · obtain rfl : kk = es.length := by omega
        rw [List.take_length] at HB
        try go_wp2
        first | go_end0 | ((try simp only [Exit.inBlock, Exit.then]); refine bodyPost_ret (results_none rfl _ _ _) rfl ?_)
        exact ⟨rfl, HB.out, HK.out⟩
def impl_MostAssigned.f (k : Nat) (l0 : List S47) (l1 : List S49) : Option Int := (impl_areSights.f k l0 l1).bind fun b => if b = true then (if l0.length ≤ 100 ∧ l1.length ≤ 100 then some (impl_MostAssigned.wy l0 l1 l1 [] 0) else none) else some (-1)
theorem impl_MostAssigned.mono : ∀ a0 a1 k, LeO (impl_MostAssigned.f k a0 a1) (impl_MostAssigned.f (k + 1) a0 a1) := fun a0 a1 k => LeO.bind (impl_areSights.mono a0 a1 k) (fun _ => LeO.refl _)
set_option maxHeartbeats 2000000 in
set_option maxRecDepth 100000 in
theorem impl_MostAssigned.calls (k : Nat) (A0 : Option Addr) (c0 : Nat) (l0 : List S47) (A1 : Option Addr) (c1 : Nat) (l1 : List S49) (r : Int) (w : World) (hr0 : Kd.C k47 w A0 l0.length l0) (hc0 : l0.length ≤ c0) (hr1 : Kd.C k49 w A1 l1.length l1) (hc1 : l1.length ≤ c1) (h : impl_MostAssigned.f k l0 l1 = some r) :
    Calls Try.prog 33 #[.slice A0 l0.length c0, .slice A1 l1.length c1] w fun e w' => e = .returned (.int .i64 r) ∧ Below w.heap.size w w' := by
  obtain ⟨b, hA, h⟩ := Option.bind_eq_some_iff.mp h
  have hb1 : Below w.heap.size w (w.alloc (.cells #[.slice A1 l1.length c1] 32 (0, 0))) := (Below.refl _ _).alloc (Nat.le_refl _) _
  have hcall : Calls Try.prog 64 #[.slice A0 l0.length c0, .slice A1 l1.length c1] (w.alloc (.cells #[.slice A1 l1.length c1] 32 (0, 0))) fun e w' => e = .returned (.bool b) ∧ Below w.heap.size w w' ∧ w.heap.size < w'.heap.size ∧ w'.heap[w.heap.size]? = some (.cells #[.slice A1 l1.length c1] 32 (0, 0)) := by
    refine (impl_areSights.calls k A0 c0 l0 A1 c1 l1 b _ (Kd.C_below hr0 hb1) hc0 (Kd.C_below hr1 hb1) hc1 hA).mono ?_
    rintro e w' ⟨rfl, hb⟩
    have hs := blk_below (heap_alloc_new w (.cells #[.slice A1 l1.length c1] 32 (0, 0))) hb
    exact ⟨rfl, below_step hb1 hb, blk_lt hs, hs⟩
  cases b with
  | false =>
    rw [if_neg (by decide)] at h
    obtain rfl := Option.some.inj h
    clear hr0 hc0 hr1 hc1 hA h hb1
    go_enter Try.func33, Try.ntmps33
    go_wp2_with (go_at_call 64; refine hcall.mono ?_; rintro e w2 ⟨rfl, hb, hlt, hs⟩)
    go_ret
    exact ⟨rfl, hb⟩
  | true =>
    rw [if_pos rfl] at h
    split at h
    · rename_i hlen
      obtain rfl := Option.some.inj h
      have hways : ∀ w2, Below w.heap.size w w2 → w.heap.size < w2.heap.size → w2.heap[w.heap.size]? = some (.cells #[.slice A1 l1.length c1] 32 (0, 0)) → Calls Try.prog 68 #[.slice A0 l0.length c0, .slice A1 l1.length c1, .slice none 0 0, .func (.func 69) #[] #[.pointer (some ⟨w2.heap.size, 0, none⟩), .pointer (some ⟨w.heap.size, 0, none⟩)]] (w2.alloc (.cells #[.int .i64 0] 3 (0, 0))) fun e w' => e = .returned (.tuple #[]) ∧ w'.cell? ⟨w2.heap.size, 0, none⟩ = some (.int .i64 (impl_MostAssigned.wy l0 l1 l1 [] 0)) ∧ impl_MostAssigned.K (w2.alloc (.cells #[.int .i64 0] 3 (0, 0))) w' w2.heap.size := by
        intro w2 hb hlt hs
        have hb3 : Below w.heap.size w (w2.alloc (.cells #[.int .i64 0] 3 (0, 0))) := below_alloc hb _
        have far : ∀ {α : Type} {d : Kd α} {A : Option Addr} {n : Nat} {xs : List α}, 0 < d.sz → Kd.C d w A n xs → ∀ ad, A = some ad → 0 < n → ad.block ≠ w2.heap.size := by
          intro α d A n xs hz hC ad he hn
          subst he
          have := Kd.C_lt hC hn hz
          omega
        refine (impl_MostAssigned.ways l0 l1 c0 c1 w2.heap.size w.heap.size hlen.1 hlen.2 hc0 hc1 (by omega) l1.length A0 A1 [] none 0 0 _ (by simp) (Kd.C_foot_ne (fun h => h) (Kd.C_below hr0 hb3) (far (by decide) hr0)) (Kd.C_foot_ne (fun h => h) (Kd.C_below hr1 hb3) (far (by decide) hr1)) (fun W _ => Kd.C_nil _ _) (Nat.le_refl _) (heap_alloc_new w2 _) (blk_alloc hs _)).mono ?_
        rintro e w' ⟨rfl, h1, h2⟩
        exact ⟨rfl, (blk_cell h1 0).trans rfl, h2⟩
      clear hr0 hc0 hr1 hc1 hA h hb1
      go_enter Try.func33, Try.ntmps33
      go_wp2_with (first | (go_at_call 64; refine hcall.mono ?_; rintro e w2 ⟨rfl, hb, hlt, hs⟩; have hcs : w2.cell? ⟨w.heap.size, 0, none⟩ = some (.slice A1 l1.length c1) := (blk_cell hs 0).trans rfl) | (go_at_call 68; refine (hways w2 hb hlt hs).mono ?_; rintro e w5 ⟨rfl, hc5, hk5⟩))
      go_ret
      refine ⟨rfl, ?_⟩
      have hb3 : Below w.heap.size w (w2.alloc (.cells #[.int .i64 0] 3 (0, 0))) := below_alloc hb _
      exact ⟨hk5.2.1.trans hb3.os, hk5.2.2.1.trans hb3.tape, hk5.2.2.2.trans hb3.output, Nat.le_trans hb3.size hk5.1.1, fun i hi => (hk5.1.2 i (by have := hb3.size; omega) (by omega) (by simp)).trans (hb3.block i hi)⟩
    · cases h

end Go.Proofs.Ytnnimbbffbfhoaa.PFnAssigned
