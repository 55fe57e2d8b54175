/- For every slice of bytes the law FnFieldsAgain returns true (its printed function does): the fields of a line, joined by single spaces, have the same fields. -/
import Derived.Test.YtkfolpcmehmmlaaDoorPFnFieldsAgainx4
import Derived.Test.YtkfolpcmehmmlaaDoorKit
namespace Go.Proofs.YtkfolpcmehmmlaaDoor.Pure
open Go.RowKit Go.Proofs.YtkfolpcmehmmlaaDoor.PFnFieldsAgain Go.Proofs.YtkfolpcmehmmlaaDoorW.PrintWords Go.Proofs.YtkfolpcmehmmlaaDoorW.PrintLast Go.Proofs.YtkfolpcmehmmlaaDoorW.PrintMore Go.Proofs.YtkfolpcmehmmlaaDoor.Kit
set_option linter.unusedVariables false
set_option linter.unusedSimpArgs false

/-- The fields from a byte on: d bytes and the end are left. -/
def splitM (s : ByteArray) : Nat → List ByteArray → Nat → Nat → List ByteArray × Bool
  | 0, acc, a, i =>
    let acc' := if a < i then acc ++ [s.extract a i] else acc
    if (acc'.length : Int) > 24 then ([], false) else (acc', true)
  | d + 1, acc, a, i =>
    if bt s i < 32 ∨ bt s i > 126 then ([], false)
    else if bt s i ≠ 32 then splitM s d acc a (i + 1)
    else splitM s d (if a < i then acc ++ [s.extract a i] else acc) (i + 1) (i + 1)
theorem split_same : ∀ k, (∀ s acc a i, spec_SplitFields.l0 k s acc a i = impl_SplitFields.l0 k s acc a i) ∧ (∀ s acc a i x, spec_SplitFields.j1 k s acc a i x = impl_SplitFields.j1 k s acc a i x) ∧ (∀ s acc a i x, spec_SplitFields.j2 k s acc a i x = impl_SplitFields.j2 k s acc a i x)
  | 0 => ⟨fun _ _ _ _ => rfl, fun _ _ _ _ _ => rfl, fun _ _ _ _ _ => rfl⟩
  | k + 1 => by
    obtain ⟨h0, h1, h2⟩ := split_same k
    refine ⟨fun s acc a i => ?_, fun s acc a i x => ?_, fun s acc a i x => ?_⟩
    · rw [spec_SplitFields.l0, impl_SplitFields.l0]; simp only [h0, h1, h2]
    · rw [spec_SplitFields.j1, impl_SplitFields.j1]; simp only [h0, h1, h2]
    · rw [spec_SplitFields.j2, impl_SplitFields.j2]; simp only [h0, h1, h2, gt_iff_lt]
theorem split_loop (s : ByteArray) (hs : s.size ≤ 600) (d : Nat) : ∀ (i a : Nat) (acc : List ByteArray), i + d = s.size → a ≤ i → acc.length ≤ i →
    Ev (fun k => impl_SplitFields.l0 k s acc a i) (splitM s d acc a i) := by
  induction d with
  | zero =>
    intro i a acc hi ha hl
    refine Ev.step (fun k => by rw [impl_SplitFields.l0, if_pos (show (i : Int) ≤ (s.size : Int) by omega), if_neg (show ¬ (i : Int) < (s.size : Int) by omega)]) ?_
    refine Ev.step (fun k => by rw [impl_SplitFields.j1, if_neg (by decide), if_neg (show ¬ (i : Int) < (s.size : Int) by omega)]) ?_
    refine Ev.step (fun k => by rw [impl_SplitFields.j2, if_neg (by decide)]) ?_
    have e1 : wrap64 ((i : Int) + 1) = ((i + 1 : Nat) : Int) := w64 (by omega) (by omega)
    have fin : ∀ (acc' : List ByteArray) (b : Int), Ev (fun k => impl_SplitFields.l0 k s acc' b ((i + 1 : Nat) : Int)) (if (acc'.length : Int) > 24 then ([], false) else (acc', true)) := by
      intro acc' b
      refine Ev.step (fun k => by rw [impl_SplitFields.l0, if_neg (show ¬ ((i + 1 : Nat) : Int) ≤ (s.size : Int) by omega)]) ?_
      split
      · exact Ev.now _
      · exact Ev.now _
    simp only [e1, splitM]
    by_cases h : a < i
    · simp only [if_pos (show (i : Int) > (a : Int) by omega), if_pos (show (0 : Int) ≤ (a : Int) by omega), if_pos (show (a : Int) ≤ (i : Int) by omega), if_pos (show (i : Int) ≤ (s.size : Int) by omega), if_pos (show acc.length < 8796093022208 by omega), if_pos h, Int.toNat_natCast]
      exact fin _ _
    · simp only [if_neg (show ¬ (i : Int) > (a : Int) by omega), if_neg h]
      exact fin _ _
  | succ d ih =>
    intro i a acc hi ha hl
    have e1 : wrap64 ((i : Int) + 1) = ((i + 1 : Nat) : Int) := w64 (by omega) (by omega)
    refine Ev.step (fun k => by rw [impl_SplitFields.l0, if_pos (show (i : Int) ≤ (s.size : Int) by omega), if_pos (show (i : Int) < (s.size : Int) by omega), if_pos (show (0 : Int) ≤ (i : Int) by omega)]) ?_
    by_cases c1 : bt s i < 32
    · simp only [if_pos c1, splitM, if_pos (show bt s i < 32 ∨ bt s i > 126 from .inl c1)]
      exact Ev.step (fun k => by rw [impl_SplitFields.j1, if_pos rfl]) (Ev.now _)
    · by_cases c2 : bt s i > 126
      · have e : decide (bt s i > 126) = true := decide_eq_true c2
        simp only [if_neg c1, e, splitM, if_pos (show bt s i < 32 ∨ bt s i > 126 from .inr c2)]
        exact Ev.step (fun k => by rw [impl_SplitFields.j1, if_pos rfl]) (Ev.now _)
      · have e : decide (bt s i > 126) = false := decide_eq_false c2
        simp only [if_neg c1, e, splitM, if_neg (show ¬ (bt s i < 32 ∨ bt s i > 126) by omega)]
        refine Ev.step (fun k => by rw [impl_SplitFields.j1, if_neg (by decide), if_pos (show (i : Int) < (s.size : Int) by omega), if_pos (show (0 : Int) ≤ (i : Int) by omega)]) ?_
        by_cases c3 : bt s i = 32
        · have e' : (bt s i != 32) = false := by simp [c3]
          simp only [e', if_neg (show ¬ (bt s i ≠ 32) by omega)]
          refine Ev.step (fun k => by rw [impl_SplitFields.j2, if_neg (by decide)]) ?_
          by_cases h : a < i
          · simp only [if_pos (show (i : Int) > (a : Int) by omega), if_pos (show (0 : Int) ≤ (a : Int) by omega), if_pos (show (a : Int) ≤ (i : Int) by omega), if_pos (show (i : Int) ≤ (s.size : Int) by omega), if_pos (show acc.length < 8796093022208 by omega), if_pos h, Int.toNat_natCast, e1]
            exact ih (i + 1) (i + 1) _ (by omega) (by omega) (by simp only [List.length_append, List.length_cons, List.length_nil]; omega)
          · simp only [if_neg (show ¬ (i : Int) > (a : Int) by omega), if_neg h, e1]
            exact ih (i + 1) (i + 1) _ (by omega) (by omega) (by omega)
        · have e' : (bt s i != 32) = true := by simp [c3]
          simp only [e', if_pos (show (bt s i ≠ 32) from c3)]
          refine Ev.step (fun k => by rw [impl_SplitFields.j2, if_pos rfl, e1]) ?_
          exact ih (i + 1) a _ (by omega) (by omega) (by omega)
/-- What SplitFields returns. -/
def splitR (s : ByteArray) : List ByteArray × Bool := if (s.size : Int) > 600 then ([], false) else splitM s s.size [] 0 0
theorem impl_split_ev (s : ByteArray) : Ev (fun k => impl_SplitFields.f k s) (splitR s) := by
  unfold impl_SplitFields.f splitR
  by_cases h : (s.size : Int) > 600
  · simp only [if_pos h]; exact Ev.now _
  · simp only [if_neg h]
    exact split_loop s (by omega) s.size 0 0 [] (by omega) (by omega) (by simp)
theorem spec_split_ev (s : ByteArray) : Ev (fun k => spec_SplitFields.f k s) (splitR s) := by
  refine ev_same (fun k => ?_) (impl_split_ev s)
  unfold spec_SplitFields.f impl_SplitFields.f
  simp only [Option.bind_some]
  rw [(split_same k).1]
theorem splitM_len (s : ByteArray) (d : Nat) : ∀ acc a i, ((splitM s d acc a i).1.length : Int) ≤ 24 := by
  induction d with
  | zero =>
    intro acc a i
    have e : splitM s 0 acc a i = (if ((if a < i then acc ++ [s.extract a i] else acc).length : Int) > 24 then ([], false) else ((if a < i then acc ++ [s.extract a i] else acc), true)) := rfl
    rw [e]
    generalize (if a < i then acc ++ [s.extract a i] else acc) = x
    by_cases h : (x.length : Int) > 24
    · rw [if_pos h]; simp
    · rw [if_neg h]; simp only; omega
  | succ d ih =>
    intro acc a i
    simp only [splitM]
    split
    · simp
    · split
      · exact ih _ _ _
      · exact ih _ _ _
theorem splitR_len (s : ByteArray) : ((splitR s).1.length : Int) ≤ 24 := by
  unfold splitR
  split
  · simp
  · exact splitM_len s _ _ _ _
/-- A string of these bytes. -/
def mkB (l : List UInt8) : ByteArray := ⟨l.toArray⟩
theorem mkB_append (a b : List UInt8) : mkB a ++ mkB b = mkB (a ++ b) := by
  apply ByteArray.ext
  rw [ByteArray.data_append]
  simp [mkB]
theorem mkB_size (l : List UInt8) : (mkB l).size = l.length := by simp [mkB, ByteArray.size]
theorem mkB_nums (l : List Int) : strOfNums l = mkB (l.map fun n => UInt8.ofNat n.toNat) := by simp [mkB, strOfNums]
theorem mkB_list (l : List UInt8) : (mkB l).toList = l := by rw [ByteArray.toList_eq]; simp [mkB]
theorem impl_fmt (n : Int) (h0 : -9223372036854775808 ≤ n) (h1 : n ≤ 9223372036854775807) : impl_FormatInt.f n = some (mkB (Go.Lib.itoa n)) := by
  unfold impl_FormatInt.f strconv_Itoa.f
  rw [if_pos ⟨h0, h1⟩]; rfl
theorem byte_ok (b : List Int) (i h : Int) (hi : 0 ≤ i) (hb : b.length ≤ 140737488351232) :
    ∃ x i' h', spec_l01Byte.f b i h = some (x, i', h') ∧ 0 ≤ x ∧ x ≤ 255 ∧ 0 ≤ i' := by
  unfold spec_l01Byte.f
  by_cases h1 : i < (b.length : Int)
  · rw [if_pos h1, if_pos hi]
    refine ⟨_, _, _, rfl, (mask255 _).1, (mask255 _).2, ?_⟩
    rw [w64 (by omega) (by omega)]; omega
  · rw [if_neg h1]
    exact ⟨_, _, _, rfl, (mask255 _).1, (mask255 _).2, hi⟩
theorem below_ok (b : List Int) (i h n : Int) (hi : 0 ≤ i) (hb : b.length ≤ 140737488351232) :
    ∃ x i' h', spec_l01Below.f b i h n = some (x, i', h') ∧ (n ≤ 0 → x = 0) ∧ (0 < n → 0 ≤ x ∧ x < n) ∧ 0 ≤ i' := by
  unfold spec_l01Below.f
  by_cases h0 : n ≤ 0
  · rw [if_pos h0]
    exact ⟨_, _, _, rfl, fun _ => rfl, fun hn => by omega, hi⟩
  · rw [if_neg h0]
    by_cases h1 : n ≤ 256
    · rw [if_pos h1]
      obtain ⟨x, i', h', e, hx0, hx1, hi'⟩ := byte_ok b i h hi hb
      rw [e, Option.bind_some]
      simp only [if_neg (show ¬ n = 0 by omega)]
      have hm := Int.tmod_eq_emod_of_nonneg (b := n) hx0
      have := Int.emod_nonneg x (show n ≠ 0 by omega)
      have := Int.emod_lt_of_pos x (show 0 < n by omega)
      exact ⟨_, _, _, rfl, fun hn => by omega, fun _ => by rw [hm]; omega, hi'⟩
    · rw [if_neg h1]
      obtain ⟨x, i1, g1, e1, hx0, hx1, hi1⟩ := byte_ok b i h hi hb
      obtain ⟨y, i2, g2, e2, hy0, hy1, hi2⟩ := byte_ok b i1 g1 hi1 hb
      obtain ⟨z, i3, g3, e3, hz0, hz1, hi3⟩ := byte_ok b i2 g2 hi2 hb
      obtain ⟨v, i4, g4, e4, hv0, hv1, hi4⟩ := byte_ok b i3 g3 hi3 hb
      simp only [e1, e2, e3, e4, Option.bind_some, if_neg (show ¬ n = 0 by omega)]
      have w1 : wrap64 (x * 16777216) = x * 16777216 := w64 (by omega) (by omega)
      have w2 : wrap64 (y * 65536) = y * 65536 := w64 (by omega) (by omega)
      have w3 : wrap64 (z * 256) = z * 256 := w64 (by omega) (by omega)
      have w4 : wrap64 (x * 16777216 + y * 65536) = x * 16777216 + y * 65536 := w64 (by omega) (by omega)
      have w5 : wrap64 (x * 16777216 + y * 65536 + z * 256) = x * 16777216 + y * 65536 + z * 256 := w64 (by omega) (by omega)
      have w6 : wrap64 (x * 16777216 + y * 65536 + z * 256 + v) = x * 16777216 + y * 65536 + z * 256 + v := w64 (by omega) (by omega)
      rw [w1, w2, w3, w4, w5, w6]
      have hm := Int.tmod_eq_emod_of_nonneg (a := x * 16777216 + y * 65536 + z * 256 + v) (b := n) (by omega)
      have := Int.emod_nonneg (x * 16777216 + y * 65536 + z * 256 + v) (show n ≠ 0 by omega)
      have := Int.emod_lt_of_pos (x * 16777216 + y * 65536 + z * 256 + v) (show 0 < n by omega)
      exact ⟨_, _, _, rfl, fun hn => by omega, fun _ => by rw [hm]; omega, hi4⟩
theorem new_loop (b : List Int) (hb : b.length ≤ 140737488351232) (d : Nat) : ∀ (i : Nat) (h : Int), i + d = b.length → ∃ h', Ev (fun k => spec_l01New.l0 k b h i) (b, 0, h') := by
  induction d with
  | zero =>
    intro i h hi
    exact ⟨h, Ev.step (f := fun _ => some (b, 0, h)) (fun k => by rw [spec_l01New.l0, if_neg (by omega)]) (Ev.now _)⟩
  | succ d ih =>
    intro i h hi
    by_cases h4 : (i : Int) < 4000
    · obtain ⟨h', hev⟩ := ih (i + 1) (Go.bits .and .i64 (wrap64 ((wrap64 ((wrap64 (h * 131)) + (wrap64 (rd b i)))) + 7)) 1073741823) (by omega)
      refine ⟨h', Ev.step (fun k => ?_) hev⟩
      have e : wrap64 ((i : Int) + 1) = ((i + 1 : Nat) : Int) := w64 (by omega) (by omega)
      rw [spec_l01New.l0, if_pos (by omega), if_pos h4, if_pos (by omega), e]
    · exact ⟨h, Ev.step (f := fun _ => some (b, 0, h)) (fun k => by rw [spec_l01New.l0, if_pos (by omega), if_neg h4]) (Ev.now _)⟩
theorem new_ok (b : List Int) (hb : b.length ≤ 140737488351232) : ∃ h', Ev (fun k => spec_l01New.f k b) (b, 0, h') := by
  unfold spec_l01New.f
  exact new_loop b hb b.length 0 _ (by omega)
theorem once_ok (b : List Int) (i h n : Int) (hi : 0 ≤ i) (hb : b.length ≤ 140737488351232) :
    ∃ (x : Bool) (i' h' : Int), spec_l01Once.f b i h n = some (x, i', h') ∧ 0 ≤ i' := by
  unfold spec_l01Once.f
  obtain ⟨x, i1, h1, e1, _, _, hi1⟩ := below_ok b i h n hi hb
  rw [e1, Option.bind_some]
  exact ⟨_, _, _, rfl, hi1⟩
theorem long_loop (n x : Int) (hn : n ≤ 100000) (d : Nat) : ∀ (i : Nat) (l : List Int), (i : Int) + d = n → (l.length : Int) = n → ∃ l' : List Int, Ev (fun k => spec_l01Long.l0 k n x l i) (strOfNums l') ∧ (l'.length : Int) = n ∧ ∀ P : Int → Prop, P x → (∀ (j : Nat) y, j < i → l[j]? = some y → P y) → ∀ y ∈ l', P y := by
  induction d with
  | zero =>
    intro i l hi hl
    refine ⟨l, Ev.step (f := fun _ => some (strOfNums l)) (fun k => by rw [spec_l01Long.l0, if_neg (by omega)]) (Ev.now _), hl, fun P _ hP y hy => ?_⟩
    obtain ⟨j, hj⟩ := List.getElem?_of_mem hy
    exact hP j y (by have := (List.getElem?_eq_some_iff.1 hj).1; omega) hj
  | succ d ih =>
    intro i l hi hl
    have e1 : wrap64 ((i : Int) + 1) = ((i + 1 : Nat) : Int) := w64 (by omega) (by omega)
    obtain ⟨l', h1, h2, h3⟩ := ih (i + 1) (l.set i x) (by omega) (by rw [List.length_set]; exact hl)
    refine ⟨l', Ev.step (fun k => by rw [spec_l01Long.l0, if_pos (by omega), if_pos (by omega), if_pos (by omega), Int.toNat_natCast, e1]) h1, h2, fun P hx hP => h3 P hx (fun j y hj hy => ?_)⟩
    by_cases c : j = i
    · subst c; rw [List.getElem?_set_self (by omega)] at hy; obtain rfl := Option.some.inj hy; exact hx
    · rw [List.getElem?_set_ne (Ne.symm c)] at hy; exact hP j y (by omega) hy
theorem long_ok (n x : Int) (h0 : 0 ≤ n) (hn : n ≤ 100000) : ∃ l : List Int, Ev (fun k => spec_l01Long.f k n x) (strOfNums l) ∧ (l.length : Int) = n ∧ ∀ y ∈ l, y = x := by
  unfold spec_l01Long.f
  simp only [if_pos h0, if_pos (show n.toNat ≤ 281474976710656 by omega)]
  obtain ⟨l, h1, h2, h3⟩ := long_loop n x hn n.toNat 0 (List.replicate n.toNat 0) (by omega) (by rw [List.length_replicate]; omega)
  exact ⟨l, h1, h2, h3 (fun y => y = x) rfl (fun j y hj => by omega)⟩
theorem strOf_size (l : List Int) : (strOfNums l).size = l.length := by simp [strOfNums, ByteArray.size]
theorem pick_ok (b : List Int) (i h : Int) (l : List ByteArray) (hl : 0 < l.length) (hi : 0 ≤ i) (hb : b.length ≤ 140737488351232) : ∃ r i' h', spec_l01Pick.f b i h l = some (r, i', h') ∧ r ∈ l ∧ 0 ≤ i' := by
  unfold spec_l01Pick.f
  obtain ⟨x, i1, h1, e1, _, hx, hi1⟩ := below_ok b i h (l.length : Int) hi hb
  have hx2 := hx (by omega)
  simp only [e1, Option.bind_some, if_pos hx2.1, if_pos hx2.2]
  refine ⟨_, _, _, rfl, ?_, hi1⟩
  unfold rdOf
  rw [List.getD_eq_getElem?_getD, List.getElem?_eq_getElem (by omega)]
  exact List.getElem_mem _
theorem draw_split_l1 (b : List Int) (hb : b.length ≤ 140737488351232) (x4 x6 : Int) (d : Nat) : ∀ (s : ByteArray) (x7 : Nat) (i h : Int), x7 + d = 5 → 0 ≤ i → s.size + d ≤ 10000 → (∀ (s' : ByteArray) (i' h' : Int), 0 ≤ i' → s'.size ≤ s.size + d → ∃ r, Ev (fun k => spec_DrawSplitFields.l0 k x4 s' (wrap64 (x6 + 1)) b i' h') r) → ∃ r, Ev (fun k => spec_DrawSplitFields.l1 k x4 s x6 x7 b i h) r := by
  induction d with
  | zero =>
    intro s x7 i h h7 hi hs hn
    obtain ⟨x, i1, h1, e1, _, hx, hi1⟩ := below_ok b i h 5 hi hb
    have hx2 := hx (by omega)
    obtain ⟨r, hr⟩ := hn s i1 h1 hi1 (by omega)
    exact ⟨r, Ev.step (fun k => by rw [spec_DrawSplitFields.l1, e1, Option.bind_some, if_neg (by omega)]) hr⟩
  | succ d ih =>
    intro s x7 i h h7 hi hs hn
    obtain ⟨x, i1, h1, e1, _, hx, hi1⟩ := below_ok b i h 5 hi hb
    have hx2 := hx (by omega)
    by_cases c : (x7 : Int) ≤ x
    · obtain ⟨y, i2, h2, e2, _, hy, hi2⟩ := below_ok b i1 h1 94 hi1 hb
      have e3 : wrap64 ((x7 : Int) + 1) = ((x7 + 1 : Nat) : Int) := w64 (by omega) (by omega)
      have hz : (s ++ strOfNums [(wrap64 (33 + y)) % 256]).size = s.size + 1 := by rw [ByteArray.size_append, strOf_size]; rfl
      obtain ⟨r, hr⟩ := ih (s ++ strOfNums [(wrap64 (33 + y)) % 256]) (x7 + 1) i2 h2 (by omega) hi2 (by omega) (fun s' i' h' hi' hs' => hn s' i' h' hi' (by omega))
      exact ⟨r, Ev.step (fun k => by rw [spec_DrawSplitFields.l1, e1, Option.bind_some, if_pos c, e2, Option.bind_some, Option.bind_some, if_pos (by rw [strOf_size]; simp; omega), e3]) hr⟩
    · obtain ⟨r, hr⟩ := hn s i1 h1 hi1 (by omega)
      exact ⟨r, Ev.step (fun k => by rw [spec_DrawSplitFields.l1, e1, Option.bind_some, if_neg c]) hr⟩
theorem draw_split_l0 (b : List Int) (hb : b.length ≤ 140737488351232) (x4 : Int) (h4 : x4 ≤ 40) (d : Nat) : ∀ (x6 : Int) (s : ByteArray) (i h : Int), 0 ≤ x6 → x6 + d = x4 → 0 ≤ i → (s.size : Int) ≤ 20 * x6 → ∃ r, Ev (fun k => spec_DrawSplitFields.l0 k x4 s x6 b i h) r := by
  induction d with
  | zero =>
    intro x6 s i h h6 hd hi hs
    obtain ⟨x, i1, h1, e1, _, _, hi1⟩ := below_ok b i h 12 hi hb
    by_cases c0 : x = 0
    · obtain ⟨r, i2, h2, e2, hr, _⟩ := pick_ok b i1 h1 [(⟨#[32]⟩ : ByteArray), (⟨#[32, 32]⟩ : ByteArray), (⟨#[9]⟩ : ByteArray), (⟨#[10]⟩ : ByteArray), (⟨#[127]⟩ : ByteArray), (⟨#[233]⟩ : ByteArray)] (by decide) hi1 hb
      have hz : r.size ≤ 2 := by
        simp only [List.mem_cons, List.not_mem_nil, or_false] at hr
        rcases hr with rfl | rfl | rfl | rfl | rfl | rfl <;> decide
      exact ⟨s ++ r, Ev.step (f := fun _ => some (s ++ r)) (fun k => by rw [spec_DrawSplitFields.l0, if_neg (by omega), e1, Option.bind_some, if_pos c0, e2, Option.bind_some, if_pos (by simp only []; omega)]) (Ev.now _)⟩
    · by_cases c1 : x = 1
      · by_cases c2 : (s.size : Int) < 600
        · obtain ⟨y, i2, h2, e2, _, hy, hi2⟩ := below_ok b i1 h1 2 hi1 hb
          have hy2 := hy (by omega)
          have e3 : wrap64 ((wrap64 (600 - (s.size : Int))) + y) = 600 - (s.size : Int) + y := by rw [w64 (x := 600 - (s.size : Int)) (by omega) (by omega), w64 (by omega) (by omega)]
          obtain ⟨l, e4, e5, _⟩ := long_ok (600 - (s.size : Int) + y) 32 (by omega) (by omega)
          refine ⟨s ++ strOfNums l, Ev.step (f := fun k => (spec_l01Long.f k (600 - (s.size : Int) + y) 32).bind fun t => if s.size + t.size ≤ 9223372036854775807 then some (s ++ t) else none) (fun k => by rw [spec_DrawSplitFields.l0, if_neg (by omega), e1, Option.bind_some, if_neg c0, if_pos c1, if_pos c2, e2, Option.bind_some, e3]) ?_⟩
          refine ev_bind _ e4 ?_
          rw [strOf_size, if_pos (by omega)]
          exact Ev.now _
        · exact ⟨s, Ev.step (f := fun _ => some s) (fun k => by rw [spec_DrawSplitFields.l0, if_neg (by omega), e1, Option.bind_some, if_neg c0, if_pos c1, if_neg c2]) (Ev.now _)⟩
      · exact ⟨s, Ev.step (f := fun _ => some s) (fun k => by rw [spec_DrawSplitFields.l0, if_neg (by omega), e1, Option.bind_some, if_neg c0, if_neg c1]) (Ev.now _)⟩
  | succ d ih =>
    intro x6 s i h h6 hd hi hs
    have e1 : wrap64 (x6 + 1) = x6 + 1 := w64 (by omega) (by omega)
    have hj3 : ∀ (s' : ByteArray) (i' h' : Int), 0 ≤ i' → (s'.size : Int) ≤ s.size + 3 → ∃ r, Ev (fun k => spec_DrawSplitFields.j3 k x4 s' x6 b i' h') r := by
      intro s' i' h' hi' hs'
      obtain ⟨r, hr⟩ := draw_split_l1 b hb x4 x6 5 s' 0 i' h' (by omega) hi' (by omega) (fun s2 i2 h2 hi2 hs2 => by rw [e1]; exact ih (x6 + 1) s2 i2 h2 (by omega) (by omega) hi2 (by omega))
      exact ⟨r, Ev.step (fun k => by rw [spec_DrawSplitFields.j3]; rfl) hr⟩
    have hj2 : ∀ (q : Bool) (i' h' : Int), 0 ≤ i' → ∃ r, Ev (fun k => spec_DrawSplitFields.j2 k x4 s x6 q b i' h') r := by
      intro q i' h' hi'
      cases q with
      | true =>
        obtain ⟨u, i2, h2, e2, _, hu, hi2⟩ := below_ok b i' h' 2 hi' hb
        obtain ⟨v, i3, h3, e3, _, hv, hi3⟩ := below_ok b i2 h2 3 hi2 hb
        have hu2 := hu (by omega)
        have hv2 := hv (by omega)
        have huv : 0 ≤ u * v ∧ u * v ≤ 2 := by
          have : u = 0 ∨ u = 1 := by omega
          rcases this with rfl | rfl <;> omega
        have e4 : wrap64 (1 + (wrap64 (u * v))) = 1 + u * v := by rw [w64 (x := u * v) (by omega) (by omega), w64 (by omega) (by omega)]
        obtain ⟨l, e5, e6, _⟩ := long_ok (1 + u * v) 32 (by omega) (by omega)
        obtain ⟨r, hr⟩ := hj3 (s ++ strOfNums l) i3 h3 hi3 (by rw [ByteArray.size_append, strOf_size]; omega)
        refine ⟨r, Ev.step (f := fun k => (spec_l01Long.f k (1 + u * v) 32).bind fun t => if s.size + t.size ≤ 9223372036854775807 then spec_DrawSplitFields.j3 k x4 (s ++ t) x6 b i3 h3 else none) (fun k => by rw [spec_DrawSplitFields.j2, if_pos rfl, e2, Option.bind_some, e3, Option.bind_some, e4]) ?_⟩
        refine ev_bind _ e5 ?_
        rw [strOf_size]
        simp only [if_pos (show s.size + l.length ≤ 9223372036854775807 by omega)]
        exact hr
      | false =>
        obtain ⟨r, hr⟩ := hj3 s i' h' hi' (by omega)
        exact ⟨r, Ev.step (fun k => by rw [spec_DrawSplitFields.j2, if_neg (by decide)]) hr⟩
    by_cases c : x6 > 0
    · obtain ⟨r, hr⟩ := hj2 true i h hi
      exact ⟨r, Ev.step (fun k => by rw [spec_DrawSplitFields.l0, if_pos (by omega), if_pos c]) hr⟩
    · obtain ⟨q, i1, h1, e2, hi1⟩ := once_ok b i h 5 hi hb
      obtain ⟨r, hr⟩ := hj2 q i1 h1 hi1
      exact ⟨r, Ev.step (fun k => by rw [spec_DrawSplitFields.l0, if_pos (by omega), if_neg c, e2, Option.bind_some]) hr⟩
theorem draw_split_ok (b : List Int) (hb : b.length ≤ 140737488351232) : ∃ s, Ev (fun k => spec_DrawSplitFields.f k b) s := by
  unfold spec_DrawSplitFields.f
  obtain ⟨h', hn⟩ := new_ok b hb
  obtain ⟨x, i1, h1, e1, _, hx, hi1⟩ := below_ok b 0 h' 9 (by omega) hb
  obtain ⟨q, i2, h2, e2, hi2⟩ := once_ok b i1 h1 15 hi1 hb
  have hx2 := hx (by omega)
  cases q with
  | true =>
    obtain ⟨y, i3, h3, e3, _, hy, hi3⟩ := below_ok b i2 h2 2 hi2 hb
    have hy2 := hy (by omega)
    have e4 : wrap64 (24 + y) = 24 + y := w64 (by omega) (by omega)
    obtain ⟨r, hr⟩ := draw_split_l0 b hb (24 + y) (by omega) (24 + y).toNat 0 (⟨#[]⟩ : ByteArray) i3 h3 (by omega) (by omega) hi3 (by decide)
    refine ⟨r, ev_bind _ hn ?_⟩
    simp only [e1, e2, e3, e4, Option.bind_some, if_true]
    exact Ev.step (fun k => by rw [spec_DrawSplitFields.j0]) hr
  | false =>
    obtain ⟨r, hr⟩ := draw_split_l0 b hb x (by omega) x.toNat 0 (⟨#[]⟩ : ByteArray) i2 h2 (by omega) (by omega) hi2 (by decide)
    refine ⟨r, ev_bind _ hn ?_⟩
    simp only [e1, e2, Option.bind_some, if_neg (show ¬ (false = true) by decide)]
    exact Ev.step (fun k => by rw [spec_DrawSplitFields.j0]) hr
theorem mkB_extract (l : List UInt8) (a b : Nat) : (mkB l).extract a b = mkB ((l.drop a).take (b - a)) := by
  apply ByteArray.ext
  rw [ByteArray.data_extract]
  simp [mkB]
theorem bt_mk (l : List UInt8) (i : Nat) (h : i < l.length) : bt (mkB l) (i : Int) = (l[i].toNat : Int) := by
  rw [← rd_bytesOf]
  simp [rd, bytesOf, mkB, List.getD_eq_getElem?_getD, List.getElem?_eq_getElem h]
/-- A field: some bytes, none a space. -/
def gF (f : ByteArray) : Prop := ∃ l : List UInt8, f = mkB l ∧ l ≠ [] ∧ l.length ≤ 600 ∧ ∀ c ∈ l, (33 : Int) ≤ c.toNat ∧ (c.toNat : Int) ≤ 126
theorem split_good (L : List UInt8) (hL : L.length ≤ 600) (d : Nat) : ∀ (acc : List ByteArray) (a i : Nat), i + d = L.length → a ≤ i → (∀ f ∈ acc, gF f) → (∀ j, a ≤ j → j < i → 33 ≤ bt (mkB L) (j : Int) ∧ bt (mkB L) (j : Int) ≤ 126) → ∀ f ∈ (splitM (mkB L) d acc a i).1, gF f := by
  have ext : ∀ (a i : Nat), a < i → i ≤ L.length → (∀ j, a ≤ j → j < i → 33 ≤ bt (mkB L) (j : Int) ∧ bt (mkB L) (j : Int) ≤ 126) → gF ((mkB L).extract a i) := by
    intro a i h1 h2 h3
    refine ⟨(L.drop a).take (i - a), mkB_extract L a i, fun h => ?_, by simp; omega, fun c hc => ?_⟩
    · have := congrArg List.length h; simp at this; omega
    · obtain ⟨j, hj, rfl⟩ := List.mem_iff_getElem.1 hc
      have hj2 : j < i - a := by simp at hj; omega
      have := h3 (a + j) (by omega) (by omega)
      rw [bt_mk L (a + j) (by omega)] at this
      simpa using this
  induction d with
  | zero =>
    intro acc a i hi ha hacc hj f hf
    rw [splitM] at hf
    by_cases c : a < i
    · simp only [if_pos c] at hf
      split at hf
      · simp at hf
      · rcases List.mem_append.1 hf with hf | hf
        · exact hacc f hf
        · rw [List.mem_singleton] at hf
          rw [hf]; exact ext a i c (by omega) hj
    · simp only [if_neg c] at hf
      split at hf
      · simp at hf
      · exact hacc f hf
  | succ d ih =>
    intro acc a i hi ha hacc hj f hf
    rw [splitM] at hf
    split at hf
    · simp at hf
    · rename_i c1
      split at hf
      · rename_i c2
        refine ih acc a (i + 1) (by omega) (by omega) hacc (fun j h1 h2 => ?_) f hf
        by_cases c : j = i
        · subst c; omega
        · exact hj j h1 (by omega)
      · refine ih _ (i + 1) (i + 1) (by omega) (by omega) (fun g hg => ?_) (fun j h1 h2 => by omega) f hf
        split at hg
        · rename_i c3
          rcases List.mem_append.1 hg with hg | hg
          · exact hacc g hg
          · rw [List.mem_singleton] at hg
            rw [hg]; exact ext a i c3 (by omega) hj
        · exact hacc g hg
theorem mk_of (s : ByteArray) : ∃ L, s = mkB L ∧ L.length = s.size := ⟨s.data.toList, by unfold mkB; rw [Array.toArray_toList], by show s.data.toList.length = s.data.size; exact Array.length_toList⟩
theorem splitR_good (s : ByteArray) : ∀ f ∈ (splitR s).1, gF f := by
  obtain ⟨L, rfl, hl⟩ := mk_of s
  unfold splitR
  split
  · simp
  · rename_i h
    exact split_good L (by omega) _ [] 0 0 (by omega) (Nat.le_refl _) (by simp) (fun j h1 h2 => by omega)
theorem all_mk : ∀ ps : List ByteArray, (∀ f ∈ ps, gF f) → ∃ fs : List (List UInt8), ps = fs.map mkB ∧ ∀ l ∈ fs, l ≠ [] ∧ l.length ≤ 600 ∧ ∀ c ∈ l, (33 : Int) ≤ c.toNat ∧ (c.toNat : Int) ≤ 126
  | [], _ => ⟨[], rfl, by simp⟩
  | f :: ps, h => by
    obtain ⟨l, rfl, h1⟩ := h f (by simp)
    obtain ⟨fs, rfl, h2⟩ := all_mk ps (fun g hg => h g (by simp [hg]))
    exact ⟨l :: fs, rfl, fun m hm => by rcases List.mem_cons.1 hm with rfl | hm; · exact h1
                                        · exact h2 m hm⟩
/-- Each field and a space. -/
def joinL (fs : List (List UInt8)) : List UInt8 := fs.flatMap (fun l => l ++ [32])
theorem joinL_cons (l : List UInt8) (fs : List (List UInt8)) : joinL (l :: fs) = l ++ 32 :: joinL fs := by simp [joinL]
theorem split_field (pre f rest : List UInt8) (hne : f ≠ []) (hf : ∀ c ∈ f, (33 : Int) ≤ c.toNat ∧ (c.toNat : Int) ≤ 126) (acc : List ByteArray) : ∀ (h g : List UInt8), f = g ++ h →
    splitM (mkB (pre ++ (f ++ 32 :: rest))) (h.length + 1 + rest.length) acc pre.length (pre.length + g.length) = splitM (mkB (pre ++ (f ++ 32 :: rest))) rest.length (acc ++ [mkB f]) (pre.length + f.length + 1) (pre.length + f.length + 1)
  | [], g, e => by
    rw [List.append_nil] at e
    subst e
    have hl : 0 < f.length := List.length_pos_iff.2 hne
    have hb : bt (mkB (pre ++ (f ++ 32 :: rest))) ((pre.length + f.length : Nat) : Int) = 32 := by
      rw [bt_mk _ _ (by simp)]
      simp
    rw [List.length_nil, Nat.zero_add, Nat.add_comm 1, splitM, hb, if_neg (by omega), if_neg (by omega), if_pos (by omega), mkB_extract]
    have : ((pre ++ (f ++ 32 :: rest)).drop pre.length).take (pre.length + f.length - pre.length) = f := by
      rw [List.drop_left, Nat.add_sub_cancel_left, List.take_left]
    rw [this]
  | c :: h, g, e => by
    have hb : bt (mkB (pre ++ (f ++ 32 :: rest))) ((pre.length + g.length : Nat) : Int) = (c.toNat : Int) := by
      rw [bt_mk _ _ (by rw [e]; simp)]
      congr 1
      simp [e]
    have hc := hf c (by rw [e]; simp)
    have ih := split_field pre f rest hne hf acc h (g ++ [c]) (by rw [e]; simp)
    rw [List.length_append, List.length_singleton, ← Nat.add_assoc] at ih
    rw [List.length_cons, show h.length + 1 + 1 + rest.length = (h.length + 1 + rest.length) + 1 by omega, splitM, hb, if_neg (by omega), if_pos (by omega)]
    exact ih
theorem split_join : ∀ (fs : List (List UInt8)) (pre : List UInt8) (acc : List ByteArray), (∀ l ∈ fs, l ≠ [] ∧ l.length ≤ 600 ∧ ∀ c ∈ l, (33 : Int) ≤ c.toNat ∧ (c.toNat : Int) ≤ 126) → ((acc ++ fs.map mkB).length : Int) ≤ 24 →
    splitM (mkB (pre ++ joinL fs)) (joinL fs).length acc pre.length pre.length = (acc ++ fs.map mkB, true)
  | [], pre, acc, _, hn => by
    rw [show joinL [] = [] from rfl, List.length_nil, splitM]
    simp only [if_neg (Nat.lt_irrefl _)]
    rw [List.map_nil, List.append_nil] at hn ⊢
    rw [if_neg (by omega)]
  | l :: fs, pre, acc, h, hn => by
    obtain ⟨h1, _, h2⟩ := h l (by simp)
    have hs := split_field pre l (joinL fs) h1 h2 acc l [] rfl
    simp only [List.length_nil, Nat.add_zero] at hs
    have ih := split_join fs (pre ++ (l ++ [32])) (acc ++ [mkB l]) (fun m hm => h m (by simp [hm])) (by simpa using hn)
    rw [joinL_cons, show (l ++ 32 :: joinL fs).length = l.length + 1 + (joinL fs).length by simp; omega, hs]
    have hz : (pre ++ (l ++ [(32 : UInt8)])).length = pre.length + l.length + 1 := by simp; omega
    rw [show pre ++ (l ++ [32]) ++ joinL fs = pre ++ (l ++ 32 :: joinL fs) by simp, hz] at ih
    rw [ih]
    simp
theorem same_texts_loop (l : List ByteArray) (hl : l.length ≤ 100) (d : Nat) : ∀ i : Nat, i + d = l.length → Ev (fun k => laws_sameTexts.l0 k l l i) true := by
  induction d with
  | zero =>
    intro i hi
    exact Ev.step (fun k => by rw [laws_sameTexts.l0, if_neg (show ¬ (i : Int) < (l.length : Int) by omega)]) (Ev.now _)
  | succ d ih =>
    intro i hi
    have e1 : wrap64 ((i : Int) + 1) = ((i + 1 : Nat) : Int) := w64 (by omega) (by omega)
    refine Ev.step (fun k => by rw [laws_sameTexts.l0, if_pos (show (i : Int) < (l.length : Int) by omega), if_pos (show (0 : Int) ≤ (i : Int) by omega), if_pos (show (i : Int) < (l.length : Int) by omega), if_pos rfl, e1]) ?_
    exact ih (i + 1) (by omega)
theorem again_loop (fs : List (List UInt8)) (hn : (fs.length : Int) ≤ 24) (hg : ∀ l ∈ fs, l ≠ [] ∧ l.length ≤ 600 ∧ ∀ c ∈ l, (33 : Int) ≤ c.toNat ∧ (c.toNat : Int) ≤ 126) : ∀ (r a : List (List UInt8)), fs = a ++ r → (joinL a).length ≤ 700 * a.length →
    Ev (fun k => laws_FnFieldsAgain.l0 k (fs.map mkB) true (mkB (joinL a)) (a.length : Int)) true
  | [], a, e, hs => by
    rw [List.append_nil] at e
    subst e
    have hst := split_join fs [] [] hg (by simpa using hn)
    rw [List.nil_append, List.length_nil, List.nil_append] at hst
    refine Ev.step (f := fun k => (impl_SplitFields.f k (mkB (joinL fs))).bind fun bt206 => if true = true then (if ((mkB (joinL fs)).size : Int) > 600 then some true else (if bt206.2 = true then ((laws_sameTexts.f k (fs.map mkB) bt206.1).bind fun t210 => some t210) else some false)) else some false) (fun k => by rw [laws_FnFieldsAgain.l0, if_neg (by simp)]) ?_
    refine ev_bind _ (impl_split_ev _) ?_
    simp only [if_true]
    by_cases c : ((mkB (joinL fs)).size : Int) > 600
    · simp only [if_pos c]; exact Ev.now _
    · simp only [if_neg c]
      have e2 : splitR (mkB (joinL fs)) = (fs.map mkB, true) := by unfold splitR; rw [if_neg c, mkB_size]; exact hst
      rw [e2]
      simp only [if_true]
      refine ev_bind _ ?_ (Ev.now _)
      unfold laws_sameTexts.f
      simp only [if_true]
      exact same_texts_loop _ (by simp; omega) (fs.map mkB).length 0 (by omega)
  | l :: r, a, e, hs => by
    have hal : a.length + r.length + 1 = fs.length := by rw [e]; simp; omega
    have hrd : rdOf ByteArray.empty (fs.map mkB) (a.length : Int) = mkB l := by
      rw [e]; simp [rdOf, List.getD_eq_getElem?_getD]
    have hl := hg l (by rw [e]; simp)
    have e1 : wrap64 ((a.length : Int) + 1) = ((a ++ [l]).length : Int) := by rw [w64 (by omega) (by omega)]; simp
    have e2 : mkB (joinL a) ++ mkB l ++ (⟨#[32]⟩ : ByteArray) = mkB (joinL (a ++ [l])) := by
      rw [show (⟨#[32]⟩ : ByteArray) = mkB [32] from rfl, mkB_append, mkB_append]; simp [joinL]
    have hz : (joinL (a ++ [l])).length = (joinL a).length + l.length + 1 := by simp [joinL]; omega
    refine Ev.step (fun k => by rw [laws_FnFieldsAgain.l0, if_pos (by simp; omega), if_pos (by omega), hrd, mkB_size, mkB_size, if_pos (by omega), mkB_append, mkB_size, List.length_append, if_pos (by omega), ← mkB_append, e2, e1]) ?_
    exact again_loop fs hn hg r (a ++ [l]) (by rw [e]; simp) (by rw [hz]; simp; omega)
theorem FnFieldsAgain : laws_FnFieldsAgain.Pure := by
  intro b _ hb _
  refine Ev.rounds ?_
  unfold laws_FnFieldsAgain.f laws_big.f
  simp only [Option.bind_some]
  by_cases h : (b.length : Int) > 1048576
  · have e : decide ((b.length : Int) > 1048576) = true := decide_eq_true h
    simp only [e, if_true]; exact Ev.now _
  · have e : decide ((b.length : Int) > 1048576) = false := decide_eq_false h
    simp only [e, if_neg (show ¬ (false = true) by decide)]
    obtain ⟨s, hs⟩ := draw_split_ok b (by omega)
    refine ev_bind _ hs ?_
    refine ev_bind _ (impl_split_ev s) ?_
    refine ev_bind _ (spec_split_ev s) ?_
    have hlen := splitR_len s
    cases c : (splitR s).2 with
    | true =>
      simp only [if_true]
      obtain ⟨fs, e1, e2⟩ := all_mk _ (splitR_good s)
      rw [e1] at hlen ⊢
      have := again_loop fs (by simpa using hlen) e2 fs [] rfl (by simp [joinL])
      exact this
    | false =>
      simp only [Bool.false_eq_true, if_false]
      have hz : (splitR s).1 = [] := by
        have : ∀ (d : Nat) (acc : List ByteArray) (a i : Nat), (splitM s d acc a i).2 = false → (splitM s d acc a i).1 = [] := by
          intro d
          induction d with
          | zero =>
            intro acc a i h
            have e : splitM s 0 acc a i = (if ((if a < i then acc ++ [s.extract a i] else acc).length : Int) > 24 then ([], false) else ((if a < i then acc ++ [s.extract a i] else acc), true)) := rfl
            rw [e] at h ⊢
            generalize (if a < i then acc ++ [s.extract a i] else acc) = x at h ⊢
            by_cases c : (x.length : Int) > 24
            · rw [if_pos c]
            · rw [if_neg c] at h; simp at h
          | succ d ih =>
            intro acc a i h
            rw [splitM] at h ⊢
            split at h
            · rename_i c1; rw [if_pos c1]
            · rename_i c1
              rw [if_neg c1]
              split at h
              · rename_i c2; rw [if_pos c2]; exact ih _ _ _ h
              · rename_i c2; rw [if_neg c2]; exact ih _ _ _ h
        unfold splitR at c ⊢
        split at c
        · rename_i c1; rw [if_pos c1]
        · rename_i c1; rw [if_neg c1]; exact this _ _ _ _ c
      rw [hz]
      have e3 : Go.Lib.itoa (-3) = [45, 51] := by
        rw [Go.Lib.itoa, if_pos (by omega), show (-3 : Int).natAbs = 3 from rfl, Go.Lib.decDigits_one (by decide)]; decide
      rw [impl_fmt (-3) (by omega) (by omega), e3]
      simp only [List.length_nil, Option.bind_some, mkB_list]
      exact ev_some (by decide)

end Go.Proofs.YtkfolpcmehmmlaaDoor.Pure
