/- For every slice of bytes the law FnTags returns true (its printed function does): a drawn tag is read again from its text, and of the texts with another last byte none is read; program and reference read a drawn text alike. -/
import Derived.Test.YtnkaimdcdedekaaDoorPFnTagsx7
import Derived.Test.YtnkaimdcdedekaaDoorKit
namespace Go.Proofs.YtnkaimdcdedekaaDoor.Pure
open Go.RowKit Go.Proofs.YtnkaimdcdedekaaDoor.PFnTags Go.Proofs.YtnkaimdcdedekaaDoorW.PrintWords Go.Proofs.YtnkaimdcdedekaaDoorW.PrintLast Go.Proofs.YtnkaimdcdedekaaDoorW.PrintMore Go.Proofs.YtnkaimdcdedekaaDoor.Kit
set_option linter.unusedVariables false
set_option linter.unusedSimpArgs false

/-- A valid tag. -/
def tagM (l a s : Int) : Bool := decide (0 ≤ l ∧ l ≤ 9 ∧ 1 ≤ a ∧ a ≤ 999 ∧ 0 ≤ s ∧ s ≤ 999999)
def numM (l a s : Int) : Int := if tagM l a s = true then (l * 1000 + a) * 1000000 + s else -1
def checkM (l a s : Int) : Int := if tagM l a s = true then numM l a s % 7 else -1
theorem tagM_iff (l a s : Int) : tagM l a s = true ↔ (0 ≤ l ∧ l ≤ 9 ∧ 1 ≤ a ∧ a ≤ 999 ∧ 0 ≤ s ∧ s ≤ 999999) := by simp [tagM]
theorem numM_pos {l a s : Int} (h : tagM l a s = true) : numM l a s = (l * 1000 + a) * 1000000 + s := by simp [numM, h]
theorem numM_range {l a s : Int} (h : tagM l a s = true) : 0 ≤ numM l a s ∧ numM l a s ≤ 9999999999 := by
  rw [numM_pos h]
  rw [tagM_iff] at h
  omega
theorem spec_in (x a b : Int) : spec_l01In.f x a b = some (decide (a ≤ x ∧ x ≤ b)) := by
  unfold spec_l01In.f
  by_cases h : x ≥ a
  · rw [if_pos h]; congr 1; simp; omega
  · rw [if_neg h]; congr 1; simp; omega
theorem spec_TagOk_eq (l a s : Int) : spec_TagOk.f l a s = some (tagM l a s) := by
  unfold spec_TagOk.f
  simp only [spec_in, Option.bind_some]
  unfold tagM
  by_cases h1 : 0 ≤ l ∧ l ≤ 9
  · simp only [h1, decide_true, if_true]
    by_cases h2 : 1 ≤ a ∧ a ≤ 999
    · simp [h1, h2]
    · simp [h2]; omega
  · simp [h1]; omega
theorem impl_TagOk_eq (l a s : Int) : impl_TagOk.f l a s = some (tagM l a s) := by
  unfold impl_TagOk.f tagM
  by_cases h1 : l ≥ 0
  · rw [if_pos h1]
    by_cases h2 : l ≤ 9
    · rw [if_pos h2]
      by_cases h3 : a ≥ 1
      · rw [if_pos h3]
        by_cases h4 : a ≤ 999
        · rw [if_pos h4]
          by_cases h5 : s ≥ 0
          · rw [if_pos h5]; congr 1; rw [decide_eq_decide]; omega
          · rw [if_neg h5]; congr 1; symm; rw [decide_eq_false_iff_not]; omega
        · rw [if_neg h4]; congr 1; symm; rw [decide_eq_false_iff_not]; omega
      · rw [if_neg h3]; congr 1; symm; rw [decide_eq_false_iff_not]; omega
    · rw [if_neg h2]; congr 1; symm; rw [decide_eq_false_iff_not]; omega
  · rw [if_neg h1]; congr 1; symm; rw [decide_eq_false_iff_not]; omega
theorem num_wrap {l a s : Int} (h : tagM l a s = true) : wrap64 ((wrap64 ((wrap64 ((wrap64 (l * 1000)) + a)) * 1000000)) + s) = (l * 1000 + a) * 1000000 + s := by
  rw [tagM_iff] at h
  rw [w64 (x := l * 1000) (by omega) (by omega), w64 (x := l * 1000 + a) (by omega) (by omega), w64 (x := (l * 1000 + a) * 1000000) (by omega) (by omega), w64 (by omega) (by omega)]
theorem spec_TagNumber_eq (l a s : Int) : spec_TagNumber.f l a s = some (numM l a s) := by
  unfold spec_TagNumber.f
  rw [spec_TagOk_eq, Option.bind_some]
  by_cases h : tagM l a s = true
  · rw [if_pos h, num_wrap h, numM_pos h]
  · rw [if_neg h]; simp [numM, h]
theorem impl_TagNumber_eq (l a s : Int) : impl_TagNumber.f l a s = some (numM l a s) := by
  unfold impl_TagNumber.f
  rw [impl_TagOk_eq, Option.bind_some]
  by_cases h : tagM l a s = true
  · rw [if_pos h, num_wrap h, numM_pos h]
  · rw [if_neg h]; simp [numM, h]
theorem spec_TagCheck_eq (l a s : Int) : spec_TagCheck.f l a s = some (checkM l a s) := by
  unfold spec_TagCheck.f checkM
  rw [spec_TagOk_eq, Option.bind_some]
  by_cases h : tagM l a s = true
  · rw [if_pos h, if_pos h, spec_TagNumber_eq, Option.bind_some, Int.tmod_eq_emod_of_nonneg (numM_range h).1]
  · rw [if_neg h, if_neg h]
theorem impl_TagCheck_eq (l a s : Int) : impl_TagCheck.f l a s = some (checkM l a s) := by
  unfold impl_TagCheck.f checkM
  rw [impl_TagOk_eq, Option.bind_some]
  by_cases h : tagM l a s = true
  · rw [if_pos h, if_pos h, impl_TagNumber_eq, Option.bind_some, Int.tmod_eq_emod_of_nonneg (numM_range h).1]
  · rw [if_neg h, if_neg h]
/-- A string of these bytes. -/
def mkB (l : List UInt8) : ByteArray := ⟨l.toArray⟩
theorem mkB_append (a b : List UInt8) : mkB a ++ mkB b = mkB (a ++ b) := by
  apply ByteArray.ext
  rw [ByteArray.data_append]
  simp [mkB]
theorem mkB_size (l : List UInt8) : (mkB l).size = l.length := by simp [mkB, ByteArray.size]
theorem mkB_nums (l : List Int) : strOfNums l = mkB (l.map fun n => UInt8.ofNat n.toNat) := by simp [mkB, strOfNums]
theorem mkB_list (l : List UInt8) : (mkB l).toList = l := by rw [ByteArray.toList_eq]; simp [mkB]
/-- m digits of a number. -/
def tenD : Nat → Nat → List Int
  | 0, _ => []
  | m + 1, n => tenD m (n / 10) ++ [((48 + n % 10 : Nat) : Int)]
theorem tenD_length : ∀ m n, (tenD m n).length = m
  | 0, _ => rfl
  | m + 1, n => by rw [tenD, List.length_append, tenD_length m]; rfl
theorem ten_loop (m : Nat) : ∀ (n : Nat) (s : List Int), m + s.length = 10 → n ≤ 9999999999 → Ev (fun k => spec_l01Ten.l0 k (n : Int) (List.replicate m 0 ++ s) ((m : Int) - 1)) (strOfNums (tenD m n ++ s)) := by
  induction m with
  | zero =>
    intro n s hs hn
    exact Ev.step (f := fun _ => some (strOfNums s)) (fun k => by rw [spec_l01Ten.l0, if_neg (by omega)]; rfl) (ev_some rfl)
  | succ m ih =>
    intro n s hs hn
    have e1 : ((m + 1 : Nat) : Int) - 1 = (m : Int) := by omega
    have e2 : Int.tmod (n : Int) 10 = ((n % 10 : Nat) : Int) := by rw [Int.tmod_eq_emod_of_nonneg (by omega)]; omega
    have e3 : Int.tdiv (n : Int) 10 = ((n / 10 : Nat) : Int) := by rw [Int.tdiv_eq_ediv_of_nonneg (by omega)]; omega
    have e4 : (wrap64 (48 + ((n % 10 : Nat) : Int))) % 256 = ((48 + n % 10 : Nat) : Int) := by rw [w64 (by omega) (by omega)]; omega
    have e5 : wrap64 ((n / 10 : Nat) : Int) = ((n / 10 : Nat) : Int) := w64 (by omega) (by omega)
    have e6 : wrap64 ((m : Int) - 1) = (m : Int) - 1 := w64 (by omega) (by omega)
    have e7 : (List.replicate (m + 1) (0 : Int) ++ s).set m ((48 + n % 10 : Nat) : Int) = List.replicate m 0 ++ (((48 + n % 10 : Nat) : Int) :: s) := by
      rw [List.replicate_succ', List.append_assoc, List.set_append, if_neg (by simp)]
      simp
    refine Ev.step (f := fun k => spec_l01Ten.l0 k ((n / 10 : Nat) : Int) (List.replicate m 0 ++ (((48 + n % 10 : Nat) : Int) :: s)) ((m : Int) - 1)) (fun k => ?_) ?_
    · rw [spec_l01Ten.l0, e1, if_pos (by omega), if_pos (by omega), if_pos (by simp; omega), e2, e3, e4, e5, e6, Int.toNat_natCast, e7]
    · rw [tenD, List.append_assoc]
      exact ih (n / 10) _ (by simp; omega) (by omega)
theorem ten_ev (n : Nat) (hn : n ≤ 9999999999) : Ev (fun k => spec_l01Ten.f k (n : Int)) (strOfNums (tenD 10 n)) := by
  unfold spec_l01Ten.f
  simp only [if_pos (show (10 : Nat) ≤ 281474976710656 by omega)]
  have := ten_loop 10 n [] rfl hn
  rwa [List.append_nil, List.append_nil] at this
theorem impl_fmt (n : Int) (h0 : -9223372036854775808 ≤ n) (h1 : n ≤ 9223372036854775807) : impl_FormatInt.f n = some (mkB (Go.Lib.itoa n)) := by
  unfold impl_FormatInt.f strconv_Itoa.f
  rw [if_pos ⟨h0, h1⟩]; rfl
/-- A tag's text. -/
def tagB (l a s : Int) : List UInt8 := (tenD 10 (numM l a s).toNat).map (fun n => UInt8.ofNat n.toNat) ++ 45 :: [UInt8.ofNat (48 + (checkM l a s).toNat)]
/-- What FormatTag returns. -/
def fmtR (l a s : Int) : ByteArray := if tagM l a s = true then mkB (tagB l a s) else mkB []
theorem checkM_range {l a s : Int} (h : tagM l a s = true) : 0 ≤ checkM l a s ∧ checkM l a s ≤ 6 := by
  have := numM_range h
  unfold checkM
  rw [if_pos h]
  omega
theorem tagB_len (l a s : Int) : (tagB l a s).length = 12 := by unfold tagB; simp [tenD_length]
/-- Zeros ahead of a number's digits make m digits. -/
theorem pad_eq (m : Nat) : ∀ u : Nat, u < 10 ^ (m + 1) → (Go.Lib.decDigits u).length ≤ m + 1 ∧ List.replicate (m + 1 - (Go.Lib.decDigits u).length) 48 ++ Go.Lib.decDigits u = (tenD (m + 1) u).map (fun n => UInt8.ofNat n.toNat) := by
  have hz : ∀ m : Nat, (tenD m 0).map (fun n => UInt8.ofNat n.toNat) = List.replicate m 48 := by
    intro m
    induction m with
    | zero => rfl
    | succ m ih => rw [tenD, List.map_append, Nat.zero_div, ih, List.replicate_succ']; rfl
  induction m with
  | zero =>
    intro u hu
    rw [Go.Lib.decDigits_one (by omega)]
    exact ⟨by simp, by rw [tenD, show u % 10 = u by omega]; rfl⟩
  | succ m ih =>
    intro u hu
    by_cases c : u < 10
    · rw [Go.Lib.decDigits_one c, tenD, show u / 10 = 0 by omega, show u % 10 = u by omega, List.map_append, hz]
      exact ⟨by simp, rfl⟩
    · obtain ⟨h1, h2⟩ := ih (u / 10) (by rw [Nat.pow_succ] at hu; omega)
      rw [Go.Lib.decDigits, dif_neg c, tenD, List.map_append, ← h2, List.length_append]
      refine ⟨by simp; omega, ?_⟩
      rw [show m + 1 + 1 - ((Go.Lib.decDigits (u / 10)).length + [UInt8.ofNat (48 + u % 10)].length) = m + 1 - (Go.Lib.decDigits (u / 10)).length by simp, List.append_assoc]
      rfl
theorem impl_ft_loop (l a s : Int) (h : tagM l a s = true) (d : Nat) : ∀ b : List UInt8, b.length + d = 10 → Ev (fun k => impl_FormatTag.l0 k (mkB b) l a s) (mkB ((List.replicate d 48 ++ b) ++ 45 :: [UInt8.ofNat (48 + (checkM l a s).toNat)])) := by
  have hc := checkM_range h
  induction d with
  | zero =>
    intro b hb
    refine Ev.step (f := fun _ => some (mkB ((List.replicate 0 48 ++ b) ++ 45 :: [UInt8.ofNat (48 + (checkM l a s).toNat)]))) (fun k => ?_) (Ev.now _)
    have e : Go.Lib.itoa (checkM l a s) = [UInt8.ofNat (48 + (checkM l a s).toNat)] := by unfold Go.Lib.itoa; rw [if_neg (by omega), Go.Lib.decDigits_one (by omega)]
    rw [impl_FormatTag.l0, mkB_size, if_neg (by omega), if_pos (by omega), impl_TagCheck_eq, Option.bind_some, impl_fmt _ (by omega) (by omega), Option.bind_some, show (⟨#[45]⟩ : ByteArray) = mkB [45] from rfl, mkB_append, mkB_size, mkB_size, e, if_pos (by simp; omega), mkB_append]
    simp
  | succ d ih =>
    intro b hb
    refine Ev.step (f := fun k => impl_FormatTag.l0 k (mkB (48 :: b)) l a s) (fun k => ?_) ?_
    · rw [impl_FormatTag.l0, mkB_size, if_pos (by omega), if_pos (by omega), show (⟨#[48]⟩ : ByteArray) = mkB [48] from rfl, mkB_append]; rfl
    · have := ih (48 :: b) (by simp; omega)
      rw [show List.replicate (d + 1) (48 : UInt8) ++ b = List.replicate d 48 ++ (48 :: b) by rw [List.replicate_succ', List.append_assoc]; rfl]
      exact this
theorem impl_ft_ev (l a s : Int) : Ev (fun k => impl_FormatTag.f k l a s) (fmtR l a s) := by
  unfold impl_FormatTag.f fmtR
  rw [impl_TagOk_eq]
  simp only [Option.bind_some]
  by_cases h : tagM l a s = true
  · have hr := numM_range h
    obtain ⟨h1, h2⟩ := pad_eq 9 (numM l a s).toNat (by omega)
    have e : Go.Lib.itoa (numM l a s) = Go.Lib.decDigits (numM l a s).toNat := by unfold Go.Lib.itoa; rw [if_neg (by omega)]
    simp only [if_pos h]
    rw [impl_TagNumber_eq]
    simp only [Option.bind_some]
    rw [impl_fmt _ (by omega) (by omega)]
    simp only [Option.bind_some]
    have h3 := impl_ft_loop l a s h (10 - (Go.Lib.decDigits (numM l a s).toNat).length) (Go.Lib.decDigits (numM l a s).toNat) (by omega)
    rw [h2] at h3
    rw [e]
    exact h3
  · simp only [if_neg h]; exact Ev.now _
theorem spec_ft_ev (l a s : Int) : Ev (fun k => spec_FormatTag.f k l a s) (fmtR l a s) := by
  unfold spec_FormatTag.f fmtR
  rw [spec_TagOk_eq]
  simp only [Option.bind_some]
  by_cases h : tagM l a s = true
  · have hr := numM_range h
    have hc := checkM_range h
    simp only [if_pos h]
    rw [spec_TagNumber_eq, spec_TagCheck_eq]
    simp only [Option.bind_some]
    have ht := ten_ev (numM l a s).toNat (by omega)
    rw [Int.toNat_of_nonneg hr.1] at ht
    refine ev_bind _ ht ?_
    rw [mkB_nums]
    have e4 : (wrap64 (48 + checkM l a s)) % 256 = ((48 + (checkM l a s).toNat : Nat) : Int) := by rw [w64 (by omega) (by omega)]; omega
    rw [show (⟨#[45]⟩ : ByteArray) = mkB [45] from rfl, e4, mkB_nums, mkB_append, mkB_append, mkB_size, mkB_size, mkB_size]
    simp only [List.length_append, List.length_map, tenD_length, List.length_cons, List.length_nil]
    rw [if_pos (by omega), if_pos (by omega)]
    exact ev_some (by unfold tagB; rw [List.append_assoc]; rfl)
  · simp only [if_neg h]; exact Ev.now _
abbrev Tag := S25
theorem rd_Tag (l : List Tag) (i : Nat) (h : i < l.length) : rd_T25 l (i : Int) = l[i] := by
  simp [rd_T25, List.getD_eq_getElem?_getD, List.getElem?_eq_getElem h]
theorem drop_Tag (l : List Tag) (i : Nat) (h : i < l.length) : l.drop i = rd_T25 l (i : Int) :: l.drop (i + 1) := by
  rw [List.drop_eq_getElem_cons h, rd_Tag l i h]
theorem take_Tag (l : List Tag) (i : Nat) (h : i < l.length) : l.take (i + 1) = l.take i ++ [rd_T25 l (i : Int)] := by
  rw [rd_Tag l i h, List.take_succ_eq_append_getElem h]
theorem rd_int (l : List Int) (i : Nat) (h : i < l.length) : rd l (i : Int) = l[i] := by
  simp [rd, List.getD_eq_getElem?_getD, List.getElem?_eq_getElem h]
theorem drop_int (l : List Int) (i : Nat) (h : i < l.length) : l.drop i = rd l (i : Int) :: l.drop (i + 1) := by
  rw [List.drop_eq_getElem_cons h, rd_int l i h]
/-- How many bytes are not known. -/
def unk : List Int → Nat
  | [] => 0
  | x :: l => (if x = 63 then 1 else 0) + unk l
/-- The bytes with the digits of k for the unknown ones. -/
def fillR : List Int → Nat → List Int
  | [], _ => []
  | x :: l, k => (if x = 63 then ((48 + k / 10 ^ unk l % 10 : Nat) : Int) else x) :: fillR l k
theorem fillR_length : ∀ (l : List Int) (k : Nat), (fillR l k).length = l.length
  | [], _ => rfl
  | x :: l, k => by rw [fillR, List.length_cons, List.length_cons, fillR_length l]
theorem fillR_add : ∀ (l : List Int) (m c j : Nat), unk l ≤ m → fillR l (c * 10 ^ m + j) = fillR l j
  | [], _, _, _, _ => rfl
  | x :: l, m, c, j, h => by
    have hl : unk l ≤ m := by unfold unk at h; split at h <;> omega
    rw [fillR, fillR, fillR_add l m c j hl]
    by_cases hx : x = 63
    · rw [if_pos hx, if_pos hx]
      have h1 : unk l + 1 ≤ m := by unfold unk at h; rw [if_pos hx] at h; omega
      have e : c * 10 ^ m + j = j + 10 ^ unk l * (10 * (c * 10 ^ (m - unk l - 1))) := by
        have e1 : 10 ^ m = 10 ^ unk l * (10 * 10 ^ (m - unk l - 1)) := by
          rw [← Nat.pow_succ', ← Nat.pow_add]
          congr 1
          omega
        rw [e1, Nat.add_comm j]
        congr 1
        rw [Nat.mul_left_comm, Nat.mul_left_comm c 10]
      rw [e, Nat.add_mul_div_left _ _ (Nat.pow_pos (by omega)), Nat.add_mul_mod_self_left]
    · rw [if_neg hx, if_neg hx]
theorem fold_range_mul {α : Type} (g : α → Nat → α) (N : Nat) : ∀ (d : Nat) (a : α), (List.range (d * N)).foldl g a = (List.range d).foldl (fun a c => (List.range N).foldl (fun a j => g a (c * N + j)) a) a
  | 0, a => by simp
  | d + 1, a => by
    rw [Nat.succ_mul, List.range_add, List.foldl_append, fold_range_mul g N d a, List.range_succ, List.foldl_append]
    simp [List.foldl_map]
theorem fold_congr {α β : Type} {f g : α → β → α} : ∀ (l : List β) (a : α), (∀ a, ∀ x ∈ l, f a x = g a x) → l.foldl f a = l.foldl g a
  | [], _, _ => rfl
  | x :: l, a, h => by
    rw [List.foldl_cons, List.foldl_cons, h a x (by simp)]
    exact fold_congr l _ (fun a y hy => h a y (by simp [hy]))
/-- A byte is a digit. -/
def isD (x : Int) : Prop := 48 ≤ x ∧ x ≤ 57
/-- The number that digits tell. -/
def valC (l : List Int) : Int := l.foldl (fun a b => 10 * a + b - 48) 0
theorem valC_next (xs : List Int) (j : Nat) (h : j < xs.length) : valC (xs.take (j + 1)) = 10 * valC (xs.take j) + xs[j] - 48 := by
  unfold valC
  rw [List.take_succ_eq_append_getElem h, List.foldl_append]
  rfl
theorem valC_range (xs : List Int) (hd : ∀ x ∈ xs, isD x) : ∀ j, j ≤ xs.length → 0 ≤ valC (xs.take j) ∧ valC (xs.take j) < ((10 ^ j : Nat) : Int)
  | 0, _ => by simp [valC]
  | j + 1, h => by
    have ih := valC_range xs hd j (by omega)
    have hx := hd xs[j] (List.getElem_mem _)
    unfold isD at hx
    have h2 : 10 ^ (j + 1) = 10 ^ j * 10 := Nat.pow_succ ..
    rw [valC_next xs j (by omega)]
    omega
/-- The tag with a number. -/
def tgOf (n : Int) : Tag := ⟨n / 1000000000, n / 1000000 % 1000, n % 1000000⟩
theorem impl_tg (n : Int) (h0 : 0 ≤ n) (h1 : n < 10000000000) : impl_tagOf.f n = some ((tgOf n).f0, (tgOf n).f1, (tgOf n).f2) := by
  unfold impl_tagOf.f tgOf
  rw [Int.tdiv_eq_ediv_of_nonneg h0, Int.tdiv_eq_ediv_of_nonneg h0, Int.tmod_eq_emod_of_nonneg h0, w64 (by omega) (by omega), w64 (by omega) (by omega), Int.tmod_eq_emod_of_nonneg (by omega)]
theorem spec_tg (n : Int) (h0 : 0 ≤ n) (h1 : n < 10000000000) : spec_l01OfNumber.f n = some ((tgOf n).f0, (tgOf n).f1, (tgOf n).f2) := by
  unfold spec_l01OfNumber.f tgOf
  rw [Int.tdiv_eq_ediv_of_nonneg h0, Int.tdiv_eq_ediv_of_nonneg h0, Int.tmod_eq_emod_of_nonneg h0, w64 (by omega) (by omega), w64 (by omega) (by omega), Int.tmod_eq_emod_of_nonneg (by omega)]
/-- The text of a tag. -/
def fmtT (t : Tag) : ByteArray := fmtR t.f0 t.f1 t.f2
/-- The tag of a text whose bytes are known, added if it is one. -/
def leafR (xs : List Int) (o : List Tag) : List Tag := if (fmtT (tgOf (valC (xs.take 10)))).toList = (strOfNums xs).toList then o ++ [tgOf (valC (xs.take 10))] else o
theorem leafR_len (xs : List Int) (o : List Tag) : (leafR xs o).length ≤ o.length + 1 := by
  unfold leafR
  split <;> simp
/-- The candidates of a text of twelve bytes. -/
def candM (xs : List Int) : List Tag := (List.range (10 ^ unk xs)).foldl (fun o j => leafR (fillR xs j) o) []
theorem fold_len (f : Nat → List Int) : ∀ (l : List Nat) (o : List Tag), (l.foldl (fun o j => leafR (f j) o) o).length ≤ o.length + l.length
  | [], o => by simp
  | j :: l, o => by
    have := fold_len f l (leafR (f j) o)
    have := leafR_len (f j) o
    rw [List.foldl_cons, List.length_cons]
    omega
theorem candM_len (xs : List Int) (h : unk xs ≤ 3) : (candM xs).length ≤ 1000 := by
  have := fold_len (fillR xs) (List.range (10 ^ unk xs)) []
  have h2 : 10 ^ unk xs ≤ 10 ^ 3 := Nat.pow_le_pow_right (by omega) h
  unfold candM
  simp at this
  omega
/-- Well-formed bytes from an index on: each is a digit or unknown, but the eleventh, a dash. -/
def wellF (l : List Int) (i : Nat) : Prop := ∀ j (h : j < l.length), if i + j = 10 then l[j] = 45 else isD l[j] ∨ l[j] = 63
theorem wellF_tail {x : Int} {l : List Int} {i : Nat} (h : wellF (x :: l) i) : wellF l (i + 1) := by
  intro j hj
  have := h (j + 1) (by simpa using hj)
  rw [show i + (j + 1) = i + 1 + j by omega] at this
  exact this
theorem wellF_head {x : Int} {l : List Int} {i : Nat} (h : wellF (x :: l) i) : if i = 10 then x = 45 else isD x ∨ x = 63 := h 0 (by simp)
theorem fill_isD : ∀ (l : List Int) (i k : Nat), wellF l i → ∀ j (h : j < (fillR l k).length), if i + j = 10 then (fillR l k)[j] = 45 else isD (fillR l k)[j]
  | [], _, _, _, j, h => by simp [fillR] at h
  | x :: l, i, k, hw, 0, h => by
    have hx := wellF_head hw
    have e : (fillR (x :: l) k)[0] = if x = 63 then ((48 + k / 10 ^ unk l % 10 : Nat) : Int) else x := rfl
    rw [e]
    by_cases hi : i = 10
    · rw [if_pos hi] at hx
      rw [if_pos (show i + 0 = 10 by omega), if_neg (by omega)]
      exact hx
    · rw [if_neg hi] at hx
      rw [if_neg (show ¬ i + 0 = 10 by omega)]
      by_cases h63 : x = 63
      · rw [if_pos h63]; unfold isD; omega
      · rw [if_neg h63]; exact hx.resolve_right h63
  | x :: l, i, k, hw, j + 1, h => by
    have := fill_isD l (i + 1) k (wellF_tail hw) j (by simpa [fillR] using h)
    rw [show i + 1 + j = i + (j + 1) by omega] at this
    exact this
theorem fill_ten (xs : List Int) (hl : xs.length = 12) (hw : wellF xs 0) (k : Nat) : ∀ x ∈ (fillR xs k).take 10, isD x := by
  intro x hx
  obtain ⟨j, hj, rfl⟩ := List.mem_iff_getElem.1 hx
  have hj2 : j < 10 ∧ j < (fillR xs k).length := by rw [List.length_take] at hj; omega
  have := fill_isD xs 0 k hw j hj2.2
  rw [if_neg (by omega)] at this
  rw [List.getElem_take]
  exact this
theorem pow_nine {j : Nat} (h : j ≤ 9) : 10 ^ j ≤ 1000000000 := Nat.le_trans (Nat.pow_le_pow_right (by omega) h) (by decide)
theorem num_step (v y : Int) (h0 : 0 ≤ v) (h1 : v < 1000000000) (hy : 48 ≤ y ∧ y ≤ 57) : wrap64 (wrap64 (10 * v) + (y - 48) % 256) = 10 * v + y - 48 := by
  have e1 : wrap64 (10 * v) = 10 * v := w64 (by omega) (by omega)
  have e2 : (y - 48) % 256 = y - 48 := by omega
  rw [e1, e2, w64 (by omega) (by omega)]
  omega
theorem num_val (xs : List Int) (hd : ∀ x ∈ xs, isD x) (hl : xs.length ≤ 10) (j : Nat) : j ≤ xs.length → impl_Candidates.num (xs.take j) = valC (xs.take j) := by
  induction j with
  | zero => intro _; unfold impl_Candidates.num valC; rw [List.take_zero, List.foldl_nil, List.foldl_nil]
  | succ j ih =>
    intro h
    have hx := hd xs[j] (List.getElem_mem _)
    have hr := valC_range xs hd j (by omega)
    have hp : 10 ^ j ≤ 1000000000 := pow_nine (by omega)
    rw [impl_Candidates.num_next xs j (by omega), ih (by omega), valC_next xs j (by omega), rd_int xs j (by omega)]
    exact num_step _ _ hr.1 (Int.lt_of_lt_of_le hr.2 (Int.ofNat_le.2 hp)) hx
theorem impl_leaf_ev (xs : List Int) (hl : xs.length = 12) (hd : ∀ x ∈ xs.take 10, isD x) (o : List Tag) (ho : o.length ≤ 1000000) : Ev (fun k => impl_Candidates.leaf k xs o) (leafR xs o) := by
  have hn := num_val (xs.take 10) hd (by simp; omega) 10 (by simp; omega)
  have hr := valC_range (xs.take 10) hd 10 (by simp; omega)
  rw [List.take_take, Nat.min_self] at hn hr
  unfold impl_Candidates.leaf leafR
  rw [hn, impl_tg _ hr.1 (by omega)]
  simp only [Option.bind_some]
  refine ev_bind _ (impl_ft_ev _ _ _) ?_
  unfold fmtT
  by_cases c : (fmtR (tgOf (valC (xs.take 10))).f0 (tgOf (valC (xs.take 10))).f1 (tgOf (valC (xs.take 10))).f2).toList = (strOfNums xs).toList
  · simp only [if_pos c, if_pos (show o.length < 5864062014805 by omega)]
    exact ev_some rfl
  · simp only [if_neg c]
    exact Ev.now _
theorem ev_rounds {g : Nat → Nat → List Tag → Option (List Tag)} {G : Nat → List Tag → List Tag} {N : Nat} (hG : ∀ c o, (G c o).length ≤ o.length + N) (d : Nat) : ∀ (c : Nat) (o : List Tag), c + d ≤ 10 → o.length + d * N ≤ 100000 → (∀ c o, c < 10 → o.length + N ≤ 100000 → Ev (fun k => g k c o) (G c o)) → Ev (fun k => impl_Candidates.rounds (g k) d c o) ((List.range' c d).foldl (fun o c => G c o) o) := by
  induction d with
  | zero => intro c o _ _ _; exact Ev.now _
  | succ d ih =>
    intro c o hc ho hg
    rw [Nat.succ_mul] at ho
    have := hG c o
    rw [List.range'_succ, List.foldl_cons]
    exact ev_bind _ (hg c o (by omega) (by omega)) (ih (c + 1) _ (by omega) (by omega) hg)
theorem impl_fl_ev : ∀ (suf pre : List Int) (o : List Tag), pre.length + suf.length = 12 → (∀ x ∈ pre.take 10, isD x) → wellF suf pre.length → unk suf ≤ 3 → o.length + 10 ^ unk suf ≤ 100000 → Ev (fun k => impl_Candidates.fl k pre suf o) ((List.range (10 ^ unk suf)).foldl (fun o j => leafR (pre ++ fillR suf j) o) o)
  | [], pre, o, hl, hd, _, _, ho => by
    have e : (List.range (10 ^ unk [])).foldl (fun o j => leafR (pre ++ fillR [] j) o) o = leafR pre o := by simp [unk, fillR]
    rw [e]
    exact impl_leaf_ev pre (by simpa using hl) hd o (Nat.le_trans (Nat.le_add_right _ _) (Nat.le_trans ho (by omega)))
  | x :: suf, pre, o, hl, hd, hw, hu, ho => by
    have hx := wellF_head hw
    have hw2 := wellF_tail hw
    rw [List.length_cons] at hl
    have take_ok : ∀ y, (pre.length < 10 → isD y) → ∀ z ∈ (pre ++ [y]).take 10, isD z := by
      intro y hy z hz
      rw [List.take_append] at hz
      rcases List.mem_append.1 hz with hz | hz
      · exact hd z hz
      · by_cases c : pre.length < 10
        · have := List.mem_of_mem_take hz
          rw [List.mem_singleton.1 this]
          exact hy c
        · rw [show 10 - pre.length = 0 by omega] at hz
          simp at hz
    by_cases c : x = 63
    · subst c
      have hp10 : ¬ pre.length = 10 := by intro h; rw [if_pos h] at hx; omega
      have hun : unk (63 :: suf) = unk suf + 1 := by rw [unk, if_pos rfl]; omega
      rw [hun] at hu ho ⊢
      have hN : 10 ^ (unk suf + 1) = 10 * 10 ^ unk suf := by rw [Nat.pow_succ, Nat.mul_comm]
      rw [hN] at ho ⊢
      have hpos : 0 < 10 ^ unk suf := Nat.pow_pos (by omega)
      have e : (List.range (10 * 10 ^ unk suf)).foldl (fun o j => leafR (pre ++ fillR (63 :: suf) j) o) o = (List.range' 0 10).foldl (fun o c => (List.range (10 ^ unk suf)).foldl (fun o j => leafR ((pre ++ [((48 + c : Nat) : Int)]) ++ fillR suf j) o) o) o := by
        rw [fold_range_mul, ← List.range_eq_range']
        refine fold_congr _ _ fun a c hc => fold_congr _ _ fun a j hj => ?_
        have hc := List.mem_range.1 hc
        have hj := List.mem_range.1 hj
        rw [fillR, if_pos rfl, fillR_add suf (unk suf) c j (Nat.le_refl _), Nat.add_comm (c * 10 ^ unk suf), Nat.add_mul_div_right _ _ hpos, Nat.div_eq_of_lt hj, Nat.zero_add, Nat.mod_eq_of_lt hc, List.append_assoc]
        rfl
      rw [e]
      refine Ev.congr (f := fun k => impl_Candidates.rounds (fun c o => impl_Candidates.fl k (pre ++ [((48 + c : Nat) : Int)]) suf o) 10 0 o) (fun k => by rw [impl_Candidates.fl, if_pos rfl]) ?_
      refine ev_rounds (g := fun k c o => impl_Candidates.fl k (pre ++ [((48 + c : Nat) : Int)]) suf o) (N := 10 ^ unk suf) (fun c o => ?_) 10 0 o (by omega) ho (fun c o hc ho => ?_)
      · have := fold_len (fun j => (pre ++ [((48 + c : Nat) : Int)]) ++ fillR suf j) (List.range (10 ^ unk suf)) o
        simpa using this
      · exact impl_fl_ev suf _ o (by simp; omega) (take_ok _ (fun _ => by unfold isD; omega)) (by simpa using hw2) (by omega) ho
    · have hun : unk (x :: suf) = unk suf := by rw [unk, if_neg c]; omega
      rw [hun] at hu ho ⊢
      have e : (List.range (10 ^ unk suf)).foldl (fun o j => leafR (pre ++ fillR (x :: suf) j) o) o = (List.range (10 ^ unk suf)).foldl (fun o j => leafR ((pre ++ [x]) ++ fillR suf j) o) o := by
        refine fold_congr _ _ fun a j hj => ?_
        rw [fillR, if_neg c, List.append_assoc]
        rfl
      rw [e]
      refine Ev.congr (f := fun k => impl_Candidates.fl k (pre ++ [x]) suf o) (fun k => by rw [impl_Candidates.fl, if_neg c]) ?_
      refine impl_fl_ev suf _ o (by simp; omega) (take_ok x (fun h => ?_)) (by simpa using hw2) hu ho
      rw [if_neg (by omega)] at hx
      exact hx.resolve_right c
/-- What the scan tells: the text is well-formed and has so many unknown bytes. -/
theorem scan_some : ∀ (l : List Int) (i : Nat) (u u' : Int), (∀ j (h : j < l.length), i + j = 10 → l[j] = 45) → impl_Candidates.scan l i u = some u' → wellF l i ∧ u' = u + (unk l : Int)
  | [], i, u, u', _, h => by
    obtain rfl := Option.some.inj h
    exact ⟨fun j hj => by simp at hj, by simp [unk]⟩
  | x :: l, i, u, u', h45, h => by
    have ht : ∀ j (h : j < l.length), i + 1 + j = 10 → l[j] = 45 := fun j hj e => h45 (j + 1) (by simpa using hj) (by omega)
    have key : ∀ (v : Int), impl_Candidates.scan l (i + 1) v = some u' → (if i = 10 then x = 45 else isD x ∨ x = 63) → v = u + (if x = 63 then 1 else 0 : Int) → wellF (x :: l) i ∧ u' = u + (unk (x :: l) : Int) := by
      intro v hv hx he
      obtain ⟨h1, h2⟩ := scan_some l (i + 1) v u' ht hv
      refine ⟨fun j hj => ?_, ?_⟩
      · cases j with
        | zero => exact hx
        | succ j =>
          have := h1 j (by simpa using hj)
          rw [show i + 1 + j = i + (j + 1) by omega] at this
          exact this
      · rw [h2, he, unk]
        split <;> simp <;> omega
    rw [impl_Candidates.scan] at h
    by_cases c1 : i = 10
    · have hx := h45 0 (by simp) (by omega)
      have hx : x = 45 := hx
      rw [if_pos c1] at h
      exact key u h (by rw [if_pos c1]; exact hx) (by rw [if_neg (by omega)]; omega)
    · rw [if_neg c1] at h
      by_cases c2 : x = 63
      · rw [if_pos c2] at h
        exact key (u + 1) h (by rw [if_neg c1]; exact .inr c2) (by rw [if_pos c2])
      · rw [if_neg c2] at h
        by_cases c3 : x < 48
        · rw [if_pos c3] at h; cases h
        · rw [if_neg c3] at h
          by_cases c4 : x > 57
          · rw [if_pos c4] at h; cases h
          · rw [if_neg c4] at h
            exact key u h (by rw [if_neg c1]; exact .inl ⟨by omega, by omega⟩) (by rw [if_neg c2]; omega)
/-- What Candidates returns. -/
def candR (s : ByteArray) : List Tag × Bool :=
  if s.size = 12 ∧ bt s 10 = 45 then (match impl_Candidates.scan (numsOf s) 0 0 with
    | none => ([], false)
    | some u => if u > 3 then ([], false) else (candM (numsOf s), true)) else ([], false)
theorem nums_len (s : ByteArray) : (numsOf s).length = s.size := impl_Candidates.nums_length s
theorem dash_at {s : ByteArray} (hs : s.size = 12) (h : bt s 10 = 45) : ∀ j (h : j < (numsOf s).length), 0 + j = 10 → (numsOf s)[j] = 45 := by
  intro j hj e
  obtain rfl : j = 10 := by omega
  rw [impl_Candidates.nums_at]
  exact h
theorem impl_cand_ev (s : ByteArray) : Ev (fun k => impl_Candidates.f k s) (candR s) := by
  unfold impl_Candidates.f candR
  by_cases c1 : s.size = 12
  · simp only [if_pos (show (s.size : Int) = 12 by omega)]
    by_cases c2 : bt s 10 = 45
    · simp only [if_pos c2, if_pos (show s.size = 12 ∧ bt s 10 = 45 from ⟨c1, c2⟩)]
      cases hsc : impl_Candidates.scan (numsOf s) 0 0 with
      | none => exact Ev.now _
      | some u =>
        obtain ⟨hw, hu⟩ := scan_some _ _ _ _ (dash_at c1 c2) hsc
        simp only []
        by_cases c3 : u > 3
        · simp only [if_pos c3]; exact Ev.now _
        · simp only [if_neg c3]
          have hl : (numsOf s).length = 12 := by rw [nums_len, c1]
          have h3 : unk (numsOf s) ≤ 3 := by omega
          have hp : 10 ^ unk (numsOf s) ≤ 10 ^ 3 := Nat.pow_le_pow_right (by omega) h3
          refine ev_bind _ (impl_fl_ev (numsOf s) [] [] (by simpa using hl) (by simp) hw h3 (by simp; omega)) ?_
          exact ev_some rfl
    · simp only [if_neg c2, if_neg (show ¬ (s.size = 12 ∧ bt s 10 = 45) from fun h => c2 h.2)]; exact Ev.now _
  · simp only [if_neg (show ¬ (s.size : Int) = 12 by omega), if_neg (show ¬ (s.size = 12 ∧ bt s 10 = 45) from fun h => c1 h.1)]; exact Ev.now _
theorem nums_back (l : List Int) (h : ∀ x ∈ l, 0 ≤ x ∧ x ≤ 255) : numsOf (strOfNums l) = l := by
  rw [mkB_nums]
  simp only [numsOf, mkB, List.map_map, List.toList_toArray]
  refine (List.map_congr_left (g := id) (fun x hx => ?_)).trans (List.map_id l)
  have := h x hx
  simp only [Function.comp, UInt8.toNat_ofNat', id]
  omega
theorem bt_nums (l : List Int) (h : ∀ x ∈ l, 0 ≤ x ∧ x ≤ 255) (j : Nat) (hj : j < l.length) : bt (strOfNums l) (j : Int) = l[j] := by
  have h2 : j < (numsOf (strOfNums l)).length := by rw [nums_back l h]; exact hj
  have := impl_Candidates.nums_at (strOfNums l) j h2
  rw [← this]
  congr 1
  · exact nums_back l h
theorem nums_size (l : List Int) : (strOfNums l).size = l.length := by rw [mkB_nums, mkB_size, List.length_map]
theorem w64n {n : Nat} (h : n ≤ 100000) : wrap64 (n : Int) = (n : Int) := w64 (by omega) (by omega)
theorem w64s {n : Nat} (h : n ≤ 100000) : wrap64 ((n : Int) + 1) = ((n + 1 : Nat) : Int) := w64 (by omega) (by omega)
/-- The bytes that are looked at. -/
theorem spec_scan (s : ByteArray) (hs : s.size = 12) (h45 : bt s 10 = 45) (r : List Tag × Bool) (f : Nat) : ∀ (i : Nat) (u : Int), i + f = 12 → 0 ≤ u → u ≤ i →
    (match impl_Candidates.scan ((numsOf s).drop i) i u with
      | none => r = ([], false)
      | some v => Ev (fun k => if v > 3 then some ([], false) else spec_Candidates.l1 k s v 1 0) r) → Ev (fun k => spec_Candidates.l0 k s u (i : Int)) r := by
  induction f with
  | zero =>
    intro i u hi h0 h1 h
    rw [List.drop_eq_nil_of_le (by rw [nums_len]; omega)] at h
    refine Ev.step (f := fun k => if u > 3 then some ([], false) else spec_Candidates.l1 k s u 1 0) (fun k => by rw [spec_Candidates.l0, if_neg (by omega)]) h
  | succ f ih =>
    intro i u hi h0 h1 h
    have e1 : wrap64 ((i : Int) + 1) = ((i + 1 : Nat) : Int) := w64s (by omega)
    have e2 : wrap64 (u + 1) = u + 1 := w64 (by omega) (by omega)
    have p1 : (i : Int) < 12 := by omega
    have p2 : (0 : Int) ≤ (i : Int) := by omega
    have p3 : (i : Int) < (s.size : Int) := by omega
    rw [impl_Candidates.scan_at (by omega)] at h
    by_cases c1 : i = 10
    · subst c1
      rw [if_pos rfl] at h
      have hb : ¬ bt s ((10 : Nat) : Int) = 63 := by rw [show ((10 : Nat) : Int) = 10 from rfl, h45]; omega
      exact Ev.step (fun k => by rw [spec_Candidates.l0, if_pos p1, if_pos p2, if_pos p3, if_neg hb, if_pos (show ((10 : Nat) : Int) = 10 from rfl), e1]) (ih (10 + 1) u (by omega) h0 (by omega) h)
    · rw [if_neg c1] at h
      have c1' : ¬ (i : Int) = 10 := by omega
      by_cases c2 : bt s (i : Int) = 63
      · rw [if_pos c2] at h
        exact Ev.step (fun k => by rw [spec_Candidates.l0, if_pos p1, if_pos p2, if_pos p3, if_pos c2, e1, e2]) (ih (i + 1) (u + 1) (by omega) (by omega) (by omega) h)
      · rw [if_neg c2] at h
        by_cases c3 : bt s (i : Int) < 48
        · rw [if_pos c3] at h
          exact Ev.step (f := fun _ => some ([], false)) (fun k => by rw [spec_Candidates.l0, if_pos p1, if_pos p2, if_pos p3, if_neg c2, if_neg c1', if_pos c3]) (ev_some (Eq.symm h))
        · rw [if_neg c3] at h
          by_cases c4 : bt s (i : Int) > 57
          · rw [if_pos c4] at h
            exact Ev.step (f := fun _ => some ([], false)) (fun k => by rw [spec_Candidates.l0, if_pos p1, if_pos p2, if_pos p3, if_neg c2, if_neg c1', if_neg c3, if_pos c4]) (ev_some (Eq.symm h))
          · rw [if_neg c4] at h
            exact Ev.step (fun k => by rw [spec_Candidates.l0, if_pos p1, if_pos p2, if_pos p3, if_neg c2, if_neg c1', if_neg c3, if_neg c4, e1]) (ih (i + 1) u (by omega) h0 (by omega) h)
theorem spec_pow (s : ByteArray) (u : Nat) (hu : u ≤ 3) (r : List Tag × Bool) (h : Ev (fun k => spec_Candidates.l2 k s ((10 ^ u : Nat) : Int) [] 0) r) (f : Nat) : ∀ j : Nat, j + f = u → Ev (fun k => spec_Candidates.l1 k s (u : Int) ((10 ^ j : Nat) : Int) (j : Int)) r := by
  induction f with
  | zero =>
    intro j hj
    obtain rfl : j = u := by omega
    exact Ev.step (fun k => by rw [spec_Candidates.l1, if_neg (by omega)]) h
  | succ f ih =>
    intro j hj
    have hp : 10 ^ j ≤ 10 ^ 2 := Nat.pow_le_pow_right (by omega) (by omega)
    have hp2 : 10 ^ 2 = 100 := by decide
    have e1 : wrap64 ((j : Int) + 1) = ((j + 1 : Nat) : Int) := w64s (by omega)
    have e2 : wrap64 (((10 ^ j : Nat) : Int) * 10) = ((10 ^ (j + 1) : Nat) : Int) := by
      rw [Nat.pow_succ]
      generalize 10 ^ j = q at hp ⊢
      rw [w64 (by omega) (by omega)]
      omega
    exact Ev.step (fun k => by rw [spec_Candidates.l1, if_pos (by omega), e1, e2]) (ih (j + 1) (by omega))
/-- The bytes with those from m on filled. -/
def partR (xs : List Int) (m k : Nat) : List Int := xs.take m ++ fillR (xs.drop m) k
theorem partR_len (xs : List Int) (m k : Nat) : (partR xs m k).length = xs.length := by
  unfold partR
  rw [List.length_append, fillR_length, List.length_take, List.length_drop]
  omega
theorem partR_at (xs : List Int) (m k : Nat) (h : m < xs.length) : (partR xs (m + 1) k)[m]'(by rw [partR_len]; exact h) = xs[m] := by
  unfold partR
  rw [List.getElem_append_left (by rw [List.length_take]; omega), List.getElem_take]
theorem partR_yes (xs : List Int) (m k : Nat) (h : m < xs.length) (hx : xs[m] = 63) : (partR xs (m + 1) k).set m ((48 + k / 10 ^ unk (xs.drop (m + 1)) % 10 : Nat) : Int) = partR xs m k := by
  unfold partR
  rw [List.drop_eq_getElem_cons h, fillR, if_pos hx, List.take_succ_eq_append_getElem h, List.append_assoc, List.set_append_right _ _ (by rw [List.length_take]; omega), List.length_take, show m - min m xs.length = 0 by omega]
  rfl
theorem partR_no (xs : List Int) (m k : Nat) (h : m < xs.length) (hx : ¬ xs[m] = 63) : partR xs (m + 1) k = partR xs m k := by
  unfold partR
  rw [List.drop_eq_getElem_cons h, fillR, if_neg hx, List.take_succ_eq_append_getElem h, List.append_assoc]
  rfl
theorem dig_byte (q : Nat) : (wrap64 (48 + ((q % 10 : Nat) : Int))) % 256 = ((48 + q % 10 : Nat) : Int) := by rw [w64 (by omega) (by omega)]; omega
theorem spec_fill (s : ByteArray) (N : Int) (o : List Tag) (xs : List Int) (hl : xs.length = 12) (kk : Nat) (hk : kk ≤ 1000) (r : List Tag × Bool) (h : Ev (fun k => spec_Candidates.l4 k s N o (kk : Int) (fillR xs kk) 0 0) r) (m : Nat) : m ≤ 12 →
    Ev (fun k => spec_Candidates.l3 k s N o (kk : Int) (partR xs m kk) ((kk / 10 ^ unk (xs.drop m) : Nat) : Int) ((m : Int) - 1)) r := by
  induction m with
  | zero =>
    intro _
    have e : partR xs 0 kk = fillR xs kk := by unfold partR; simp
    rw [e]
    exact Ev.step (fun k => by rw [spec_Candidates.l3, if_neg (by omega)]) h
  | succ m ih =>
    intro hm
    have ih := ih (by omega)
    have hlt : m < xs.length := by omega
    have hlen := partR_len xs (m + 1) kk
    have e0 : ((m + 1 : Nat) : Int) - 1 = (m : Int) := by omega
    have e1 : wrap64 ((m : Int) - 1) = (m : Int) - 1 := w64 (by omega) (by omega)
    have e2 : rd (partR xs (m + 1) kk) (m : Int) = xs[m] := by rw [rd_int _ m (by omega), partR_at xs m kk hlt]
    have hdr : unk (xs.drop m) = (if xs[m] = 63 then 1 else 0) + unk (xs.drop (m + 1)) := by rw [List.drop_eq_getElem_cons hlt, unk]
    rw [e0]
    have p1 : (m : Int) ≥ 0 := by omega
    have p2 : (0 : Int) ≤ (m : Int) := by omega
    have p3 : (m : Int) < ((partR xs (m + 1) kk).length : Int) := by omega
    by_cases c : xs[m] = 63
    · rw [if_pos c] at hdr
      have hq : kk / 10 ^ unk (xs.drop (m + 1)) ≤ kk := Nat.div_le_self _ _
      have hdiv : kk / 10 ^ unk (xs.drop (m + 1)) / 10 = kk / 10 ^ unk (xs.drop m) := by rw [hdr, Nat.div_div_eq_div_mul, Nat.add_comm 1, Nat.pow_succ]
      have hset := partR_yes xs m kk hlt c
      rw [← hdiv] at ih
      generalize kk / 10 ^ unk (xs.drop (m + 1)) = q at *
      have e3 : Int.tmod (q : Int) 10 = ((q % 10 : Nat) : Int) := by rw [Int.tmod_eq_emod_of_nonneg (by omega)]; omega
      have e4 : Int.tdiv (q : Int) 10 = ((q / 10 : Nat) : Int) := by rw [Int.tdiv_eq_ediv_of_nonneg (by omega)]; omega
      have e5 : wrap64 ((q / 10 : Nat) : Int) = ((q / 10 : Nat) : Int) := w64n (by omega)
      exact Ev.step (fun k => by rw [spec_Candidates.l3, if_pos p1, if_pos p2, if_pos p3, e2, if_pos c, e3, e4, e5, e1, dig_byte, Int.toNat_natCast, hset]) ih
    · rw [if_neg c, Nat.zero_add] at hdr
      rw [hdr] at ih
      rw [partR_no xs m kk hlt c] at p3 e2 ⊢
      exact Ev.step (fun k => by rw [spec_Candidates.l3, if_pos p1, if_pos p2, if_pos p3, e2, if_neg c, e1]) ih
theorem spec_step (v y : Int) (h0 : 0 ≤ v) (h1 : v < 1000000000) (hy : 48 ≤ y ∧ y ≤ 57) : wrap64 (wrap64 (wrap64 (10 * v) + wrap64 y) - 48) = 10 * v + y - 48 := by
  have e1 : wrap64 (10 * v) = 10 * v := w64 (by omega) (by omega)
  have e2 : wrap64 y = y := w64 (by omega) (by omega)
  have e3 : wrap64 (10 * v + y) = 10 * v + y := w64 (by omega) (by omega)
  rw [e1, e2, e3, w64 (by omega) (by omega)]
theorem spec_leaf (s : ByteArray) (N : Int) (o : List Tag) (ho : o.length ≤ 1000000) (ys : List Int) (hl : ys.length = 12) (hd : ∀ x ∈ ys.take 10, isD x) (kk : Nat) (hk : kk ≤ 1000) (r : List Tag × Bool) (h : Ev (fun k => spec_Candidates.l2 k s N (leafR ys o) ((kk + 1 : Nat) : Int)) r) (f : Nat) : ∀ j : Nat, j + f = 10 → Ev (fun k => spec_Candidates.l4 k s N o (kk : Int) ys (valC (ys.take j)) (j : Int)) r := by
  have hl10 : (ys.take 10).length = 10 := by simp; omega
  induction f with
  | zero =>
    intro j hj
    obtain rfl : j = 10 := by omega
    have hr := valC_range (ys.take 10) hd 10 (by omega)
    rw [List.take_take, Nat.min_self] at hr
    have e1 : wrap64 ((kk : Int) + 1) = ((kk + 1 : Nat) : Int) := w64s (by omega)
    refine Ev.step (f := fun k => (spec_FormatTag.f k (tgOf (valC (ys.take 10))).f0 (tgOf (valC (ys.take 10))).f1 (tgOf (valC (ys.take 10))).f2).bind fun x => if x.toList = (strOfNums ys).toList then (if o.length < 5864062014805 then spec_Candidates.l2 k s N (o ++ [tgOf (valC (ys.take 10))]) ((kk + 1 : Nat) : Int) else none) else spec_Candidates.l2 k s N o ((kk + 1 : Nat) : Int)) (fun k => by rw [spec_Candidates.l4, if_neg (by omega), spec_tg _ hr.1 (by omega), Option.bind_some, e1]) ?_
    refine ev_bind _ (spec_ft_ev _ _ _) ?_
    unfold leafR fmtT at h
    by_cases c : (fmtR (tgOf (valC (ys.take 10))).f0 (tgOf (valC (ys.take 10))).f1 (tgOf (valC (ys.take 10))).f2).toList = (strOfNums ys).toList
    · simp only [if_pos c, if_pos (show o.length < 5864062014805 by omega)]
      rw [if_pos c] at h
      exact h
    · simp only [if_neg c]
      rw [if_neg c] at h
      exact h
  | succ f ih =>
    intro j hj
    have hlt : j < ys.length := by omega
    have hx : isD ys[j] := by
      have := hd ((ys.take 10)[j]'(by omega)) (List.getElem_mem _)
      rwa [List.getElem_take] at this
    have hr := valC_range (ys.take 10) hd j (by omega)
    rw [List.take_take, Nat.min_eq_left (by omega)] at hr
    have hp : 10 ^ j ≤ 1000000000 := pow_nine (by omega)
    have ih := ih (j + 1) (by omega)
    rw [valC_next ys j hlt] at ih
    generalize valC (ys.take j) = v at hr ih ⊢
    have e1 : wrap64 ((j : Int) + 1) = ((j + 1 : Nat) : Int) := w64s (by omega)
    have e2 : wrap64 (wrap64 (wrap64 (10 * v) + wrap64 ys[j]) - 48) = 10 * v + ys[j] - 48 := spec_step v _ hr.1 (Int.lt_of_lt_of_le hr.2 (Int.ofNat_le.2 hp)) hx
    have p1 : (j : Int) < 10 := by omega
    have p2 : (0 : Int) ≤ (j : Int) := by omega
    have p3 : (j : Int) < (ys.length : Int) := by omega
    exact Ev.step (fun k => by rw [spec_Candidates.l4, if_pos p1, if_pos p2, if_pos p3, rd_int ys j hlt, e1, e2]) ih
theorem spec_all (s : ByteArray) (hs : s.size = 12) (hw : wellF (numsOf s) 0) (hu : unk (numsOf s) ≤ 3) (f : Nat) : ∀ j : Nat, j + f = 10 ^ unk (numsOf s) → Ev (fun k => spec_Candidates.l2 k s ((10 ^ unk (numsOf s) : Nat) : Int) ((List.range j).foldl (fun o j => leafR (fillR (numsOf s) j) o) []) (j : Int)) (candM (numsOf s), true) := by
  have hp : 10 ^ unk (numsOf s) ≤ 10 ^ 3 := Nat.pow_le_pow_right (by omega) hu
  have hp2 : 10 ^ 3 = 1000 := by decide
  have hl : (numsOf s).length = 12 := by rw [nums_len, hs]
  induction f with
  | zero =>
    intro j hj
    rw [Nat.add_zero] at hj
    subst hj
    exact Ev.step (f := fun _ => some (candM (numsOf s), true)) (fun k => by rw [spec_Candidates.l2, if_neg (by omega)]; rfl) (Ev.now _)
  | succ f ih =>
    intro j hj
    have ih := ih (j + 1) (by omega)
    rw [List.range_succ, List.foldl_append, List.foldl_cons, List.foldl_nil] at ih
    have hlen := fold_len (fillR (numsOf s)) (List.range j) []
    rw [List.length_range, List.length_nil] at hlen
    refine Ev.step (fun k => by rw [spec_Candidates.l2, if_pos (by omega)]) ?_
    have h1 := spec_leaf s ((10 ^ unk (numsOf s) : Nat) : Int) _ (Nat.le_trans hlen (by omega)) (fillR (numsOf s) j) (by rw [fillR_length, hl]) (fill_ten _ hl hw j) j (by omega) _ ih 10 0 rfl
    have h2 := spec_fill s ((10 ^ unk (numsOf s) : Nat) : Int) _ (numsOf s) hl j (by omega) _ h1 12 (Nat.le_refl _)
    have e1 : partR (numsOf s) 12 j = numsOf s := by unfold partR; rw [List.take_of_length_le (by omega), List.drop_eq_nil_of_le (by omega), fillR, List.append_nil]
    have e2 : unk ((numsOf s).drop 12) = 0 := by rw [List.drop_eq_nil_of_le (by omega)]; rfl
    rw [e1, e2, Nat.pow_zero, Nat.div_one] at h2
    exact h2
theorem spec_cand_ev (s : ByteArray) : Ev (fun k => spec_Candidates.f k s) (candR s) := by
  have hstop : ∀ r : List Tag × Bool, r = ([], false) → Ev (fun k => spec_Candidates.j0 k s true) r := fun r hr => Ev.step (f := fun _ => some ([], false)) (fun k => by rw [spec_Candidates.j0, if_pos rfl]) (ev_some hr.symm)
  unfold spec_Candidates.f candR
  by_cases c1 : s.size = 12
  · simp only [if_pos (show (s.size : Int) = 12 by omega), if_pos (show (10 : Int) < (s.size : Int) by omega)]
    by_cases c2 : bt s 10 = 45
    · have hb : (bt s 10 != 45) = false := bne_eq_false_iff_eq.mpr c2
      rw [hb, if_pos (show s.size = 12 ∧ bt s 10 = 45 from ⟨c1, c2⟩)]
      refine Ev.step (f := fun k => spec_Candidates.l0 k s 0 0) (fun k => by rw [spec_Candidates.j0, if_neg (by decide)]) ?_
      refine spec_scan s c1 c2 _ 12 0 0 rfl (Int.le_refl _) (Int.le_refl _) ?_
      rw [List.drop_zero]
      cases hsc : impl_Candidates.scan (numsOf s) 0 0 with
      | none => rfl
      | some u =>
        obtain ⟨hw, hu⟩ := scan_some _ _ _ _ (dash_at c1 c2) hsc
        rw [Int.zero_add] at hu
        subst hu
        simp only []
        by_cases c3 : (unk (numsOf s) : Int) > 3
        · simp only [if_pos c3]; exact Ev.now _
        · simp only [if_neg c3]
          exact spec_pow s (unk (numsOf s)) (by omega) _ (spec_all s c1 hw (by omega) _ 0 (Nat.zero_add _)) _ 0 (Nat.zero_add _)
    · have hb : (bt s 10 != 45) = true := bne_iff_ne.mpr c2
      rw [hb, if_neg (show ¬ (s.size = 12 ∧ bt s 10 = 45) from fun h => c2 h.2)]
      exact hstop _ rfl
  · simp only [if_neg (show ¬ (s.size : Int) = 12 by omega)]
    rw [if_neg (show ¬ (s.size = 12 ∧ bt s 10 = 45) from fun h => c1 h.1)]
    exact hstop _ rfl
/-- The first candidate's text. -/
def fstT (s : ByteArray) : ByteArray := fmtT (rd_T25 (candR s).1 0)
/-- What ParseTag returns. -/
def parR (s : ByteArray) : Int × Int × Int × Bool := if (candR s).2 = true ∧ (candR s).1.length = 1 ∧ (fstT s).toList = s.toList then ((rd_T25 (candR s).1 0).f0, (rd_T25 (candR s).1 0).f1, (rd_T25 (candR s).1 0).f2, true) else (0, 0, 0, false)
theorem impl_par_ev (s : ByteArray) : Ev (fun k => impl_ParseTag.f k s) (parR s) := by
  unfold impl_ParseTag.f parR
  refine ev_bind _ (impl_cand_ev s) ?_
  by_cases c1 : (candR s).2 = true
  · simp only [if_pos c1]
    by_cases c2 : (candR s).1.length = 1
    · simp only [if_pos (show ((candR s).1.length : Int) = 1 by omega), if_pos (show (0 : Int) < ((candR s).1.length : Int) by omega)]
      refine ev_bind _ (impl_ft_ev _ _ _) ?_
      by_cases c3 : (fstT s).toList = s.toList
      · simp only [if_pos (show (candR s).2 = true ∧ (candR s).1.length = 1 ∧ (fstT s).toList = s.toList from ⟨c1, c2, c3⟩)]
        unfold fstT fmtT at c3
        simp only [if_pos c3]
        exact Ev.now _
      · simp only [if_neg (show ¬ ((candR s).2 = true ∧ (candR s).1.length = 1 ∧ (fstT s).toList = s.toList) from fun h => c3 h.2.2)]
        unfold fstT fmtT at c3
        simp only [if_neg c3]
        exact Ev.now _
    · simp only [if_neg (show ¬ ((candR s).1.length : Int) = 1 by omega), if_neg (show ¬ ((candR s).2 = true ∧ (candR s).1.length = 1 ∧ (fstT s).toList = s.toList) from fun h => c2 h.2.1)]
      exact Ev.now _
  · simp only [if_neg c1, if_neg (show ¬ ((candR s).2 = true ∧ (candR s).1.length = 1 ∧ (fstT s).toList = s.toList) from fun h => c1 h.1)]
    exact Ev.now _
theorem spec_par_ev (s : ByteArray) : Ev (fun k => spec_ParseTag.f k s) (parR s) := by
  unfold spec_ParseTag.f parR
  refine ev_bind _ (spec_cand_ev s) ?_
  by_cases c1 : (candR s).2 = true
  · simp only [if_pos c1]
    by_cases c2 : (candR s).1.length = 1
    · simp only [if_pos (show ((candR s).1.length : Int) = 1 by omega), if_pos (show (0 : Int) < ((candR s).1.length : Int) by omega)]
      refine ev_bind _ (spec_ft_ev _ _ _) ?_
      by_cases c3 : (fstT s).toList = s.toList
      · simp only [if_pos (show (candR s).2 = true ∧ (candR s).1.length = 1 ∧ (fstT s).toList = s.toList from ⟨c1, c2, c3⟩)]
        unfold fstT fmtT at c3
        simp only [if_pos c3]
        exact Ev.now _
      · simp only [if_neg (show ¬ ((candR s).2 = true ∧ (candR s).1.length = 1 ∧ (fstT s).toList = s.toList) from fun h => c3 h.2.2)]
        unfold fstT fmtT at c3
        simp only [if_neg c3]
        exact Ev.now _
    · simp only [if_neg (show ¬ ((candR s).1.length : Int) = 1 by omega), if_neg (show ¬ ((candR s).2 = true ∧ (candR s).1.length = 1 ∧ (fstT s).toList = s.toList) from fun h => c2 h.2.1)]
      exact Ev.now _
  · simp only [if_neg c1, if_neg (show ¬ ((candR s).2 = true ∧ (candR s).1.length = 1 ∧ (fstT s).toList = s.toList) from fun h => c1 h.1)]
    exact Ev.now _
theorem ten_isD : ∀ m n, ∀ x ∈ tenD m n, isD x
  | 0, _, x, hx => by simp [tenD] at hx
  | m + 1, n, x, hx => by
    rw [tenD] at hx
    rcases List.mem_append.1 hx with hx | hx
    · exact ten_isD m _ x hx
    · rw [List.mem_singleton.1 hx]; unfold isD; omega
theorem valC_end (l : List Int) (b : Int) : valC (l ++ [b]) = 10 * valC l + b - 48 := by
  unfold valC; rw [List.foldl_append]; rfl
theorem valC_ten : ∀ m n, n < 10 ^ m → valC (tenD m n) = n
  | 0, n, h => by
    have : n = 0 := by simpa using h
    subst this; rfl
  | m + 1, n, h => by
    have h2 : 10 ^ (m + 1) = 10 ^ m * 10 := Nat.pow_succ ..
    rw [tenD, valC_end, valC_ten m (n / 10) (by omega)]
    omega
/-- The bytes of a valid tag's text. -/
def zR (x y z : Int) : List Int := tenD 10 (numM x y z).toNat ++ [45, 48 + checkM x y z]
theorem zR_len (x y z : Int) : (zR x y z).length = 12 := by unfold zR; simp [tenD_length]
theorem zR_ten (x y z : Int) : (zR x y z).take 10 = tenD 10 (numM x y z).toNat := by
  unfold zR
  rw [List.take_append_of_le_length (by rw [tenD_length]; exact Nat.le_refl _), List.take_of_length_le (by rw [tenD_length]; exact Nat.le_refl _)]
theorem zR_str {x y z : Int} (h : tagM x y z = true) : fmtR x y z = strOfNums (zR x y z) := by
  have hc := checkM_range h
  unfold fmtR
  rw [if_pos h, mkB_nums]
  congr 1
  unfold tagB zR
  rw [List.map_append]
  congr 1
  simp only [List.map_cons, List.map_nil]
  congr 2
  · rw [show (48 + checkM x y z).toNat = 48 + (checkM x y z).toNat by omega]
theorem zR_byte {x y z : Int} (h : tagM x y z = true) : ∀ b ∈ zR x y z, 0 ≤ b ∧ b ≤ 255 := by
  have hc := checkM_range h
  intro b hb
  unfold zR at hb
  rcases List.mem_append.1 hb with hb | hb
  · have := ten_isD 10 _ b hb
    unfold isD at this
    omega
  · simp at hb; omega
theorem ten_at (n : Nat) (e : Int) (he : isD e) : ∀ j (hj : j < (tenD 10 n ++ [45, e]).length), (j = 10 → (tenD 10 n ++ [45, e])[j] = 45) ∧ (j ≠ 10 → isD (tenD 10 n ++ [45, e])[j]) := by
  intro j hj
  have hl := tenD_length 10 n
  have hj2 : j < 12 := by simpa [hl] using hj
  by_cases c : j < 10
  · refine ⟨fun e => by omega, fun _ => ?_⟩
    rw [List.getElem_append_left (by omega)]
    exact ten_isD 10 _ _ (List.getElem_mem _)
  · have e : j = 10 ∨ j = 11 := by omega
    rcases e with rfl | rfl
    · refine ⟨fun _ => ?_, fun e => absurd rfl e⟩
      rw [List.getElem_append_right (by omega)]
      simp [hl]
    · refine ⟨fun e => by omega, fun _ => ?_⟩
      rw [List.getElem_append_right (by omega)]
      simp only [hl]
      exact he
theorem zR_at {x y z : Int} (h : tagM x y z = true) : ∀ j (hj : j < (zR x y z).length), (j = 10 → (zR x y z)[j] = 45) ∧ (j ≠ 10 → isD (zR x y z)[j]) := by
  have hc := checkM_range h
  exact ten_at _ _ ⟨by omega, by omega⟩
theorem scan_clean : ∀ (l : List Int) (i : Nat) (u : Int), (∀ j (h : j < l.length), i + j ≠ 10 → isD l[j]) → impl_Candidates.scan l i u = some u
  | [], _, _, _ => rfl
  | x :: l, i, u, h => by
    have ih := scan_clean l (i + 1) u (fun j hj e => h (j + 1) (by simpa using hj) (by omega))
    rw [impl_Candidates.scan]
    by_cases c : i = 10
    · rw [if_pos c]; exact ih
    · have hx : isD x := h 0 (by simp) (by omega)
      unfold isD at hx
      rw [if_neg c, if_neg (by omega), if_neg (by omega), if_neg (by omega)]
      exact ih
theorem fillR_id : ∀ (l : List Int) (k : Nat), unk l = 0 → fillR l k = l
  | [], _, _ => rfl
  | x :: l, k, h => by
    rw [unk] at h
    have c : ¬ x = 63 := by intro c; rw [if_pos c] at h; omega
    rw [if_neg c] at h
    rw [fillR, if_neg c, fillR_id l k (by omega)]
theorem tg_back {x y z : Int} (h : tagM x y z = true) : tgOf (numM x y z) = ⟨x, y, z⟩ := by
  rw [numM_pos h]
  rw [tagM_iff] at h
  unfold tgOf
  congr 1 <;> omega
theorem own_scan {x y z : Int} (h : tagM x y z = true) : impl_Candidates.scan (zR x y z) 0 0 = some 0 ∧ unk (zR x y z) = 0 := by
  have hz := zR_at h
  have hsc : impl_Candidates.scan (zR x y z) 0 0 = some 0 := scan_clean _ 0 0 (fun j hj e => (hz j hj).2 (by omega))
  obtain ⟨_, hu⟩ := scan_some _ _ _ _ (fun j hj e => (hz j hj).1 (by omega)) hsc
  exact ⟨hsc, by omega⟩
theorem own_cand {x y z : Int} (h : tagM x y z = true) : candM (zR x y z) = [⟨x, y, z⟩] := by
  have hr := numM_range h
  obtain ⟨_, hu0⟩ := own_scan h
  have hval : valC ((zR x y z).take 10) = numM x y z := by rw [zR_ten, valC_ten 10 _ (by omega)]; omega
  have hl : leafR (zR x y z) [] = [⟨x, y, z⟩] := by
    unfold leafR fmtT
    rw [hval, tg_back h]
    simp only []
    rw [if_pos (by rw [zR_str h]), List.nil_append]
  unfold candM
  rw [hu0, Nat.pow_zero, show List.range 1 = [0] from rfl, List.foldl_cons, List.foldl_nil, fillR_id _ _ hu0, hl]
theorem own_dash {x y z : Int} (h : tagM x y z = true) : bt (strOfNums (zR x y z)) 10 = 45 := by
  have hl := zR_len x y z
  have := bt_nums _ (zR_byte h) 10 (by omega)
  rw [(zR_at h 10 (by omega)).1 rfl] at this
  exact this
theorem cand_own {x y z : Int} (h : tagM x y z = true) : candR (fmtR x y z) = ([⟨x, y, z⟩], true) := by
  have hb := nums_back _ (zR_byte h)
  have hd := own_dash h
  obtain ⟨hsc, _⟩ := own_scan h
  have hm := own_cand h
  have hsz : (strOfNums (zR x y z)).size = 12 := by rw [nums_size, zR_len]
  rw [zR_str h]
  generalize strOfNums (zR x y z) = s at hb hd hsz ⊢
  unfold candR
  rw [if_pos ⟨hsz, hd⟩, hb, hsc]
  simp only []
  rw [if_neg (show ¬ (0 : Int) > 3 by omega), hm]
theorem par_own {x y z : Int} (h : tagM x y z = true) : parR (fmtR x y z) = (x, y, z, true) := by
  have hc := cand_own h
  have hrd : rd_T25 (candR (fmtR x y z)).1 0 = ⟨x, y, z⟩ := by rw [hc]; rfl
  unfold parR fstT
  rw [hrd]
  rw [if_pos ⟨by rw [hc], by rw [hc]; rfl, rfl⟩]
theorem par_true {s : ByteArray} (h : (parR s).2.2.2 = true) : (fmtT ⟨(parR s).1, (parR s).2.1, (parR s).2.2.1⟩).toList = s.toList := by
  unfold parR at h ⊢
  by_cases c : (candR s).2 = true ∧ (candR s).1.length = 1 ∧ (fstT s).toList = s.toList
  · rw [if_pos c]
    exact c.2.2
  · rw [if_neg c] at h
    cases h
theorem str_cut (l : List Int) (m : Nat) : (strOfNums l).extract 0 m = strOfNums (l.take m) := by
  rw [mkB_nums, mkB_nums]
  apply ByteArray.ext
  rw [ByteArray.data_extract]
  simp [mkB, List.map_take]
theorem str_app (a b : List Int) : strOfNums a ++ strOfNums b = strOfNums (a ++ b) := by
  rw [mkB_nums, mkB_nums, mkB_nums, mkB_append, List.map_append]
/-- A text with a valid tag's first eleven bytes is read just if it is that tag's. -/
theorem par_other {x y z : Int} (h : tagM x y z = true) (d : Int) (hd : 0 ≤ d ∧ d ≤ 255) : (parR (strOfNums ((zR x y z).take 11 ++ [d]))).2.2.2 = ((strOfNums ((zR x y z).take 11 ++ [d])).toList == (fmtR x y z).toList) := by
  have hl := zR_len x y z
  by_cases c : (strOfNums ((zR x y z).take 11 ++ [d])).toList = (fmtR x y z).toList
  · rw [toList_inj c, par_own h]
    simp
  · have hf : ¬ (parR (strOfNums ((zR x y z).take 11 ++ [d]))).2.2.2 = true := by
      intro ht
      have h2 := par_true ht
      generalize (parR (strOfNums ((zR x y z).take 11 ++ [d]))).1 = p at h2
      generalize (parR (strOfNums ((zR x y z).take 11 ++ [d]))).2.1 = q at h2
      generalize (parR (strOfNums ((zR x y z).take 11 ++ [d]))).2.2.1 = r at h2
      unfold fmtT at h2
      simp only [] at h2
      by_cases hv : tagM p q r = true
      · rw [zR_str hv] at h2
        have h3 := congrArg numsOf (toList_inj h2)
        have hby : ∀ b ∈ (zR x y z).take 11 ++ [d], 0 ≤ b ∧ b ≤ 255 := by
          intro b hb
          rcases List.mem_append.1 hb with hb | hb
          · exact zR_byte h b (List.mem_of_mem_take hb)
          · rw [List.mem_singleton.1 hb]; exact hd
        rw [nums_back _ (zR_byte hv), nums_back _ hby] at h3
        have h4 := congrArg (List.take 10) h3
        rw [List.take_append_of_le_length (by simp; omega), List.take_take, Nat.min_eq_left (by omega)] at h4
        have r1 := numM_range h
        have r2 := numM_range hv
        have t1 := zR_ten x y z
        have t2 := zR_ten p q r
        rw [t1, t2] at h4
        have h5 := congrArg valC h4
        rw [valC_ten 10 _ (by omega), valC_ten 10 _ (by omega)] at h5
        have hn : numM p q r = numM x y z := by omega
        have hz : zR p q r = zR x y z := by
          unfold zR checkM
          rw [if_pos hv, if_pos h, hn]
        refine c ?_
        rw [← h3, hz, zR_str h]
      · unfold fmtR at h2
        rw [if_neg hv] at h2
        have h3 := congrArg List.length h2
        rw [mkB_list, mkB_nums, mkB_list, List.length_map, List.length_append] at h3
        simp at h3
    rw [Bool.eq_false_iff.mpr hf, beq_eq_false_iff_ne.mpr c]
theorem byte_ok (b : List Int) (i h : Int) (hi : 0 ≤ i) (hb : b.length ≤ 140737488351232) :
    ∃ x i' h', spec_l01Byte.f b i h = some (x, i', h') ∧ 0 ≤ x ∧ x ≤ 255 ∧ 0 ≤ i' := by
  unfold spec_l01Byte.f
  by_cases h1 : i < (b.length : Int)
  · rw [if_pos h1, if_pos hi]
    refine ⟨_, _, _, rfl, (mask255 _).1, (mask255 _).2, ?_⟩
    rw [w64 (by omega) (by omega)]; omega
  · rw [if_neg h1]
    exact ⟨_, _, _, rfl, (mask255 _).1, (mask255 _).2, hi⟩
theorem below_ok (b : List Int) (i h n : Int) (hi : 0 ≤ i) (hb : b.length ≤ 140737488351232) :
    ∃ x i' h', spec_l01Below.f b i h n = some (x, i', h') ∧ (n ≤ 0 → x = 0) ∧ (0 < n → 0 ≤ x ∧ x < n) ∧ 0 ≤ i' := by
  unfold spec_l01Below.f
  by_cases h0 : n ≤ 0
  · rw [if_pos h0]
    exact ⟨_, _, _, rfl, fun _ => rfl, fun hn => by omega, hi⟩
  · rw [if_neg h0]
    by_cases h1 : n ≤ 256
    · rw [if_pos h1]
      obtain ⟨x, i', h', e, hx0, hx1, hi'⟩ := byte_ok b i h hi hb
      rw [e, Option.bind_some]
      simp only [if_neg (show ¬ n = 0 by omega)]
      have hm := Int.tmod_eq_emod_of_nonneg (b := n) hx0
      have := Int.emod_nonneg x (show n ≠ 0 by omega)
      have := Int.emod_lt_of_pos x (show 0 < n by omega)
      exact ⟨_, _, _, rfl, fun hn => by omega, fun _ => by rw [hm]; omega, hi'⟩
    · rw [if_neg h1]
      obtain ⟨x, i1, g1, e1, hx0, hx1, hi1⟩ := byte_ok b i h hi hb
      obtain ⟨y, i2, g2, e2, hy0, hy1, hi2⟩ := byte_ok b i1 g1 hi1 hb
      obtain ⟨z, i3, g3, e3, hz0, hz1, hi3⟩ := byte_ok b i2 g2 hi2 hb
      obtain ⟨v, i4, g4, e4, hv0, hv1, hi4⟩ := byte_ok b i3 g3 hi3 hb
      simp only [e1, e2, e3, e4, Option.bind_some, if_neg (show ¬ n = 0 by omega)]
      have w1 : wrap64 (x * 16777216) = x * 16777216 := w64 (by omega) (by omega)
      have w2 : wrap64 (y * 65536) = y * 65536 := w64 (by omega) (by omega)
      have w3 : wrap64 (z * 256) = z * 256 := w64 (by omega) (by omega)
      have w4 : wrap64 (x * 16777216 + y * 65536) = x * 16777216 + y * 65536 := w64 (by omega) (by omega)
      have w5 : wrap64 (x * 16777216 + y * 65536 + z * 256) = x * 16777216 + y * 65536 + z * 256 := w64 (by omega) (by omega)
      have w6 : wrap64 (x * 16777216 + y * 65536 + z * 256 + v) = x * 16777216 + y * 65536 + z * 256 + v := w64 (by omega) (by omega)
      rw [w1, w2, w3, w4, w5, w6]
      have hm := Int.tmod_eq_emod_of_nonneg (a := x * 16777216 + y * 65536 + z * 256 + v) (b := n) (by omega)
      have := Int.emod_nonneg (x * 16777216 + y * 65536 + z * 256 + v) (show n ≠ 0 by omega)
      have := Int.emod_lt_of_pos (x * 16777216 + y * 65536 + z * 256 + v) (show 0 < n by omega)
      exact ⟨_, _, _, rfl, fun hn => by omega, fun _ => by rw [hm]; omega, hi4⟩
theorem new_loop (b : List Int) (hb : b.length ≤ 140737488351232) (d : Nat) : ∀ (i : Nat) (h : Int), i + d = b.length → ∃ h', Ev (fun k => spec_l01New.l0 k b h i) (b, 0, h') := by
  induction d with
  | zero =>
    intro i h hi
    exact ⟨h, Ev.step (f := fun _ => some (b, 0, h)) (fun k => by rw [spec_l01New.l0, if_neg (by omega)]) (Ev.now _)⟩
  | succ d ih =>
    intro i h hi
    by_cases h4 : (i : Int) < 4000
    · obtain ⟨h', hev⟩ := ih (i + 1) (Go.bits .and .i64 (wrap64 ((wrap64 ((wrap64 (h * 131)) + (wrap64 (rd b i)))) + 7)) 1073741823) (by omega)
      refine ⟨h', Ev.step (fun k => ?_) hev⟩
      have e : wrap64 ((i : Int) + 1) = ((i + 1 : Nat) : Int) := w64 (by omega) (by omega)
      rw [spec_l01New.l0, if_pos (by omega), if_pos h4, if_pos (by omega), e]
    · exact ⟨h, Ev.step (f := fun _ => some (b, 0, h)) (fun k => by rw [spec_l01New.l0, if_pos (by omega), if_neg h4]) (Ev.now _)⟩
theorem new_ok (b : List Int) (hb : b.length ≤ 140737488351232) : ∃ h', Ev (fun k => spec_l01New.f k b) (b, 0, h') := by
  unfold spec_l01New.f
  exact new_loop b hb b.length 0 _ (by omega)
theorem pickInt_ok (b : List Int) (i h : Int) (l : List Int) (hl : 0 < l.length) (hi : 0 ≤ i) (hb : b.length ≤ 140737488351232) :
    ∃ x i' h', spec_l01PickInt.f b i h l = some (x, i', h') ∧ x ∈ l ∧ 0 ≤ i' := by
  unfold spec_l01PickInt.f
  obtain ⟨x, i1, h1, e1, _, hx, hi1⟩ := below_ok b i h l.length hi hb
  obtain ⟨h0, h2⟩ := hx (by omega)
  rw [e1, Option.bind_some]
  simp only [if_pos h0, if_pos h2]
  refine ⟨_, _, _, rfl, ?_, hi1⟩
  unfold rd
  rw [List.getD_eq_getElem?_getD, List.getElem?_eq_getElem (show x.toNat < l.length by omega)]
  exact List.getElem_mem _
theorem once_ok (b : List Int) (i h n : Int) (hi : 0 ≤ i) (hb : b.length ≤ 140737488351232) :
    ∃ (x : Bool) (i' h' : Int), spec_l01Once.f b i h n = some (x, i', h') ∧ 0 ≤ i' := by
  unfold spec_l01Once.f
  obtain ⟨x, i1, h1, e1, _, _, hi1⟩ := below_ok b i h n hi hb
  rw [e1, Option.bind_some]
  exact ⟨_, _, _, rfl, hi1⟩
theorem pickS_ok (b : List Int) (i h : Int) (l : List ByteArray) (hl : 0 < l.length) (hi : 0 ≤ i) (hb : b.length ≤ 140737488351232) : ∃ r i' h', spec_l01Pick.f b i h l = some (r, i', h') ∧ r ∈ l ∧ 0 ≤ i' := by
  unfold spec_l01Pick.f
  obtain ⟨x, i1, h1, e1, _, hx, hi1⟩ := below_ok b i h l.length hi hb
  obtain ⟨h0, h2⟩ := hx (by omega)
  rw [e1, Option.bind_some]
  simp only [if_pos h0, if_pos h2]
  refine ⟨_, _, _, rfl, ?_, hi1⟩
  unfold rdOf
  rw [List.getD_eq_getElem?_getD, List.getElem?_eq_getElem (show x.toNat < l.length by omega)]
  exact List.getElem_mem _
/-- A drawn tag is a valid one. -/
theorem draw_tag_valid (b : List Int) (hb : b.length ≤ 140737488351232) (i h : Int) (hi : 0 ≤ i) : ∃ x y z i' h', Ev (fun k => spec_l01Tag.f k b i h) (x, y, z, i', h') ∧ 0 ≤ i' ∧ tagM x y z = true := by
  unfold spec_l01Tag.f
  obtain ⟨x, i1, h1, e1, _, hx, hi1⟩ := below_ok b i h 10 hi hb
  obtain ⟨y, i2, h2, e2, _, hy, hi2⟩ := below_ok b i1 h1 999 hi1 hb
  obtain ⟨z, i3, h3, e3, _, hz, hi3⟩ := below_ok b i2 h2 1000000 hi2 hb
  obtain ⟨o, i4, h4, e4, hi4⟩ := once_ok b i3 h3 8 hi3 hb
  have hx := hx (by omega)
  have hy := hy (by omega)
  have hz := hz (by omega)
  have ey : wrap64 (1 + y) = 1 + y := w64 (by omega) (by omega)
  have last : ∀ (x y z i h : Int), 0 ≤ i → tagM x y z = true → ∃ x' y' z' i' h', Ev (fun k => spec_l01Tag.j0 k b i h x y z) (x', y', z', i', h') ∧ 0 ≤ i' ∧ tagM x' y' z' = true := by
    intro x y z i h hi hv
    obtain ⟨o, i5, h5, e5, hi5⟩ := once_ok b i h 12 hi hb
    cases o with
    | true =>
      obtain ⟨q, i6, h6, e6, hq, hi6⟩ := pickInt_ok b i5 h5 [1, 7, 999] (by decide) hi5 hb
      refine ⟨x, q, z, i6, h6, Ev.step (f := fun _ => some (x, q, z, i6, h6)) (fun k => by rw [spec_l01Tag.j0, e5, Option.bind_some, if_pos rfl, e6, Option.bind_some]) (Ev.now _), hi6, ?_⟩
      rw [tagM_iff] at hv ⊢
      simp at hq
      omega
    | false => exact ⟨x, y, z, i5, h5, Ev.step (f := fun _ => some (x, y, z, i5, h5)) (fun k => by rw [spec_l01Tag.j0, e5, Option.bind_some, if_neg (show ¬ ((false, i5, h5).1 = true) from Bool.false_ne_true)]) (Ev.now _), hi5, hv⟩
  simp only [e1, e2, e3, e4, Option.bind_some, ey]
  cases o with
  | true =>
    obtain ⟨q, i5, h5, e5, hq, hi5⟩ := pickInt_ok b i4 h4 [0, 1, 999999] (by decide) hi4 hb
    simp only [if_true, e5, Option.bind_some]
    exact last _ _ _ _ _ hi5 (by rw [tagM_iff]; simp at hq; omega)
  | false =>
    simp only [Bool.false_eq_true, if_false]
    exact last _ _ _ _ _ hi4 (by rw [tagM_iff]; omega)
theorem fmtR_size {x y z : Int} (h : tagM x y z = true) : (fmtR x y z).size = 12 := by unfold fmtR; rw [if_pos h, mkB_size, tagB_len]
theorem blur_end (b : List Int) (hb : b.length ≤ 140737488351232) (ys : List Int) (hl : ys.length = 12) (i h : Int) (hi : 0 ≤ i) : ∃ s i' h', Ev (fun k => spec_l01Blur.j1 k ys b i h) (s, i', h') ∧ 0 ≤ i' := by
  obtain ⟨o, i1, h1, e1, hi1⟩ := once_ok b i h 20 hi hb
  have hsz := nums_size ys
  cases o with
  | true =>
    obtain ⟨r, i2, h2, e2, hr, hi2⟩ := pickS_ok b i1 h1 [(⟨#[]⟩ : ByteArray), (⟨#[48]⟩ : ByteArray), (⟨#[63]⟩ : ByteArray)] (by decide) hi1 hb
    have hr1 : r.size ≤ 1 := by
      simp only [List.mem_cons, List.not_mem_nil, or_false] at hr
      rcases hr with rfl | rfl | rfl <;> decide
    exact ⟨strOfNums ys ++ r, i2, h2, Ev.step (f := fun _ => some (strOfNums ys ++ r, i2, h2)) (fun k => by rw [spec_l01Blur.j1, e1, Option.bind_some, if_pos rfl, e2, Option.bind_some, if_pos (show (strOfNums ys).size + r.size ≤ 9223372036854775807 by rw [hsz, hl]; omega)]) (Ev.now _), hi2⟩
  | false => exact ⟨strOfNums ys, i1, h1, Ev.step (f := fun _ => some (strOfNums ys, i1, h1)) (fun k => by rw [spec_l01Blur.j1, e1, Option.bind_some, if_neg (show ¬ ((false, i1, h1).1 = true) from Bool.false_ne_true)]) (Ev.now _), hi1⟩
theorem blur_loop (b : List Int) (hb : b.length ≤ 140737488351232) : ∀ (n : Nat) (ys : List Int) (i h : Int), n ≤ 100 → ys.length = 12 → 0 ≤ i → ∃ s i' h', Ev (fun k => spec_l01Blur.l0 k ys (n : Int) b i h) (s, i', h') ∧ 0 ≤ i'
  | 0, ys, i, h, _, hl, hi => by
    obtain ⟨o, i1, h1, e1, hi1⟩ := once_ok b i h 6 hi hb
    cases o with
    | true =>
      obtain ⟨x, i2, h2, e2, _, hx, hi2⟩ := below_ok b i1 h1 12 hi1 hb
      have hx := hx (by omega)
      obtain ⟨q, i3, h3, e3, _, hi3⟩ := pickInt_ok b i2 h2 [48, 49, 57, 63, 45, 65, 58] (by decide) hi2 hb
      obtain ⟨s, i', h', e4, hi'⟩ := blur_end b hb (ys.set x.toNat (q % 256)) (by rw [List.length_set, hl]) i3 h3 hi3
      exact ⟨s, i', h', Ev.step (fun k => by rw [spec_l01Blur.l0, if_neg (by omega), e1, Option.bind_some, if_pos rfl, e2, Option.bind_some, e3, Option.bind_some, if_pos (show (0 : Int) ≤ x by omega), if_pos (show x < (ys.length : Int) by omega)]) e4, hi'⟩
    | false =>
      obtain ⟨s, i', h', e4, hi'⟩ := blur_end b hb ys hl i1 h1 hi1
      exact ⟨s, i', h', Ev.step (fun k => by rw [spec_l01Blur.l0, if_neg (by omega), e1, Option.bind_some, if_neg (show ¬ ((false, i1, h1).1 = true) from Bool.false_ne_true)]) e4, hi'⟩
  | n + 1, ys, i, h, hn, hl, hi => by
    have e0 : wrap64 (((n + 1 : Nat) : Int) - 1) = (n : Int) := by rw [w64 (by omega) (by omega)]; omega
    obtain ⟨x, i2, h2, e2, _, hx, hi2⟩ := below_ok b i h 12 hi hb
    have hx := hx (by omega)
    by_cases c : x = 10
    · obtain ⟨s, i', h', e4, hi'⟩ := blur_loop b hb n ys i2 h2 (by omega) hl hi2
      exact ⟨s, i', h', Ev.step (fun k => by rw [spec_l01Blur.l0, if_pos (by omega), e2, Option.bind_some, if_pos c, e0]) e4, hi'⟩
    · obtain ⟨s, i', h', e4, hi'⟩ := blur_loop b hb n (ys.set x.toNat 63) i2 h2 (by omega) (by rw [List.length_set, hl]) hi2
      exact ⟨s, i', h', Ev.step (fun k => by rw [spec_l01Blur.l0, if_pos (by omega), e2, Option.bind_some, if_neg c, if_pos (show (0 : Int) ≤ x by omega), if_pos (show x < (ys.length : Int) by omega), e0]) e4, hi'⟩
theorem blur_ok (b : List Int) (hb : b.length ≤ 140737488351232) (i h : Int) (hi : 0 ≤ i) : ∃ s i' h', Ev (fun k => spec_l01Blur.f k b i h) (s, i', h') ∧ 0 ≤ i' := by
  unfold spec_l01Blur.f
  obtain ⟨x, y, z, i1, h1, e1, hi1, hv⟩ := draw_tag_valid b hb i h hi
  obtain ⟨q, i2, h2, e2, hq, hi2⟩ := pickInt_ok b i1 h1 [0, 0, 1, 1, 1, 2, 3, 4] (by decide) hi1 hb
  obtain ⟨n, rfl⟩ : ∃ n : Nat, q = (n : Int) := Int.eq_ofNat_of_zero_le (by simp at hq; omega)
  obtain ⟨s, i', h', e3, hi'⟩ := blur_loop b hb n (numsOf (fmtR x y z)) i2 h2 (by simp at hq; omega) (by simp [numsOf, fmtR_size hv]) hi2
  refine ⟨s, i', h', ev_bind _ e1 (ev_bind _ (spec_ft_ev x y z) ?_), hi'⟩
  simp only [e2, Option.bind_some]
  exact e3
theorem draw_tag_ok (b : List Int) (hb : b.length ≤ 140737488351232) (i h : Int) (hi : 0 ≤ i) : ∃ x y z i' h', Ev (fun k => spec_l01Tag.f k b i h) (x, y, z, i', h') ∧ 0 ≤ i' := by
  unfold spec_l01Tag.f
  obtain ⟨x, i1, h1, e1, _, _, hi1⟩ := below_ok b i h 10 hi hb
  obtain ⟨y, i2, h2, e2, _, _, hi2⟩ := below_ok b i1 h1 999 hi1 hb
  obtain ⟨z, i3, h3, e3, _, _, hi3⟩ := below_ok b i2 h2 1000000 hi2 hb
  obtain ⟨o, i4, h4, e4, hi4⟩ := once_ok b i3 h3 8 hi3 hb
  have last : ∀ (x y z i h : Int), 0 ≤ i → ∃ x' y' z' i' h', Ev (fun k => spec_l01Tag.j0 k b i h x y z) (x', y', z', i', h') ∧ 0 ≤ i' := by
    intro x y z i h hi
    obtain ⟨o, i5, h5, e5, hi5⟩ := once_ok b i h 12 hi hb
    cases o with
    | true =>
      obtain ⟨q, i6, h6, e6, _, hi6⟩ := pickInt_ok b i5 h5 [1, 7, 999] (by decide) hi5 hb
      exact ⟨x, q, z, i6, h6, Ev.step (f := fun _ => some (x, q, z, i6, h6)) (fun k => by rw [spec_l01Tag.j0, e5, Option.bind_some, if_pos rfl, e6, Option.bind_some]) (Ev.now _), hi6⟩
    | false => exact ⟨x, y, z, i5, h5, Ev.step (f := fun _ => some (x, y, z, i5, h5)) (fun k => by rw [spec_l01Tag.j0, e5, Option.bind_some, if_neg (show ¬ ((false, i5, h5).1 = true) from Bool.false_ne_true)]) (Ev.now _), hi5⟩
  simp only [e1, e2, e3, e4, Option.bind_some]
  cases o with
  | true =>
    obtain ⟨q, i5, h5, e5, _, hi5⟩ := pickInt_ok b i4 h4 [0, 1, 999999] (by decide) hi4 hb
    simp only [if_true, e5, Option.bind_some]
    exact last _ _ _ _ _ hi5
  | false =>
    simp only [Bool.false_eq_true, if_false]
    exact last _ _ _ _ _ hi4
theorem draw_any_tag (b : List Int) (hb : b.length ≤ 140737488351232) (i h : Int) (hi : 0 ≤ i) : ∃ x y z i' h', Ev (fun k => spec_l01AnyTag.f k b i h) (x, y, z, i', h') ∧ 0 ≤ i' := by
  unfold spec_l01AnyTag.f
  obtain ⟨x, y, z, i1, h1, e1, hi1⟩ := draw_tag_ok b hb i h hi
  obtain ⟨q, i2, h2, e2, _, _, hi2⟩ := below_ok b i1 h1 14 hi1 hb
  by_cases c0 : q = 0
  · obtain ⟨p, i3, h3, e3, _, hi3⟩ := pickInt_ok b i2 h2 [(-1), 10, 9] (by decide) hi2 hb
    exact ⟨p, y, z, i3, h3, ev_bind _ e1 (by simp only [e2, Option.bind_some, if_pos c0, e3]; exact Ev.now _), hi3⟩
  · by_cases c1 : q = 1
    · obtain ⟨p, i3, h3, e3, _, hi3⟩ := pickInt_ok b i2 h2 [0, (-1), 1000] (by decide) hi2 hb
      exact ⟨x, p, z, i3, h3, ev_bind _ e1 (by simp only [e2, Option.bind_some, if_neg c0, if_pos c1, e3]; exact Ev.now _), hi3⟩
    · by_cases c2 : q = 2
      · obtain ⟨p, i3, h3, e3, _, hi3⟩ := pickInt_ok b i2 h2 [(-1), 1000000, 9223372036854775807] (by decide) hi2 hb
        exact ⟨x, y, p, i3, h3, ev_bind _ e1 (by simp only [e2, Option.bind_some, if_neg c0, if_neg c1, if_pos c2, e3]; exact Ev.now _), hi3⟩
      · exact ⟨x, y, z, i2, h2, ev_bind _ e1 (by simp only [e2, Option.bind_some, if_neg c0, if_neg c1, if_neg c2]; exact Ev.now _), hi2⟩
theorem draw_ft_ok (b : List Int) (hb : b.length ≤ 140737488351232) : ∃ x y z, Ev (fun k => spec_DrawFormatTag.f k b) (x, y, z) := by
  unfold spec_DrawFormatTag.f
  obtain ⟨h', hn⟩ := new_ok b hb
  obtain ⟨x, y, z, i1, h1, e1, _⟩ := draw_any_tag b hb 0 h' (by omega)
  exact ⟨x, y, z, ev_bind _ hn (ev_bind _ e1 (Ev.now _))⟩
theorem draw_pt_ok (b : List Int) (hb : b.length ≤ 140737488351232) : ∃ s, Ev (fun k => spec_DrawParseTag.f k b) s := by
  unfold spec_DrawParseTag.f
  obtain ⟨h', hn⟩ := new_ok b hb
  obtain ⟨s, i1, h1, e1, _⟩ := blur_ok b hb 0 h' (by omega)
  exact ⟨s, ev_bind _ hn (ev_bind _ e1 (Ev.now _))⟩
theorem draw_t_ok (b : List Int) (hb : b.length ≤ 140737488351232) : ∃ x y z, Ev (fun k => spec_DrawTag.f k b) (x, y, z) ∧ tagM x y z = true := by
  unfold spec_DrawTag.f
  obtain ⟨h', hn⟩ := new_ok b hb
  obtain ⟨x, y, z, i1, h1, e1, _, hv⟩ := draw_tag_valid b hb 0 h' (by omega)
  exact ⟨x, y, z, ev_bind _ hn (ev_bind _ e1 (Ev.now _)), hv⟩
theorem fmt_full (x y z : Int) : (((fmtR x y z).toList != ([] : List UInt8)) == tagM x y z) = true := by
  unfold fmtR
  by_cases h : tagM x y z = true
  · rw [if_pos h, h, mkB_list]
    have hl := tagB_len x y z
    have hne : tagB x y z ≠ [] := by intro e; rw [e] at hl; cases hl
    rw [bne_iff_ne.mpr hne]
    rfl
  · rw [if_neg h, Bool.eq_false_iff.mpr h, mkB_list]
    rfl
theorem tags_end (b : List Int) (hb : b.length ≤ 140737488351232) (T : ByteArray) : Ev (fun k => laws_FnTags.l0 k b T 256) true := by
  obtain ⟨x, y, z, h1⟩ := draw_ft_ok b hb
  obtain ⟨s, h2⟩ := draw_pt_ok b hb
  have hpt := fun h => par_true (s := s) h
  refine Ev.step (fun k => by rw [laws_FnTags.l0, if_neg (show ¬ (256 : Int) < 256 by omega)]) ?_
  refine ev_bind _ h1 ?_
  refine ev_bind _ h2 ?_
  refine ev_bind _ (impl_par_ev s) ?_
  refine ev_bind _ (spec_par_ev s) ?_
  refine ev_bind _ (impl_ft_ev x y z) ?_
  refine ev_bind _ (spec_ft_ev x y z) ?_
  simp only [if_true]
  refine ev_bind _ (impl_ft_ev x y z) ?_
  simp only [impl_TagOk_eq, Option.bind_some, fmt_full, if_true, beq_self_eq_true, Bool.and_true]
  by_cases c : (parR s).2.2.2 = true
  · simp only [if_pos c]
    refine ev_bind _ (impl_ft_ev _ _ _) ?_
    exact ev_some (beq_iff_eq.mpr (hpt c))
  · simp only [if_neg c]
    exact Ev.now _
theorem tags_loop (b : List Int) (hb : b.length ≤ 140737488351232) {x y z : Int} (h : tagM x y z = true) (f : Nat) : ∀ d : Nat, d + f = 256 → Ev (fun k => laws_FnTags.l0 k b (fmtR x y z) (d : Int)) true := by
  induction f with
  | zero =>
    intro d hd
    obtain rfl : d = 256 := by omega
    exact tags_end b hb _
  | succ f ih =>
    intro d hd
    have ih := ih (d + 1) (by omega)
    have e1 : wrap64 ((d : Int) + 1) = ((d + 1 : Nat) : Int) := w64 (by omega) (by omega)
    have e2 : (d : Int) % 256 = (d : Int) := by omega
    have hl := zR_len x y z
    have hcut : (fmtR x y z).extract 0 11 = strOfNums ((zR x y z).take 11) := by rw [zR_str h, str_cut]
    have hoth : (fmtR x y z).extract 0 11 ++ strOfNums [(d : Int)] = strOfNums ((zR x y z).take 11 ++ [(d : Int)]) := by rw [hcut, str_app]
    have hsz : ((fmtR x y z).extract 0 11).size + (strOfNums [(d : Int)]).size ≤ 9223372036854775807 := by rw [hcut, nums_size, nums_size, List.length_take, hl]; simp only [List.length_cons, List.length_nil]; decide
    have p0 : (11 : Int) ≤ ((fmtR x y z).size : Int) := by rw [fmtR_size h]; decide
    refine Ev.step (f := fun k => (impl_ParseTag.f k (strOfNums ((zR x y z).take 11 ++ [(d : Int)]))).bind fun bt => if (bt.2.2.2 != ((strOfNums ((zR x y z).take 11 ++ [(d : Int)])).toList == (fmtR x y z).toList)) = true then some false else laws_FnTags.l0 k b (fmtR x y z) ((d + 1 : Nat) : Int)) (fun k => by rw [laws_FnTags.l0, if_pos (show (d : Int) < 256 by omega), if_pos (by decide), if_pos p0, Option.bind_some, e2, if_pos hsz, hoth, e1]) ?_
    refine ev_bind _ (impl_par_ev _) ?_
    simp only [par_other h (d : Int) ⟨by omega, by omega⟩, bne_self_eq_false, Bool.false_eq_true, if_false]
    exact ih
theorem FnTags : laws_FnTags.Pure := by
  intro b _ hb _
  refine Ev.rounds ?_
  unfold laws_FnTags.f laws_big.f
  simp only [Option.bind_some]
  by_cases c : (b.length : Int) > 1048576
  · simp only [if_pos (decide_eq_true c)]; exact Ev.now _
  · simp only [if_neg (show ¬ decide ((b.length : Int) > 1048576) = true by simpa using c)]
    obtain ⟨x, y, z, hd, hv⟩ := draw_t_ok b (by omega)
    have hj : Ev (fun k => laws_FnTags.j0 k b (fmtR x y z) false) true :=
      Ev.step (f := fun k => laws_FnTags.l0 k b (fmtR x y z) 0) (fun k => by rw [laws_FnTags.j0, if_neg (by decide)]) (tags_loop b (by omega) hv 256 0 rfl)
    have hck : checkM x y z = Int.tmod (numM x y z) 7 := by
      unfold checkM
      rw [if_pos hv, Int.tmod_eq_emod_of_nonneg (numM_range hv).1]
    refine ev_bind _ hd ?_
    refine ev_bind _ (impl_ft_ev x y z) ?_
    refine ev_bind _ (impl_par_ev _) ?_
    simp only [par_own hv, if_pos (show ((fmtR x y z).size : Int) = 12 by rw [fmtR_size hv]; rfl)]
    refine ev_bind _ (spec_ft_ev x y z) ?_
    simp only [if_true, beq_self_eq_true, Bool.not_true, Bool.or_false, Bool.false_eq_true, if_false, impl_TagOk_eq, hv, Option.bind_some, impl_TagCheck_eq, spec_TagNumber_eq, impl_TagNumber_eq, if_pos hck, bne_self_eq_false]
    exact hj

end Go.Proofs.YtnkaimdcdedekaaDoor.Pure
