/- For every tag the law FnExactFormatTag returns true (its printed function does): the program and the reference write a tag alike. -/
import Derived.Test.YtnkaimdcdedekaaDoorPFnExactFormatTagx2
import Derived.Test.YtnkaimdcdedekaaDoorKit
namespace Go.Proofs.YtnkaimdcdedekaaDoor.Pure
open Go.RowKit Go.Proofs.YtnkaimdcdedekaaDoor.PFnExactFormatTag Go.Proofs.YtnkaimdcdedekaaDoorW.PrintWords Go.Proofs.YtnkaimdcdedekaaDoorW.PrintLast Go.Proofs.YtnkaimdcdedekaaDoorW.PrintMore Go.Proofs.YtnkaimdcdedekaaDoor.Kit
set_option linter.unusedVariables false
set_option linter.unusedSimpArgs false

/-- A valid tag. -/
def tagM (l a s : Int) : Bool := decide (0 ≤ l ∧ l ≤ 9 ∧ 1 ≤ a ∧ a ≤ 999 ∧ 0 ≤ s ∧ s ≤ 999999)
def numM (l a s : Int) : Int := if tagM l a s = true then (l * 1000 + a) * 1000000 + s else -1
def checkM (l a s : Int) : Int := if tagM l a s = true then numM l a s % 7 else -1
theorem tagM_iff (l a s : Int) : tagM l a s = true ↔ (0 ≤ l ∧ l ≤ 9 ∧ 1 ≤ a ∧ a ≤ 999 ∧ 0 ≤ s ∧ s ≤ 999999) := by simp [tagM]
theorem numM_pos {l a s : Int} (h : tagM l a s = true) : numM l a s = (l * 1000 + a) * 1000000 + s := by simp [numM, h]
theorem numM_range {l a s : Int} (h : tagM l a s = true) : 0 ≤ numM l a s ∧ numM l a s ≤ 9999999999 := by
  rw [numM_pos h]
  rw [tagM_iff] at h
  omega
theorem spec_in (x a b : Int) : spec_l01In.f x a b = some (decide (a ≤ x ∧ x ≤ b)) := by
  unfold spec_l01In.f
  by_cases h : x ≥ a
  · rw [if_pos h]; congr 1; simp; omega
  · rw [if_neg h]; congr 1; simp; omega
theorem spec_TagOk_eq (l a s : Int) : spec_TagOk.f l a s = some (tagM l a s) := by
  unfold spec_TagOk.f
  simp only [spec_in, Option.bind_some]
  unfold tagM
  by_cases h1 : 0 ≤ l ∧ l ≤ 9
  · simp only [h1, decide_true, if_true]
    by_cases h2 : 1 ≤ a ∧ a ≤ 999
    · simp [h1, h2]
    · simp [h2]; omega
  · simp [h1]; omega
theorem impl_TagOk_eq (l a s : Int) : impl_TagOk.f l a s = some (tagM l a s) := by
  unfold impl_TagOk.f tagM
  by_cases h1 : l ≥ 0
  · rw [if_pos h1]
    by_cases h2 : l ≤ 9
    · rw [if_pos h2]
      by_cases h3 : a ≥ 1
      · rw [if_pos h3]
        by_cases h4 : a ≤ 999
        · rw [if_pos h4]
          by_cases h5 : s ≥ 0
          · rw [if_pos h5]; congr 1; rw [decide_eq_decide]; omega
          · rw [if_neg h5]; congr 1; symm; rw [decide_eq_false_iff_not]; omega
        · rw [if_neg h4]; congr 1; symm; rw [decide_eq_false_iff_not]; omega
      · rw [if_neg h3]; congr 1; symm; rw [decide_eq_false_iff_not]; omega
    · rw [if_neg h2]; congr 1; symm; rw [decide_eq_false_iff_not]; omega
  · rw [if_neg h1]; congr 1; symm; rw [decide_eq_false_iff_not]; omega
theorem num_wrap {l a s : Int} (h : tagM l a s = true) : wrap64 ((wrap64 ((wrap64 ((wrap64 (l * 1000)) + a)) * 1000000)) + s) = (l * 1000 + a) * 1000000 + s := by
  rw [tagM_iff] at h
  rw [w64 (x := l * 1000) (by omega) (by omega), w64 (x := l * 1000 + a) (by omega) (by omega), w64 (x := (l * 1000 + a) * 1000000) (by omega) (by omega), w64 (by omega) (by omega)]
theorem spec_TagNumber_eq (l a s : Int) : spec_TagNumber.f l a s = some (numM l a s) := by
  unfold spec_TagNumber.f
  rw [spec_TagOk_eq, Option.bind_some]
  by_cases h : tagM l a s = true
  · rw [if_pos h, num_wrap h, numM_pos h]
  · rw [if_neg h]; simp [numM, h]
theorem impl_TagNumber_eq (l a s : Int) : impl_TagNumber.f l a s = some (numM l a s) := by
  unfold impl_TagNumber.f
  rw [impl_TagOk_eq, Option.bind_some]
  by_cases h : tagM l a s = true
  · rw [if_pos h, num_wrap h, numM_pos h]
  · rw [if_neg h]; simp [numM, h]
theorem spec_TagCheck_eq (l a s : Int) : spec_TagCheck.f l a s = some (checkM l a s) := by
  unfold spec_TagCheck.f checkM
  rw [spec_TagOk_eq, Option.bind_some]
  by_cases h : tagM l a s = true
  · rw [if_pos h, if_pos h, spec_TagNumber_eq, Option.bind_some, Int.tmod_eq_emod_of_nonneg (numM_range h).1]
  · rw [if_neg h, if_neg h]
theorem impl_TagCheck_eq (l a s : Int) : impl_TagCheck.f l a s = some (checkM l a s) := by
  unfold impl_TagCheck.f checkM
  rw [impl_TagOk_eq, Option.bind_some]
  by_cases h : tagM l a s = true
  · rw [if_pos h, if_pos h, impl_TagNumber_eq, Option.bind_some, Int.tmod_eq_emod_of_nonneg (numM_range h).1]
  · rw [if_neg h, if_neg h]
/-- A string of these bytes. -/
def mkB (l : List UInt8) : ByteArray := ⟨l.toArray⟩
theorem mkB_append (a b : List UInt8) : mkB a ++ mkB b = mkB (a ++ b) := by
  apply ByteArray.ext
  rw [ByteArray.data_append]
  simp [mkB]
theorem mkB_size (l : List UInt8) : (mkB l).size = l.length := by simp [mkB, ByteArray.size]
theorem mkB_nums (l : List Int) : strOfNums l = mkB (l.map fun n => UInt8.ofNat n.toNat) := by simp [mkB, strOfNums]
theorem mkB_list (l : List UInt8) : (mkB l).toList = l := by rw [ByteArray.toList_eq]; simp [mkB]
/-- m digits of a number. -/
def tenD : Nat → Nat → List Int
  | 0, _ => []
  | m + 1, n => tenD m (n / 10) ++ [((48 + n % 10 : Nat) : Int)]
theorem tenD_length : ∀ m n, (tenD m n).length = m
  | 0, _ => rfl
  | m + 1, n => by rw [tenD, List.length_append, tenD_length m]; rfl
theorem ten_loop (m : Nat) : ∀ (n : Nat) (s : List Int), m + s.length = 10 → n ≤ 9999999999 → Ev (fun k => spec_l01Ten.l0 k (n : Int) (List.replicate m 0 ++ s) ((m : Int) - 1)) (strOfNums (tenD m n ++ s)) := by
  induction m with
  | zero =>
    intro n s hs hn
    exact Ev.step (f := fun _ => some (strOfNums s)) (fun k => by rw [spec_l01Ten.l0, if_neg (by omega)]; rfl) (ev_some rfl)
  | succ m ih =>
    intro n s hs hn
    have e1 : ((m + 1 : Nat) : Int) - 1 = (m : Int) := by omega
    have e2 : Int.tmod (n : Int) 10 = ((n % 10 : Nat) : Int) := by rw [Int.tmod_eq_emod_of_nonneg (by omega)]; omega
    have e3 : Int.tdiv (n : Int) 10 = ((n / 10 : Nat) : Int) := by rw [Int.tdiv_eq_ediv_of_nonneg (by omega)]; omega
    have e4 : (wrap64 (48 + ((n % 10 : Nat) : Int))) % 256 = ((48 + n % 10 : Nat) : Int) := by rw [w64 (by omega) (by omega)]; omega
    have e5 : wrap64 ((n / 10 : Nat) : Int) = ((n / 10 : Nat) : Int) := w64 (by omega) (by omega)
    have e6 : wrap64 ((m : Int) - 1) = (m : Int) - 1 := w64 (by omega) (by omega)
    have e7 : (List.replicate (m + 1) (0 : Int) ++ s).set m ((48 + n % 10 : Nat) : Int) = List.replicate m 0 ++ (((48 + n % 10 : Nat) : Int) :: s) := by
      rw [List.replicate_succ', List.append_assoc, List.set_append, if_neg (by simp)]
      simp
    refine Ev.step (f := fun k => spec_l01Ten.l0 k ((n / 10 : Nat) : Int) (List.replicate m 0 ++ (((48 + n % 10 : Nat) : Int) :: s)) ((m : Int) - 1)) (fun k => ?_) ?_
    · rw [spec_l01Ten.l0, e1, if_pos (by omega), if_pos (by omega), if_pos (by simp; omega), e2, e3, e4, e5, e6, Int.toNat_natCast, e7]
    · rw [tenD, List.append_assoc]
      exact ih (n / 10) _ (by simp; omega) (by omega)
theorem ten_ev (n : Nat) (hn : n ≤ 9999999999) : Ev (fun k => spec_l01Ten.f k (n : Int)) (strOfNums (tenD 10 n)) := by
  unfold spec_l01Ten.f
  simp only [if_pos (show (10 : Nat) ≤ 281474976710656 by omega)]
  have := ten_loop 10 n [] rfl hn
  rwa [List.append_nil, List.append_nil] at this
theorem impl_fmt (n : Int) (h0 : -9223372036854775808 ≤ n) (h1 : n ≤ 9223372036854775807) : impl_FormatInt.f n = some (mkB (Go.Lib.itoa n)) := by
  unfold impl_FormatInt.f strconv_Itoa.f
  rw [if_pos ⟨h0, h1⟩]; rfl
/-- A tag's text. -/
def tagB (l a s : Int) : List UInt8 := (tenD 10 (numM l a s).toNat).map (fun n => UInt8.ofNat n.toNat) ++ 45 :: [UInt8.ofNat (48 + (checkM l a s).toNat)]
/-- What FormatTag returns. -/
def fmtR (l a s : Int) : ByteArray := if tagM l a s = true then mkB (tagB l a s) else mkB []
theorem checkM_range {l a s : Int} (h : tagM l a s = true) : 0 ≤ checkM l a s ∧ checkM l a s ≤ 6 := by
  have := numM_range h
  unfold checkM
  rw [if_pos h]
  omega
theorem tagB_len (l a s : Int) : (tagB l a s).length = 12 := by unfold tagB; simp [tenD_length]
theorem spec_ft_ev (l a s : Int) : Ev (fun k => spec_FormatTag.f k l a s) (fmtR l a s) := by
  unfold spec_FormatTag.f fmtR
  rw [spec_TagOk_eq]
  simp only [Option.bind_some]
  by_cases h : tagM l a s = true
  · have hr := numM_range h
    have hc := checkM_range h
    simp only [if_pos h]
    rw [spec_TagNumber_eq, spec_TagCheck_eq]
    simp only [Option.bind_some]
    have ht := ten_ev (numM l a s).toNat (by omega)
    rw [Int.toNat_of_nonneg hr.1] at ht
    refine ev_bind _ ht ?_
    rw [mkB_nums]
    have e4 : (wrap64 (48 + checkM l a s)) % 256 = ((48 + (checkM l a s).toNat : Nat) : Int) := by rw [w64 (by omega) (by omega)]; omega
    rw [show (⟨#[45]⟩ : ByteArray) = mkB [45] from rfl, e4, mkB_nums, mkB_append, mkB_append, mkB_size, mkB_size, mkB_size]
    simp only [List.length_append, List.length_map, tenD_length, List.length_cons, List.length_nil]
    rw [if_pos (by omega), if_pos (by omega)]
    exact ev_some (by unfold tagB; rw [List.append_assoc]; rfl)
  · simp only [if_neg h]; exact Ev.now _
/-- Zeros ahead of a number's digits make m digits. -/
theorem pad_eq (m : Nat) : ∀ u : Nat, u < 10 ^ (m + 1) → (Go.Lib.decDigits u).length ≤ m + 1 ∧ List.replicate (m + 1 - (Go.Lib.decDigits u).length) 48 ++ Go.Lib.decDigits u = (tenD (m + 1) u).map (fun n => UInt8.ofNat n.toNat) := by
  have hz : ∀ m : Nat, (tenD m 0).map (fun n => UInt8.ofNat n.toNat) = List.replicate m 48 := by
    intro m
    induction m with
    | zero => rfl
    | succ m ih => rw [tenD, List.map_append, Nat.zero_div, ih, List.replicate_succ']; rfl
  induction m with
  | zero =>
    intro u hu
    rw [Go.Lib.decDigits_one (by omega)]
    exact ⟨by simp, by rw [tenD, show u % 10 = u by omega]; rfl⟩
  | succ m ih =>
    intro u hu
    by_cases c : u < 10
    · rw [Go.Lib.decDigits_one c, tenD, show u / 10 = 0 by omega, show u % 10 = u by omega, List.map_append, hz]
      exact ⟨by simp, rfl⟩
    · obtain ⟨h1, h2⟩ := ih (u / 10) (by rw [Nat.pow_succ] at hu; omega)
      rw [Go.Lib.decDigits, dif_neg c, tenD, List.map_append, ← h2, List.length_append]
      refine ⟨by simp; omega, ?_⟩
      rw [show m + 1 + 1 - ((Go.Lib.decDigits (u / 10)).length + [UInt8.ofNat (48 + u % 10)].length) = m + 1 - (Go.Lib.decDigits (u / 10)).length by simp, List.append_assoc]
      rfl
theorem impl_ft_loop (l a s : Int) (h : tagM l a s = true) (d : Nat) : ∀ b : List UInt8, b.length + d = 10 → Ev (fun k => impl_FormatTag.l0 k (mkB b) l a s) (mkB ((List.replicate d 48 ++ b) ++ 45 :: [UInt8.ofNat (48 + (checkM l a s).toNat)])) := by
  have hc := checkM_range h
  induction d with
  | zero =>
    intro b hb
    refine Ev.step (f := fun _ => some (mkB ((List.replicate 0 48 ++ b) ++ 45 :: [UInt8.ofNat (48 + (checkM l a s).toNat)]))) (fun k => ?_) (Ev.now _)
    have e : Go.Lib.itoa (checkM l a s) = [UInt8.ofNat (48 + (checkM l a s).toNat)] := by unfold Go.Lib.itoa; rw [if_neg (by omega), Go.Lib.decDigits_one (by omega)]
    rw [impl_FormatTag.l0, mkB_size, if_neg (by omega), if_pos (by omega), impl_TagCheck_eq, Option.bind_some, impl_fmt _ (by omega) (by omega), Option.bind_some, show (⟨#[45]⟩ : ByteArray) = mkB [45] from rfl, mkB_append, mkB_size, mkB_size, e, if_pos (by simp; omega), mkB_append]
    simp
  | succ d ih =>
    intro b hb
    refine Ev.step (f := fun k => impl_FormatTag.l0 k (mkB (48 :: b)) l a s) (fun k => ?_) ?_
    · rw [impl_FormatTag.l0, mkB_size, if_pos (by omega), if_pos (by omega), show (⟨#[48]⟩ : ByteArray) = mkB [48] from rfl, mkB_append]; rfl
    · have := ih (48 :: b) (by simp; omega)
      rw [show List.replicate (d + 1) (48 : UInt8) ++ b = List.replicate d 48 ++ (48 :: b) by rw [List.replicate_succ', List.append_assoc]; rfl]
      exact this
theorem impl_ft_ev (l a s : Int) : Ev (fun k => impl_FormatTag.f k l a s) (fmtR l a s) := by
  unfold impl_FormatTag.f fmtR
  rw [impl_TagOk_eq]
  simp only [Option.bind_some]
  by_cases h : tagM l a s = true
  · have hr := numM_range h
    obtain ⟨h1, h2⟩ := pad_eq 9 (numM l a s).toNat (by omega)
    have e : Go.Lib.itoa (numM l a s) = Go.Lib.decDigits (numM l a s).toNat := by unfold Go.Lib.itoa; rw [if_neg (by omega)]
    simp only [if_pos h]
    rw [impl_TagNumber_eq]
    simp only [Option.bind_some]
    rw [impl_fmt _ (by omega) (by omega)]
    simp only [Option.bind_some]
    have h3 := impl_ft_loop l a s h (10 - (Go.Lib.decDigits (numM l a s).toNat).length) (Go.Lib.decDigits (numM l a s).toNat) (by omega)
    rw [h2] at h3
    rw [e]
    exact h3
  · simp only [if_neg h]; exact Ev.now _
theorem FnExactFormatTag : laws_FnExactFormatTag.Pure := by
  intro l a s _ _ _
  refine Ev.rounds ?_
  unfold laws_FnExactFormatTag.f laws_toTag.f
  simp only [Option.bind_some]
  refine ev_bind _ (spec_ft_ev l a s) ?_
  refine ev_bind _ (impl_ft_ev l a s) ?_
  simp only [if_true]
  exact Ev.now _

end Go.Proofs.YtnkaimdcdedekaaDoor.Pure
