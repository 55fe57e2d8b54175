/- For every slice of bytes the law FnNearTags returns true (its printed function does): of the tag drawn from it program and reference list the same near tags, each one digit away by seven, at most ten. -/
import Derived.Test.YtnkaimdcdedekaaDoorPFnNearTagsx8
import Derived.Test.YtnkaimdcdedekaaDoorKit
namespace Go.Proofs.YtnkaimdcdedekaaDoor.Pure
open Go.RowKit Go.Proofs.YtnkaimdcdedekaaDoor.PFnNearTags Go.Proofs.YtnkaimdcdedekaaDoorW.PrintWords Go.Proofs.YtnkaimdcdedekaaDoorW.PrintLast Go.Proofs.YtnkaimdcdedekaaDoorW.PrintMore Go.Proofs.YtnkaimdcdedekaaDoor.Kit
set_option linter.unusedVariables false
set_option linter.unusedSimpArgs false

abbrev Tag := S25
theorem rd_Tag (l : List Tag) (i : Nat) (h : i < l.length) : rd_T25 l (i : Int) = l[i] := by
  simp [rd_T25, List.getD_eq_getElem?_getD, List.getElem?_eq_getElem h]
theorem drop_Tag (l : List Tag) (i : Nat) (h : i < l.length) : l.drop i = rd_T25 l (i : Int) :: l.drop (i + 1) := by
  rw [List.drop_eq_getElem_cons h, rd_Tag l i h]
theorem take_Tag (l : List Tag) (i : Nat) (h : i < l.length) : l.take (i + 1) = l.take i ++ [rd_T25 l (i : Int)] := by
  rw [rd_Tag l i h, List.take_succ_eq_append_getElem h]
/-- A valid tag. -/
def tagM (l a s : Int) : Bool := decide (0 ≤ l ∧ l ≤ 9 ∧ 1 ≤ a ∧ a ≤ 999 ∧ 0 ≤ s ∧ s ≤ 999999)
def numM (l a s : Int) : Int := if tagM l a s = true then (l * 1000 + a) * 1000000 + s else -1
def checkM (l a s : Int) : Int := if tagM l a s = true then numM l a s % 7 else -1
theorem tagM_iff (l a s : Int) : tagM l a s = true ↔ (0 ≤ l ∧ l ≤ 9 ∧ 1 ≤ a ∧ a ≤ 999 ∧ 0 ≤ s ∧ s ≤ 999999) := by simp [tagM]
theorem numM_pos {l a s : Int} (h : tagM l a s = true) : numM l a s = (l * 1000 + a) * 1000000 + s := by simp [numM, h]
theorem numM_range {l a s : Int} (h : tagM l a s = true) : 0 ≤ numM l a s ∧ numM l a s ≤ 9999999999 := by
  rw [numM_pos h]
  rw [tagM_iff] at h
  omega
theorem spec_in (x a b : Int) : spec_l01In.f x a b = some (decide (a ≤ x ∧ x ≤ b)) := by
  unfold spec_l01In.f
  by_cases h : x ≥ a
  · rw [if_pos h]; congr 1; simp; omega
  · rw [if_neg h]; congr 1; simp; omega
theorem spec_TagOk_eq (l a s : Int) : spec_TagOk.f l a s = some (tagM l a s) := by
  unfold spec_TagOk.f
  simp only [spec_in, Option.bind_some]
  unfold tagM
  by_cases h1 : 0 ≤ l ∧ l ≤ 9
  · simp only [h1, decide_true, if_true]
    by_cases h2 : 1 ≤ a ∧ a ≤ 999
    · simp [h1, h2]
    · simp [h2]; omega
  · simp [h1]; omega
theorem impl_TagOk_eq (l a s : Int) : impl_TagOk.f l a s = some (tagM l a s) := by
  unfold impl_TagOk.f tagM
  by_cases h1 : l ≥ 0
  · rw [if_pos h1]
    by_cases h2 : l ≤ 9
    · rw [if_pos h2]
      by_cases h3 : a ≥ 1
      · rw [if_pos h3]
        by_cases h4 : a ≤ 999
        · rw [if_pos h4]
          by_cases h5 : s ≥ 0
          · rw [if_pos h5]; congr 1; rw [decide_eq_decide]; omega
          · rw [if_neg h5]; congr 1; symm; rw [decide_eq_false_iff_not]; omega
        · rw [if_neg h4]; congr 1; symm; rw [decide_eq_false_iff_not]; omega
      · rw [if_neg h3]; congr 1; symm; rw [decide_eq_false_iff_not]; omega
    · rw [if_neg h2]; congr 1; symm; rw [decide_eq_false_iff_not]; omega
  · rw [if_neg h1]; congr 1; symm; rw [decide_eq_false_iff_not]; omega
theorem num_wrap {l a s : Int} (h : tagM l a s = true) : wrap64 ((wrap64 ((wrap64 ((wrap64 (l * 1000)) + a)) * 1000000)) + s) = (l * 1000 + a) * 1000000 + s := by
  rw [tagM_iff] at h
  rw [w64 (x := l * 1000) (by omega) (by omega), w64 (x := l * 1000 + a) (by omega) (by omega), w64 (x := (l * 1000 + a) * 1000000) (by omega) (by omega), w64 (by omega) (by omega)]
theorem spec_TagNumber_eq (l a s : Int) : spec_TagNumber.f l a s = some (numM l a s) := by
  unfold spec_TagNumber.f
  rw [spec_TagOk_eq, Option.bind_some]
  by_cases h : tagM l a s = true
  · rw [if_pos h, num_wrap h, numM_pos h]
  · rw [if_neg h]; simp [numM, h]
theorem impl_TagNumber_eq (l a s : Int) : impl_TagNumber.f l a s = some (numM l a s) := by
  unfold impl_TagNumber.f
  rw [impl_TagOk_eq, Option.bind_some]
  by_cases h : tagM l a s = true
  · rw [if_pos h, num_wrap h, numM_pos h]
  · rw [if_neg h]; simp [numM, h]
theorem spec_TagCheck_eq (l a s : Int) : spec_TagCheck.f l a s = some (checkM l a s) := by
  unfold spec_TagCheck.f checkM
  rw [spec_TagOk_eq, Option.bind_some]
  by_cases h : tagM l a s = true
  · rw [if_pos h, if_pos h, spec_TagNumber_eq, Option.bind_some, Int.tmod_eq_emod_of_nonneg (numM_range h).1]
  · rw [if_neg h, if_neg h]
theorem impl_TagCheck_eq (l a s : Int) : impl_TagCheck.f l a s = some (checkM l a s) := by
  unfold impl_TagCheck.f checkM
  rw [impl_TagOk_eq, Option.bind_some]
  by_cases h : tagM l a s = true
  · rw [if_pos h, if_pos h, impl_TagNumber_eq, Option.bind_some, Int.tmod_eq_emod_of_nonneg (numM_range h).1]
  · rw [if_neg h, if_neg h]
/-- A string of these bytes. -/
def mkB (l : List UInt8) : ByteArray := ⟨l.toArray⟩
theorem mkB_append (a b : List UInt8) : mkB a ++ mkB b = mkB (a ++ b) := by
  apply ByteArray.ext
  rw [ByteArray.data_append]
  simp [mkB]
theorem mkB_size (l : List UInt8) : (mkB l).size = l.length := by simp [mkB, ByteArray.size]
theorem mkB_nums (l : List Int) : strOfNums l = mkB (l.map fun n => UInt8.ofNat n.toNat) := by simp [mkB, strOfNums]
theorem mkB_list (l : List UInt8) : (mkB l).toList = l := by rw [ByteArray.toList_eq]; simp [mkB]
/-- m digits of a number. -/
def tenD : Nat → Nat → List Int
  | 0, _ => []
  | m + 1, n => tenD m (n / 10) ++ [((48 + n % 10 : Nat) : Int)]
theorem tenD_length : ∀ m n, (tenD m n).length = m
  | 0, _ => rfl
  | m + 1, n => by rw [tenD, List.length_append, tenD_length m]; rfl
theorem ten_loop (m : Nat) : ∀ (n : Nat) (s : List Int), m + s.length = 10 → n ≤ 9999999999 → Ev (fun k => spec_l01Ten.l0 k (n : Int) (List.replicate m 0 ++ s) ((m : Int) - 1)) (strOfNums (tenD m n ++ s)) := by
  induction m with
  | zero =>
    intro n s hs hn
    exact Ev.step (f := fun _ => some (strOfNums s)) (fun k => by rw [spec_l01Ten.l0, if_neg (by omega)]; rfl) (ev_some rfl)
  | succ m ih =>
    intro n s hs hn
    have e1 : ((m + 1 : Nat) : Int) - 1 = (m : Int) := by omega
    have e2 : Int.tmod (n : Int) 10 = ((n % 10 : Nat) : Int) := by rw [Int.tmod_eq_emod_of_nonneg (by omega)]; omega
    have e3 : Int.tdiv (n : Int) 10 = ((n / 10 : Nat) : Int) := by rw [Int.tdiv_eq_ediv_of_nonneg (by omega)]; omega
    have e4 : (wrap64 (48 + ((n % 10 : Nat) : Int))) % 256 = ((48 + n % 10 : Nat) : Int) := by rw [w64 (by omega) (by omega)]; omega
    have e5 : wrap64 ((n / 10 : Nat) : Int) = ((n / 10 : Nat) : Int) := w64 (by omega) (by omega)
    have e6 : wrap64 ((m : Int) - 1) = (m : Int) - 1 := w64 (by omega) (by omega)
    have e7 : (List.replicate (m + 1) (0 : Int) ++ s).set m ((48 + n % 10 : Nat) : Int) = List.replicate m 0 ++ (((48 + n % 10 : Nat) : Int) :: s) := by
      rw [List.replicate_succ', List.append_assoc, List.set_append, if_neg (by simp)]
      simp
    refine Ev.step (f := fun k => spec_l01Ten.l0 k ((n / 10 : Nat) : Int) (List.replicate m 0 ++ (((48 + n % 10 : Nat) : Int) :: s)) ((m : Int) - 1)) (fun k => ?_) ?_
    · rw [spec_l01Ten.l0, e1, if_pos (by omega), if_pos (by omega), if_pos (by simp; omega), e2, e3, e4, e5, e6, Int.toNat_natCast, e7]
    · rw [tenD, List.append_assoc]
      exact ih (n / 10) _ (by simp; omega) (by omega)
theorem ten_ev (n : Nat) (hn : n ≤ 9999999999) : Ev (fun k => spec_l01Ten.f k (n : Int)) (strOfNums (tenD 10 n)) := by
  unfold spec_l01Ten.f
  simp only [if_pos (show (10 : Nat) ≤ 281474976710656 by omega)]
  have := ten_loop 10 n [] rfl hn
  rwa [List.append_nil, List.append_nil] at this
def tgN (x : Tag) : Int := numM x.f0 x.f1 x.f2
/-- A tag put where it belongs. -/
def insT (x : Tag) : List Tag → List Tag
  | [] => [x]
  | y :: l => if tgN x < tgN y then x :: y :: l else y :: insT x l
theorem insT_len (x : Tag) : ∀ l : List Tag, (insT x l).length = l.length + 1
  | [] => rfl
  | y :: l => by
    rw [insT]
    split
    · rfl
    · rw [List.length_cons, insT_len x l, List.length_cons]
theorem insT_mem (x : Tag) : ∀ (l : List Tag) (z : Tag), z ∈ insT x l → z = x ∨ z ∈ l
  | [], z, h => by simpa [insT] using h
  | y :: l, z, h => by
    rw [insT] at h
    split at h
    · simpa using h
    · rcases List.mem_cons.1 h with h | h
      · exact .inr (by simp [h])
      · rcases insT_mem x l z h with h | h
        · exact .inl h
        · exact .inr (by simp [h])
def sortedT (l : List Tag) : Prop := l.Pairwise (fun x y => tgN x ≤ tgN y)
theorem insT_sorted (x : Tag) : ∀ l : List Tag, sortedT l → sortedT (insT x l)
  | [], _ => List.pairwise_singleton _ _
  | y :: l, h => by
    obtain ⟨h1, h2⟩ := List.pairwise_cons.1 h
    rw [insT]
    split
    · rename_i c
      refine List.pairwise_cons.2 ⟨fun z hz => ?_, h⟩
      rcases List.mem_cons.1 hz with hz | hz
      · rw [hz]; omega
      · have := h1 z hz; omega
    · rename_i c
      refine List.pairwise_cons.2 ⟨fun z hz => ?_, insT_sorted x l h2⟩
      rcases insT_mem x l z hz with hz | hz
      · rw [hz]; omega
      · exact h1 z hz
theorem insT_last (x : Tag) : ∀ l : List Tag, (∀ z ∈ l, ¬ tgN x < tgN z) → insT x l = l ++ [x]
  | [], _ => rfl
  | y :: l, h => by
    rw [insT, if_neg (h y (by simp)), insT_last x l (fun z hz => h z (by simp [hz]))]; rfl
theorem insT_end (x y : Tag) (h : tgN x < tgN y) : ∀ l : List Tag, insT x (l ++ [y]) = insT x l ++ [y]
  | [] => by simp [insT, h]
  | z :: l => by
    rw [List.cons_append, insT, insT, insT_end x y h l]
    split <;> rfl
theorem spec_ins_true (l : List Tag) (hl : l.length ≤ 1000) (a b c : Int) (d : Nat) : ∀ (i : Nat) (o : List Tag), i + d = l.length → o.length ≤ i + 1 → Ev (fun k => spec_l01Insert.l0 k l o true i a b c) (o ++ l.drop i) := by
  induction d with
  | zero =>
    intro i o hi _
    rw [List.drop_eq_nil_of_le (show l.length ≤ i by omega), List.append_nil]
    exact Ev.step (f := fun _ => some o) (fun k => by rw [spec_l01Insert.l0, if_neg (show ¬ (i : Int) < (l.length : Int) by omega), if_pos rfl]) (Ev.now _)
  | succ d ih =>
    intro i o hi ho
    have e1 : wrap64 ((i : Int) + 1) = ((i + 1 : Nat) : Int) := w64 (by omega) (by omega)
    rw [drop_Tag l i (by omega), ← List.singleton_append, ← List.append_assoc]
    exact Ev.step (fun k => by rw [spec_l01Insert.l0, if_pos (show (i : Int) < (l.length : Int) by omega), if_pos rfl, if_pos (show (0 : Int) ≤ (i : Int) by omega), if_pos (by omega), e1]) (ih (i + 1) _ (by omega) (by simp; omega))
theorem spec_ins_false (l : List Tag) (hl : l.length ≤ 1000) (x : Tag) (d : Nat) : ∀ (i : Nat) (o : List Tag), i + d = l.length → o.length ≤ i → Ev (fun k => spec_l01Insert.l0 k l o false i x.f0 x.f1 x.f2) (o ++ insT x (l.drop i)) := by
  induction d with
  | zero =>
    intro i o hi ho
    rw [List.drop_eq_nil_of_le (show l.length ≤ i by omega), insT]
    exact Ev.step (f := fun _ => some (o ++ [x])) (fun k => by rw [spec_l01Insert.l0, if_neg (show ¬ (i : Int) < (l.length : Int) by omega), if_neg (by decide), if_pos (by omega)]) (Ev.now _)
  | succ d ih =>
    intro i o hi ho
    have hlt : i < l.length := by omega
    have e1 : wrap64 ((i : Int) + 1) = ((i + 1 : Nat) : Int) := w64 (by omega) (by omega)
    rw [drop_Tag l i hlt, insT]
    refine Ev.step (fun k => by rw [spec_l01Insert.l0, if_pos (show (i : Int) < (l.length : Int) by omega), if_neg (by decide), spec_TagNumber_eq, Option.bind_some, if_pos (show (0 : Int) ≤ (i : Int) by omega), spec_TagNumber_eq, Option.bind_some, if_pos (show o.length < 5864062014805 by omega), Option.bind_some, if_pos (show (o ++ [(⟨x.f0, x.f1, x.f2⟩ : Tag)]).length < 5864062014805 by simp; omega), e1]) ?_
    by_cases c : tgN x < tgN (rd_T25 l (i : Int))
    · rw [if_pos c]
      have := spec_ins_true l hl x.f0 x.f1 x.f2 d (i + 1) (o ++ [x] ++ [rd_T25 l (i : Int)]) (by omega) (by simp; omega)
      simp only [if_pos (show numM x.f0 x.f1 x.f2 < numM (rd_T25 l (i : Int)).f0 (rd_T25 l (i : Int)).f1 (rd_T25 l (i : Int)).f2 from c)]
      simpa using this
    · rw [if_neg c]
      have := ih (i + 1) (o ++ [rd_T25 l (i : Int)]) (by omega) (by simp; omega)
      simp only [if_neg (show ¬ numM x.f0 x.f1 x.f2 < numM (rd_T25 l (i : Int)).f0 (rd_T25 l (i : Int)).f1 (rd_T25 l (i : Int)).f2 from c), if_pos (show o.length < 5864062014805 by omega)]
      simpa using this
theorem spec_ins_ev (l : List Tag) (hl : l.length ≤ 1000) (x : Tag) : Ev (fun k => spec_l01Insert.f k l x.f0 x.f1 x.f2) (insT x l) := by
  unfold spec_l01Insert.f
  simpa using spec_ins_false l hl x l.length 0 [] (by omega) (by simp)
theorem rd_mid (A B : List Tag) (x : Tag) : rd_T25 (A ++ x :: B) (A.length : Int) = x := by
  simp [rd_T25, List.getD_eq_getElem?_getD]
theorem asc_in (i n : Nat) (r : List Tag) (L : Nat) (hL : L ≤ 1000) (B0 : List Tag) (x : Tag) : ∀ (m : Nat) (A B : List Tag), A.length = m → A.length + 1 + B.length = L → sortedT A → (∀ S, S = insT x A ++ B → Ev (fun k => impl_ascending.l0 k S (n : Int) (wrap64 ((i : Int) + 1))) r) → Ev (fun k => impl_ascending.l1 k (A ++ x :: B) (m : Int) (n : Int) i) r
  | 0, A, B, hA, hlen, hs, hr => by
    have : A = [] := List.eq_nil_of_length_eq_zero hA
    subst this
    exact Ev.step (fun k => by rw [impl_ascending.l1, if_neg (by omega)]; rfl) (hr _ rfl)
  | m + 1, A, B, hA, hlen, hs, hr => by
    have hne : A ≠ [] := by intro h; rw [h] at hA; simp at hA
    obtain ⟨A', y, rfl⟩ : ∃ A' y, A = A' ++ [y] := ⟨A.dropLast, A.getLast hne, (List.dropLast_concat_getLast hne).symm⟩
    have hm : A'.length = m := by simpa using hA
    have e1 : wrap64 (((m + 1 : Nat) : Int) - 1) = (m : Int) := by rw [w64 (by omega) (by omega)]; omega
    have hl : (A' ++ [y] ++ x :: B).length = L := by simp at hlen ⊢; omega
    have r1 : rd_T25 (A' ++ [y] ++ x :: B) (m : Int) = y := by
      rw [List.append_assoc, List.singleton_append, ← hm, rd_mid]
    have r2 : rd_T25 (A' ++ [y] ++ x :: B) ((m + 1 : Nat) : Int) = x := by
      rw [← hA, rd_mid]
    refine Ev.step (fun k => by rw [impl_ascending.l1, if_pos (by omega), e1, if_pos (show (0 : Int) ≤ (m : Int) by omega), if_pos (by rw [hl]; omega), r1, r2, impl_TagNumber_eq, Option.bind_some, if_pos (by omega), if_pos (by rw [hl]; omega), impl_TagNumber_eq, Option.bind_some]) ?_
    by_cases c : tgN x < tgN y
    · simp only [if_pos (show numM y.f0 y.f1 y.f2 > numM x.f0 x.f1 x.f2 from c)]
      have e2 : ((A' ++ [y] ++ x :: B).set (m : Int).toNat (⟨x.f0, x.f1, x.f2⟩ : Tag)).set ((m + 1 : Nat) : Int).toNat (⟨y.f0, y.f1, y.f2⟩ : Tag) = A' ++ x :: (y :: B) := by
        rw [Int.toNat_natCast, Int.toNat_natCast, List.append_assoc, List.singleton_append]
        rw [List.set_append, if_neg (by omega), show m - A'.length = 0 by omega, List.set_cons_zero, List.set_append, if_neg (by omega), show m + 1 - A'.length = 1 by omega, List.set_cons_succ, List.set_cons_zero]
      rw [e2]
      refine asc_in i n r L hL B0 x m A' (y :: B) hm (by simp at hlen ⊢; omega) (List.pairwise_append.1 hs).1 (fun S hS => hr S ?_)
      rw [hS, insT_end x y c A']; simp
    · simp only [if_neg (show ¬ numM y.f0 y.f1 y.f2 > numM x.f0 x.f1 x.f2 from c)]
      refine hr _ ?_
      rw [insT_last x (A' ++ [y]) (fun z hz => ?_)]
      · simp
      · rcases List.mem_append.1 hz with hz | hz
        · have := (List.pairwise_append.1 hs).2.2 z hz y (by simp)
          omega
        · rw [List.mem_singleton.1 hz]; exact c
theorem asc_loop (n : Nat) (hn : n ≤ 1000) : ∀ (l S : List Tag), S.length + l.length = n → sortedT S → Ev (fun k => impl_ascending.l0 k (S ++ l) (n : Int) (S.length : Int)) (l.foldl (fun a x => insT x a) S)
  | [], S, h, _ => by
    rw [List.append_nil, List.foldl_nil]
    exact Ev.step (f := fun _ => some S) (fun k => by rw [impl_ascending.l0, if_neg (by simp at h; omega)]) (Ev.now _)
  | x :: l, S, h, hs => by
    have e1 : wrap64 ((S.length : Int) + 1) = ((insT x S).length : Int) := by rw [insT_len, w64 (by omega) (by simp at h; omega)]; omega
    refine Ev.step (fun k => by rw [impl_ascending.l0, if_pos (by simp at h; omega)]) ?_
    refine asc_in S.length n _ n hn [] x S.length S l rfl (by simp at h ⊢; omega) hs (fun S' hS' => ?_)
    rw [hS', e1, List.foldl_cons]
    exact asc_loop n hn l (insT x S) (by rw [insT_len]; simp at h; omega) (insT_sorted x S hs)
theorem asc_ev (l : List Tag) (hl : l.length ≤ 1000) : Ev (fun k => impl_ascending.f k l) (l.foldl (fun a x => insT x a) []) := by
  unfold impl_ascending.f
  exact asc_loop l.length hl l [] (by simp) List.Pairwise.nil
/-- The tag of a number, as both tell it. -/
def ofN (m : Int) : Tag := ⟨wrap64 (Int.tdiv m 1000000000), Int.tmod (wrap64 (Int.tdiv m 1000000)) 1000, Int.tmod m 1000000⟩
/-- Is the tag of m a near one of t? -/
def nearB (t : Tag) (m : Int) : Bool := tagM (ofN m).f0 (ofN m).f1 (ofN m).f2 && decide (checkM (ofN m).f0 (ofN m).f1 (ofN m).f2 = checkM t.f0 t.f1 t.f2)
/-- The near tags at one place, from digit d on; o: the digit there, p: the place's power. -/
def nearD (t : Tag) (n p o : Nat) : Nat → Nat → List Tag
  | 0, _ => []
  | f + 1, d => (if d ≠ o ∧ nearB t ((n : Int) + ((d : Int) - o) * p) = true then [ofN ((n : Int) + ((d : Int) - o) * p)] else []) ++ nearD t n p o f (d + 1)
/-- The near tags at the last j places, the highest first. -/
def nearP (t : Tag) (n : Nat) : Nat → List Tag
  | 0 => []
  | j + 1 => nearD t n (10 ^ j) (n / 10 ^ j % 10) 10 0 ++ nearP t n j
theorem nearD_len (t : Tag) (n p o : Nat) : ∀ f d, (nearD t n p o f d).length ≤ f
  | 0, _ => Nat.le_refl _
  | f + 1, d => by
    have := nearD_len t n p o f (d + 1)
    rw [nearD, List.length_append]
    split <;> simp <;> omega
theorem nearP_len (t : Tag) (n : Nat) : ∀ j, (nearP t n j).length ≤ 10 * j
  | 0 => Nat.le_refl _
  | j + 1 => by
    have := nearP_len t n j
    have := nearD_len t n (10 ^ j) (n / 10 ^ j % 10) 10 0
    rw [nearP, List.length_append]
    omega
theorem pow_le9 {j : Nat} (hj : j < 10) : 10 ^ j ≤ 1000000000 := by
  have := Nat.pow_le_pow_right (show 0 < 10 by omega) (show j ≤ 9 by omega)
  omega
theorem nat64 (q : Nat) (h : q ≤ 9999999999) : wrap64 (q : Int) = (q : Int) := w64 (by omega) (by omega)
theorem mod10 (q : Nat) : Int.tmod (q : Int) 10 = ((q % 10 : Nat) : Int) := by rw [Int.tmod_eq_emod_of_nonneg (by omega)]; rfl
theorem mul_ok (d o p : Nat) (hd : d ≤ 9) (ho : o ≤ 9) (hp : p ≤ 1000000000) : -9000000000 ≤ ((d : Int) - o) * p ∧ ((d : Int) - o) * p ≤ 9000000000 := by
  have h1 : d * p ≤ 9 * 1000000000 := Nat.mul_le_mul hd hp
  have h2 : o * p ≤ 9 * 1000000000 := Nat.mul_le_mul ho hp
  rw [Int.sub_mul, ← Int.natCast_mul, ← Int.natCast_mul]
  omega
theorem impl_near_d (t : Tag) (n p : Nat) (hn : n ≤ 9999999999) (hp : p ≤ 1000000000) (o : Nat) (ho : o ≤ 9) (r : List Tag) (f : Nat) : ∀ (d : Nat) (l : List Tag), d + f = 10 → l.length + f ≤ 1000 → (∀ l', l' = l ++ nearD t n p o f d → Ev (fun k => impl_NearTags.l0 k (n : Int) l' (wrap64 (Int.tdiv (p : Int) 10)) t.f0 t.f1 t.f2) r) → Ev (fun k => impl_NearTags.l1 k (n : Int) l (p : Int) (o : Int) (d : Int) t.f0 t.f1 t.f2) r := by
  induction f with
  | zero =>
    intro d l hd hl hr
    exact Ev.step (fun k => by rw [impl_NearTags.l1, if_neg (by omega)]) (hr l (by simp [nearD]))
  | succ f ih =>
    intro d l hd hl hr
    have e1 : wrap64 ((d : Int) + 1) = ((d + 1 : Nat) : Int) := w64 (by omega) (by omega)
    have hm := mul_ok d o p (by omega) ho hp
    have e2 : wrap64 ((d : Int) - o) = (d : Int) - o := w64 (by omega) (by omega)
    have e3 : wrap64 (((d : Int) - o) * p) = ((d : Int) - o) * p := w64 (by omega) (by omega)
    have e4 : wrap64 ((n : Int) + ((d : Int) - o) * p) = (n : Int) + ((d : Int) - o) * p := w64 (by omega) (by omega)
    have hskip : (d = o ∨ nearB t ((n : Int) + ((d : Int) - o) * p) = false) → Ev (fun k => impl_NearTags.l1 k (n : Int) l (p : Int) (o : Int) ((d + 1 : Nat) : Int) t.f0 t.f1 t.f2) r := by
      intro hh
      refine ih (d + 1) l (by omega) (by omega) (fun l' hl' => hr l' ?_)
      rw [hl', nearD, if_neg (by rintro ⟨h1, h2⟩; rcases hh with hh | hh; exact h1 hh; rw [hh] at h2; cases h2), List.nil_append]
    refine Ev.step (fun k => by rw [impl_NearTags.l1, if_pos (show (d : Int) ≤ 9 by omega), e2, e3, e4, e1, impl_tagOf.f, Option.bind_some]) ?_
    by_cases c : (d : Int) = (o : Int)
    · simp only [if_pos c]
      exact hskip (.inl (by omega))
    · simp only [if_neg c, impl_TagOk_eq, impl_TagCheck_eq, Option.bind_some]
      by_cases c2 : tagM (ofN ((n : Int) + ((d : Int) - o) * p)).f0 (ofN ((n : Int) + ((d : Int) - o) * p)).f1 (ofN ((n : Int) + ((d : Int) - o) * p)).f2 = true
      · by_cases c3 : checkM (ofN ((n : Int) + ((d : Int) - o) * p)).f0 (ofN ((n : Int) + ((d : Int) - o) * p)).f1 (ofN ((n : Int) + ((d : Int) - o) * p)).f2 = checkM t.f0 t.f1 t.f2
        · have hgo := ih (d + 1) (l ++ [ofN ((n : Int) + ((d : Int) - o) * p)]) (by omega) (by simp; omega) (fun l' hl' => hr l' (by
            rw [hl', nearD, if_pos ⟨by omega, by unfold nearB; rw [c2, decide_eq_true c3]; rfl⟩]; simp))
          unfold ofN at c2 c3 hgo
          simp only [if_pos c2, if_pos c3, if_pos (show l.length < 5864062014805 by omega)]
          exact hgo
        · have hs := hskip (.inr (by unfold nearB; rw [decide_eq_false c3, Bool.and_false]))
          unfold ofN at c2 c3
          simp only [if_pos c2, if_neg c3]
          exact hs
      · have hs := hskip (.inr (by unfold nearB; simp only [Bool.not_eq_true] at c2; rw [c2, Bool.false_and]))
        unfold ofN at c2
        simp only [if_neg c2]
        exact hs
theorem impl_near_p (t : Tag) (n : Nat) (hn : n ≤ 9999999999) : ∀ (j : Nat) (l : List Tag), j ≤ 10 → l.length + 10 * j ≤ 1000 → Ev (fun k => impl_NearTags.l0 k (n : Int) l (if j = 0 then 0 else ((10 ^ (j - 1) : Nat) : Int)) t.f0 t.f1 t.f2) ((l ++ nearP t n j).foldl (fun a x => insT x a) [])
  | 0, l, _, hl => by
    rw [if_pos rfl, nearP, List.append_nil]
    refine Ev.step (fun k => by rw [impl_NearTags.l0, if_neg (by omega)]) ?_
    exact ev_bind _ (asc_ev l (by omega)) (Ev.now _)
  | j + 1, l, hj, hl => by
    rw [if_neg (by omega), Nat.add_sub_cancel, nearP]
    have hpos : 0 < 10 ^ j := Nat.pow_pos (by omega)
    have hp := pow_le9 (show j < 10 by omega)
    have e1 : Int.tdiv (n : Int) ((10 ^ j : Nat) : Int) = ((n / 10 ^ j : Nat) : Int) := by rw [Int.tdiv_eq_ediv_of_nonneg (by omega)]; rfl
    have hle : n / 10 ^ j ≤ n := Nat.div_le_self _ _
    have e2 : wrap64 ((n / 10 ^ j : Nat) : Int) = ((n / 10 ^ j : Nat) : Int) := nat64 _ (Nat.le_trans hle hn)
    have e3 : Int.tmod ((n / 10 ^ j : Nat) : Int) 10 = ((n / 10 ^ j % 10 : Nat) : Int) := mod10 _
    have e4 : wrap64 (Int.tdiv ((10 ^ j : Nat) : Int) 10) = (if j = 0 then 0 else ((10 ^ (j - 1) : Nat) : Int)) := by
      rw [Int.tdiv_eq_ediv_of_nonneg (by omega)]
      by_cases c : j = 0
      · subst c
        rw [if_pos rfl, show ((10 ^ 0 : Nat) : Int) / 10 = 0 by decide, w64 (by omega) (by omega)]
      · obtain ⟨i, rfl⟩ := Nat.exists_eq_succ_of_ne_zero c
        rw [if_neg c, Nat.succ_eq_add_one, Nat.add_sub_cancel]
        have : 10 ^ (i + 1) = 10 ^ i * 10 := Nat.pow_succ ..
        rw [w64 (by omega) (by omega)]
        omega
    refine Ev.step (fun k => by rw [impl_NearTags.l0, if_pos (by omega), if_neg (by omega), e1, e2, e3]) ?_
    refine impl_near_d t n (10 ^ j) hn hp (n / 10 ^ j % 10) (by omega) _ 10 0 l (by omega) (by omega) (fun l' hl' => ?_)
    rw [e4]
    have hD := nearD_len t n (10 ^ j) (n / 10 ^ j % 10) 10 0
    have := impl_near_p t n hn j l' (by omega) (by rw [hl', List.length_append]; omega)
    rw [hl', List.append_assoc] at this
    rw [hl']
    exact this
/-- The near tags of a tag. -/
def nearR (t : Tag) : List Tag := if tagM t.f0 t.f1 t.f2 = true then (nearP t (numM t.f0 t.f1 t.f2).toNat 10).foldl (fun a x => insT x a) [] else []
theorem impl_near_ev (t : Tag) : Ev (fun k => impl_NearTags.f k t.f0 t.f1 t.f2) (nearR t) := by
  unfold impl_NearTags.f nearR
  simp only [impl_TagNumber_eq, Option.bind_some]
  by_cases h : tagM t.f0 t.f1 t.f2 = true
  · have hr := numM_range h
    obtain ⟨n, hn⟩ := Int.eq_ofNat_of_zero_le hr.1
    rw [if_pos h, hn]
    simp only [if_neg (show ¬ ((n : Nat) : Int) < 0 by omega)]
    have h2 := impl_near_p t n (by omega) 10 [] (by omega) (by simp)
    rw [if_neg (show ¬ (10 : Nat) = 0 by omega), show ((10 ^ (10 - 1) : Nat) : Int) = 1000000000 by decide, List.nil_append] at h2
    rw [Int.toNat_natCast]
    exact h2
  · rw [if_neg h]
    simp only [if_pos (show numM t.f0 t.f1 t.f2 < 0 by simp [numM, h])]
    exact Ev.now _
theorem rd_int (l : List Int) (i : Nat) (h : i < l.length) : rd l (i : Int) = l[i] := by
  simp [rd, List.getD_eq_getElem?_getD, List.getElem?_eq_getElem h]
theorem drop_int (l : List Int) (i : Nat) (h : i < l.length) : l.drop i = rd l (i : Int) :: l.drop (i + 1) := by
  rw [List.drop_eq_getElem_cons h, rd_int l i h]
theorem tenD_range : ∀ m n, ∀ x ∈ tenD m n, 48 ≤ x ∧ x ≤ 57
  | 0, _, x, hx => by simp [tenD] at hx
  | m + 1, n, x, hx => by
    rw [tenD] at hx
    rcases List.mem_append.1 hx with hx | hx
    · exact tenD_range m _ x hx
    · rw [List.mem_singleton.1 hx]; omega
theorem nums_str (l : List Int) (h : ∀ x ∈ l, 0 ≤ x ∧ x ≤ 255) : numsOf (strOfNums l) = l := by
  rw [mkB_nums]
  simp only [numsOf, mkB, List.map_map, List.toList_toArray]
  refine (List.map_congr_left (g := id) (fun x hx => ?_)).trans (List.map_id l)
  have := h x hx
  simp only [Function.comp, UInt8.toNat_ofNat', id]
  omega
/-- The number that digits tell. -/
def valT (l : List Int) : Int := l.foldl (fun a b => 10 * a + b - 48) 0
theorem valT_end (l : List Int) (b : Int) : valT (l ++ [b]) = 10 * valT l + b - 48 := by
  unfold valT; rw [List.foldl_append]; rfl
theorem valT_ten : ∀ m n, n < 10 ^ m → valT (tenD m n) = n
  | 0, n, h => by
    have : n = 0 := by simpa using h
    subst this; rfl
  | m + 1, n, h => by
    have h2 : 10 ^ (m + 1) = 10 ^ m * 10 := Nat.pow_succ ..
    rw [tenD, valT_end, valT_ten m (n / 10) (by omega)]
    omega
theorem valT_set (d : Nat) : ∀ m n e, e < m → n < 10 ^ m → valT ((tenD m n).set (m - 1 - e) ((48 + d : Nat) : Int)) = (n : Int) + ((d : Int) - ((n / 10 ^ e % 10 : Nat) : Int)) * ((10 ^ e : Nat) : Int)
  | m + 1, n, 0, _, h => by
    have h2 : 10 ^ (m + 1) = 10 ^ m * 10 := Nat.pow_succ ..
    rw [tenD, show m + 1 - 1 - 0 = m by omega, List.set_append, if_neg (by rw [tenD_length]; omega), tenD_length, Nat.sub_self, List.set_cons_zero, valT_end, valT_ten m (n / 10) (by omega), Nat.pow_zero, Nat.div_one]
    omega
  | m + 1, n, e + 1, he, h => by
    have h2 : 10 ^ (m + 1) = 10 ^ m * 10 := Nat.pow_succ ..
    have h3 : 10 ^ (e + 1) = 10 ^ e * 10 := Nat.pow_succ ..
    have ih := valT_set d m (n / 10) e (by omega) (by omega)
    rw [tenD, show m + 1 - 1 - (e + 1) = m - 1 - e by omega, List.set_append, if_pos (by rw [tenD_length]; omega), valT_end, ih, Nat.div_div_eq_div_mul, show 10 * 10 ^ e = 10 ^ (e + 1) by rw [h3, Nat.mul_comm]]
    generalize n / 10 ^ (e + 1) % 10 = o
    rw [h3, Int.natCast_mul, ← Int.mul_assoc]
    generalize ((d : Int) - (o : Int)) * ((10 ^ e : Nat) : Int) = z
    omega
theorem near_dig (t : Tag) (a : List Tag) (own : ByteArray) (i d : Int) (X : List Int) (hX : X.length = 10) (hd : ∀ x ∈ X, 48 ≤ x ∧ x ≤ 57) (r : List Tag) (f : Nat) : ∀ (j : Nat) (v : Int), j + f = 10 → 0 ≤ v → v < ((10 ^ j : Nat) : Int) → Ev (fun k => spec_NearTags.l2 k a own i d X ((X.drop j).foldl (fun a b => 10 * a + b - 48) v) 10 t.f0 t.f1 t.f2) r → Ev (fun k => spec_NearTags.l2 k a own i d X v (j : Int) t.f0 t.f1 t.f2) r := by
  induction f with
  | zero =>
    intro j v hj h0 h1 hr
    have : j = 10 := by omega
    subst this
    rw [List.drop_eq_nil_of_le (by omega), List.foldl_nil] at hr
    exact hr
  | succ f ih =>
    intro j v hj h0 h1 hr
    have hlt : j < X.length := by omega
    have h2 : 10 ^ (j + 1) = 10 ^ j * 10 := Nat.pow_succ ..
    have h3 := pow_le9 (show j < 10 by omega)
    have hx := hd X[j] (List.getElem_mem _)
    have e1 : wrap64 ((j : Int) + 1) = ((j + 1 : Nat) : Int) := w64 (by omega) (by omega)
    have hb : v < 1000000000 := by omega
    have e2 : wrap64 (10 * v) = 10 * v := w64 (by omega) (by omega)
    have e3 : wrap64 X[j] = X[j] := w64 (by omega) (by omega)
    have e4 : wrap64 (10 * v + X[j]) = 10 * v + X[j] := w64 (by omega) (by omega)
    have e5 : wrap64 (10 * v + X[j] - 48) = 10 * v + X[j] - 48 := w64 (by omega) (by omega)
    refine Ev.step (fun k => by rw [spec_NearTags.l2, if_pos (by omega), if_pos (by omega), if_pos (by omega), rd_int X j hlt, e1, e2, e3, e4, e5]) ?_
    refine ih (j + 1) _ (by omega) (by omega) (by clear e1 e2 e3 e4 e5; omega) ?_
    rw [List.drop_eq_getElem_cons hlt, List.foldl_cons] at hr
    exact hr
theorem wr1 (d : Nat) (h : d ≤ 9) : wrap64 ((d : Int) + 1) = ((d + 1 : Nat) : Int) := w64 (by omega) (by omega)
theorem wr2 (d : Nat) (h : d ≤ 9) : (wrap64 (48 + (d : Int))) % 256 = ((48 + d : Nat) : Int) := by rw [w64 (by omega) (by omega)]; omega
theorem spec_near_d (t : Tag) (n : Nat) (hn : n ≤ 9999999999) (hN : numM t.f0 t.f1 t.f2 = n) (e : Nat) (he : e < 10) (r : List Tag) (f : Nat) : ∀ (d : Nat) (a : List Tag), d + f = 10 → a.length + f ≤ 1000 → (∀ a', a' = (nearD t n (10 ^ e) (n / 10 ^ e % 10) f d).foldl (fun a x => insT x a) a → Ev (fun k => spec_NearTags.l0 k a' (strOfNums (tenD 10 n)) (wrap64 (((9 - e : Nat) : Int) + 1)) t.f0 t.f1 t.f2) r) → Ev (fun k => spec_NearTags.l1 k a (strOfNums (tenD 10 n)) ((9 - e : Nat) : Int) (d : Int) t.f0 t.f1 t.f2) r := by
  have hpos : 0 < 10 ^ e := Nat.pow_pos (by omega)
  have hp := pow_le9 he
  have hD : numsOf (strOfNums (tenD 10 n)) = tenD 10 n := nums_str _ (fun x hx => by have := tenD_range 10 n x hx; omega)
  have hl := tenD_length 10 n
  have hv : ∀ d : Nat, ((tenD 10 n).set (9 - e) ((48 + d : Nat) : Int)).foldl (fun a b => 10 * a + b - 48) 0 = (n : Int) + ((d : Int) - ((n / 10 ^ e % 10 : Nat) : Int)) * ((10 ^ e : Nat) : Int) := fun d => valT_set d 10 n e he (by omega)
  have hr1 : ∀ d : Nat, d ≤ 9 → ∀ x ∈ (tenD 10 n).set (9 - e) ((48 + d : Nat) : Int), 48 ≤ x ∧ x ≤ 57 := by
    intro d hd x hx
    rcases List.mem_or_eq_of_mem_set hx with hx | hx
    · exact tenD_range 10 n x hx
    · rw [hx]; omega
  have hl1 : ∀ c : Int, ((tenD 10 n).set (9 - e) c).length = 10 := fun c => by rw [List.length_set, hl]
  generalize tenD 10 n = D at hD hl hv hr1 hl1 ⊢
  generalize n / 10 ^ e % 10 = o at hv ⊢
  generalize 10 ^ e = p at hv hpos hp ⊢
  induction f with
  | zero =>
    intro d a hd ha hr
    exact Ev.step (fun k => by rw [spec_NearTags.l1, if_neg (by omega)]) (hr a rfl)
  | succ f ih =>
    intro d a hd ha hr
    have hd9 : d ≤ 9 := by omega
    refine Ev.step (fun k => by rw [spec_NearTags.l1, if_pos (by omega), Option.bind_some, hD, if_pos (by omega), if_pos (by omega), wr2 d hd9, Int.toNat_natCast]) ?_
    refine near_dig t a _ _ _ _ (hl1 _) (hr1 d (by omega)) r 10 0 0 rfl (Int.le_refl _) (by decide) ?_
    rw [List.drop_zero, hv d]
    have hskip : (d = o ∨ nearB t ((n : Int) + ((d : Int) - o) * p) = false) → Ev (fun k => spec_NearTags.l1 k a (strOfNums D) ((9 - e : Nat) : Int) ((d + 1 : Nat) : Int) t.f0 t.f1 t.f2) r := by
      intro hh
      refine ih (d + 1) a (by omega) (by omega) (fun a' ha' => hr a' ?_)
      rw [ha', nearD, if_neg (by rintro ⟨h1, h2⟩; rcases hh with hh | hh; exact h1 hh; rw [hh] at h2; cases h2), List.nil_append]
    refine Ev.step (fun k => by rw [spec_NearTags.l2, if_neg (by omega), spec_l01OfNumber.f, Option.bind_some, spec_TagNumber_eq, Option.bind_some, hN, wr1 d hd9]) ?_
    by_cases c : d = o
    · have : (n : Int) + ((d : Int) - (o : Int)) * (p : Int) = (n : Int) := by rw [c, Int.sub_self, Int.zero_mul, Int.add_zero]
      simp only [if_pos this]
      exact hskip (.inl c)
    · have : ¬ (n : Int) + ((d : Int) - (o : Int)) * (p : Int) = (n : Int) := by
        intro hh
        have h0 : ((d : Int) - (o : Int)) * (p : Int) = 0 := by omega
        rcases Int.mul_eq_zero.1 h0 with h0 | h0 <;> omega
      simp only [if_neg this, spec_TagOk_eq, spec_TagCheck_eq, Option.bind_some]
      by_cases c2 : tagM (ofN ((n : Int) + ((d : Int) - o) * p)).f0 (ofN ((n : Int) + ((d : Int) - o) * p)).f1 (ofN ((n : Int) + ((d : Int) - o) * p)).f2 = true
      · by_cases c3 : checkM (ofN ((n : Int) + ((d : Int) - o) * p)).f0 (ofN ((n : Int) + ((d : Int) - o) * p)).f1 (ofN ((n : Int) + ((d : Int) - o) * p)).f2 = checkM t.f0 t.f1 t.f2
        · have hgo := ih (d + 1) (insT (ofN ((n : Int) + ((d : Int) - o) * p)) a) (by omega) (by rw [insT_len]; omega) (fun l' hl' => hr l' (by
            rw [hl', nearD, if_pos ⟨c, by unfold nearB; rw [c2, decide_eq_true c3]; rfl⟩]; simp))
          have hi := spec_ins_ev a (by omega) (ofN ((n : Int) + ((d : Int) - o) * p))
          simp only [ofN] at c2 c3 hgo hi
          simp only [if_pos c2, if_pos c3]
          exact ev_bind _ hi hgo
        · have hs := hskip (.inr (by unfold nearB; rw [decide_eq_false c3, Bool.and_false]))
          simp only [ofN] at c2 c3
          simp only [if_pos c2, if_neg c3]
          exact hs
      · have hs := hskip (.inr (by unfold nearB; simp only [Bool.not_eq_true] at c2; rw [c2, Bool.false_and]))
        simp only [ofN] at c2
        simp only [if_neg c2]
        exact hs
theorem spec_near_p (t : Tag) (n : Nat) (hn : n ≤ 9999999999) (hN : numM t.f0 t.f1 t.f2 = n) : ∀ (j : Nat) (a : List Tag), j ≤ 10 → a.length + 10 * j ≤ 1000 → Ev (fun k => spec_NearTags.l0 k a (strOfNums (tenD 10 n)) ((10 - j : Nat) : Int) t.f0 t.f1 t.f2) ((nearP t n j).foldl (fun a x => insT x a) a)
  | 0, a, _, _ => by
    rw [nearP, List.foldl_nil]
    exact Ev.step (f := fun _ => some a) (fun k => by rw [spec_NearTags.l0, if_neg (by omega)]) (Ev.now _)
  | j + 1, a, hj, ha => by
    have e1 : ((10 - (j + 1) : Nat) : Int) = ((9 - j : Nat) : Int) := by omega
    have e2 : wrap64 (((9 - j : Nat) : Int) + 1) = ((10 - j : Nat) : Int) := by rw [w64 (by omega) (by omega)]; omega
    rw [e1, nearP, List.foldl_append]
    refine Ev.step (fun k => by rw [spec_NearTags.l0, if_pos (by omega)]) ?_
    refine spec_near_d t n hn hN j (by omega) _ 10 0 a (by omega) (by omega) (fun a' ha' => ?_)
    rw [e2, ← ha']
    have hD := nearD_len t n (10 ^ j) (n / 10 ^ j % 10) 10 0
    refine spec_near_p t n hn hN j a' (by omega) ?_
    have hf : ∀ (l b : List Tag), (l.foldl (fun a x => insT x a) b).length = b.length + l.length := by
      intro l
      induction l with
      | nil => intro b; rfl
      | cons x l ih => intro b; rw [List.foldl_cons, ih, insT_len, List.length_cons]; omega
    rw [ha', hf]
    omega
theorem spec_near_ev (t : Tag) : Ev (fun k => spec_NearTags.f k t.f0 t.f1 t.f2) (nearR t) := by
  unfold spec_NearTags.f nearR
  simp only [Option.bind_some, spec_TagOk_eq]
  by_cases h : tagM t.f0 t.f1 t.f2 = true
  · have hr := numM_range h
    obtain ⟨n, hn⟩ := Int.eq_ofNat_of_zero_le hr.1
    simp only [if_pos h, spec_TagNumber_eq, Option.bind_some, hn]
    refine ev_bind _ (ten_ev n (by omega)) ?_
    rw [Int.toNat_natCast]
    exact spec_near_p t n (by omega) hn 10 [] (by omega) (by simp)
  · simp only [if_neg h]
    exact Ev.now _
theorem tenD_set (d : Nat) (hd : d ≤ 9) : ∀ (m n n' e : Nat), e < m → (n' : Int) = (n : Int) + ((d : Int) - ((n / 10 ^ e % 10 : Nat) : Int)) * ((10 ^ e : Nat) : Int) → tenD m n' = (tenD m n).set (m - 1 - e) ((48 + d : Nat) : Int)
  | m + 1, n, n', 0, _, h => by
    rw [Nat.pow_zero, Nat.div_one] at h
    have h1 : n' / 10 = n / 10 := by omega
    have h2 : n' % 10 = d := by omega
    rw [tenD, tenD, show m + 1 - 1 - 0 = m by omega, List.set_append, if_neg (by rw [tenD_length]; omega), tenD_length, Nat.sub_self, List.set_cons_zero, h1, h2]
  | m + 1, n, n', e + 1, he, h => by
    have h3 : 10 ^ (e + 1) = 10 ^ e * 10 := Nat.pow_succ ..
    have h4 : n / 10 ^ (e + 1) = n / 10 / 10 ^ e := by rw [h3, Nat.mul_comm, Nat.div_div_eq_div_mul]
    rw [h4, h3, Int.natCast_mul, ← Int.mul_assoc] at h
    have ih := tenD_set d hd m (n / 10) (n' / 10) e (by omega)
    generalize hz : ((d : Int) - ((n / 10 / 10 ^ e % 10 : Nat) : Int)) * ((10 ^ e : Nat) : Int) = z at h ih
    have h5 : n' % 10 = n % 10 := by omega
    rw [tenD, tenD, show m + 1 - 1 - (e + 1) = m - 1 - e by omega, List.set_append, if_pos (by rw [tenD_length]; omega), ih (by omega), h5]
/-- A digit's change that keeps the rest by seven is a change by seven. -/
theorem seven (n n' d o e : Nat) (he : e < 10) (hd : d ≤ 9) (ho : o ≤ 9) (hne : d ≠ o) (h : (n' : Int) = (n : Int) + ((d : Int) - (o : Int)) * ((10 ^ e : Nat) : Int)) (h7 : n' % 7 = n % 7) : d = o + 7 ∨ o = d + 7 := by
  have hc : Nat.Coprime 7 (10 ^ e) := Nat.Coprime.pow_right e (by decide)
  generalize 10 ^ e = p at h hc
  rcases Nat.lt_or_gt_of_ne hne with c | c
  · obtain ⟨x, rfl⟩ : ∃ x, o = d + x := ⟨o - d, by omega⟩
    have h1 : ((d : Int) - ((d + x : Nat) : Int)) * (p : Int) = -((x * p : Nat) : Int) := by
      rw [show (d : Int) - ((d + x : Nat) : Int) = -(x : Int) by omega, Int.neg_mul, Int.natCast_mul]
    rw [h1] at h
    generalize hq : x * p = q at h
    have h2 : 7 ∣ x * p := by rw [hq]; omega
    have h3 := hc.dvd_of_dvd_mul_right h2
    omega
  · obtain ⟨x, rfl⟩ : ∃ x, d = o + x := ⟨d - o, by omega⟩
    have h1 : (((o + x : Nat) : Int) - (o : Int)) * (p : Int) = ((x * p : Nat) : Int) := by
      rw [show ((o + x : Nat) : Int) - (o : Int) = (x : Int) by omega, Int.natCast_mul]
    rw [h1] at h
    generalize hq : x * p = q at h
    have h2 : 7 ∣ x * p := by rw [hq]; omega
    have h3 := hc.dvd_of_dvd_mul_right h2
    omega
theorem impl_fmt (n : Int) (h0 : -9223372036854775808 ≤ n) (h1 : n ≤ 9223372036854775807) : impl_FormatInt.f n = some (mkB (Go.Lib.itoa n)) := by
  unfold impl_FormatInt.f strconv_Itoa.f
  rw [if_pos ⟨h0, h1⟩]; rfl
/-- A tag's text. -/
def tagB (l a s : Int) : List UInt8 := (tenD 10 (numM l a s).toNat).map (fun n => UInt8.ofNat n.toNat) ++ 45 :: [UInt8.ofNat (48 + (checkM l a s).toNat)]
/-- What FormatTag returns. -/
def fmtR (l a s : Int) : ByteArray := if tagM l a s = true then mkB (tagB l a s) else mkB []
theorem checkM_range {l a s : Int} (h : tagM l a s = true) : 0 ≤ checkM l a s ∧ checkM l a s ≤ 6 := by
  have := numM_range h
  unfold checkM
  rw [if_pos h]
  omega
theorem tagB_len (l a s : Int) : (tagB l a s).length = 12 := by unfold tagB; simp [tenD_length]
/-- Zeros ahead of a number's digits make m digits. -/
theorem pad_eq (m : Nat) : ∀ u : Nat, u < 10 ^ (m + 1) → (Go.Lib.decDigits u).length ≤ m + 1 ∧ List.replicate (m + 1 - (Go.Lib.decDigits u).length) 48 ++ Go.Lib.decDigits u = (tenD (m + 1) u).map (fun n => UInt8.ofNat n.toNat) := by
  have hz : ∀ m : Nat, (tenD m 0).map (fun n => UInt8.ofNat n.toNat) = List.replicate m 48 := by
    intro m
    induction m with
    | zero => rfl
    | succ m ih => rw [tenD, List.map_append, Nat.zero_div, ih, List.replicate_succ']; rfl
  induction m with
  | zero =>
    intro u hu
    rw [Go.Lib.decDigits_one (by omega)]
    exact ⟨by simp, by rw [tenD, show u % 10 = u by omega]; rfl⟩
  | succ m ih =>
    intro u hu
    by_cases c : u < 10
    · rw [Go.Lib.decDigits_one c, tenD, show u / 10 = 0 by omega, show u % 10 = u by omega, List.map_append, hz]
      exact ⟨by simp, rfl⟩
    · obtain ⟨h1, h2⟩ := ih (u / 10) (by rw [Nat.pow_succ] at hu; omega)
      rw [Go.Lib.decDigits, dif_neg c, tenD, List.map_append, ← h2, List.length_append]
      refine ⟨by simp; omega, ?_⟩
      rw [show m + 1 + 1 - ((Go.Lib.decDigits (u / 10)).length + [UInt8.ofNat (48 + u % 10)].length) = m + 1 - (Go.Lib.decDigits (u / 10)).length by simp, List.append_assoc]
      rfl
theorem impl_ft_loop (l a s : Int) (h : tagM l a s = true) (d : Nat) : ∀ b : List UInt8, b.length + d = 10 → Ev (fun k => impl_FormatTag.l0 k (mkB b) l a s) (mkB ((List.replicate d 48 ++ b) ++ 45 :: [UInt8.ofNat (48 + (checkM l a s).toNat)])) := by
  have hc := checkM_range h
  induction d with
  | zero =>
    intro b hb
    refine Ev.step (f := fun _ => some (mkB ((List.replicate 0 48 ++ b) ++ 45 :: [UInt8.ofNat (48 + (checkM l a s).toNat)]))) (fun k => ?_) (Ev.now _)
    have e : Go.Lib.itoa (checkM l a s) = [UInt8.ofNat (48 + (checkM l a s).toNat)] := by unfold Go.Lib.itoa; rw [if_neg (by omega), Go.Lib.decDigits_one (by omega)]
    rw [impl_FormatTag.l0, mkB_size, if_neg (by omega), if_pos (by omega), impl_TagCheck_eq, Option.bind_some, impl_fmt _ (by omega) (by omega), Option.bind_some, show (⟨#[45]⟩ : ByteArray) = mkB [45] from rfl, mkB_append, mkB_size, mkB_size, e, if_pos (by simp; omega), mkB_append]
    simp
  | succ d ih =>
    intro b hb
    refine Ev.step (f := fun k => impl_FormatTag.l0 k (mkB (48 :: b)) l a s) (fun k => ?_) ?_
    · rw [impl_FormatTag.l0, mkB_size, if_pos (by omega), if_pos (by omega), show (⟨#[48]⟩ : ByteArray) = mkB [48] from rfl, mkB_append]; rfl
    · have := ih (48 :: b) (by simp; omega)
      rw [show List.replicate (d + 1) (48 : UInt8) ++ b = List.replicate d 48 ++ (48 :: b) by rw [List.replicate_succ', List.append_assoc]; rfl]
      exact this
theorem impl_ft_ev (l a s : Int) : Ev (fun k => impl_FormatTag.f k l a s) (fmtR l a s) := by
  unfold impl_FormatTag.f fmtR
  rw [impl_TagOk_eq]
  simp only [Option.bind_some]
  by_cases h : tagM l a s = true
  · have hr := numM_range h
    obtain ⟨h1, h2⟩ := pad_eq 9 (numM l a s).toNat (by omega)
    have e : Go.Lib.itoa (numM l a s) = Go.Lib.decDigits (numM l a s).toNat := by unfold Go.Lib.itoa; rw [if_neg (by omega)]
    simp only [if_pos h]
    rw [impl_TagNumber_eq]
    simp only [Option.bind_some]
    rw [impl_fmt _ (by omega) (by omega)]
    simp only [Option.bind_some]
    have h3 := impl_ft_loop l a s h (10 - (Go.Lib.decDigits (numM l a s).toNat).length) (Go.Lib.decDigits (numM l a s).toNat) (by omega)
    rw [h2] at h3
    rw [e]
    exact h3
  · simp only [if_neg h]; exact Ev.now _
/-- What a near tag is: one digit away, by seven. -/
def farB (t x : Tag) : Prop := tagM x.f0 x.f1 x.f2 = true ∧ checkM x.f0 x.f1 x.f2 = checkM t.f0 t.f1 t.f2 ∧ ∃ (i d o : Nat), i < 10 ∧ d ≤ 9 ∧ o ≤ 9 ∧ (d = o + 7 ∨ o = d + 7) ∧ (tenD 10 (numM t.f0 t.f1 t.f2).toNat)[i]? = some ((48 + o : Nat) : Int) ∧ tenD 10 (numM x.f0 x.f1 x.f2).toNat = (tenD 10 (numM t.f0 t.f1 t.f2).toNat).set i ((48 + d : Nat) : Int)
theorem ofN_num (m : Int) (h : tagM (ofN m).f0 (ofN m).f1 (ofN m).f2 = true) (h0 : -9000000000 ≤ m) (h1 : m ≤ 99999999999) : numM (ofN m).f0 (ofN m).f1 (ofN m).f2 = m := by
  have h2 := (tagM_iff _ _ _).1 h
  rw [numM_pos h]
  clear h
  simp only [ofN] at h2 ⊢
  rcases Int.lt_or_le m 0 with c | c
  · obtain ⟨k, rfl⟩ : ∃ k : Int, m = -k := ⟨-m, by omega⟩
    have e2 : Int.tdiv (-k) 1000000 = -(k / 1000000) := by rw [Int.neg_tdiv, Int.tdiv_eq_ediv_of_nonneg (by omega)]
    have e3 : wrap64 (-(k / 1000000)) = -(k / 1000000) := w64 (by omega) (by omega)
    rw [e2, e3, Int.neg_tmod, Int.tmod_eq_emod_of_nonneg (show 0 ≤ k / 1000000 by omega)] at h2
    omega
  · have e1 : wrap64 (m / 1000000000) = m / 1000000000 := w64 (by omega) (by omega)
    have e2 : wrap64 (m / 1000000) = m / 1000000 := w64 (by omega) (by omega)
    rw [Int.tdiv_eq_ediv_of_nonneg c, Int.tdiv_eq_ediv_of_nonneg c, e1, e2, Int.tmod_eq_emod_of_nonneg (show 0 ≤ m / 1000000 by omega), Int.tmod_eq_emod_of_nonneg c]
    clear e1 e2 h2
    omega
theorem tenD_get : ∀ (m n e : Nat), e < m → (tenD m n)[m - 1 - e]? = some ((48 + n / 10 ^ e % 10 : Nat) : Int)
  | m + 1, n, 0, _ => by
    rw [tenD, show m + 1 - 1 - 0 = m by omega, List.getElem?_append_right (by rw [tenD_length]; omega), tenD_length, Nat.sub_self, Nat.pow_zero, Nat.div_one]; rfl
  | m + 1, n, e + 1, he => by
    rw [tenD, show m + 1 - 1 - (e + 1) = m - 1 - e by omega, List.getElem?_append_left (by rw [tenD_length]; omega), tenD_get m (n / 10) e (by omega), Nat.pow_succ, Nat.mul_comm, Nat.div_div_eq_div_mul]
theorem nearD_mem (t : Tag) (n p o : Nat) (x : Tag) : ∀ f d, x ∈ nearD t n p o f d → ∃ d' : Nat, d ≤ d' ∧ d' < d + f ∧ d' ≠ o ∧ nearB t ((n : Int) + ((d' : Int) - o) * p) = true ∧ x = ofN ((n : Int) + ((d' : Int) - o) * p)
  | 0, d, h => by simp [nearD] at h
  | f + 1, d, h => by
    rw [nearD] at h
    rcases List.mem_append.1 h with h | h
    · split at h
      · rename_i c
        exact ⟨d, Nat.le_refl _, by omega, c.1, c.2, List.mem_singleton.1 h⟩
      · simp at h
    · obtain ⟨d', h1, h2, h3⟩ := nearD_mem t n p o x f (d + 1) h
      exact ⟨d', by omega, by omega, h3⟩
theorem nearP_mem (t : Tag) (n : Nat) (x : Tag) : ∀ j, x ∈ nearP t n j → ∃ e, e < j ∧ x ∈ nearD t n (10 ^ e) (n / 10 ^ e % 10) 10 0
  | 0, h => by simp [nearP] at h
  | j + 1, h => by
    rw [nearP] at h
    rcases List.mem_append.1 h with h | h
    · exact ⟨j, by omega, h⟩
    · obtain ⟨e, h1, h2⟩ := nearP_mem t n x j h
      exact ⟨e, by omega, h2⟩
theorem fold_mem (x : Tag) : ∀ (l a : List Tag), x ∈ l.foldl (fun a x => insT x a) a → x ∈ a ∨ x ∈ l
  | [], a, h => .inl h
  | y :: l, a, h => by
    rcases fold_mem x l (insT y a) h with h | h
    · rcases insT_mem y a x h with h | h
      · exact .inr (by simp [h])
      · exact .inl h
    · exact .inr (by simp [h])
theorem near_far (t x : Tag) (h : x ∈ nearR t) : tagM t.f0 t.f1 t.f2 = true ∧ farB t x := by
  unfold nearR at h
  by_cases ht : tagM t.f0 t.f1 t.f2 = true
  · rw [if_pos ht] at h
    refine ⟨ht, ?_⟩
    have hr := numM_range ht
    obtain ⟨n, hn⟩ := Int.eq_ofNat_of_zero_le hr.1
    rw [hn, Int.toNat_natCast] at h
    rcases fold_mem x _ _ h with h | h
    · simp at h
    obtain ⟨e, he, h⟩ := nearP_mem t n x 10 h
    obtain ⟨d, _, hd, hne, hB, rfl⟩ := nearD_mem t n _ _ x 10 0 h
    have hp := pow_le9 he
    have hm := mul_ok d (n / 10 ^ e % 10) (10 ^ e) (by omega) (by omega) hp
    unfold nearB at hB
    simp only [Bool.and_eq_true, decide_eq_true_eq] at hB
    have ho : n / 10 ^ e % 10 ≤ 9 := by omega
    have hset := fun n' => tenD_set d (by omega) 10 n n' e he
    have hget := tenD_get 10 n e he
    generalize hO : n / 10 ^ e % 10 = o at *
    have hnum := ofN_num _ hB.1 (by omega) (by omega)
    have hr2 := numM_range hB.1
    obtain ⟨n', hn'⟩ := Int.eq_ofNat_of_zero_le hr2.1
    have hmm : (n' : Int) = (n : Int) + ((d : Int) - (o : Int)) * ((10 ^ e : Nat) : Int) := by rw [← hn', hnum]
    have h7 : n' % 7 = n % 7 := by
      have hc := hB.2
      unfold checkM at hc
      rw [if_pos hB.1, if_pos ht, hn', hn] at hc
      omega
    refine ⟨hB.1, hB.2, 9 - e, d, o, by omega, by omega, ho, seven n n' d o e he (by omega) ho hne hmm h7, ?_, ?_⟩
    · rw [hn, Int.toNat_natCast]; exact hget
    · rw [hn', hn, Int.toNat_natCast, Int.toNat_natCast]; exact hset n' hmm
  · rw [if_neg ht] at h; simp at h
theorem near_seven (t : Tag) (ht : tagM t.f0 t.f1 t.f2 = true) (n e d : Nat) (hn : numM t.f0 t.f1 t.f2 = n) (he : e < 10) (hd : d ≤ 9) (hne : d ≠ n / 10 ^ e % 10) (hB : nearB t ((n : Int) + ((d : Int) - ((n / 10 ^ e % 10 : Nat) : Int)) * ((10 ^ e : Nat) : Int)) = true) : d = n / 10 ^ e % 10 + 7 ∨ n / 10 ^ e % 10 = d + 7 := by
  have hr := numM_range ht
  have hp := pow_le9 he
  have hm := mul_ok d (n / 10 ^ e % 10) (10 ^ e) hd (by omega) hp
  unfold nearB at hB
  simp only [Bool.and_eq_true, decide_eq_true_eq] at hB
  have ho : n / 10 ^ e % 10 ≤ 9 := by omega
  generalize hO : n / 10 ^ e % 10 = o at *
  have hnum := ofN_num _ hB.1 (by omega) (by omega)
  have hr2 := numM_range hB.1
  obtain ⟨n', hn'⟩ := Int.eq_ofNat_of_zero_le hr2.1
  have hmm : (n' : Int) = (n : Int) + ((d : Int) - (o : Int)) * ((10 ^ e : Nat) : Int) := by rw [← hn', hnum]
  have h7 : n' % 7 = n % 7 := by
    have hc := hB.2
    unfold checkM at hc
    rw [if_pos hB.1, if_pos ht, hn', hn] at hc
    omega
  exact seven n n' d o e he hd ho hne hmm h7
theorem nearD_one (t : Tag) (n p o g : Nat) (h : ∀ d : Nat, d ≤ 9 → d ≠ o → nearB t ((n : Int) + ((d : Int) - o) * p) = true → d = g) : ∀ f d, d + f = 10 → (nearD t n p o f d).length ≤ (if d ≤ g then 1 else 0)
  | 0, d, _ => by simp [nearD]
  | f + 1, d, hd => by
    have ih := nearD_one t n p o g h f (d + 1) (by omega)
    rw [nearD, List.length_append]
    by_cases c : d ≠ o ∧ nearB t ((n : Int) + ((d : Int) - o) * p) = true
    · have hg := h d (by omega) c.1 c.2
      rw [if_neg (show ¬ d + 1 ≤ g by omega)] at ih
      rw [if_pos c, List.length_singleton, if_pos (show d ≤ g by omega)]
      omega
    · rw [if_neg c, List.length_nil]
      by_cases c2 : d + 1 ≤ g
      · rw [if_pos c2] at ih
        rw [if_pos (show d ≤ g by omega)]
        omega
      · rw [if_neg c2] at ih
        omega
theorem nearP_ten (t : Tag) (ht : tagM t.f0 t.f1 t.f2 = true) (n : Nat) (hn : numM t.f0 t.f1 t.f2 = n) : ∀ j, j ≤ 10 → (nearP t n j).length ≤ j
  | 0, _ => Nat.le_refl _
  | j + 1, hj => by
    have ih := nearP_ten t ht n hn j (by omega)
    obtain ⟨g, hg⟩ : ∃ g : Nat, ∀ d : Nat, d ≤ 9 → d ≠ n / 10 ^ j % 10 → nearB t ((n : Int) + ((d : Int) - ((n / 10 ^ j % 10 : Nat) : Int)) * ((10 ^ j : Nat) : Int)) = true → d = g := by
      have h0 := fun d hd hne hB => near_seven t ht n j d hn (by omega) hd hne hB
      generalize n / 10 ^ j % 10 = o at h0
      by_cases c : 7 ≤ o
      · exact ⟨o - 7, fun d hd hne hB => by have := h0 d hd hne hB; omega⟩
      · exact ⟨o + 7, fun d hd hne hB => by have := h0 d hd hne hB; omega⟩
    have h1 := nearD_one t n (10 ^ j) (n / 10 ^ j % 10) g hg 10 0 rfl
    rw [if_pos (Nat.zero_le _)] at h1
    rw [nearP, List.length_append]
    generalize (nearD t n (10 ^ j) (n / 10 ^ j % 10) 10 0).length = q at h1 ⊢
    omega
theorem fold_len2 (l : List Tag) : ∀ b : List Tag, (l.foldl (fun a x => insT x a) b).length = b.length + l.length := by
  induction l with
  | nil => intro b; rfl
  | cons x l ih => intro b; rw [List.foldl_cons, ih, insT_len, List.length_cons]; omega
theorem near_ten (t : Tag) : (nearR t).length ≤ 10 := by
  unfold nearR
  split
  · rename_i ht
    have hr := numM_range ht
    rw [fold_len2]
    have := nearP_ten t ht (numM t.f0 t.f1 t.f2).toNat (by omega) 10 (Nat.le_refl _)
    simpa using this
  · simp
theorem bt_mkB (l : List UInt8) (j : Nat) (h : j < l.length) : bt (mkB l) (j : Int) = (l[j].toNat : Int) := by
  have h2 : (j : Int).toNat < (mkB l).size := by rw [mkB_size]; simpa using h
  unfold bt
  rw [dif_pos h2]
  rfl
theorem byte_ok (b : List Int) (i h : Int) (hi : 0 ≤ i) (hb : b.length ≤ 140737488351232) :
    ∃ x i' h', spec_l01Byte.f b i h = some (x, i', h') ∧ 0 ≤ x ∧ x ≤ 255 ∧ 0 ≤ i' := by
  unfold spec_l01Byte.f
  by_cases h1 : i < (b.length : Int)
  · rw [if_pos h1, if_pos hi]
    refine ⟨_, _, _, rfl, (mask255 _).1, (mask255 _).2, ?_⟩
    rw [w64 (by omega) (by omega)]; omega
  · rw [if_neg h1]
    exact ⟨_, _, _, rfl, (mask255 _).1, (mask255 _).2, hi⟩
theorem below_ok (b : List Int) (i h n : Int) (hi : 0 ≤ i) (hb : b.length ≤ 140737488351232) :
    ∃ x i' h', spec_l01Below.f b i h n = some (x, i', h') ∧ (n ≤ 0 → x = 0) ∧ (0 < n → 0 ≤ x ∧ x < n) ∧ 0 ≤ i' := by
  unfold spec_l01Below.f
  by_cases h0 : n ≤ 0
  · rw [if_pos h0]
    exact ⟨_, _, _, rfl, fun _ => rfl, fun hn => by omega, hi⟩
  · rw [if_neg h0]
    by_cases h1 : n ≤ 256
    · rw [if_pos h1]
      obtain ⟨x, i', h', e, hx0, hx1, hi'⟩ := byte_ok b i h hi hb
      rw [e, Option.bind_some]
      simp only [if_neg (show ¬ n = 0 by omega)]
      have hm := Int.tmod_eq_emod_of_nonneg (b := n) hx0
      have := Int.emod_nonneg x (show n ≠ 0 by omega)
      have := Int.emod_lt_of_pos x (show 0 < n by omega)
      exact ⟨_, _, _, rfl, fun hn => by omega, fun _ => by rw [hm]; omega, hi'⟩
    · rw [if_neg h1]
      obtain ⟨x, i1, g1, e1, hx0, hx1, hi1⟩ := byte_ok b i h hi hb
      obtain ⟨y, i2, g2, e2, hy0, hy1, hi2⟩ := byte_ok b i1 g1 hi1 hb
      obtain ⟨z, i3, g3, e3, hz0, hz1, hi3⟩ := byte_ok b i2 g2 hi2 hb
      obtain ⟨v, i4, g4, e4, hv0, hv1, hi4⟩ := byte_ok b i3 g3 hi3 hb
      simp only [e1, e2, e3, e4, Option.bind_some, if_neg (show ¬ n = 0 by omega)]
      have w1 : wrap64 (x * 16777216) = x * 16777216 := w64 (by omega) (by omega)
      have w2 : wrap64 (y * 65536) = y * 65536 := w64 (by omega) (by omega)
      have w3 : wrap64 (z * 256) = z * 256 := w64 (by omega) (by omega)
      have w4 : wrap64 (x * 16777216 + y * 65536) = x * 16777216 + y * 65536 := w64 (by omega) (by omega)
      have w5 : wrap64 (x * 16777216 + y * 65536 + z * 256) = x * 16777216 + y * 65536 + z * 256 := w64 (by omega) (by omega)
      have w6 : wrap64 (x * 16777216 + y * 65536 + z * 256 + v) = x * 16777216 + y * 65536 + z * 256 + v := w64 (by omega) (by omega)
      rw [w1, w2, w3, w4, w5, w6]
      have hm := Int.tmod_eq_emod_of_nonneg (a := x * 16777216 + y * 65536 + z * 256 + v) (b := n) (by omega)
      have := Int.emod_nonneg (x * 16777216 + y * 65536 + z * 256 + v) (show n ≠ 0 by omega)
      have := Int.emod_lt_of_pos (x * 16777216 + y * 65536 + z * 256 + v) (show 0 < n by omega)
      exact ⟨_, _, _, rfl, fun hn => by omega, fun _ => by rw [hm]; omega, hi4⟩
theorem new_loop (b : List Int) (hb : b.length ≤ 140737488351232) (d : Nat) : ∀ (i : Nat) (h : Int), i + d = b.length → ∃ h', Ev (fun k => spec_l01New.l0 k b h i) (b, 0, h') := by
  induction d with
  | zero =>
    intro i h hi
    exact ⟨h, Ev.step (f := fun _ => some (b, 0, h)) (fun k => by rw [spec_l01New.l0, if_neg (by omega)]) (Ev.now _)⟩
  | succ d ih =>
    intro i h hi
    by_cases h4 : (i : Int) < 4000
    · obtain ⟨h', hev⟩ := ih (i + 1) (Go.bits .and .i64 (wrap64 ((wrap64 ((wrap64 (h * 131)) + (wrap64 (rd b i)))) + 7)) 1073741823) (by omega)
      refine ⟨h', Ev.step (fun k => ?_) hev⟩
      have e : wrap64 ((i : Int) + 1) = ((i + 1 : Nat) : Int) := w64 (by omega) (by omega)
      rw [spec_l01New.l0, if_pos (by omega), if_pos h4, if_pos (by omega), e]
    · exact ⟨h, Ev.step (f := fun _ => some (b, 0, h)) (fun k => by rw [spec_l01New.l0, if_pos (by omega), if_neg h4]) (Ev.now _)⟩
theorem new_ok (b : List Int) (hb : b.length ≤ 140737488351232) : ∃ h', Ev (fun k => spec_l01New.f k b) (b, 0, h') := by
  unfold spec_l01New.f
  exact new_loop b hb b.length 0 _ (by omega)
theorem pickInt_ok (b : List Int) (i h : Int) (l : List Int) (hl : 0 < l.length) (hi : 0 ≤ i) (hb : b.length ≤ 140737488351232) :
    ∃ x i' h', spec_l01PickInt.f b i h l = some (x, i', h') ∧ x ∈ l ∧ 0 ≤ i' := by
  unfold spec_l01PickInt.f
  obtain ⟨x, i1, h1, e1, _, hx, hi1⟩ := below_ok b i h l.length hi hb
  obtain ⟨h0, h2⟩ := hx (by omega)
  rw [e1, Option.bind_some]
  simp only [if_pos h0, if_pos h2]
  refine ⟨_, _, _, rfl, ?_, hi1⟩
  unfold rd
  rw [List.getD_eq_getElem?_getD, List.getElem?_eq_getElem (show x.toNat < l.length by omega)]
  exact List.getElem_mem _
theorem once_ok (b : List Int) (i h n : Int) (hi : 0 ≤ i) (hb : b.length ≤ 140737488351232) :
    ∃ (x : Bool) (i' h' : Int), spec_l01Once.f b i h n = some (x, i', h') ∧ 0 ≤ i' := by
  unfold spec_l01Once.f
  obtain ⟨x, i1, h1, e1, _, _, hi1⟩ := below_ok b i h n hi hb
  rw [e1, Option.bind_some]
  exact ⟨_, _, _, rfl, hi1⟩
theorem draw_tag_ok (b : List Int) (hb : b.length ≤ 140737488351232) (i h : Int) (hi : 0 ≤ i) : ∃ x y z i' h', Ev (fun k => spec_l01Tag.f k b i h) (x, y, z, i', h') ∧ 0 ≤ i' := by
  unfold spec_l01Tag.f
  obtain ⟨x, i1, h1, e1, _, _, hi1⟩ := below_ok b i h 10 hi hb
  obtain ⟨y, i2, h2, e2, _, _, hi2⟩ := below_ok b i1 h1 999 hi1 hb
  obtain ⟨z, i3, h3, e3, _, _, hi3⟩ := below_ok b i2 h2 1000000 hi2 hb
  obtain ⟨o, i4, h4, e4, hi4⟩ := once_ok b i3 h3 8 hi3 hb
  have last : ∀ (x y z i h : Int), 0 ≤ i → ∃ x' y' z' i' h', Ev (fun k => spec_l01Tag.j0 k b i h x y z) (x', y', z', i', h') ∧ 0 ≤ i' := by
    intro x y z i h hi
    obtain ⟨o, i5, h5, e5, hi5⟩ := once_ok b i h 12 hi hb
    cases o with
    | true =>
      obtain ⟨q, i6, h6, e6, _, hi6⟩ := pickInt_ok b i5 h5 [1, 7, 999] (by decide) hi5 hb
      exact ⟨x, q, z, i6, h6, Ev.step (f := fun _ => some (x, q, z, i6, h6)) (fun k => by rw [spec_l01Tag.j0, e5, Option.bind_some, if_pos rfl, e6, Option.bind_some]) (Ev.now _), hi6⟩
    | false => exact ⟨x, y, z, i5, h5, Ev.step (f := fun _ => some (x, y, z, i5, h5)) (fun k => by rw [spec_l01Tag.j0, e5, Option.bind_some, if_neg (show ¬ ((false, i5, h5).1 = true) from Bool.false_ne_true)]) (Ev.now _), hi5⟩
  simp only [e1, e2, e3, e4, Option.bind_some]
  cases o with
  | true =>
    obtain ⟨q, i5, h5, e5, _, hi5⟩ := pickInt_ok b i4 h4 [0, 1, 999999] (by decide) hi4 hb
    simp only [if_true, e5, Option.bind_some]
    exact last _ _ _ _ _ hi5
  | false =>
    simp only [Bool.false_eq_true, if_false]
    exact last _ _ _ _ _ hi4
theorem draw_any_tag (b : List Int) (hb : b.length ≤ 140737488351232) (i h : Int) (hi : 0 ≤ i) : ∃ x y z i' h', Ev (fun k => spec_l01AnyTag.f k b i h) (x, y, z, i', h') ∧ 0 ≤ i' := by
  unfold spec_l01AnyTag.f
  obtain ⟨x, y, z, i1, h1, e1, hi1⟩ := draw_tag_ok b hb i h hi
  obtain ⟨q, i2, h2, e2, _, _, hi2⟩ := below_ok b i1 h1 14 hi1 hb
  by_cases c0 : q = 0
  · obtain ⟨p, i3, h3, e3, _, hi3⟩ := pickInt_ok b i2 h2 [(-1), 10, 9] (by decide) hi2 hb
    exact ⟨p, y, z, i3, h3, ev_bind _ e1 (by simp only [e2, Option.bind_some, if_pos c0, e3]; exact Ev.now _), hi3⟩
  · by_cases c1 : q = 1
    · obtain ⟨p, i3, h3, e3, _, hi3⟩ := pickInt_ok b i2 h2 [0, (-1), 1000] (by decide) hi2 hb
      exact ⟨x, p, z, i3, h3, ev_bind _ e1 (by simp only [e2, Option.bind_some, if_neg c0, if_pos c1, e3]; exact Ev.now _), hi3⟩
    · by_cases c2 : q = 2
      · obtain ⟨p, i3, h3, e3, _, hi3⟩ := pickInt_ok b i2 h2 [(-1), 1000000, 9223372036854775807] (by decide) hi2 hb
        exact ⟨x, y, p, i3, h3, ev_bind _ e1 (by simp only [e2, Option.bind_some, if_neg c0, if_neg c1, if_pos c2, e3]; exact Ev.now _), hi3⟩
      · exact ⟨x, y, z, i2, h2, ev_bind _ e1 (by simp only [e2, Option.bind_some, if_neg c0, if_neg c1, if_neg c2]; exact Ev.now _), hi2⟩
theorem draw_near_ok (b : List Int) (hb : b.length ≤ 140737488351232) : ∃ x y z, Ev (fun k => spec_DrawNearTags.f k b) (x, y, z) := by
  unfold spec_DrawNearTags.f
  obtain ⟨h', hn⟩ := new_ok b hb
  obtain ⟨x, y, z, i1, h1, e1, _⟩ := draw_any_tag b hb 0 h' (by omega)
  exact ⟨x, y, z, ev_bind _ hn (ev_bind _ e1 (Ev.now _))⟩
theorem same_tags_loop (l : List Tag) (hl : l.length ≤ 1048600) (d : Nat) : ∀ i : Nat, i + d = l.length → Ev (fun k => laws_sameTags.l0 k l l i) true := by
  induction d with
  | zero =>
    intro i hi
    exact Ev.step (f := fun _ => some true) (fun k => by rw [laws_sameTags.l0, if_neg (show ¬ (i : Int) < (l.length : Int) by omega)]) (Ev.now _)
  | succ d ih =>
    intro i hi
    have e1 : wrap64 ((i : Int) + 1) = ((i + 1 : Nat) : Int) := w64 (by omega) (by omega)
    exact Ev.step (fun k => by rw [laws_sameTags.l0, if_pos (show (i : Int) < (l.length : Int) by omega), if_pos (show (0 : Int) ≤ (i : Int) by omega), if_pos (show (i : Int) < (l.length : Int) by omega), if_neg (by simp), e1]) (ih (i + 1) (by omega))
theorem same_tags_ev (l : List Tag) (hl : l.length ≤ 1048600) : Ev (fun k => laws_sameTags.f k l l) true := by
  unfold laws_sameTags.f
  simp only [if_true]
  exact same_tags_loop l hl l.length 0 (by omega)
theorem wr3 (j : Nat) (h : j < 12) : wrap64 ((j : Int) + 1) = ((j + 1 : Nat) : Int) := w64 (by omega) (by omega)
theorem wb (b : UInt8) : wrap64 (b.toNat : Int) = (b.toNat : Int) := by have := b.toNat_lt; exact w64 (by omega) (by omega)
theorem wd (a b : UInt8) : wrap64 ((b.toNat : Int) - (a.toNat : Int)) = (b.toNat : Int) - a.toNat := by have := a.toNat_lt; have := b.toNat_lt; exact w64 (by omega) (by omega)
theorem near_chars (R : List Tag) (A B : List UInt8) (hA : A.length = 12) (hB : B.length = 12) (i : Nat) (hi : i < 12) (hd : (B[i].toNat : Int) - (A[i].toNat : Int) = 7 ∨ (B[i].toNat : Int) - (A[i].toNat : Int) = -7) (hs : ∀ (j : Nat) (h : j < 12), j ≠ i → B[j] = A[j]) (x6 : Int) (hnext : Ev (fun k => laws_FnNearTags.l0 k R (mkB A) (wrap64 (x6 + 1))) true) (f : Nat) : ∀ j : Nat, j + f = 12 → Ev (fun k => laws_FnNearTags.l1 k R (mkB A) x6 (mkB B) (if i < j then 1 else 0) (j : Int)) true := by
  have sA : ((mkB A).size : Int) = 12 := by rw [mkB_size, hA]; rfl
  have sB : ((mkB B).size : Int) = 12 := by rw [mkB_size, hB]; rfl
  induction f with
  | zero =>
    intro j hj
    rw [if_pos (show i < j by omega)]
    exact Ev.step (fun k => by rw [laws_FnNearTags.l1, if_neg (by omega), if_pos rfl]) hnext
  | succ f ih =>
    intro j hj
    have hj2 : j < 12 := by omega
    have ih := ih (j + 1) (by omega)
    have p1 : (j : Int) < ((mkB B).size : Int) := by omega
    have p2 : (0 : Int) ≤ (j : Int) := by omega
    have p3 : (j : Int) < ((mkB A).size : Int) := by omega
    refine Ev.step (fun k => by rw [laws_FnNearTags.l1, if_pos p1, if_pos p2, if_pos p3, bt_mkB B j (by omega), bt_mkB A j (by omega), wb, wb, wd, wr3 j hj2]) ?_
    by_cases c : j = i
    · subst c
      rw [if_pos (show j < j + 1 by omega)] at ih
      simp only [if_neg (show ¬ j < j by omega)]
      have hne : ¬ (B[j].toNat : Int) = (A[j].toNat : Int) := by omega
      simp only [if_neg hne]
      have e0 : wrap64 ((0 : Int) + 1) = 1 := w64 (by omega) (by omega)
      rcases hd with hd | hd
      · simp only [if_pos hd, e0]; exact ih
      · simp only [if_neg (show ¬ (B[j].toNat : Int) - (A[j].toNat : Int) = 7 by omega), if_pos hd, e0]; exact ih
    · have he : (B[j].toNat : Int) = (A[j].toNat : Int) := by rw [hs j hj2 c]
      simp only [if_pos he]
      by_cases c2 : i < j
      · rw [if_pos (show i < j + 1 by omega)] at ih
        simp only [if_pos c2]; exact ih
      · rw [if_neg (show ¬ i < j + 1 by omega)] at ih
        simp only [if_neg c2]; exact ih
theorem tag_set (t x : Tag) (h : farB t x) : ∃ i d o : Nat, i < 10 ∧ d ≤ 9 ∧ o ≤ 9 ∧ (d = o + 7 ∨ o = d + 7) ∧ (tagB t.f0 t.f1 t.f2)[i]? = some (UInt8.ofNat (48 + o)) ∧ tagB x.f0 x.f1 x.f2 = (tagB t.f0 t.f1 t.f2).set i (UInt8.ofNat (48 + d)) := by
  obtain ⟨_, hc, i, d, o, hi, hd, ho, h7, hg, hset⟩ := h
  have hl : ((tenD 10 (numM t.f0 t.f1 t.f2).toNat).map (fun n => UInt8.ofNat n.toNat)).length = 10 := by rw [List.length_map, tenD_length]
  refine ⟨i, d, o, hi, hd, ho, h7, ?_, ?_⟩
  · unfold tagB
    rw [List.getElem?_append_left (by omega), List.getElem?_map, hg]; rfl
  · unfold tagB
    rw [hset, hc, List.map_set, List.set_append_left _ _ (by omega)]; rfl
theorem near_list (t : Tag) (ht : tagM t.f0 t.f1 t.f2 = true) (R : List Tag) (hR : R.length ≤ 10) (hf : ∀ x ∈ R, farB t x) (f : Nat) : ∀ j : Nat, j + f = R.length → Ev (fun k => laws_FnNearTags.l0 k R (mkB (tagB t.f0 t.f1 t.f2)) (j : Int)) true := by
  induction f with
  | zero =>
    intro j hj
    have p : ¬ (j : Int) < (R.length : Int) := by omega
    exact Ev.step (f := fun _ => some (decide ((R.length : Int) ≤ 10))) (fun k => by rw [laws_FnNearTags.l0, if_neg p]) (ev_some (decide_eq_true (by omega)))
  | succ f ih =>
    intro j hj
    have hlt : j < R.length := by omega
    have p1 : (j : Int) < (R.length : Int) := by omega
    have p2 : (0 : Int) ≤ (j : Int) := by omega
    have hx := hf R[j] (List.getElem_mem _)
    have hnext : Ev (fun k => laws_FnNearTags.l0 k R (mkB (tagB t.f0 t.f1 t.f2)) (wrap64 ((j : Int) + 1))) true := by rw [wr3 j (by omega)]; exact ih (j + 1) (by omega)
    refine Ev.step (fun k => by rw [laws_FnNearTags.l0, if_pos p1, if_pos p2, rd_Tag R j hlt]) ?_
    refine ev_bind _ (impl_ft_ev _ _ _) ?_
    unfold fmtR
    rw [if_pos hx.1]
    obtain ⟨i, d, o, hi, hd, ho, h7, hg, hset⟩ := tag_set t R[j] hx
    have hA := tagB_len t.f0 t.f1 t.f2
    have hB := tagB_len R[j].f0 R[j].f1 R[j].f2
    rw [hset] at hB ⊢
    have hgi : (tagB t.f0 t.f1 t.f2)[i]'(by omega) = UInt8.ofNat (48 + o) := by
      rw [List.getElem?_eq_getElem (by omega)] at hg; exact Option.some.inj hg
    have e1 : (UInt8.ofNat (48 + o)).toNat = 48 + o := by rw [UInt8.toNat_ofNat']; omega
    have e2 : (UInt8.ofNat (48 + d)).toNat = 48 + d := by rw [UInt8.toNat_ofNat']; omega
    have := near_chars R (tagB t.f0 t.f1 t.f2) ((tagB t.f0 t.f1 t.f2).set i (UInt8.ofNat (48 + d))) hA hB i (by omega) (by rw [List.getElem_set_self, hgi, e1, e2]; omega) (fun q hq hne => by rw [List.getElem_set_ne (Ne.symm hne)]) (j : Int) hnext 12 0 rfl
    simpa using this
theorem FnNearTags : laws_FnNearTags.Pure := by
  intro b _ hb _
  refine Ev.rounds ?_
  unfold laws_FnNearTags.f laws_big.f
  simp only [Option.bind_some]
  by_cases c : (b.length : Int) > 1048576
  · simp only [if_pos (decide_eq_true c)]; exact Ev.now _
  · simp only [if_neg (show ¬ decide ((b.length : Int) > 1048576) = true by simpa using c)]
    obtain ⟨x, y, z, hd⟩ := draw_near_ok b (by omega)
    have hlen := near_ten ⟨x, y, z⟩
    have hs := spec_near_ev ⟨x, y, z⟩
    have hi := impl_near_ev ⟨x, y, z⟩
    refine ev_bind _ hd ?_
    refine ev_bind _ hi ?_
    refine ev_bind _ hs ?_
    refine ev_bind _ (same_tags_ev _ (by omega)) ?_
    simp only [if_true]
    refine ev_bind _ (impl_ft_ev x y z) ?_
    by_cases ht : tagM x y z = true
    · unfold fmtR
      rw [if_pos ht]
      exact near_list ⟨x, y, z⟩ ht _ hlen (fun q hq => (near_far _ q hq).2) _ 0 (Nat.zero_add _)
    · have : nearR ⟨x, y, z⟩ = [] := by unfold nearR; rw [if_neg ht]
      rw [this]
      exact Ev.step (f := fun _ => some true) (fun k => by rw [laws_FnNearTags.l0, if_neg (by decide)]; rfl) (Ev.now _)

end Go.Proofs.YtnkaimdcdedekaaDoor.Pure
