/- For every tag of three whole numbers of 64 bits the law FnExactNearTags returns true (its printed function does): program and reference list the same tags, in new memory. -/
import Derived.Test.YtnkaimdcdedekaaPFnExactNearTagsx5
import Derived.Test.YtnkaimdcdedekaaKit
namespace Go.Proofs.Ytnkaimdcdedekaa.Pure
open Go.RowKit Go.Proofs.Ytnkaimdcdedekaa.PFnExactNearTags Go.Proofs.YtnkaimdcdedekaaW.PrintWords Go.Proofs.YtnkaimdcdedekaaW.PrintLast Go.Proofs.YtnkaimdcdedekaaW.PrintMore Go.Proofs.Ytnkaimdcdedekaa.Kit
set_option linter.unusedVariables false
set_option linter.unusedSimpArgs false

abbrev Tag := S26
theorem rd_Tag (l : List Tag) (i : Nat) (h : i < l.length) : rd_T26 l (i : Int) = l[i] := by
  simp [rd_T26, List.getD_eq_getElem?_getD, List.getElem?_eq_getElem h]
theorem drop_Tag (l : List Tag) (i : Nat) (h : i < l.length) : l.drop i = rd_T26 l (i : Int) :: l.drop (i + 1) := by
  rw [List.drop_eq_getElem_cons h, rd_Tag l i h]
theorem take_Tag (l : List Tag) (i : Nat) (h : i < l.length) : l.take (i + 1) = l.take i ++ [rd_T26 l (i : Int)] := by
  rw [rd_Tag l i h, List.take_succ_eq_append_getElem h]
/-- A valid tag. -/
def tagM (l a s : Int) : Bool := decide (0 ≤ l ∧ l ≤ 9 ∧ 1 ≤ a ∧ a ≤ 999 ∧ 0 ≤ s ∧ s ≤ 999999)
def numM (l a s : Int) : Int := if tagM l a s = true then (l * 1000 + a) * 1000000 + s else -1
def checkM (l a s : Int) : Int := if tagM l a s = true then numM l a s % 7 else -1
theorem tagM_iff (l a s : Int) : tagM l a s = true ↔ (0 ≤ l ∧ l ≤ 9 ∧ 1 ≤ a ∧ a ≤ 999 ∧ 0 ≤ s ∧ s ≤ 999999) := by simp [tagM]
theorem numM_pos {l a s : Int} (h : tagM l a s = true) : numM l a s = (l * 1000 + a) * 1000000 + s := by simp [numM, h]
theorem numM_range {l a s : Int} (h : tagM l a s = true) : 0 ≤ numM l a s ∧ numM l a s ≤ 9999999999 := by
  rw [numM_pos h]
  rw [tagM_iff] at h
  omega
theorem spec_in (x a b : Int) : spec_l01In.f x a b = some (decide (a ≤ x ∧ x ≤ b)) := by
  unfold spec_l01In.f
  by_cases h : x ≥ a
  · rw [if_pos h]; congr 1; simp; omega
  · rw [if_neg h]; congr 1; simp; omega
theorem spec_TagOk_eq (l a s : Int) : spec_TagOk.f l a s = some (tagM l a s) := by
  unfold spec_TagOk.f
  simp only [spec_in, Option.bind_some]
  unfold tagM
  by_cases h1 : 0 ≤ l ∧ l ≤ 9
  · simp only [h1, decide_true, if_true]
    by_cases h2 : 1 ≤ a ∧ a ≤ 999
    · simp [h1, h2]
    · simp [h2]; omega
  · simp [h1]; omega
theorem impl_TagOk_eq (l a s : Int) : impl_TagOk.f l a s = some (tagM l a s) := by
  unfold impl_TagOk.f tagM
  by_cases h1 : l ≥ 0
  · rw [if_pos h1]
    by_cases h2 : l ≤ 9
    · rw [if_pos h2]
      by_cases h3 : a ≥ 1
      · rw [if_pos h3]
        by_cases h4 : a ≤ 999
        · rw [if_pos h4]
          by_cases h5 : s ≥ 0
          · rw [if_pos h5]; congr 1; rw [decide_eq_decide]; omega
          · rw [if_neg h5]; congr 1; symm; rw [decide_eq_false_iff_not]; omega
        · rw [if_neg h4]; congr 1; symm; rw [decide_eq_false_iff_not]; omega
      · rw [if_neg h3]; congr 1; symm; rw [decide_eq_false_iff_not]; omega
    · rw [if_neg h2]; congr 1; symm; rw [decide_eq_false_iff_not]; omega
  · rw [if_neg h1]; congr 1; symm; rw [decide_eq_false_iff_not]; omega
theorem num_wrap {l a s : Int} (h : tagM l a s = true) : wrap64 ((wrap64 ((wrap64 ((wrap64 (l * 1000)) + a)) * 1000000)) + s) = (l * 1000 + a) * 1000000 + s := by
  rw [tagM_iff] at h
  rw [w64 (x := l * 1000) (by omega) (by omega), w64 (x := l * 1000 + a) (by omega) (by omega), w64 (x := (l * 1000 + a) * 1000000) (by omega) (by omega), w64 (by omega) (by omega)]
theorem spec_TagNumber_eq (l a s : Int) : spec_TagNumber.f l a s = some (numM l a s) := by
  unfold spec_TagNumber.f
  rw [spec_TagOk_eq, Option.bind_some]
  by_cases h : tagM l a s = true
  · rw [if_pos h, num_wrap h, numM_pos h]
  · rw [if_neg h]; simp [numM, h]
theorem impl_TagNumber_eq (l a s : Int) : impl_TagNumber.f l a s = some (numM l a s) := by
  unfold impl_TagNumber.f
  rw [impl_TagOk_eq, Option.bind_some]
  by_cases h : tagM l a s = true
  · rw [if_pos h, num_wrap h, numM_pos h]
  · rw [if_neg h]; simp [numM, h]
theorem spec_TagCheck_eq (l a s : Int) : spec_TagCheck.f l a s = some (checkM l a s) := by
  unfold spec_TagCheck.f checkM
  rw [spec_TagOk_eq, Option.bind_some]
  by_cases h : tagM l a s = true
  · rw [if_pos h, if_pos h, spec_TagNumber_eq, Option.bind_some, Int.tmod_eq_emod_of_nonneg (numM_range h).1]
  · rw [if_neg h, if_neg h]
theorem impl_TagCheck_eq (l a s : Int) : impl_TagCheck.f l a s = some (checkM l a s) := by
  unfold impl_TagCheck.f checkM
  rw [impl_TagOk_eq, Option.bind_some]
  by_cases h : tagM l a s = true
  · rw [if_pos h, if_pos h, impl_TagNumber_eq, Option.bind_some, Int.tmod_eq_emod_of_nonneg (numM_range h).1]
  · rw [if_neg h, if_neg h]
/-- A string of these bytes. -/
def mkB (l : List UInt8) : ByteArray := ⟨l.toArray⟩
theorem mkB_append (a b : List UInt8) : mkB a ++ mkB b = mkB (a ++ b) := by
  apply ByteArray.ext
  rw [ByteArray.data_append]
  simp [mkB]
theorem mkB_size (l : List UInt8) : (mkB l).size = l.length := by simp [mkB, ByteArray.size]
theorem mkB_nums (l : List Int) : strOfNums l = mkB (l.map fun n => UInt8.ofNat n.toNat) := by simp [mkB, strOfNums]
theorem mkB_list (l : List UInt8) : (mkB l).toList = l := by rw [ByteArray.toList_eq]; simp [mkB]
/-- m digits of a number. -/
def tenD : Nat → Nat → List Int
  | 0, _ => []
  | m + 1, n => tenD m (n / 10) ++ [((48 + n % 10 : Nat) : Int)]
theorem tenD_length : ∀ m n, (tenD m n).length = m
  | 0, _ => rfl
  | m + 1, n => by rw [tenD, List.length_append, tenD_length m]; rfl
theorem ten_loop (m : Nat) : ∀ (n : Nat) (s : List Int), m + s.length = 10 → n ≤ 9999999999 → Ev (fun k => spec_l01Ten.l0 k (n : Int) (List.replicate m 0 ++ s) ((m : Int) - 1)) (strOfNums (tenD m n ++ s)) := by
  induction m with
  | zero =>
    intro n s hs hn
    exact Ev.step (f := fun _ => some (strOfNums s)) (fun k => by rw [spec_l01Ten.l0, if_neg (by omega)]; rfl) (ev_some rfl)
  | succ m ih =>
    intro n s hs hn
    have e1 : ((m + 1 : Nat) : Int) - 1 = (m : Int) := by omega
    have e2 : Int.tmod (n : Int) 10 = ((n % 10 : Nat) : Int) := by rw [Int.tmod_eq_emod_of_nonneg (by omega)]; omega
    have e3 : Int.tdiv (n : Int) 10 = ((n / 10 : Nat) : Int) := by rw [Int.tdiv_eq_ediv_of_nonneg (by omega)]; omega
    have e4 : (wrap64 (48 + ((n % 10 : Nat) : Int))) % 256 = ((48 + n % 10 : Nat) : Int) := by rw [w64 (by omega) (by omega)]; omega
    have e5 : wrap64 ((n / 10 : Nat) : Int) = ((n / 10 : Nat) : Int) := w64 (by omega) (by omega)
    have e6 : wrap64 ((m : Int) - 1) = (m : Int) - 1 := w64 (by omega) (by omega)
    have e7 : (List.replicate (m + 1) (0 : Int) ++ s).set m ((48 + n % 10 : Nat) : Int) = List.replicate m 0 ++ (((48 + n % 10 : Nat) : Int) :: s) := by
      rw [List.replicate_succ', List.append_assoc, List.set_append, if_neg (by simp)]
      simp
    refine Ev.step (f := fun k => spec_l01Ten.l0 k ((n / 10 : Nat) : Int) (List.replicate m 0 ++ (((48 + n % 10 : Nat) : Int) :: s)) ((m : Int) - 1)) (fun k => ?_) ?_
    · rw [spec_l01Ten.l0, e1, if_pos (by omega), if_pos (by omega), if_pos (by simp; omega), e2, e3, e4, e5, e6, Int.toNat_natCast, e7]
    · rw [tenD, List.append_assoc]
      exact ih (n / 10) _ (by simp; omega) (by omega)
theorem ten_ev (n : Nat) (hn : n ≤ 9999999999) : Ev (fun k => spec_l01Ten.f k (n : Int)) (strOfNums (tenD 10 n)) := by
  unfold spec_l01Ten.f
  simp only [if_pos (show (10 : Nat) ≤ 281474976710656 by omega)]
  have := ten_loop 10 n [] rfl hn
  rwa [List.append_nil, List.append_nil] at this
def tgN (x : Tag) : Int := numM x.f0 x.f1 x.f2
/-- A tag put where it belongs. -/
def insT (x : Tag) : List Tag → List Tag
  | [] => [x]
  | y :: l => if tgN x < tgN y then x :: y :: l else y :: insT x l
theorem insT_len (x : Tag) : ∀ l : List Tag, (insT x l).length = l.length + 1
  | [] => rfl
  | y :: l => by
    rw [insT]
    split
    · rfl
    · rw [List.length_cons, insT_len x l, List.length_cons]
theorem insT_mem (x : Tag) : ∀ (l : List Tag) (z : Tag), z ∈ insT x l → z = x ∨ z ∈ l
  | [], z, h => by simpa [insT] using h
  | y :: l, z, h => by
    rw [insT] at h
    split at h
    · simpa using h
    · rcases List.mem_cons.1 h with h | h
      · exact .inr (by simp [h])
      · rcases insT_mem x l z h with h | h
        · exact .inl h
        · exact .inr (by simp [h])
def sortedT (l : List Tag) : Prop := l.Pairwise (fun x y => tgN x ≤ tgN y)
theorem insT_sorted (x : Tag) : ∀ l : List Tag, sortedT l → sortedT (insT x l)
  | [], _ => List.pairwise_singleton _ _
  | y :: l, h => by
    obtain ⟨h1, h2⟩ := List.pairwise_cons.1 h
    rw [insT]
    split
    · rename_i c
      refine List.pairwise_cons.2 ⟨fun z hz => ?_, h⟩
      rcases List.mem_cons.1 hz with hz | hz
      · rw [hz]; omega
      · have := h1 z hz; omega
    · rename_i c
      refine List.pairwise_cons.2 ⟨fun z hz => ?_, insT_sorted x l h2⟩
      rcases insT_mem x l z hz with hz | hz
      · rw [hz]; omega
      · exact h1 z hz
theorem insT_last (x : Tag) : ∀ l : List Tag, (∀ z ∈ l, ¬ tgN x < tgN z) → insT x l = l ++ [x]
  | [], _ => rfl
  | y :: l, h => by
    rw [insT, if_neg (h y (by simp)), insT_last x l (fun z hz => h z (by simp [hz]))]; rfl
theorem insT_end (x y : Tag) (h : tgN x < tgN y) : ∀ l : List Tag, insT x (l ++ [y]) = insT x l ++ [y]
  | [] => by simp [insT, h]
  | z :: l => by
    rw [List.cons_append, insT, insT, insT_end x y h l]
    split <;> rfl
theorem spec_ins_true (l : List Tag) (hl : l.length ≤ 1000) (a b c : Int) (d : Nat) : ∀ (i : Nat) (o : List Tag), i + d = l.length → o.length ≤ i + 1 → Ev (fun k => spec_l01Insert.l0 k l o true i a b c) (o ++ l.drop i) := by
  induction d with
  | zero =>
    intro i o hi _
    rw [List.drop_eq_nil_of_le (show l.length ≤ i by omega), List.append_nil]
    exact Ev.step (f := fun _ => some o) (fun k => by rw [spec_l01Insert.l0, if_neg (show ¬ (i : Int) < (l.length : Int) by omega), if_pos rfl]) (Ev.now _)
  | succ d ih =>
    intro i o hi ho
    have e1 : wrap64 ((i : Int) + 1) = ((i + 1 : Nat) : Int) := w64 (by omega) (by omega)
    rw [drop_Tag l i (by omega), ← List.singleton_append, ← List.append_assoc]
    exact Ev.step (fun k => by rw [spec_l01Insert.l0, if_pos (show (i : Int) < (l.length : Int) by omega), if_pos rfl, if_pos (show (0 : Int) ≤ (i : Int) by omega), if_pos (by omega), e1]) (ih (i + 1) _ (by omega) (by simp; omega))
theorem spec_ins_false (l : List Tag) (hl : l.length ≤ 1000) (x : Tag) (d : Nat) : ∀ (i : Nat) (o : List Tag), i + d = l.length → o.length ≤ i → Ev (fun k => spec_l01Insert.l0 k l o false i x.f0 x.f1 x.f2) (o ++ insT x (l.drop i)) := by
  induction d with
  | zero =>
    intro i o hi ho
    rw [List.drop_eq_nil_of_le (show l.length ≤ i by omega), insT]
    exact Ev.step (f := fun _ => some (o ++ [x])) (fun k => by rw [spec_l01Insert.l0, if_neg (show ¬ (i : Int) < (l.length : Int) by omega), if_neg (by decide), if_pos (by omega)]) (Ev.now _)
  | succ d ih =>
    intro i o hi ho
    have hlt : i < l.length := by omega
    have e1 : wrap64 ((i : Int) + 1) = ((i + 1 : Nat) : Int) := w64 (by omega) (by omega)
    rw [drop_Tag l i hlt, insT]
    refine Ev.step (fun k => by rw [spec_l01Insert.l0, if_pos (show (i : Int) < (l.length : Int) by omega), if_neg (by decide), spec_TagNumber_eq, Option.bind_some, if_pos (show (0 : Int) ≤ (i : Int) by omega), spec_TagNumber_eq, Option.bind_some, if_pos (show o.length < 5864062014805 by omega), Option.bind_some, if_pos (show (o ++ [(⟨x.f0, x.f1, x.f2⟩ : Tag)]).length < 5864062014805 by simp; omega), e1]) ?_
    by_cases c : tgN x < tgN (rd_T26 l (i : Int))
    · rw [if_pos c]
      have := spec_ins_true l hl x.f0 x.f1 x.f2 d (i + 1) (o ++ [x] ++ [rd_T26 l (i : Int)]) (by omega) (by simp; omega)
      simp only [if_pos (show numM x.f0 x.f1 x.f2 < numM (rd_T26 l (i : Int)).f0 (rd_T26 l (i : Int)).f1 (rd_T26 l (i : Int)).f2 from c)]
      simpa using this
    · rw [if_neg c]
      have := ih (i + 1) (o ++ [rd_T26 l (i : Int)]) (by omega) (by simp; omega)
      simp only [if_neg (show ¬ numM x.f0 x.f1 x.f2 < numM (rd_T26 l (i : Int)).f0 (rd_T26 l (i : Int)).f1 (rd_T26 l (i : Int)).f2 from c), if_pos (show o.length < 5864062014805 by omega)]
      simpa using this
theorem spec_ins_ev (l : List Tag) (hl : l.length ≤ 1000) (x : Tag) : Ev (fun k => spec_l01Insert.f k l x.f0 x.f1 x.f2) (insT x l) := by
  unfold spec_l01Insert.f
  simpa using spec_ins_false l hl x l.length 0 [] (by omega) (by simp)
theorem rd_mid (A B : List Tag) (x : Tag) : rd_T26 (A ++ x :: B) (A.length : Int) = x := by
  simp [rd_T26, List.getD_eq_getElem?_getD]
theorem asc_in (i n : Nat) (r : List Tag) (L : Nat) (hL : L ≤ 1000) (B0 : List Tag) (x : Tag) : ∀ (m : Nat) (A B : List Tag), A.length = m → A.length + 1 + B.length = L → sortedT A → (∀ S, S = insT x A ++ B → Ev (fun k => impl_ascending.l0 k S (n : Int) (wrap64 ((i : Int) + 1))) r) → Ev (fun k => impl_ascending.l1 k (A ++ x :: B) (m : Int) (n : Int) i) r
  | 0, A, B, hA, hlen, hs, hr => by
    have : A = [] := List.eq_nil_of_length_eq_zero hA
    subst this
    exact Ev.step (fun k => by rw [impl_ascending.l1, if_neg (by omega)]; rfl) (hr _ rfl)
  | m + 1, A, B, hA, hlen, hs, hr => by
    have hne : A ≠ [] := by intro h; rw [h] at hA; simp at hA
    obtain ⟨A', y, rfl⟩ : ∃ A' y, A = A' ++ [y] := ⟨A.dropLast, A.getLast hne, (List.dropLast_concat_getLast hne).symm⟩
    have hm : A'.length = m := by simpa using hA
    have e1 : wrap64 (((m + 1 : Nat) : Int) - 1) = (m : Int) := by rw [w64 (by omega) (by omega)]; omega
    have hl : (A' ++ [y] ++ x :: B).length = L := by simp at hlen ⊢; omega
    have r1 : rd_T26 (A' ++ [y] ++ x :: B) (m : Int) = y := by
      rw [List.append_assoc, List.singleton_append, ← hm, rd_mid]
    have r2 : rd_T26 (A' ++ [y] ++ x :: B) ((m + 1 : Nat) : Int) = x := by
      rw [← hA, rd_mid]
    refine Ev.step (fun k => by rw [impl_ascending.l1, if_pos (by omega), e1, if_pos (show (0 : Int) ≤ (m : Int) by omega), if_pos (by rw [hl]; omega), r1, r2, impl_TagNumber_eq, Option.bind_some, if_pos (by omega), if_pos (by rw [hl]; omega), impl_TagNumber_eq, Option.bind_some]) ?_
    by_cases c : tgN x < tgN y
    · simp only [if_pos (show numM y.f0 y.f1 y.f2 > numM x.f0 x.f1 x.f2 from c)]
      have e2 : ((A' ++ [y] ++ x :: B).set (m : Int).toNat (⟨x.f0, x.f1, x.f2⟩ : Tag)).set ((m + 1 : Nat) : Int).toNat (⟨y.f0, y.f1, y.f2⟩ : Tag) = A' ++ x :: (y :: B) := by
        rw [Int.toNat_natCast, Int.toNat_natCast, List.append_assoc, List.singleton_append]
        rw [List.set_append, if_neg (by omega), show m - A'.length = 0 by omega, List.set_cons_zero, List.set_append, if_neg (by omega), show m + 1 - A'.length = 1 by omega, List.set_cons_succ, List.set_cons_zero]
      rw [e2]
      refine asc_in i n r L hL B0 x m A' (y :: B) hm (by simp at hlen ⊢; omega) (List.pairwise_append.1 hs).1 (fun S hS => hr S ?_)
      rw [hS, insT_end x y c A']; simp
    · simp only [if_neg (show ¬ numM y.f0 y.f1 y.f2 > numM x.f0 x.f1 x.f2 from c)]
      refine hr _ ?_
      rw [insT_last x (A' ++ [y]) (fun z hz => ?_)]
      · simp
      · rcases List.mem_append.1 hz with hz | hz
        · have := (List.pairwise_append.1 hs).2.2 z hz y (by simp)
          omega
        · rw [List.mem_singleton.1 hz]; exact c
theorem asc_loop (n : Nat) (hn : n ≤ 1000) : ∀ (l S : List Tag), S.length + l.length = n → sortedT S → Ev (fun k => impl_ascending.l0 k (S ++ l) (n : Int) (S.length : Int)) (l.foldl (fun a x => insT x a) S)
  | [], S, h, _ => by
    rw [List.append_nil, List.foldl_nil]
    exact Ev.step (f := fun _ => some S) (fun k => by rw [impl_ascending.l0, if_neg (by simp at h; omega)]) (Ev.now _)
  | x :: l, S, h, hs => by
    have e1 : wrap64 ((S.length : Int) + 1) = ((insT x S).length : Int) := by rw [insT_len, w64 (by omega) (by simp at h; omega)]; omega
    refine Ev.step (fun k => by rw [impl_ascending.l0, if_pos (by simp at h; omega)]) ?_
    refine asc_in S.length n _ n hn [] x S.length S l rfl (by simp at h ⊢; omega) hs (fun S' hS' => ?_)
    rw [hS', e1, List.foldl_cons]
    exact asc_loop n hn l (insT x S) (by rw [insT_len]; simp at h; omega) (insT_sorted x S hs)
theorem asc_ev (l : List Tag) (hl : l.length ≤ 1000) : Ev (fun k => impl_ascending.f k l) (l.foldl (fun a x => insT x a) []) := by
  unfold impl_ascending.f
  exact asc_loop l.length hl l [] (by simp) List.Pairwise.nil
/-- The tag of a number, as both tell it. -/
def ofN (m : Int) : Tag := ⟨wrap64 (Int.tdiv m 1000000000), Int.tmod (wrap64 (Int.tdiv m 1000000)) 1000, Int.tmod m 1000000⟩
/-- Is the tag of m a near one of t? -/
def nearB (t : Tag) (m : Int) : Bool := tagM (ofN m).f0 (ofN m).f1 (ofN m).f2 && decide (checkM (ofN m).f0 (ofN m).f1 (ofN m).f2 = checkM t.f0 t.f1 t.f2)
/-- The near tags at one place, from digit d on; o: the digit there, p: the place's power. -/
def nearD (t : Tag) (n p o : Nat) : Nat → Nat → List Tag
  | 0, _ => []
  | f + 1, d => (if d ≠ o ∧ nearB t ((n : Int) + ((d : Int) - o) * p) = true then [ofN ((n : Int) + ((d : Int) - o) * p)] else []) ++ nearD t n p o f (d + 1)
/-- The near tags at the last j places, the highest first. -/
def nearP (t : Tag) (n : Nat) : Nat → List Tag
  | 0 => []
  | j + 1 => nearD t n (10 ^ j) (n / 10 ^ j % 10) 10 0 ++ nearP t n j
theorem nearD_len (t : Tag) (n p o : Nat) : ∀ f d, (nearD t n p o f d).length ≤ f
  | 0, _ => Nat.le_refl _
  | f + 1, d => by
    have := nearD_len t n p o f (d + 1)
    rw [nearD, List.length_append]
    split <;> simp <;> omega
theorem nearP_len (t : Tag) (n : Nat) : ∀ j, (nearP t n j).length ≤ 10 * j
  | 0 => Nat.le_refl _
  | j + 1 => by
    have := nearP_len t n j
    have := nearD_len t n (10 ^ j) (n / 10 ^ j % 10) 10 0
    rw [nearP, List.length_append]
    omega
theorem pow_le9 {j : Nat} (hj : j < 10) : 10 ^ j ≤ 1000000000 := by
  have := Nat.pow_le_pow_right (show 0 < 10 by omega) (show j ≤ 9 by omega)
  omega
theorem nat64 (q : Nat) (h : q ≤ 9999999999) : wrap64 (q : Int) = (q : Int) := w64 (by omega) (by omega)
theorem mod10 (q : Nat) : Int.tmod (q : Int) 10 = ((q % 10 : Nat) : Int) := by rw [Int.tmod_eq_emod_of_nonneg (by omega)]; rfl
theorem mul_ok (d o p : Nat) (hd : d ≤ 9) (ho : o ≤ 9) (hp : p ≤ 1000000000) : -9000000000 ≤ ((d : Int) - o) * p ∧ ((d : Int) - o) * p ≤ 9000000000 := by
  have h1 : d * p ≤ 9 * 1000000000 := Nat.mul_le_mul hd hp
  have h2 : o * p ≤ 9 * 1000000000 := Nat.mul_le_mul ho hp
  rw [Int.sub_mul, ← Int.natCast_mul, ← Int.natCast_mul]
  omega
theorem impl_near_d (t : Tag) (n p : Nat) (hn : n ≤ 9999999999) (hp : p ≤ 1000000000) (o : Nat) (ho : o ≤ 9) (r : List Tag) (f : Nat) : ∀ (d : Nat) (l : List Tag), d + f = 10 → l.length + f ≤ 1000 → (∀ l', l' = l ++ nearD t n p o f d → Ev (fun k => impl_NearTags.l0 k (n : Int) l' (wrap64 (Int.tdiv (p : Int) 10)) t.f0 t.f1 t.f2) r) → Ev (fun k => impl_NearTags.l1 k (n : Int) l (p : Int) (o : Int) (d : Int) t.f0 t.f1 t.f2) r := by
  induction f with
  | zero =>
    intro d l hd hl hr
    exact Ev.step (fun k => by rw [impl_NearTags.l1, if_neg (by omega)]) (hr l (by simp [nearD]))
  | succ f ih =>
    intro d l hd hl hr
    have e1 : wrap64 ((d : Int) + 1) = ((d + 1 : Nat) : Int) := w64 (by omega) (by omega)
    have hm := mul_ok d o p (by omega) ho hp
    have e2 : wrap64 ((d : Int) - o) = (d : Int) - o := w64 (by omega) (by omega)
    have e3 : wrap64 (((d : Int) - o) * p) = ((d : Int) - o) * p := w64 (by omega) (by omega)
    have e4 : wrap64 ((n : Int) + ((d : Int) - o) * p) = (n : Int) + ((d : Int) - o) * p := w64 (by omega) (by omega)
    have hskip : (d = o ∨ nearB t ((n : Int) + ((d : Int) - o) * p) = false) → Ev (fun k => impl_NearTags.l1 k (n : Int) l (p : Int) (o : Int) ((d + 1 : Nat) : Int) t.f0 t.f1 t.f2) r := by
      intro hh
      refine ih (d + 1) l (by omega) (by omega) (fun l' hl' => hr l' ?_)
      rw [hl', nearD, if_neg (by rintro ⟨h1, h2⟩; rcases hh with hh | hh; exact h1 hh; rw [hh] at h2; cases h2), List.nil_append]
    refine Ev.step (fun k => by rw [impl_NearTags.l1, if_pos (show (d : Int) ≤ 9 by omega), e2, e3, e4, e1, impl_tagOf.f, Option.bind_some]) ?_
    by_cases c : (d : Int) = (o : Int)
    · simp only [if_pos c]
      exact hskip (.inl (by omega))
    · simp only [if_neg c, impl_TagOk_eq, impl_TagCheck_eq, Option.bind_some]
      by_cases c2 : tagM (ofN ((n : Int) + ((d : Int) - o) * p)).f0 (ofN ((n : Int) + ((d : Int) - o) * p)).f1 (ofN ((n : Int) + ((d : Int) - o) * p)).f2 = true
      · by_cases c3 : checkM (ofN ((n : Int) + ((d : Int) - o) * p)).f0 (ofN ((n : Int) + ((d : Int) - o) * p)).f1 (ofN ((n : Int) + ((d : Int) - o) * p)).f2 = checkM t.f0 t.f1 t.f2
        · have hgo := ih (d + 1) (l ++ [ofN ((n : Int) + ((d : Int) - o) * p)]) (by omega) (by simp; omega) (fun l' hl' => hr l' (by
            rw [hl', nearD, if_pos ⟨by omega, by unfold nearB; rw [c2, decide_eq_true c3]; rfl⟩]; simp))
          unfold ofN at c2 c3 hgo
          simp only [if_pos c2, if_pos c3, if_pos (show l.length < 5864062014805 by omega)]
          exact hgo
        · have hs := hskip (.inr (by unfold nearB; rw [decide_eq_false c3, Bool.and_false]))
          unfold ofN at c2 c3
          simp only [if_pos c2, if_neg c3]
          exact hs
      · have hs := hskip (.inr (by unfold nearB; simp only [Bool.not_eq_true] at c2; rw [c2, Bool.false_and]))
        unfold ofN at c2
        simp only [if_neg c2]
        exact hs
theorem impl_near_p (t : Tag) (n : Nat) (hn : n ≤ 9999999999) : ∀ (j : Nat) (l : List Tag), j ≤ 10 → l.length + 10 * j ≤ 1000 → Ev (fun k => impl_NearTags.l0 k (n : Int) l (if j = 0 then 0 else ((10 ^ (j - 1) : Nat) : Int)) t.f0 t.f1 t.f2) ((l ++ nearP t n j).foldl (fun a x => insT x a) [])
  | 0, l, _, hl => by
    rw [if_pos rfl, nearP, List.append_nil]
    refine Ev.step (fun k => by rw [impl_NearTags.l0, if_neg (by omega)]) ?_
    exact ev_bind _ (asc_ev l (by omega)) (Ev.now _)
  | j + 1, l, hj, hl => by
    rw [if_neg (by omega), Nat.add_sub_cancel, nearP]
    have hpos : 0 < 10 ^ j := Nat.pow_pos (by omega)
    have hp := pow_le9 (show j < 10 by omega)
    have e1 : Int.tdiv (n : Int) ((10 ^ j : Nat) : Int) = ((n / 10 ^ j : Nat) : Int) := by rw [Int.tdiv_eq_ediv_of_nonneg (by omega)]; rfl
    have hle : n / 10 ^ j ≤ n := Nat.div_le_self _ _
    have e2 : wrap64 ((n / 10 ^ j : Nat) : Int) = ((n / 10 ^ j : Nat) : Int) := nat64 _ (Nat.le_trans hle hn)
    have e3 : Int.tmod ((n / 10 ^ j : Nat) : Int) 10 = ((n / 10 ^ j % 10 : Nat) : Int) := mod10 _
    have e4 : wrap64 (Int.tdiv ((10 ^ j : Nat) : Int) 10) = (if j = 0 then 0 else ((10 ^ (j - 1) : Nat) : Int)) := by
      rw [Int.tdiv_eq_ediv_of_nonneg (by omega)]
      by_cases c : j = 0
      · subst c
        rw [if_pos rfl, show ((10 ^ 0 : Nat) : Int) / 10 = 0 by decide, w64 (by omega) (by omega)]
      · obtain ⟨i, rfl⟩ := Nat.exists_eq_succ_of_ne_zero c
        rw [if_neg c, Nat.succ_eq_add_one, Nat.add_sub_cancel]
        have : 10 ^ (i + 1) = 10 ^ i * 10 := Nat.pow_succ ..
        rw [w64 (by omega) (by omega)]
        omega
    refine Ev.step (fun k => by rw [impl_NearTags.l0, if_pos (by omega), if_neg (by omega), e1, e2, e3]) ?_
    refine impl_near_d t n (10 ^ j) hn hp (n / 10 ^ j % 10) (by omega) _ 10 0 l (by omega) (by omega) (fun l' hl' => ?_)
    rw [e4]
    have hD := nearD_len t n (10 ^ j) (n / 10 ^ j % 10) 10 0
    have := impl_near_p t n hn j l' (by omega) (by rw [hl', List.length_append]; omega)
    rw [hl', List.append_assoc] at this
    rw [hl']
    exact this
/-- The near tags of a tag. -/
def nearR (t : Tag) : List Tag := if tagM t.f0 t.f1 t.f2 = true then (nearP t (numM t.f0 t.f1 t.f2).toNat 10).foldl (fun a x => insT x a) [] else []
theorem impl_near_ev (t : Tag) : Ev (fun k => impl_NearTags.f k t.f0 t.f1 t.f2) (nearR t) := by
  unfold impl_NearTags.f nearR
  simp only [impl_TagNumber_eq, Option.bind_some]
  by_cases h : tagM t.f0 t.f1 t.f2 = true
  · have hr := numM_range h
    obtain ⟨n, hn⟩ := Int.eq_ofNat_of_zero_le hr.1
    rw [if_pos h, hn]
    simp only [if_neg (show ¬ ((n : Nat) : Int) < 0 by omega)]
    have h2 := impl_near_p t n (by omega) 10 [] (by omega) (by simp)
    rw [if_neg (show ¬ (10 : Nat) = 0 by omega), show ((10 ^ (10 - 1) : Nat) : Int) = 1000000000 by decide, List.nil_append] at h2
    rw [Int.toNat_natCast]
    exact h2
  · rw [if_neg h]
    simp only [if_pos (show numM t.f0 t.f1 t.f2 < 0 by simp [numM, h])]
    exact Ev.now _
theorem rd_int (l : List Int) (i : Nat) (h : i < l.length) : rd l (i : Int) = l[i] := by
  simp [rd, List.getD_eq_getElem?_getD, List.getElem?_eq_getElem h]
theorem drop_int (l : List Int) (i : Nat) (h : i < l.length) : l.drop i = rd l (i : Int) :: l.drop (i + 1) := by
  rw [List.drop_eq_getElem_cons h, rd_int l i h]
theorem tenD_range : ∀ m n, ∀ x ∈ tenD m n, 48 ≤ x ∧ x ≤ 57
  | 0, _, x, hx => by simp [tenD] at hx
  | m + 1, n, x, hx => by
    rw [tenD] at hx
    rcases List.mem_append.1 hx with hx | hx
    · exact tenD_range m _ x hx
    · rw [List.mem_singleton.1 hx]; omega
theorem nums_str (l : List Int) (h : ∀ x ∈ l, 0 ≤ x ∧ x ≤ 255) : numsOf (strOfNums l) = l := by
  rw [mkB_nums]
  simp only [numsOf, mkB, List.map_map, List.toList_toArray]
  refine (List.map_congr_left (g := id) (fun x hx => ?_)).trans (List.map_id l)
  have := h x hx
  simp only [Function.comp, UInt8.toNat_ofNat', id]
  omega
/-- The number that digits tell. -/
def valT (l : List Int) : Int := l.foldl (fun a b => 10 * a + b - 48) 0
theorem valT_end (l : List Int) (b : Int) : valT (l ++ [b]) = 10 * valT l + b - 48 := by
  unfold valT; rw [List.foldl_append]; rfl
theorem valT_ten : ∀ m n, n < 10 ^ m → valT (tenD m n) = n
  | 0, n, h => by
    have : n = 0 := by simpa using h
    subst this; rfl
  | m + 1, n, h => by
    have h2 : 10 ^ (m + 1) = 10 ^ m * 10 := Nat.pow_succ ..
    rw [tenD, valT_end, valT_ten m (n / 10) (by omega)]
    omega
theorem valT_set (d : Nat) : ∀ m n e, e < m → n < 10 ^ m → valT ((tenD m n).set (m - 1 - e) ((48 + d : Nat) : Int)) = (n : Int) + ((d : Int) - ((n / 10 ^ e % 10 : Nat) : Int)) * ((10 ^ e : Nat) : Int)
  | m + 1, n, 0, _, h => by
    have h2 : 10 ^ (m + 1) = 10 ^ m * 10 := Nat.pow_succ ..
    rw [tenD, show m + 1 - 1 - 0 = m by omega, List.set_append, if_neg (by rw [tenD_length]; omega), tenD_length, Nat.sub_self, List.set_cons_zero, valT_end, valT_ten m (n / 10) (by omega), Nat.pow_zero, Nat.div_one]
    omega
  | m + 1, n, e + 1, he, h => by
    have h2 : 10 ^ (m + 1) = 10 ^ m * 10 := Nat.pow_succ ..
    have h3 : 10 ^ (e + 1) = 10 ^ e * 10 := Nat.pow_succ ..
    have ih := valT_set d m (n / 10) e (by omega) (by omega)
    rw [tenD, show m + 1 - 1 - (e + 1) = m - 1 - e by omega, List.set_append, if_pos (by rw [tenD_length]; omega), valT_end, ih, Nat.div_div_eq_div_mul, show 10 * 10 ^ e = 10 ^ (e + 1) by rw [h3, Nat.mul_comm]]
    generalize n / 10 ^ (e + 1) % 10 = o
    rw [h3, Int.natCast_mul, ← Int.mul_assoc]
    generalize ((d : Int) - (o : Int)) * ((10 ^ e : Nat) : Int) = z
    omega
theorem near_dig (t : Tag) (a : List Tag) (own : ByteArray) (i d : Int) (X : List Int) (hX : X.length = 10) (hd : ∀ x ∈ X, 48 ≤ x ∧ x ≤ 57) (r : List Tag) (f : Nat) : ∀ (j : Nat) (v : Int), j + f = 10 → 0 ≤ v → v < ((10 ^ j : Nat) : Int) → Ev (fun k => spec_NearTags.l2 k a own i d X ((X.drop j).foldl (fun a b => 10 * a + b - 48) v) 10 t.f0 t.f1 t.f2) r → Ev (fun k => spec_NearTags.l2 k a own i d X v (j : Int) t.f0 t.f1 t.f2) r := by
  induction f with
  | zero =>
    intro j v hj h0 h1 hr
    have : j = 10 := by omega
    subst this
    rw [List.drop_eq_nil_of_le (by omega), List.foldl_nil] at hr
    exact hr
  | succ f ih =>
    intro j v hj h0 h1 hr
    have hlt : j < X.length := by omega
    have h2 : 10 ^ (j + 1) = 10 ^ j * 10 := Nat.pow_succ ..
    have h3 := pow_le9 (show j < 10 by omega)
    have hx := hd X[j] (List.getElem_mem _)
    have e1 : wrap64 ((j : Int) + 1) = ((j + 1 : Nat) : Int) := w64 (by omega) (by omega)
    have hb : v < 1000000000 := by omega
    have e2 : wrap64 (10 * v) = 10 * v := w64 (by omega) (by omega)
    have e3 : wrap64 X[j] = X[j] := w64 (by omega) (by omega)
    have e4 : wrap64 (10 * v + X[j]) = 10 * v + X[j] := w64 (by omega) (by omega)
    have e5 : wrap64 (10 * v + X[j] - 48) = 10 * v + X[j] - 48 := w64 (by omega) (by omega)
    refine Ev.step (fun k => by rw [spec_NearTags.l2, if_pos (by omega), if_pos (by omega), if_pos (by omega), rd_int X j hlt, e1, e2, e3, e4, e5]) ?_
    refine ih (j + 1) _ (by omega) (by omega) (by clear e1 e2 e3 e4 e5; omega) ?_
    rw [List.drop_eq_getElem_cons hlt, List.foldl_cons] at hr
    exact hr
theorem wr1 (d : Nat) (h : d ≤ 9) : wrap64 ((d : Int) + 1) = ((d + 1 : Nat) : Int) := w64 (by omega) (by omega)
theorem wr2 (d : Nat) (h : d ≤ 9) : (wrap64 (48 + (d : Int))) % 256 = ((48 + d : Nat) : Int) := by rw [w64 (by omega) (by omega)]; omega
theorem spec_near_d (t : Tag) (n : Nat) (hn : n ≤ 9999999999) (hN : numM t.f0 t.f1 t.f2 = n) (e : Nat) (he : e < 10) (r : List Tag) (f : Nat) : ∀ (d : Nat) (a : List Tag), d + f = 10 → a.length + f ≤ 1000 → (∀ a', a' = (nearD t n (10 ^ e) (n / 10 ^ e % 10) f d).foldl (fun a x => insT x a) a → Ev (fun k => spec_NearTags.l0 k a' (strOfNums (tenD 10 n)) (wrap64 (((9 - e : Nat) : Int) + 1)) t.f0 t.f1 t.f2) r) → Ev (fun k => spec_NearTags.l1 k a (strOfNums (tenD 10 n)) ((9 - e : Nat) : Int) (d : Int) t.f0 t.f1 t.f2) r := by
  have hpos : 0 < 10 ^ e := Nat.pow_pos (by omega)
  have hp := pow_le9 he
  have hD : numsOf (strOfNums (tenD 10 n)) = tenD 10 n := nums_str _ (fun x hx => by have := tenD_range 10 n x hx; omega)
  have hl := tenD_length 10 n
  have hv : ∀ d : Nat, ((tenD 10 n).set (9 - e) ((48 + d : Nat) : Int)).foldl (fun a b => 10 * a + b - 48) 0 = (n : Int) + ((d : Int) - ((n / 10 ^ e % 10 : Nat) : Int)) * ((10 ^ e : Nat) : Int) := fun d => valT_set d 10 n e he (by omega)
  have hr1 : ∀ d : Nat, d ≤ 9 → ∀ x ∈ (tenD 10 n).set (9 - e) ((48 + d : Nat) : Int), 48 ≤ x ∧ x ≤ 57 := by
    intro d hd x hx
    rcases List.mem_or_eq_of_mem_set hx with hx | hx
    · exact tenD_range 10 n x hx
    · rw [hx]; omega
  have hl1 : ∀ c : Int, ((tenD 10 n).set (9 - e) c).length = 10 := fun c => by rw [List.length_set, hl]
  generalize tenD 10 n = D at hD hl hv hr1 hl1 ⊢
  generalize n / 10 ^ e % 10 = o at hv ⊢
  generalize 10 ^ e = p at hv hpos hp ⊢
  induction f with
  | zero =>
    intro d a hd ha hr
    exact Ev.step (fun k => by rw [spec_NearTags.l1, if_neg (by omega)]) (hr a rfl)
  | succ f ih =>
    intro d a hd ha hr
    have hd9 : d ≤ 9 := by omega
    refine Ev.step (fun k => by rw [spec_NearTags.l1, if_pos (by omega), Option.bind_some, hD, if_pos (by omega), if_pos (by omega), wr2 d hd9, Int.toNat_natCast]) ?_
    refine near_dig t a _ _ _ _ (hl1 _) (hr1 d (by omega)) r 10 0 0 rfl (Int.le_refl _) (by decide) ?_
    rw [List.drop_zero, hv d]
    have hskip : (d = o ∨ nearB t ((n : Int) + ((d : Int) - o) * p) = false) → Ev (fun k => spec_NearTags.l1 k a (strOfNums D) ((9 - e : Nat) : Int) ((d + 1 : Nat) : Int) t.f0 t.f1 t.f2) r := by
      intro hh
      refine ih (d + 1) a (by omega) (by omega) (fun a' ha' => hr a' ?_)
      rw [ha', nearD, if_neg (by rintro ⟨h1, h2⟩; rcases hh with hh | hh; exact h1 hh; rw [hh] at h2; cases h2), List.nil_append]
    refine Ev.step (fun k => by rw [spec_NearTags.l2, if_neg (by omega), spec_l01OfNumber.f, Option.bind_some, spec_TagNumber_eq, Option.bind_some, hN, wr1 d hd9]) ?_
    by_cases c : d = o
    · have : (n : Int) + ((d : Int) - (o : Int)) * (p : Int) = (n : Int) := by rw [c, Int.sub_self, Int.zero_mul, Int.add_zero]
      simp only [if_pos this]
      exact hskip (.inl c)
    · have : ¬ (n : Int) + ((d : Int) - (o : Int)) * (p : Int) = (n : Int) := by
        intro hh
        have h0 : ((d : Int) - (o : Int)) * (p : Int) = 0 := by omega
        rcases Int.mul_eq_zero.1 h0 with h0 | h0 <;> omega
      simp only [if_neg this, spec_TagOk_eq, spec_TagCheck_eq, Option.bind_some]
      by_cases c2 : tagM (ofN ((n : Int) + ((d : Int) - o) * p)).f0 (ofN ((n : Int) + ((d : Int) - o) * p)).f1 (ofN ((n : Int) + ((d : Int) - o) * p)).f2 = true
      · by_cases c3 : checkM (ofN ((n : Int) + ((d : Int) - o) * p)).f0 (ofN ((n : Int) + ((d : Int) - o) * p)).f1 (ofN ((n : Int) + ((d : Int) - o) * p)).f2 = checkM t.f0 t.f1 t.f2
        · have hgo := ih (d + 1) (insT (ofN ((n : Int) + ((d : Int) - o) * p)) a) (by omega) (by rw [insT_len]; omega) (fun l' hl' => hr l' (by
            rw [hl', nearD, if_pos ⟨c, by unfold nearB; rw [c2, decide_eq_true c3]; rfl⟩]; simp))
          have hi := spec_ins_ev a (by omega) (ofN ((n : Int) + ((d : Int) - o) * p))
          simp only [ofN] at c2 c3 hgo hi
          simp only [if_pos c2, if_pos c3]
          exact ev_bind _ hi hgo
        · have hs := hskip (.inr (by unfold nearB; rw [decide_eq_false c3, Bool.and_false]))
          simp only [ofN] at c2 c3
          simp only [if_pos c2, if_neg c3]
          exact hs
      · have hs := hskip (.inr (by unfold nearB; simp only [Bool.not_eq_true] at c2; rw [c2, Bool.false_and]))
        simp only [ofN] at c2
        simp only [if_neg c2]
        exact hs
theorem spec_near_p (t : Tag) (n : Nat) (hn : n ≤ 9999999999) (hN : numM t.f0 t.f1 t.f2 = n) : ∀ (j : Nat) (a : List Tag), j ≤ 10 → a.length + 10 * j ≤ 1000 → Ev (fun k => spec_NearTags.l0 k a (strOfNums (tenD 10 n)) ((10 - j : Nat) : Int) t.f0 t.f1 t.f2) ((nearP t n j).foldl (fun a x => insT x a) a)
  | 0, a, _, _ => by
    rw [nearP, List.foldl_nil]
    exact Ev.step (f := fun _ => some a) (fun k => by rw [spec_NearTags.l0, if_neg (by omega)]) (Ev.now _)
  | j + 1, a, hj, ha => by
    have e1 : ((10 - (j + 1) : Nat) : Int) = ((9 - j : Nat) : Int) := by omega
    have e2 : wrap64 (((9 - j : Nat) : Int) + 1) = ((10 - j : Nat) : Int) := by rw [w64 (by omega) (by omega)]; omega
    rw [e1, nearP, List.foldl_append]
    refine Ev.step (fun k => by rw [spec_NearTags.l0, if_pos (by omega)]) ?_
    refine spec_near_d t n hn hN j (by omega) _ 10 0 a (by omega) (by omega) (fun a' ha' => ?_)
    rw [e2, ← ha']
    have hD := nearD_len t n (10 ^ j) (n / 10 ^ j % 10) 10 0
    refine spec_near_p t n hn hN j a' (by omega) ?_
    have hf : ∀ (l b : List Tag), (l.foldl (fun a x => insT x a) b).length = b.length + l.length := by
      intro l
      induction l with
      | nil => intro b; rfl
      | cons x l ih => intro b; rw [List.foldl_cons, ih, insT_len, List.length_cons]; omega
    rw [ha', hf]
    omega
theorem spec_near_ev (t : Tag) : Ev (fun k => spec_NearTags.f k t.f0 t.f1 t.f2) (nearR t) := by
  unfold spec_NearTags.f nearR
  simp only [Option.bind_some, spec_TagOk_eq]
  by_cases h : tagM t.f0 t.f1 t.f2 = true
  · have hr := numM_range h
    obtain ⟨n, hn⟩ := Int.eq_ofNat_of_zero_le hr.1
    simp only [if_pos h, spec_TagNumber_eq, Option.bind_some, hn]
    refine ev_bind _ (ten_ev n (by omega)) ?_
    rw [Int.toNat_natCast]
    exact spec_near_p t n (by omega) hn 10 [] (by omega) (by simp)
  · simp only [if_neg h]
    exact Ev.now _
theorem eq_Tag (a b c : Int) : laws_eqTag.f a b c a b c = some true := by unfold laws_eqTag.f; simp
theorem eq_TagS_loop (l : List Tag) (hl : l.length ≤ 1048600) (d : Nat) : ∀ i : Nat, i + d = l.length → Ev (fun k => laws_eqTagS.l0 k l l i) true := by
  induction d with
  | zero =>
    intro i hi
    exact Ev.step (fun k => by rw [laws_eqTagS.l0, if_neg (show ¬ (i : Int) < (l.length : Int) by omega)]) (Ev.now _)
  | succ d ih =>
    intro i hi
    have e1 : wrap64 ((i : Int) + 1) = ((i + 1 : Nat) : Int) := w64 (by omega) (by omega)
    refine Ev.step (fun k => by rw [laws_eqTagS.l0, if_pos (show (i : Int) < (l.length : Int) by omega), if_pos (show (0 : Int) ≤ (i : Int) by omega), if_pos (show (i : Int) < (l.length : Int) by omega), eq_Tag, Option.bind_some, if_pos rfl, e1]) ?_
    exact ih (i + 1) (by omega)
theorem eq_TagS_ev (l : List Tag) (hl : l.length ≤ 1048600) : Ev (fun k => laws_eqTagS.f k l l) true := by
  unfold laws_eqTagS.f
  simp only [if_true]
  exact eq_TagS_loop l hl l.length 0 (by omega)
/-- Element j, marked from m on. -/
def mkTag (m : Int) (j : Nat) : Tag := ⟨m + 3 * j, m + 3 * j + 1, m + 3 * j + 2⟩
theorem mark_TagS_loop (l : List Tag) (hl : l.length ≤ 1048600) (m : Int) (h0 : 0 ≤ m) (h1 : m ≤ 1000000000) (d : Nat) : ∀ i : Nat, i + d = l.length →
    Ev (fun k => laws_markTagS.l0 k ((List.range i).map (mkTag m) ++ l.drop i) (m + 3 * i) i) (m + 3 * l.length, (List.range l.length).map (mkTag m)) := by
  induction d with
  | zero =>
    intro i hi
    have : i = l.length := by omega
    subst this
    refine Ev.step (fun k => by rw [laws_markTagS.l0, if_neg (by simp)]) (ev_some ?_)
    simp
  | succ d ih =>
    intro i hi
    have hlen : ((List.range i).map (mkTag m) ++ l.drop i).length = l.length := by simp; omega
    have e1 : wrap64 ((i : Int) + 1) = ((i + 1 : Nat) : Int) := w64 (by omega) (by omega)
    have a1 : wrap64 (m + 3 * (i : Int) + 1) = m + 3 * (i : Int) + 1 := by rw [w64 (by omega) (by omega)] <;> omega
    have a2 : wrap64 (m + 3 * (i : Int) + 1 + 1) = m + 3 * (i : Int) + 2 := by rw [w64 (by omega) (by omega)] <;> omega
    have a3 : wrap64 (m + 3 * (i : Int) + 2 + 1) = m + 3 * ((i + 1 : Nat) : Int) := by rw [w64 (by omega) (by omega)] <;> omega
    have hr : ∀ (y : Tag) (t : List Tag), i < t.length → rd_T26 (t.set i y) (i : Int) = y := by
      intro y t ht
      simp [rd_T26, List.getD_eq_getElem?_getD, ht]
    refine Ev.step (fun k => by rw [laws_markTagS.l0, if_pos (by rw [hlen]; omega), if_pos (show (0 : Int) ≤ (i : Int) by omega)]) ?_
    simp only [Option.bind_some, Int.toNat_natCast, a1, a2, a3, e1]
    rw [hr _ _ (by rw [hlen]; omega)]
    simp only [List.set_set]
    rw [hr _ _ (by rw [hlen]; omega)]
    have hm : (⟨m + 3 * (i : Int), m + 3 * (i : Int) + 1, m + 3 * (i : Int) + 2⟩ : Tag) = mkTag m i := rfl
    rw [hm, set_mark (mkTag m) l i (by omega)]
    exact ih (i + 1) (by omega)
theorem mark_TagS_ev (l : List Tag) (hl : l.length ≤ 1048600) (m : Int) (h0 : 0 ≤ m) (h1 : m ≤ 1000000000) : Ev (fun k => laws_markTagS.f k l m) (m + 3 * l.length, (List.range l.length).map (mkTag m)) := by
  unfold laws_markTagS.f
  have := mark_TagS_loop l hl m h0 h1 l.length 0 (by omega)
  simpa using this
theorem held_TagS_loop (n : Nat) (hl : n ≤ 1048600) (m : Int) (h0 : 0 ≤ m) (h1 : m ≤ 1000000000) (d : Nat) : ∀ i : Nat, i + d = n →
    Ev (fun k => laws_heldTagS.l0 k ((List.range n).map (mkTag m)) (m + 3 * i) i) (m + 3 * n) := by
  induction d with
  | zero =>
    intro i hi
    have : i = n := by omega
    subst this
    exact Ev.step (fun k => by rw [laws_heldTagS.l0, if_neg (by simp)]) (Ev.now _)
  | succ d ih =>
    intro i hi
    have e1 : wrap64 ((i : Int) + 1) = ((i + 1 : Nat) : Int) := w64 (by omega) (by omega)
    have a1 : wrap64 (m + 3 * (i : Int) + 1) = m + 3 * (i : Int) + 1 := by rw [w64 (by omega) (by omega)] <;> omega
    have a2 : wrap64 (m + 3 * (i : Int) + 1 + 1) = m + 3 * (i : Int) + 2 := by rw [w64 (by omega) (by omega)] <;> omega
    have a3 : wrap64 (m + 3 * (i : Int) + 2 + 1) = m + 3 * ((i + 1 : Nat) : Int) := by rw [w64 (by omega) (by omega)] <;> omega
    have e3 : rd_T26 ((List.range n).map (mkTag m)) (i : Int) = mkTag m i := by
      unfold rd_T26
      rw [Int.toNat_natCast, List.getD_eq_getElem?_getD, List.getElem?_map, List.getElem?_range (by omega)]
      rfl
    refine Ev.step (fun k => by rw [laws_heldTagS.l0, if_pos (by simp; omega), if_pos (show (0 : Int) ≤ (i : Int) by omega), e3]) ?_
    simp only [e1, a1, a2, a3, mkTag, if_true]
    exact ih (i + 1) (by omega)
theorem held_TagS_ev (n : Nat) (hl : n ≤ 1048600) (m : Int) (h0 : 0 ≤ m) (h1 : m ≤ 1000000000) : Ev (fun k => laws_heldTagS.f k ((List.range n).map (mkTag m)) m) (m + 3 * n) := by
  unfold laws_heldTagS.f
  have := held_TagS_loop n hl m h0 h1 n 0 (by omega)
  simpa using this
theorem fold_len (l : List Tag) : ∀ b : List Tag, (l.foldl (fun a x => insT x a) b).length = b.length + l.length := by
  induction l with
  | nil => intro b; rfl
  | cons x l ih => intro b; rw [List.foldl_cons, ih, insT_len, List.length_cons]; omega
theorem near_len (t : Tag) : (nearR t).length ≤ 100 := by
  unfold nearR
  split
  · rw [fold_len]
    have := nearP_len t (numM t.f0 t.f1 t.f2).toNat 10
    simpa using this
  · simp
theorem FnExactNearTags : laws_FnExactNearTags.Pure := by
  intro l a s _ _ _
  refine Ev.rounds ?_
  unfold laws_FnExactNearTags.f laws_toTag.f
  simp only [Option.bind_some]
  have hlen := near_len ⟨l, a, s⟩
  have hs := spec_near_ev ⟨l, a, s⟩
  have hi := impl_near_ev ⟨l, a, s⟩
  refine ev_bind _ hs ?_
  refine ev_bind _ hi ?_
  refine ev_bind _ (eq_TagS_ev _ (by omega)) ?_
  simp only [if_true]
  refine ev_bind _ (mark_TagS_ev _ (by omega) 1 (by omega) (by omega)) ?_
  refine ev_bind _ (held_TagS_ev _ (by omega) 1 (by omega) (by omega)) ?_
  simp only [if_neg (show ¬ ((1 : Int) + 3 * ((nearR ⟨l, a, s⟩).length : Int) < 0) by omega), if_true]
  refine ev_bind _ hi ?_
  refine ev_bind _ (eq_TagS_ev _ (by omega)) ?_
  simp only [if_true]
  refine ev_bind _ (held_TagS_ev _ (by omega) 1 (by omega) (by omega)) ?_
  simp only [if_neg (show ¬ ((1 : Int) + 3 * ((nearR ⟨l, a, s⟩).length : Int) < 0) by omega), if_true]
  exact Ev.now _

end Go.Proofs.Ytnkaimdcdedekaa.Pure
