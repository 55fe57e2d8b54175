/- For every list of windows the law FnExactExpectOk returns true (its printed function does): program and reference take the same ones. -/
import Derived.Test.YtnnimbbffbfhoaaPFnExactExpectOkx2
import Derived.Test.YtnnimbbffbfhoaaKit
namespace Go.Proofs.Ytnnimbbffbfhoaa.Pure
open Go.RowKit Go.Proofs.Ytnnimbbffbfhoaa.PFnExactExpectOk Go.Proofs.YtnnimbbffbfhoaaW.PrintWords Go.Proofs.YtnnimbbffbfhoaaW.PrintLast Go.Proofs.YtnnimbbffbfhoaaW.PrintMore Go.Proofs.Ytnnimbbffbfhoaa.Kit
set_option linter.unusedVariables false
set_option linter.unusedSimpArgs false

abbrev Expect := S47
theorem rd_Expect (l : List Expect) (i : Nat) (h : i < l.length) : rd_T47 l (i : Int) = l[i] := by
  simp [rd_T47, List.getD_eq_getElem?_getD, List.getElem?_eq_getElem h]
theorem drop_Expect (l : List Expect) (i : Nat) (h : i < l.length) : l.drop i = rd_T47 l (i : Int) :: l.drop (i + 1) := by
  rw [List.drop_eq_getElem_cons h, rd_Expect l i h]
theorem take_Expect (l : List Expect) (i : Nat) (h : i < l.length) : l.take (i + 1) = l.take i ++ [rd_T47 l (i : Int)] := by
  rw [rd_Expect l i h, List.take_succ_eq_append_getElem h]
abbrev LExpect := S82
def toMExpect (x : LExpect) : Expect := ⟨x.f0, x.f1, x.f2⟩
theorem to_ExpectS_loop (l : List LExpect) (hl : l.length ≤ 1048576) (d : Nat) : ∀ (i : Nat) (m : List Expect), i + d = l.length → m.length = l.length → m.take i = (l.take i).map toMExpect → Ev (fun k => laws_toExpectS.l0 k l m i) (l.map toMExpect) := by
  induction d with
  | zero =>
    intro i m hi hm h
    refine Ev.step (fun k => by rw [laws_toExpectS.l0, if_neg (show ¬ (i : Int) < (l.length : Int) by omega)]) (ev_some ?_)
    rw [List.take_of_length_le (by omega), List.take_of_length_le (by omega)] at h
    exact h
  | succ d ih =>
    intro i m hi hm h
    have e1 : wrap64 ((i : Int) + 1) = ((i + 1 : Nat) : Int) := w64 (by omega) (by omega)
    have hlt : i < l.length := by omega
    have hr : rd_T82 l (i : Int) = l[i] := by simp [rd_T82, List.getD_eq_getElem?_getD, List.getElem?_eq_getElem hlt]
    refine Ev.step (fun k => by rw [laws_toExpectS.l0, if_pos (show (i : Int) < (l.length : Int) by omega), if_pos (show (0 : Int) ≤ (i : Int) by omega), laws_toExpect.f, Option.bind_some, if_pos (show (i : Int) < (m.length : Int) by omega), e1, hr, Int.toNat_natCast]) ?_
    refine ih (i + 1) _ (by omega) (by simp [hm]) ?_
    rw [List.take_succ_eq_append_getElem (by simp; omega), List.take_succ_eq_append_getElem hlt, List.map_append, ← h]
    rw [List.take_set, List.set_eq_of_length_le (by simp; omega)]
    simp [toMExpect]
theorem to_ExpectS_ev (l : List LExpect) (hl : l.length ≤ 1048576) : Ev (fun k => laws_toExpectS.f k l) (l.map toMExpect) := by
  unfold laws_toExpectS.f
  simp only [if_pos (show (0 : Int) ≤ (l.length : Int) by omega), Int.toNat_natCast, if_pos (show l.length ≤ 11728124029610 by omega)]
  exact to_ExpectS_loop l hl l.length 0 _ (by omega) (by simp) rfl
theorem sz_ExpectS (l : List LExpect) (hl : l.length ≤ 9223372036854775807) (q : Int) (h0 : 0 ≤ q) (h1 : q ≤ 1048576) : ∃ n, laws_szExpectS.f l q = some n ∧ n ≤ 1048576 ∧ (n < 0 ∨ l.length ≤ 1048576) := by
  unfold laws_szExpectS.f
  have e : wrap64 (q - (l.length : Int)) = q - (l.length : Int) := w64 (by omega) (by omega)
  rw [e]
  by_cases h : q - (l.length : Int) < 0
  · rw [if_pos h]; exact ⟨-1, rfl, by omega, .inl (by omega)⟩
  · rw [if_neg h]; exact ⟨_, rfl, by omega, .inr (by omega)⟩
theorem eq_Expect (a b c : Int) : laws_eqExpect.f a b c a b c = some true := by unfold laws_eqExpect.f; simp
theorem eq_ExpectS_loop (l : List Expect) (hl : l.length ≤ 1048600) (d : Nat) : ∀ i : Nat, i + d = l.length → Ev (fun k => laws_eqExpectS.l0 k l l i) true := by
  induction d with
  | zero =>
    intro i hi
    exact Ev.step (fun k => by rw [laws_eqExpectS.l0, if_neg (show ¬ (i : Int) < (l.length : Int) by omega)]) (Ev.now _)
  | succ d ih =>
    intro i hi
    have e1 : wrap64 ((i : Int) + 1) = ((i + 1 : Nat) : Int) := w64 (by omega) (by omega)
    refine Ev.step (fun k => by rw [laws_eqExpectS.l0, if_pos (show (i : Int) < (l.length : Int) by omega), if_pos (show (0 : Int) ≤ (i : Int) by omega), if_pos (show (i : Int) < (l.length : Int) by omega), eq_Expect, Option.bind_some, if_pos rfl, e1]) ?_
    exact ih (i + 1) (by omega)
theorem eq_ExpectS_ev (l : List Expect) (hl : l.length ≤ 1048600) : Ev (fun k => laws_eqExpectS.f k l l) true := by
  unfold laws_eqExpectS.f
  simp only [if_true]
  exact eq_ExpectS_loop l hl l.length 0 (by omega)
/-- Windows that are valid, their bags other than those met. -/
def exRun : List Expect → List Expect → Bool
  | _, [] => true
  | seen, x :: l => decide (1 ≤ x.f0 ∧ 0 ≤ x.f1 ∧ x.f1 ≤ x.f2 ∧ x.f2 ≤ 100000) && !(seen.any (fun y => y.f0 == x.f0)) && exRun (seen ++ [x]) l
def exB (l : List Expect) : Bool := decide (l.length ≤ 6) && exRun [] l
theorem spec_ex_seen (l : List Expect) (hl : l.length ≤ 6) (i : Nat) (hi : i < l.length) (r : Bool) (hr : (l.take i).any (fun y => y.f0 == (rd_T47 l (i : Int)).f0) = false → Ev (fun k => spec_ExpectOk.l0 k l ((i + 1 : Nat) : Int)) r) (hf : (l.take i).any (fun y => y.f0 == (rd_T47 l (i : Int)).f0) = true → r = false) (d : Nat) : ∀ j : Nat, j + d = i → (l.take j).any (fun y => y.f0 == (rd_T47 l (i : Int)).f0) = false → Ev (fun k => spec_ExpectOk.l1 k l i j) r := by
  induction d with
  | zero =>
    intro j hj h
    have e1 : wrap64 ((i : Int) + 1) = ((i + 1 : Nat) : Int) := w64 (by omega) (by omega)
    obtain rfl : j = i := by omega
    exact Ev.step (fun k => by rw [spec_ExpectOk.l1, if_neg (show ¬ (j : Int) < (j : Int) by omega), e1]) (hr h)
  | succ d ih =>
    intro j hj h
    have e1 : wrap64 ((j : Int) + 1) = ((j + 1 : Nat) : Int) := w64 (by omega) (by omega)
    refine Ev.step (fun k => by rw [spec_ExpectOk.l1, if_pos (show (j : Int) < (i : Int) by omega), if_pos (show (0 : Int) ≤ (j : Int) by omega), if_pos (show (j : Int) < (l.length : Int) by omega), if_pos (show (0 : Int) ≤ (i : Int) by omega), if_pos (show (i : Int) < (l.length : Int) by omega), e1]) ?_
    by_cases c : (rd_T47 l (j : Int)).f0 = (rd_T47 l (i : Int)).f0
    · simp only [if_pos c]
      refine ev_some (hf ?_).symm
      rw [rd_Expect l j (by omega)] at c
      exact List.any_eq_true.2 ⟨l[j], List.mem_take_iff_getElem.2 ⟨j, by omega, rfl⟩, by simp [c]⟩
    · simp only [if_neg c]
      refine ih (j + 1) (by omega) ?_
      rw [take_Expect l j (by omega), List.any_append, h]
      simp [c]
theorem spec_ex_loop (l : List Expect) (hl : l.length ≤ 6) (d : Nat) : ∀ i : Nat, i + d = l.length → Ev (fun k => spec_ExpectOk.l0 k l i) (exRun (l.take i) (l.drop i)) := by
  induction d with
  | zero =>
    intro i hi
    rw [List.drop_eq_nil_of_le (by omega)]
    exact Ev.step (f := fun _ => some true) (fun k => by rw [spec_ExpectOk.l0, if_neg (show ¬ (i : Int) < (l.length : Int) by omega)]) (Ev.now _)
  | succ d ih =>
    intro i hi
    have hlt : i < l.length := by omega
    rw [drop_Expect l i hlt, exRun, ← take_Expect l i hlt]
    refine Ev.step (fun k => by rw [spec_ExpectOk.l0, if_pos (show (i : Int) < (l.length : Int) by omega), if_pos (show (0 : Int) ≤ (i : Int) by omega)]) ?_
    have hno : Ev (fun k => spec_ExpectOk.j1 k l i true) false := Ev.step (fun k => by rw [spec_ExpectOk.j1, if_pos rfl]) (Ev.now _)
    by_cases c : 1 ≤ (rd_T47 l (i : Int)).f0 ∧ 0 ≤ (rd_T47 l (i : Int)).f1 ∧ (rd_T47 l (i : Int)).f1 ≤ (rd_T47 l (i : Int)).f2 ∧ (rd_T47 l (i : Int)).f2 ≤ 100000
    · rw [decide_eq_true c, Bool.true_and]
      simp only [if_neg (show ¬ (rd_T47 l (i : Int)).f0 < 1 by omega), if_neg (show ¬ (rd_T47 l (i : Int)).f1 < 0 by omega), if_neg (show ¬ (rd_T47 l (i : Int)).f2 < (rd_T47 l (i : Int)).f1 by omega), decide_eq_false (show ¬ (rd_T47 l (i : Int)).f2 > 100000 by omega)]
      refine Ev.step (fun k => by rw [spec_ExpectOk.j1, if_neg (by decide)]) ?_
      refine spec_ex_seen l hl i hlt _ (fun h => ?_) (fun h => ?_) i 0 (by omega) (by simp)
      · rw [h]
        simpa using ih (i + 1) (by omega)
      · rw [h]; rfl
    · rw [decide_eq_false c, Bool.false_and, Bool.false_and]
      by_cases c1 : (rd_T47 l (i : Int)).f0 < 1
      · simp only [if_pos c1]; exact hno
      · by_cases c2 : (rd_T47 l (i : Int)).f1 < 0
        · simp only [if_neg c1, if_pos c2]; exact hno
        · by_cases c3 : (rd_T47 l (i : Int)).f2 < (rd_T47 l (i : Int)).f1
          · simp only [if_neg c1, if_neg c2, if_pos c3]; exact hno
          · simp only [if_neg c1, if_neg c2, if_neg c3, decide_eq_true (show (rd_T47 l (i : Int)).f2 > 100000 by omega)]; exact hno
theorem spec_ex_ev (l : List Expect) : Ev (fun k => spec_ExpectOk.f k l) (exB l) := by
  unfold spec_ExpectOk.f exB
  by_cases h : (l.length : Int) > 6
  · rw [decide_eq_false (show ¬ l.length ≤ 6 by omega)]
    simp only [if_pos h]; exact Ev.now _
  · rw [decide_eq_true (show l.length ≤ 6 by omega)]
    simp only [if_neg h]
    simpa using spec_ex_loop l (by omega) l.length 0 (by omega)
theorem ex_go : ∀ (l s : List Expect), impl_ExpectOk.go s l = exRun s l
  | [], s => rfl
  | x :: l, s => by
    unfold impl_ExpectOk.go exRun
    by_cases c : x.f0 < 1 ∨ x.f1 < 0 ∨ x.f2 < x.f1 ∨ x.f2 > 100000 ∨ s.any (fun y => y.f0 == x.f0) = true
    · rw [if_pos c]
      cases e : s.any (fun y => y.f0 == x.f0) with
      | true => simp
      | false =>
        rw [e] at c
        rw [decide_eq_false (show ¬ (1 ≤ x.f0 ∧ 0 ≤ x.f1 ∧ x.f1 ≤ x.f2 ∧ x.f2 ≤ 100000) by simp at c; omega)]
        simp
    · rw [if_neg c]
      have e : s.any (fun y => y.f0 == x.f0) = false := by
        cases e : s.any (fun y => y.f0 == x.f0) with
        | true => exact absurd (.inr (.inr (.inr (.inr e)))) c
        | false => rfl
      rw [e, decide_eq_true (show 1 ≤ x.f0 ∧ 0 ≤ x.f1 ∧ x.f1 ≤ x.f2 ∧ x.f2 ≤ 100000 by omega), ex_go l]
      simp
theorem impl_ex (l : List Expect) : impl_ExpectOk.f l = some (exB l) := by
  unfold impl_ExpectOk.f exB
  rw [ex_go, Bool.and_comm]
  congr 2
  simp; omega
theorem FnExactExpectOk : laws_FnExactExpectOk.Pure := by
  intro l hl _
  refine Ev.rounds ?_
  unfold laws_FnExactExpectOk.f
  obtain ⟨n, hn, _, hc⟩ := sz_ExpectS l hl 1048576 (by omega) (by omega)
  simp only [hn, Option.bind_some]
  by_cases h : n < 0
  · simp only [if_pos h]; exact Ev.now _
  · have hl2 : l.length ≤ 1048576 := by omega
    simp only [if_neg h]
    refine ev_bind _ (to_ExpectS_ev l hl2) ?_
    refine ev_bind _ (spec_ex_ev _) ?_
    refine ev_bind _ (to_ExpectS_ev l hl2) ?_
    simp only [impl_ex, Option.bind_some, bne_self_eq_false, if_neg (show ¬ (false = true) by decide)]
    refine ev_bind _ (to_ExpectS_ev l hl2) ?_
    refine ev_bind _ (eq_ExpectS_ev _ (by simp; omega)) ?_
    simp only [if_true]
    exact Ev.now _

end Go.Proofs.Ytnnimbbffbfhoaa.Pure
