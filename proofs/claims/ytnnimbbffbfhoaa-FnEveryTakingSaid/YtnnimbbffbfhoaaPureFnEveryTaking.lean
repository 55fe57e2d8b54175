/- For all windows, sights and takings the law FnEveryTaking returns true (its printed function does): no valid taking takes more sights than Assign, which takes the most. -/
import Derived.Test.YtnnimbbffbfhoaaPFnEveryTakingx8
import Derived.Test.YtnnimbbffbfhoaaKit
namespace Go.Proofs.Ytnnimbbffbfhoaa.Pure
open Go.RowKit Go.Proofs.Ytnnimbbffbfhoaa.PFnEveryTaking Go.Proofs.YtnnimbbffbfhoaaW.PrintWords Go.Proofs.YtnnimbbffbfhoaaW.PrintLast Go.Proofs.YtnnimbbffbfhoaaW.PrintMore Go.Proofs.Ytnnimbbffbfhoaa.Kit
set_option linter.unusedVariables false
set_option linter.unusedSimpArgs false

abbrev Expect := S47
theorem rd_Expect (l : List Expect) (i : Nat) (h : i < l.length) : rd_T47 l (i : Int) = l[i] := by
  simp [rd_T47, List.getD_eq_getElem?_getD, List.getElem?_eq_getElem h]
theorem drop_Expect (l : List Expect) (i : Nat) (h : i < l.length) : l.drop i = rd_T47 l (i : Int) :: l.drop (i + 1) := by
  rw [List.drop_eq_getElem_cons h, rd_Expect l i h]
theorem take_Expect (l : List Expect) (i : Nat) (h : i < l.length) : l.take (i + 1) = l.take i ++ [rd_T47 l (i : Int)] := by
  rw [rd_Expect l i h, List.take_succ_eq_append_getElem h]
/-- Windows that are valid, their bags other than those met. -/
def exRun : List Expect → List Expect → Bool
  | _, [] => true
  | seen, x :: l => decide (1 ≤ x.f0 ∧ 0 ≤ x.f1 ∧ x.f1 ≤ x.f2 ∧ x.f2 ≤ 100000) && !(seen.any (fun y => y.f0 == x.f0)) && exRun (seen ++ [x]) l
def exB (l : List Expect) : Bool := decide (l.length ≤ 6) && exRun [] l
theorem spec_ex_seen (l : List Expect) (hl : l.length ≤ 6) (i : Nat) (hi : i < l.length) (r : Bool) (hr : (l.take i).any (fun y => y.f0 == (rd_T47 l (i : Int)).f0) = false → Ev (fun k => spec_ExpectOk.l0 k l ((i + 1 : Nat) : Int)) r) (hf : (l.take i).any (fun y => y.f0 == (rd_T47 l (i : Int)).f0) = true → r = false) (d : Nat) : ∀ j : Nat, j + d = i → (l.take j).any (fun y => y.f0 == (rd_T47 l (i : Int)).f0) = false → Ev (fun k => spec_ExpectOk.l1 k l i j) r := by
  induction d with
  | zero =>
    intro j hj h
    have e1 : wrap64 ((i : Int) + 1) = ((i + 1 : Nat) : Int) := w64 (by omega) (by omega)
    obtain rfl : j = i := by omega
    exact Ev.step (fun k => by rw [spec_ExpectOk.l1, if_neg (show ¬ (j : Int) < (j : Int) by omega), e1]) (hr h)
  | succ d ih =>
    intro j hj h
    have e1 : wrap64 ((j : Int) + 1) = ((j + 1 : Nat) : Int) := w64 (by omega) (by omega)
    refine Ev.step (fun k => by rw [spec_ExpectOk.l1, if_pos (show (j : Int) < (i : Int) by omega), if_pos (show (0 : Int) ≤ (j : Int) by omega), if_pos (show (j : Int) < (l.length : Int) by omega), if_pos (show (0 : Int) ≤ (i : Int) by omega), if_pos (show (i : Int) < (l.length : Int) by omega), e1]) ?_
    by_cases c : (rd_T47 l (j : Int)).f0 = (rd_T47 l (i : Int)).f0
    · simp only [if_pos c]
      refine ev_some (hf ?_).symm
      rw [rd_Expect l j (by omega)] at c
      exact List.any_eq_true.2 ⟨l[j], List.mem_take_iff_getElem.2 ⟨j, by omega, rfl⟩, by simp [c]⟩
    · simp only [if_neg c]
      refine ih (j + 1) (by omega) ?_
      rw [take_Expect l j (by omega), List.any_append, h]
      simp [c]
theorem spec_ex_loop (l : List Expect) (hl : l.length ≤ 6) (d : Nat) : ∀ i : Nat, i + d = l.length → Ev (fun k => spec_ExpectOk.l0 k l i) (exRun (l.take i) (l.drop i)) := by
  induction d with
  | zero =>
    intro i hi
    rw [List.drop_eq_nil_of_le (by omega)]
    exact Ev.step (f := fun _ => some true) (fun k => by rw [spec_ExpectOk.l0, if_neg (show ¬ (i : Int) < (l.length : Int) by omega)]) (Ev.now _)
  | succ d ih =>
    intro i hi
    have hlt : i < l.length := by omega
    rw [drop_Expect l i hlt, exRun, ← take_Expect l i hlt]
    refine Ev.step (fun k => by rw [spec_ExpectOk.l0, if_pos (show (i : Int) < (l.length : Int) by omega), if_pos (show (0 : Int) ≤ (i : Int) by omega)]) ?_
    have hno : Ev (fun k => spec_ExpectOk.j1 k l i true) false := Ev.step (fun k => by rw [spec_ExpectOk.j1, if_pos rfl]) (Ev.now _)
    by_cases c : 1 ≤ (rd_T47 l (i : Int)).f0 ∧ 0 ≤ (rd_T47 l (i : Int)).f1 ∧ (rd_T47 l (i : Int)).f1 ≤ (rd_T47 l (i : Int)).f2 ∧ (rd_T47 l (i : Int)).f2 ≤ 100000
    · rw [decide_eq_true c, Bool.true_and]
      simp only [if_neg (show ¬ (rd_T47 l (i : Int)).f0 < 1 by omega), if_neg (show ¬ (rd_T47 l (i : Int)).f1 < 0 by omega), if_neg (show ¬ (rd_T47 l (i : Int)).f2 < (rd_T47 l (i : Int)).f1 by omega), decide_eq_false (show ¬ (rd_T47 l (i : Int)).f2 > 100000 by omega)]
      refine Ev.step (fun k => by rw [spec_ExpectOk.j1, if_neg (by decide)]) ?_
      refine spec_ex_seen l hl i hlt _ (fun h => ?_) (fun h => ?_) i 0 (by omega) (by simp)
      · rw [h]
        simpa using ih (i + 1) (by omega)
      · rw [h]; rfl
    · rw [decide_eq_false c, Bool.false_and, Bool.false_and]
      by_cases c1 : (rd_T47 l (i : Int)).f0 < 1
      · simp only [if_pos c1]; exact hno
      · by_cases c2 : (rd_T47 l (i : Int)).f1 < 0
        · simp only [if_neg c1, if_pos c2]; exact hno
        · by_cases c3 : (rd_T47 l (i : Int)).f2 < (rd_T47 l (i : Int)).f1
          · simp only [if_neg c1, if_neg c2, if_pos c3]; exact hno
          · simp only [if_neg c1, if_neg c2, if_neg c3, decide_eq_true (show (rd_T47 l (i : Int)).f2 > 100000 by omega)]; exact hno
theorem spec_ex_ev (l : List Expect) : Ev (fun k => spec_ExpectOk.f k l) (exB l) := by
  unfold spec_ExpectOk.f exB
  by_cases h : (l.length : Int) > 6
  · rw [decide_eq_false (show ¬ l.length ≤ 6 by omega)]
    simp only [if_pos h]; exact Ev.now _
  · rw [decide_eq_true (show l.length ≤ 6 by omega)]
    simp only [if_neg h]
    simpa using spec_ex_loop l (by omega) l.length 0 (by omega)
abbrev Sight := S49
theorem rd_Sight (l : List Sight) (i : Nat) (h : i < l.length) : rd_T49 l (i : Int) = l[i] := by
  simp [rd_T49, List.getD_eq_getElem?_getD, List.getElem?_eq_getElem h]
theorem drop_Sight (l : List Sight) (i : Nat) (h : i < l.length) : l.drop i = rd_T49 l (i : Int) :: l.drop (i + 1) := by
  rw [List.drop_eq_getElem_cons h, rd_Sight l i h]
theorem take_Sight (l : List Sight) (i : Nat) (h : i < l.length) : l.take (i + 1) = l.take i ++ [rd_T49 l (i : Int)] := by
  rw [rd_Sight l i h, List.take_succ_eq_append_getElem h]
/-- Is the sight not before the last one? -/
def siAft (s : List Sight) (x : Sight) : Bool := match s.getLast? with
  | none => true
  | some p => decide (p.f0 ≤ x.f0)
/-- Sights that are valid behind others. -/
def siRun : List Sight → List Sight → Bool
  | _, [] => true
  | s, x :: l => decide (0 ≤ x.f0 ∧ x.f0 ≤ 100000 ∧ 0 ≤ x.f1) && siAft s x && (decide (x.f1 = 0) || !(s.any (fun y => y.f1 == x.f1))) && siRun (s ++ [x]) l
def siB (l : List Sight) : Bool := decide (l.length ≤ 6) && siRun [] l
theorem siAft_zero (l : List Sight) (x : Sight) : siAft (l.take 0) x = true := rfl
theorem siAft_pos (l : List Sight) (i : Nat) (x : Sight) (h : 0 < i) (hi : i ≤ l.length) : siAft (l.take i) x = decide ((rd_T49 l ((i - 1 : Nat) : Int)).f0 ≤ x.f0) := by
  have e : l.take i = l.take (i - 1) ++ [rd_T49 l ((i - 1 : Nat) : Int)] := by
    rw [← take_Sight l (i - 1) (by omega), show i - 1 + 1 = i by omega]
  rw [e, siAft, List.getLast?_append]
  rfl
theorem spec_in (x a b : Int) : spec_l01In.f x a b = some (decide (a ≤ x ∧ x ≤ b)) := by
  unfold spec_l01In.f
  by_cases h : x ≥ a
  · rw [if_pos h]; congr 1; simp; omega
  · rw [if_neg h]; congr 1; simp; omega
theorem spec_si_seen (l : List Sight) (hl : l.length ≤ 6) (i : Nat) (hi : i < l.length) (r : Bool) (hr : (decide ((rd_T49 l (i : Int)).f1 = 0) || !((l.take i).any (fun y => y.f1 == (rd_T49 l (i : Int)).f1))) = true → Ev (fun k => spec_SightsOk.l0 k l ((i + 1 : Nat) : Int)) r) (hf : (decide ((rd_T49 l (i : Int)).f1 = 0) || !((l.take i).any (fun y => y.f1 == (rd_T49 l (i : Int)).f1))) = false → r = false) (d : Nat) : ∀ j : Nat, j + d = i → (decide ((rd_T49 l (i : Int)).f1 = 0) || !((l.take j).any (fun y => y.f1 == (rd_T49 l (i : Int)).f1))) = true → Ev (fun k => spec_SightsOk.l1 k l i j) r := by
  induction d with
  | zero =>
    intro j hj h
    have e1 : wrap64 ((i : Int) + 1) = ((i + 1 : Nat) : Int) := w64 (by omega) (by omega)
    obtain rfl : j = i := by omega
    exact Ev.step (fun k => by rw [spec_SightsOk.l1, if_neg (show ¬ (j : Int) < (j : Int) by omega), e1]) (hr h)
  | succ d ih =>
    intro j hj h
    have e1 : wrap64 ((j : Int) + 1) = ((j + 1 : Nat) : Int) := w64 (by omega) (by omega)
    refine Ev.step (fun k => by rw [spec_SightsOk.l1, if_pos (show (j : Int) < (i : Int) by omega), if_pos (show (0 : Int) ≤ (i : Int) by omega), if_pos (show (i : Int) < (l.length : Int) by omega), if_pos (show (0 : Int) ≤ (j : Int) by omega), if_pos (show (j : Int) < (l.length : Int) by omega), e1]) ?_
    by_cases c0 : (rd_T49 l (i : Int)).f1 = 0
    · simp only [if_pos c0]
      exact ih (j + 1) (by omega) (by rw [decide_eq_true c0]; rfl)
    · simp only [if_neg c0]
      rw [decide_eq_false c0, Bool.false_or] at h hf
      simp only [decide_eq_false c0, Bool.false_or] at ih
      by_cases c : (rd_T49 l (j : Int)).f1 = (rd_T49 l (i : Int)).f1
      · simp only [if_pos c]
        refine ev_some (hf ?_).symm
        rw [rd_Sight l j (by omega)] at c
        rw [List.any_eq_true.2 ⟨l[j], List.mem_take_iff_getElem.2 ⟨j, by omega, rfl⟩, by simp [c]⟩]
        rfl
      · simp only [if_neg c]
        refine ih (j + 1) (by omega) ?_
        rw [take_Sight l j (by omega), List.any_append]
        simp only [Bool.not_eq_true'] at h
        rw [h]
        simp [c]
theorem spec_si_loop (l : List Sight) (hl : l.length ≤ 6) (d : Nat) : ∀ i : Nat, i + d = l.length → Ev (fun k => spec_SightsOk.l0 k l i) (siRun (l.take i) (l.drop i)) := by
  induction d with
  | zero =>
    intro i hi
    rw [List.drop_eq_nil_of_le (by omega)]
    exact Ev.step (f := fun _ => some true) (fun k => by rw [spec_SightsOk.l0, if_neg (show ¬ (i : Int) < (l.length : Int) by omega)]) (Ev.now _)
  | succ d ih =>
    intro i hi
    have hlt : i < l.length := by omega
    rw [drop_Sight l i hlt, siRun, ← take_Sight l i hlt]
    refine Ev.step (fun k => by rw [spec_SightsOk.l0, if_pos (show (i : Int) < (l.length : Int) by omega), if_pos (show (0 : Int) ≤ (i : Int) by omega), spec_in, Option.bind_some]) ?_
    have hno : Ev (fun k => spec_SightsOk.j1 k l i true) false := Ev.step (fun k => by rw [spec_SightsOk.j1, if_pos rfl]) (Ev.now _)
    have hyes : Ev (fun k => spec_SightsOk.j1 k l i false) ((decide ((rd_T49 l (i : Int)).f1 = 0) || !((l.take i).any (fun y => y.f1 == (rd_T49 l (i : Int)).f1))) && siRun (l.take (i + 1)) (l.drop (i + 1))) := by
      refine Ev.step (fun k => by rw [spec_SightsOk.j1, if_neg (by decide)]) ?_
      refine spec_si_seen l hl i hlt _ (fun h => ?_) (fun h => ?_) i 0 (by omega) (by simp)
      · rw [h]
        simpa using ih (i + 1) (by omega)
      · rw [h]; rfl
    by_cases c : 0 ≤ (rd_T49 l (i : Int)).f0 ∧ (rd_T49 l (i : Int)).f0 ≤ 100000
    · simp only [if_pos (decide_eq_true c)]
      by_cases c2 : (rd_T49 l (i : Int)).f1 < 0
      · rw [decide_eq_false (show ¬ (0 ≤ (rd_T49 l (i : Int)).f0 ∧ (rd_T49 l (i : Int)).f0 ≤ 100000 ∧ 0 ≤ (rd_T49 l (i : Int)).f1) by omega)]
        simp only [if_pos c2, Bool.false_and]; exact hno
      · rw [decide_eq_true (show (0 ≤ (rd_T49 l (i : Int)).f0 ∧ (rd_T49 l (i : Int)).f0 ≤ 100000 ∧ 0 ≤ (rd_T49 l (i : Int)).f1) by omega), Bool.true_and]
        simp only [if_neg c2]
        by_cases c3 : i = 0
        · subst c3
          rw [siAft_zero, Bool.true_and]
          simp only [if_neg (show ¬ ((0 : Nat) : Int) > 0 by omega)]
          exact hyes
        · have e2 : wrap64 ((i : Int) - 1) = ((i - 1 : Nat) : Int) := by rw [w64 (by omega) (by omega)]; omega
          rw [siAft_pos l i _ (by omega) (by omega), e2]
          simp only [if_pos (show (i : Int) > 0 by omega), if_pos (show (0 : Int) ≤ ((i - 1 : Nat) : Int) by omega), if_pos (show ((i - 1 : Nat) : Int) < (l.length : Int) by omega)]
          by_cases c4 : (rd_T49 l (i : Int)).f0 < (rd_T49 l ((i - 1 : Nat) : Int)).f0
          · rw [decide_eq_true c4, decide_eq_false (show ¬ (rd_T49 l ((i - 1 : Nat) : Int)).f0 ≤ (rd_T49 l (i : Int)).f0 by omega), Bool.false_and, Bool.false_and]
            exact hno
          · rw [decide_eq_false c4, decide_eq_true (show (rd_T49 l ((i - 1 : Nat) : Int)).f0 ≤ (rd_T49 l (i : Int)).f0 by omega), Bool.true_and]
            exact hyes
    · rw [decide_eq_false c, decide_eq_false (show ¬ (0 ≤ (rd_T49 l (i : Int)).f0 ∧ (rd_T49 l (i : Int)).f0 ≤ 100000 ∧ 0 ≤ (rd_T49 l (i : Int)).f1) by omega)]
      simp only [Bool.false_eq_true, if_false, Bool.false_and]; exact hno
theorem spec_si_ev (l : List Sight) : Ev (fun k => spec_SightsOk.f k l) (siB l) := by
  unfold spec_SightsOk.f siB
  by_cases h : (l.length : Int) > 6
  · rw [decide_eq_false (show ¬ l.length ≤ 6 by omega)]
    simp only [if_pos h]; exact Ev.now _
  · rw [decide_eq_true (show l.length ≤ 6 by omega)]
    simp only [if_neg h]
    simpa using spec_si_loop l (by omega) l.length 0 (by omega)
theorem rd_int (l : List Int) (i : Nat) (h : i < l.length) : rd l (i : Int) = l[i] := by
  simp [rd, List.getD_eq_getElem?_getD, List.getElem?_eq_getElem h]
theorem drop_int (l : List Int) (i : Nat) (h : i < l.length) : l.drop i = rd l (i : Int) :: l.drop (i + 1) := by
  rw [List.drop_eq_getElem_cons h, rd_int l i h]
/-- Does sight x fit window e, with no sight of its bag? -/
def fitB (ls : List Sight) (x : Sight) (e : Expect) : Bool := decide (x.f1 = 0) && !(ls.any (fun y => y.f1 == e.f0)) && decide (e.f1 ≤ x.f0 ∧ x.f0 ≤ e.f2)
/-- Is window e better than the best one so far? -/
def betB (b e : Expect) : Bool := decide (e.f2 < b.f2) || (decide (e.f2 = b.f2) && decide (e.f0 < b.f0))
/-- The better one of two windows. -/
def pickE (e : Expect) : Option Expect → Option Expect
  | none => some e
  | some w => if betB w e = true then some e else some w
/-- The best one so far, after one more window. -/
def nextE (ls : List Sight) (x : Sight) (out : List Int) (b : Option Expect) (e : Expect) : Option Expect := if (fitB ls x e && !(out.any (fun q => q == e.f0))) = true then pickE e b else b
/-- The best of the windows for a sight, after the best so far. -/
def bestE (ls : List Sight) (x : Sight) (out : List Int) : Option Expect → List Expect → Option Expect
  | b, [] => b
  | b, e :: l => bestE ls x out (nextE ls x out b e) l
def bagOf (x : Sight) (b : Option Expect) : Int := match b with
  | none => x.f1
  | some w => w.f0
/-- The bags of the sights, one after the other. -/
def asGo (es : List Expect) (ls : List Sight) : List Int → List Sight → List Int
  | out, [] => out
  | out, x :: l => asGo es ls (out ++ [bagOf x (bestE ls x out none es)]) l
/-- What Assign returns. -/
def asR (es : List Expect) (ls : List Sight) : List Int := if exB es = true ∧ siB ls = true then asGo es ls [] ls else []
theorem exB_len {l : List Expect} (h : exB l = true) : l.length ≤ 6 := by
  unfold exB at h
  simp only [Bool.and_eq_true, decide_eq_true_eq] at h
  exact h.1
theorem exRun_mem : ∀ (l s : List Expect), exRun s l = true → ∀ x ∈ l, 1 ≤ x.f0 ∧ 0 ≤ x.f1 ∧ x.f1 ≤ x.f2 ∧ x.f2 ≤ 100000
  | [], _, _, x, hx => by simp at hx
  | y :: l, s, h, x, hx => by
    simp only [exRun, Bool.and_eq_true, decide_eq_true_eq] at h
    rcases List.mem_cons.1 hx with rfl | hx
    · exact h.1.1
    · exact exRun_mem l _ h.2 x hx
theorem exB_mem {l : List Expect} (h : exB l = true) : ∀ x ∈ l, 1 ≤ x.f0 ∧ 0 ≤ x.f1 ∧ x.f1 ≤ x.f2 ∧ x.f2 ≤ 100000 := by
  unfold exB at h
  simp only [Bool.and_eq_true, decide_eq_true_eq] at h
  exact exRun_mem l [] h.2
theorem siB_len {l : List Sight} (h : siB l = true) : l.length ≤ 6 := by
  unfold siB at h
  simp only [Bool.and_eq_true, decide_eq_true_eq] at h
  exact h.1
theorem siRun_mem : ∀ (l s : List Sight), siRun s l = true → ∀ x ∈ l, 0 ≤ x.f0 ∧ x.f0 ≤ 100000 ∧ 0 ≤ x.f1
  | [], _, _, x, hx => by simp at hx
  | y :: l, s, h, x, hx => by
    simp only [siRun, Bool.and_eq_true, decide_eq_true_eq] at h
    rcases List.mem_cons.1 hx with rfl | hx
    · exact h.1.1.1
    · exact siRun_mem l _ h.2 x hx
theorem siB_mem {l : List Sight} (h : siB l = true) : ∀ x ∈ l, 0 ≤ x.f0 ∧ x.f0 ≤ 100000 ∧ 0 ≤ x.f1 := by
  unfold siB at h
  simp only [Bool.and_eq_true, decide_eq_true_eq] at h
  exact siRun_mem l [] h.2
theorem bestE_mem (ls : List Sight) (x : Sight) (out : List Int) : ∀ (l : List Expect) (b : Option Expect) (w : Expect), bestE ls x out b l = some w → b = some w ∨ (w ∈ l ∧ x.f1 = 0)
  | [], b, w, h => .inl h
  | e :: l, b, w, h => by
    rw [bestE] at h
    rcases bestE_mem ls x out l _ w h with h1 | h1
    · unfold nextE at h1
      split at h1
      · rename_i c
        have hx : x.f1 = 0 := by
          simp only [fitB, Bool.and_eq_true, decide_eq_true_eq] at c
          exact c.1.1.1
        cases b with
        | none => rw [pickE] at h1; obtain rfl := Option.some.inj h1; exact .inr ⟨by simp, hx⟩
        | some v =>
          rw [pickE] at h1
          split at h1
          · obtain rfl := Option.some.inj h1; exact .inr ⟨by simp, hx⟩
          · exact .inl h1
      · exact .inl h1
    · exact .inr ⟨by simp [h1.1], h1.2⟩
theorem asGo_len (es : List Expect) (ls : List Sight) : ∀ (l : List Sight) (out : List Int), (asGo es ls out l).length = out.length + l.length
  | [], out => rfl
  | x :: l, out => by rw [asGo, asGo_len es ls l]; simp; omega
theorem asR_len (es : List Expect) (ls : List Sight) : (asR es ls).length ≤ 6 := by
  unfold asR
  split
  · rename_i h
    rw [asGo_len]
    have := siB_len h.2
    simpa using this
  · simp
theorem ex_go : ∀ (l s : List Expect), impl_ExpectOk.go s l = exRun s l
  | [], s => rfl
  | x :: l, s => by
    unfold impl_ExpectOk.go exRun
    by_cases c : x.f0 < 1 ∨ x.f1 < 0 ∨ x.f2 < x.f1 ∨ x.f2 > 100000 ∨ s.any (fun y => y.f0 == x.f0) = true
    · rw [if_pos c]
      cases e : s.any (fun y => y.f0 == x.f0) with
      | true => simp
      | false =>
        rw [e] at c
        rw [decide_eq_false (show ¬ (1 ≤ x.f0 ∧ 0 ≤ x.f1 ∧ x.f1 ≤ x.f2 ∧ x.f2 ≤ 100000) by simp at c; omega)]
        simp
    · rw [if_neg c]
      have e : s.any (fun y => y.f0 == x.f0) = false := by
        cases e : s.any (fun y => y.f0 == x.f0) with
        | true => exact absurd (.inr (.inr (.inr (.inr e)))) c
        | false => rfl
      rw [e, decide_eq_true (show 1 ≤ x.f0 ∧ 0 ≤ x.f1 ∧ x.f1 ≤ x.f2 ∧ x.f2 ≤ 100000 by omega), ex_go l]
      simp
theorem impl_ex (l : List Expect) : impl_ExpectOk.f l = some (exB l) := by
  unfold impl_ExpectOk.f exB
  rw [ex_go, Bool.and_comm]
  congr 2
  simp; omega
theorem impl_tick (x : Int) : impl_isTick.f x = some (decide (0 ≤ x ∧ x ≤ 100000)) := by
  unfold impl_isTick.f
  by_cases h : x ≥ 0
  · rw [if_pos h]; congr 1; simp; omega
  · rw [if_neg h]; congr 1; simp; omega
theorem impl_si_loop (l : List Sight) (hl : l.length ≤ 1048600) (d : Nat) : ∀ i : Nat, i + d = l.length → Ev (fun k => impl_SightsOk.l0 k l l (l.length : Int) i) (siRun (l.take i) (l.drop i) && decide (l.length ≤ 6)) := by
  induction d with
  | zero =>
    intro i hi
    rw [List.drop_eq_nil_of_le (by omega), siRun, Bool.true_and]
    exact Ev.step (f := fun _ => some (decide ((l.length : Int) ≤ 6))) (fun k => by rw [impl_SightsOk.l0, if_neg (show ¬ (i : Int) < (l.length : Int) by omega)]) (ev_some (by simp; omega))
  | succ d ih =>
    intro i hi
    have hlt : i < l.length := by omega
    have e1 : wrap64 ((i : Int) + 1) = ((i + 1 : Nat) : Int) := w64 (by omega) (by omega)
    rw [drop_Sight l i hlt, siRun, ← take_Sight l i hlt]
    refine Ev.step (fun k => by rw [impl_SightsOk.l0, if_pos (show (i : Int) < (l.length : Int) by omega), if_pos (show (0 : Int) ≤ (i : Int) by omega), if_pos (show (i : Int) < (l.length : Int) by omega), impl_tick, Option.bind_some]) ?_
    have hno : ∀ b c, Ev (fun k => impl_SightsOk.j1 k l i l (l.length : Int) i true b c) false := fun b c => Ev.step (fun k => by rw [impl_SightsOk.j1, if_pos rfl]) (Ev.now _)
    have hyes : ∀ b, Ev (fun k => impl_SightsOk.j1 k l i l (l.length : Int) i false b (rd_T49 l (i : Int)).f1) (((decide ((rd_T49 l (i : Int)).f1 = 0) || !((l.take i).any (fun y => y.f1 == (rd_T49 l (i : Int)).f1))) && siRun (l.take (i + 1)) (l.drop (i + 1))) && decide (l.length ≤ 6)) := fun b => by
      refine Ev.step (fun k => by rw [impl_SightsOk.j1, if_neg (by decide), e1]) ?_
      by_cases c : (rd_T49 l (i : Int)).f1 = 0
      · rw [decide_eq_true c]
        simp only [if_pos c, Bool.true_or, Bool.true_and]
        exact ih (i + 1) (by omega)
      · rw [decide_eq_false c, Bool.false_or]
        simp only [if_neg c, if_pos (show (0 : Int) ≤ (i : Int) by omega), if_pos (show (i : Int) ≤ (l.length : Int) by omega), impl_isNamed.f, Option.bind_some, Int.toNat_natCast]
        cases h : (l.take i).any (fun y => y.f1 == (rd_T49 l (i : Int)).f1) with
        | true => simp only [if_true, Bool.not_true, Bool.false_and]; exact Ev.now _
        | false =>
          simp only [Bool.false_eq_true, if_false, Bool.not_false, Bool.true_and]
          exact ih (i + 1) (by omega)
    by_cases c : 0 ≤ (rd_T49 l (i : Int)).f0 ∧ (rd_T49 l (i : Int)).f0 ≤ 100000
    · simp only [if_pos (decide_eq_true c)]
      by_cases c3 : i = 0
      · subst c3
        rw [siAft_zero, Bool.and_true]
        simp only [if_neg (show ¬ ((0 : Nat) : Int) > 0 by omega)]
        by_cases c2 : (rd_T49 l ((0 : Nat) : Int)).f1 < 0
        · rw [decide_eq_false (show ¬ (0 ≤ (rd_T49 l ((0 : Nat) : Int)).f0 ∧ (rd_T49 l ((0 : Nat) : Int)).f0 ≤ 100000 ∧ 0 ≤ (rd_T49 l ((0 : Nat) : Int)).f1) by omega), decide_eq_true c2]
          simp only [Bool.false_and]; exact hno _ _
        · rw [decide_eq_true (show (0 ≤ (rd_T49 l ((0 : Nat) : Int)).f0 ∧ (rd_T49 l ((0 : Nat) : Int)).f0 ≤ 100000 ∧ 0 ≤ (rd_T49 l ((0 : Nat) : Int)).f1) by omega), Bool.true_and, decide_eq_false c2]
          exact hyes _
      · have e2 : wrap64 ((i : Int) - 1) = ((i - 1 : Nat) : Int) := by rw [w64 (by omega) (by omega)]; omega
        rw [siAft_pos l i _ (by omega) (by omega), e2]
        simp only [if_pos (show (i : Int) > 0 by omega), if_pos (show (0 : Int) ≤ ((i - 1 : Nat) : Int) by omega), if_pos (show ((i - 1 : Nat) : Int) < (l.length : Int) by omega)]
        by_cases c4 : (rd_T49 l (i : Int)).f0 < (rd_T49 l ((i - 1 : Nat) : Int)).f0
        · rw [decide_eq_false (show ¬ (rd_T49 l ((i - 1 : Nat) : Int)).f0 ≤ (rd_T49 l (i : Int)).f0 by omega)]
          simp only [if_pos c4, Bool.and_false, Bool.false_and]
          exact hno _ _
        · rw [decide_eq_true (show (rd_T49 l ((i - 1 : Nat) : Int)).f0 ≤ (rd_T49 l (i : Int)).f0 by omega), Bool.and_true]
          simp only [if_neg c4]
          by_cases c2 : (rd_T49 l (i : Int)).f1 < 0
          · rw [decide_eq_false (show ¬ (0 ≤ (rd_T49 l (i : Int)).f0 ∧ (rd_T49 l (i : Int)).f0 ≤ 100000 ∧ 0 ≤ (rd_T49 l (i : Int)).f1) by omega), decide_eq_true c2]
            simp only [Bool.false_and]; exact hno _ _
          · rw [decide_eq_true (show (0 ≤ (rd_T49 l (i : Int)).f0 ∧ (rd_T49 l (i : Int)).f0 ≤ 100000 ∧ 0 ≤ (rd_T49 l (i : Int)).f1) by omega), Bool.true_and, decide_eq_false c2]
            exact hyes _
    · rw [decide_eq_false c, decide_eq_false (show ¬ (0 ≤ (rd_T49 l (i : Int)).f0 ∧ (rd_T49 l (i : Int)).f0 ≤ 100000 ∧ 0 ≤ (rd_T49 l (i : Int)).f1) by omega)]
      simp only [Bool.false_eq_true, if_false, Bool.false_and]; exact hno _ _
theorem impl_si_ev (l : List Sight) (hl : l.length ≤ 1048600) : Ev (fun k => impl_SightsOk.f k l) (siB l) := by
  unfold impl_SightsOk.f siB
  rw [Bool.and_comm]
  simpa using impl_si_loop l hl l.length 0 (by omega)
theorem impl_fits (ls : List Sight) (x : Sight) (e : Expect) : impl_fits.f ls x.f0 x.f1 e.f0 e.f1 e.f2 = some (fitB ls x e) := by
  unfold impl_fits.f fitB impl_isNamed.f
  by_cases c : x.f1 = 0
  · rw [if_pos c, Option.bind_some, decide_eq_true c]
    cases h : ls.any (fun y => y.f1 == e.f0) with
    | true => simp
    | false =>
      rw [if_neg (by decide)]
      by_cases c2 : x.f0 ≥ e.f1
      · rw [if_pos c2]; congr 1; simp; omega
      · rw [if_neg c2]; congr 1; simp; omega
  · rw [if_neg c, decide_eq_false c]; rfl
theorem impl_are_ev (es : List Expect) (ls : List Sight) (hl : ls.length ≤ 1048600) : Ev (fun k => impl_areSights.f k es ls) (exB es && siB ls) := by
  unfold impl_areSights.f
  simp only [impl_ex, Option.bind_some]
  cases h : exB es with
  | false => simp only [Bool.false_eq_true, if_false, Bool.false_and]; exact Ev.now _
  | true =>
    simp only [if_true, Bool.true_and]
    exact ev_bind _ (impl_si_ev ls hl) (Ev.now _)
theorem index_loop (l : List Int) (hl : l.length ≤ 100) (q : Int) (d : Nat) : ∀ j : Nat, j + d = l.length → ∃ r, Ev (fun k => slices_Index_int_int.l0 k l q (l.length : Int) j) r ∧ decide (r ≥ 0) = (l.drop j).any (fun y => y == q) := by
  induction d with
  | zero =>
    intro j hj
    rw [List.drop_eq_nil_of_le (by omega)]
    exact ⟨-1, Ev.step (f := fun _ => some (-1)) (fun k => by rw [slices_Index_int_int.l0, if_neg (show ¬ (j : Int) < (l.length : Int) by omega)]) (Ev.now _), rfl⟩
  | succ d ih =>
    intro j hj
    have e1 : wrap64 ((j : Int) + 1) = ((j + 1 : Nat) : Int) := w64 (by omega) (by omega)
    rw [drop_int l j (by omega), List.any_cons]
    by_cases c : rd l (j : Int) = q
    · refine ⟨j, Ev.step (f := fun _ => some (j : Int)) (fun k => by rw [slices_Index_int_int.l0, if_pos (show (j : Int) < (l.length : Int) by omega), if_pos (show (0 : Int) ≤ (j : Int) by omega), if_pos (show (j : Int) < (l.length : Int) by omega), if_pos c.symm]) (Ev.now _), ?_⟩
      simp [c]
    · obtain ⟨r, h1, h2⟩ := ih (j + 1) (by omega)
      refine ⟨r, Ev.step (fun k => by rw [slices_Index_int_int.l0, if_pos (show (j : Int) < (l.length : Int) by omega), if_pos (show (0 : Int) ≤ (j : Int) by omega), if_pos (show (j : Int) < (l.length : Int) by omega), if_neg (fun h => c h.symm), e1]) h1, ?_⟩
      rw [show (rd l (j : Int) == q) = false by simp [c], Bool.false_or]
      exact h2
theorem contains_ev (l : List Int) (hl : l.length ≤ 100) (q : Int) : Ev (fun k => slices_Contains_int_int.f k l q) (l.any (fun y => y == q)) := by
  unfold slices_Contains_int_int.f slices_Index_int_int.f
  obtain ⟨r, h1, h2⟩ := index_loop l hl q l.length 0 (by omega)
  refine ev_bind r h1 ?_
  rw [h2, List.drop_zero]
  exact Ev.now _
/-- The best window so far, as the program keeps it. -/
def isE (w : Expect) (b : Option Expect) : Prop := (w.f0 = 0 ∧ b = none) ∨ (1 ≤ w.f0 ∧ b = some w)
theorem impl_as_in (es : List Expect) (ls : List Sight) (hes : es.length ≤ 6) (hm : ∀ e ∈ es, 1 ≤ e.f0) (out : List Int) (ho : out.length ≤ 6) (x15 : List Sight) (x16 x17 : Int) (x : Sight) (r : List Int) (hr : ∀ w b, isE w b → b = bestE ls x out none es → Ev (fun k => if out.length < 17592186044416 then impl_Assign.l0 k es ls (out ++ [mx x.f1 w.f0]) x15 x16 (wrap64 (x17 + 1)) else none) r) (d : Nat) : ∀ (e : Nat) (w : Expect) (b : Option Expect), e + d = es.length → isE w b → bestE ls x out b (es.drop e) = bestE ls x out none es → Ev (fun k => impl_Assign.l1 k es ls out x15 x16 x17 es (es.length : Int) e x.f0 x.f1 w.f0 w.f1 w.f2) r := by
  induction d with
  | zero =>
    intro e w b he ha hb
    rw [List.drop_eq_nil_of_le (by omega)] at hb
    exact Ev.step (fun k => by rw [impl_Assign.l1, if_neg (show ¬ (e : Int) < (es.length : Int) by omega)]) (hr _ _ ha hb)
  | succ d ih =>
    intro e w b he ha hb
    have hlt : e < es.length := by omega
    have e1 : wrap64 ((e : Int) + 1) = ((e + 1 : Nat) : Int) := w64 (by omega) (by omega)
    have hpos : 1 ≤ (rd_T47 es (e : Int)).f0 := hm _ (by rw [rd_Expect es e hlt]; exact List.getElem_mem _)
    rw [drop_Expect es e hlt, bestE, nextE] at hb
    refine Ev.step (fun k => by rw [impl_Assign.l1, if_pos (show (e : Int) < (es.length : Int) by omega), if_pos (show (0 : Int) ≤ (e : Int) by omega), if_pos (show (e : Int) < (es.length : Int) by omega), impl_fits, Option.bind_some]) ?_
    have hkeep : ∀ q0 q1 q2, Ev (fun k => impl_Assign.l1 k es ls out x15 x16 x17 es (es.length : Int) ((e + 1 : Nat) : Int) x.f0 x.f1 w.f0 w.f1 w.f2) r → Ev (fun k => impl_Assign.j2 k es ls out x15 x16 x17 es (es.length : Int) e true x.f0 x.f1 w.f0 w.f1 w.f2 q0 q1 q2) r := fun q0 q1 q2 h => Ev.step (fun k => by rw [impl_Assign.j2, if_pos rfl, e1]) h
    cases c : fitB ls x (rd_T47 es (e : Int)) with
    | false =>
      simp only [Bool.false_eq_true, if_false]
      rw [c, Bool.false_and, if_neg (by decide)] at hb
      exact hkeep _ _ _ (ih (e + 1) w b (by omega) ha hb)
    | true =>
      simp only [if_true]
      refine ev_bind _ (contains_ev out (by omega) _) ?_
      cases c2 : out.any (fun y => y == (rd_T47 es (e : Int)).f0) with
      | true =>
        rw [c, c2, if_neg (by decide)] at hb
        exact hkeep _ _ _ (ih (e + 1) w b (by omega) ha hb)
      | false =>
        rw [c, c2, if_pos (by decide)] at hb
        refine Ev.step (fun k => by rw [impl_Assign.j2, if_neg (by decide), e1]) ?_
        have hnew : isE (rd_T47 es (e : Int)) (some (rd_T47 es (e : Int))) := .inr ⟨hpos, rfl⟩
        rcases ha with ⟨h0, rfl⟩ | ⟨h0, rfl⟩
        · simp only [if_pos h0]
          exact ih (e + 1) _ _ (by omega) hnew hb
        · simp only [if_neg (show ¬ w.f0 = 0 by omega)]
          have hold : isE w (some w) := .inr ⟨h0, rfl⟩
          rw [pickE] at hb
          unfold betB at hb
          by_cases c3 : (rd_T47 es (e : Int)).f2 < w.f2
          · simp only [if_pos c3]
            rw [decide_eq_true c3, if_pos (by rfl)] at hb
            exact ih (e + 1) _ _ (by omega) hnew hb
          · simp only [if_neg c3]
            rw [decide_eq_false c3] at hb
            by_cases c4 : (rd_T47 es (e : Int)).f2 = w.f2
            · simp only [if_pos c4]
              rw [decide_eq_true c4] at hb
              by_cases c5 : (rd_T47 es (e : Int)).f0 < w.f0
              · simp only [if_pos c5]
                rw [decide_eq_true c5, if_pos (by rfl)] at hb
                exact ih (e + 1) _ _ (by omega) hnew hb
              · simp only [if_neg c5]
                rw [decide_eq_false c5, if_neg (by decide)] at hb
                exact ih (e + 1) _ _ (by omega) hold hb
            · simp only [if_neg c4]
              rw [decide_eq_false c4, if_neg (by simp)] at hb
              exact ih (e + 1) _ _ (by omega) hold hb
theorem impl_as_loop (es : List Expect) (ls : List Sight) (hes : es.length ≤ 6) (hm : ∀ e ∈ es, 1 ≤ e.f0) (hl : ls.length ≤ 6) (hs : ∀ x ∈ ls, 0 ≤ x.f1) (d : Nat) : ∀ (i : Nat) (out : List Int), i + d = ls.length → out.length = i → Ev (fun k => impl_Assign.l0 k es ls out ls (ls.length : Int) i) (asGo es ls out (ls.drop i)) := by
  induction d with
  | zero =>
    intro i out hi ho
    rw [List.drop_eq_nil_of_le (by omega)]
    exact Ev.step (f := fun _ => some out) (fun k => by rw [impl_Assign.l0, if_neg (show ¬ (i : Int) < (ls.length : Int) by omega)]) (Ev.now _)
  | succ d ih =>
    intro i out hi ho
    have hlt : i < ls.length := by omega
    have e1 : wrap64 ((i : Int) + 1) = ((i + 1 : Nat) : Int) := w64 (by omega) (by omega)
    have hx : 0 ≤ (rd_T49 ls (i : Int)).f1 := hs _ (by rw [rd_Sight ls i hlt]; exact List.getElem_mem _)
    rw [drop_Sight ls i hlt, asGo]
    refine Ev.step (fun k => by rw [impl_Assign.l0, if_pos (show (i : Int) < (ls.length : Int) by omega), if_pos (show (0 : Int) ≤ (i : Int) by omega), if_pos (show (i : Int) < (ls.length : Int) by omega)]) ?_
    refine impl_as_in es ls hes hm out (by omega) ls _ _ (rd_T49 ls (i : Int)) _ (fun w b ha hb => ?_) es.length 0 ⟨0, 0, 0⟩ none (by omega) (.inl ⟨rfl, rfl⟩) (by simp)
    rw [← hb, e1]
    simp only [if_pos (show out.length < 17592186044416 by omega)]
    have hbag : mx (rd_T49 ls (i : Int)).f1 w.f0 = bagOf (rd_T49 ls (i : Int)) b := by
      rcases ha with ⟨h0, rfl⟩ | ⟨h0, rfl⟩
      · unfold mx bagOf; rw [h0, if_neg (by omega)]
      · have := bestE_mem ls _ out es none w hb.symm
        rcases this with h | ⟨_, h⟩
        · simp at h
        · unfold mx bagOf; rw [h, if_pos (by omega)]
    rw [hbag]
    exact ih (i + 1) _ (by omega) (by simp [ho])
theorem impl_as_ev (es : List Expect) (ls : List Sight) (hl : ls.length ≤ 1048600) : Ev (fun k => impl_Assign.f k es ls) (asR es ls) := by
  unfold impl_Assign.f asR
  refine ev_bind _ (impl_are_ev es ls hl) ?_
  by_cases h : exB es = true ∧ siB ls = true
  · rw [if_pos h, h.1, h.2]
    simp only [Bool.and_self, if_true]
    simpa using impl_as_loop es ls (exB_len h.1) (fun e he => (exB_mem h.1 e he).1) (siB_len h.2) (fun x hx => (siB_mem h.2 x hx).2.2) ls.length 0 [] (by omega) rfl
  · rw [if_neg h]
    have : (exB es && siB ls) = false := by
      cases e : exB es with
      | false => rfl
      | true =>
        cases e2 : siB ls with
        | false => rfl
        | true => exact absurd ⟨e, e2⟩ h
    rw [this]
    simp only [Bool.false_eq_true, if_false]; exact Ev.now _
/-- May sight x be taken for window e, without the bags in used? -/
def canB (ls : List Sight) (x : Sight) (used : List Int) (e : Expect) : Bool := fitB ls x e && !(used.any (fun q => q == e.f0))
/-- The most of the sights that can be taken for windows, without the bags in used. -/
def mostGo (es : List Expect) (ls : List Sight) : List Sight → List Int → Nat
  | [], _ => 0
  | x :: l, used => es.foldl (fun b e => if canB ls x used e = true then max b (mostGo es ls l (e.f0 :: used) + 1) else b) (mostGo es ls l used)
theorem fold_ge {α : Type} (c : α → Bool) (g : α → Nat) : ∀ (es : List α) (b : Nat), b ≤ es.foldl (fun b e => if c e = true then max b (g e) else b) b
  | [], b => Nat.le_refl _
  | e :: es, b => by
    rw [List.foldl_cons]
    refine Nat.le_trans ?_ (fold_ge c g es _)
    split <;> omega
theorem fold_has {α : Type} (c : α → Bool) (g : α → Nat) : ∀ (es : List α) (b : Nat) (e : α), e ∈ es → c e = true → g e ≤ es.foldl (fun b e => if c e = true then max b (g e) else b) b
  | e' :: es, b, e, h, hc => by
    rw [List.foldl_cons]
    rcases List.mem_cons.1 h with rfl | h
    · refine Nat.le_trans ?_ (fold_ge c g es _)
      rw [if_pos hc]; omega
    · exact fold_has c g es _ e h hc
theorem fold_le {α : Type} (c : α → Bool) (g : α → Nat) (m : Nat) : ∀ (es : List α) (b : Nat), b ≤ m → (∀ e ∈ es, c e = true → g e ≤ m) → es.foldl (fun b e => if c e = true then max b (g e) else b) b ≤ m
  | [], b, hb, _ => hb
  | e :: es, b, hb, h => by
    rw [List.foldl_cons]
    refine fold_le c g m es _ ?_ (fun e' he => h e' (by simp [he]))
    have := h e (by simp)
    split
    · have := this (by assumption); omega
    · exact hb
theorem most_skip (es : List Expect) (ls : List Sight) (x : Sight) (l : List Sight) (u : List Int) : mostGo es ls l u ≤ mostGo es ls (x :: l) u := by
  rw [mostGo]; exact fold_ge _ _ es _
theorem most_take (es : List Expect) (ls : List Sight) (x : Sight) (l : List Sight) (u : List Int) (e : Expect) (he : e ∈ es) (hc : canB ls x u e = true) : mostGo es ls l (e.f0 :: u) + 1 ≤ mostGo es ls (x :: l) u := by
  rw [mostGo]; exact fold_has (canB ls x u) (fun e => mostGo es ls l (e.f0 :: u) + 1) es _ e he hc
theorem most_le (es : List Expect) (ls : List Sight) (x : Sight) (l : List Sight) (u : List Int) (m : Nat) (h0 : mostGo es ls l u ≤ m) (h : ∀ e ∈ es, canB ls x u e = true → mostGo es ls l (e.f0 :: u) + 1 ≤ m) : mostGo es ls (x :: l) u ≤ m := by
  rw [mostGo]; exact fold_le (canB ls x u) (fun e => mostGo es ls l (e.f0 :: u) + 1) m es _ h0 h
theorem fit_iff (ls : List Sight) (x : Sight) (e : Expect) : fitB ls x e = true ↔ x.f1 = 0 ∧ ls.any (fun y => y.f1 == e.f0) = false ∧ e.f1 ≤ x.f0 ∧ x.f0 ≤ e.f2 := by
  unfold fitB
  simp only [Bool.and_eq_true, Bool.not_eq_true', decide_eq_true_eq, and_assoc]
theorem can_iff (ls : List Sight) (x : Sight) (u : List Int) (e : Expect) : canB ls x u e = true ↔ fitB ls x e = true ∧ e.f0 ∉ u := by
  unfold canB
  simp only [Bool.and_eq_true, Bool.not_eq_true', List.any_eq_false, beq_iff_eq]
  refine and_congr Iff.rfl ⟨fun h hm => h _ hm rfl, fun h q hq hx => h (hx ▸ hq)⟩
/-- Only which bags are used matters (of windows whose bags no sight has). -/
theorem most_same' (es : List Expect) (ls : List Sight) : ∀ (l : List Sight) (u v : List Int), (∀ e ∈ es, ls.any (fun y => y.f1 == e.f0) = false → (e.f0 ∈ u ↔ e.f0 ∈ v)) → mostGo es ls l u = mostGo es ls l v := by
  have key : ∀ (l : List Sight) (u v : List Int), (∀ e ∈ es, ls.any (fun y => y.f1 == e.f0) = false → (e.f0 ∈ u ↔ e.f0 ∈ v)) → mostGo es ls l u ≤ mostGo es ls l v := by
    intro l
    induction l with
    | nil => intro u v _; exact Nat.le_refl _
    | cons x l ih =>
      intro u v h
      refine most_le es ls x l u _ (Nat.le_trans (ih u v h) (most_skip es ls x l v)) (fun e he hc => ?_)
      rw [can_iff] at hc
      refine Nat.le_trans (Nat.add_le_add_right (ih (e.f0 :: u) (e.f0 :: v) (fun e' he' hn => ?_)) 1) (most_take es ls x l v e he ((can_iff ls x v e).2 ⟨hc.1, fun hm => hc.2 ((h e he ((fit_iff ls x e).1 hc.1).2.1).2 hm)⟩))
      simp only [List.mem_cons, h e' he' hn]
  exact fun l u v h => Nat.le_antisymm (key l u v h) (key l v u (fun e he hn => (h e he hn).symm))
theorem most_same (es : List Expect) (ls : List Sight) (l : List Sight) (u v : List Int) (h : ∀ e ∈ es, e.f0 ∈ u ↔ e.f0 ∈ v) : mostGo es ls l u = mostGo es ls l v := most_same' es ls l u v (fun e he _ => h e he)
/-- One bag more that is used costs at most one. -/
theorem most_one (es : List Expect) (ls : List Sight) (a : Int) : ∀ (l : List Sight) (u : List Int), mostGo es ls l u ≤ mostGo es ls l (a :: u) + 1
  | [], u => by simp [mostGo]
  | x :: l, u => by
    refine most_le es ls x l u _ (Nat.le_trans (most_one es ls a l u) (Nat.add_le_add_right (most_skip es ls x l _) 1)) (fun e he hc => ?_)
    by_cases h : e.f0 = a
    · rw [h]; exact Nat.add_le_add_right (most_skip es ls x l _) 1
    · rw [can_iff] at hc
      have h1 := most_take es ls x l (a :: u) e he ((can_iff ls x (a :: u) e).2 ⟨hc.1, by simp [h, hc.2]⟩)
      have h2 := most_one es ls a l (e.f0 :: u)
      rw [most_same es ls l (a :: e.f0 :: u) (e.f0 :: a :: u) (fun e' _ => by simp only [List.mem_cons]; exact or_left_comm)] at h2
      omega
/-- Of two windows, keep the one that fits whatever the other one fits later. -/
theorem most_swap (es : List Expect) (ls : List Sight) (hes : ∀ e ∈ es, ∀ e' ∈ es, e.f0 = e'.f0 → e = e') (a b : Expect) (hb : b ∈ es) (ha : a ∈ es) : ∀ (l : List Sight) (u : List Int), (∀ x ∈ l, fitB ls x a = true → fitB ls x b = true) → b.f0 ∉ u → mostGo es ls l (b.f0 :: u) ≤ mostGo es ls l (a.f0 :: u)
  | [], u, _, _ => by simp [mostGo]
  | x :: l, u, h, hu => by
    have hl : ∀ x ∈ l, fitB ls x a = true → fitB ls x b = true := fun x hx => h x (by simp [hx])
    by_cases hab : b.f0 = a.f0
    · rw [hab]; exact Nat.le_refl _
    refine most_le es ls x l _ _ (Nat.le_trans (most_swap es ls hes a b hb ha l u hl hu) (most_skip es ls x l _)) (fun e he hc => ?_)
    rw [can_iff] at hc
    have hne : e.f0 ≠ b.f0 := fun hh => hc.2 (by simp [hh])
    have hnu : e.f0 ∉ u := fun hh => hc.2 (by simp [hh])
    by_cases hea : e.f0 = a.f0
    · have e1 := hes e he a ha hea
      subst e1
      have h1 := most_take es ls x l (e.f0 :: u) b hb ((can_iff ls x _ b).2 ⟨h x (by simp) hc.1, by simp [hab, hu]⟩)
      rw [most_same es ls l (e.f0 :: b.f0 :: u) (b.f0 :: e.f0 :: u) (fun e' _ => by simp only [List.mem_cons]; exact or_left_comm)]
      exact h1
    · have h1 := most_take es ls x l (a.f0 :: u) e he ((can_iff ls x _ e).2 ⟨hc.1, by simp [hea, hnu]⟩)
      have h2 := most_swap es ls hes a b hb ha l (e.f0 :: u) hl (by simp [hu, Ne.symm hne])
      rw [most_same es ls l (b.f0 :: e.f0 :: u) (e.f0 :: b.f0 :: u) (fun e' _ => by simp only [List.mem_cons]; exact or_left_comm), most_same es ls l (a.f0 :: e.f0 :: u) (e.f0 :: a.f0 :: u) (fun e' _ => by simp only [List.mem_cons]; exact or_left_comm)] at h2
      omega
/-- What is best among the windows that a sight can be taken for. -/
theorem best_spec (ls : List Sight) (x : Sight) (out : List Int) : ∀ (l : List Expect) (b : Option Expect), (∀ w, b = some w → canB ls x out w = true) →
    (bestE ls x out b l = none → b = none ∧ ∀ e ∈ l, canB ls x out e = false) ∧
    (∀ w, bestE ls x out b l = some w → canB ls x out w = true ∧ (b = some w ∨ w ∈ l) ∧ (∀ v, b = some v → w.f2 ≤ v.f2) ∧ ∀ e ∈ l, canB ls x out e = true → w.f2 ≤ e.f2)
  | [], b, hb => ⟨fun h => ⟨h, by simp⟩, fun w h => ⟨hb w h, .inl h, fun v hv => by rw [show b = some w from h] at hv; cases hv; exact Int.le_refl _, by simp⟩⟩
  | e :: l, b, hb => by
    have hn : ∀ w, nextE ls x out b e = some w → canB ls x out w = true := by
      intro w hw
      unfold nextE at hw
      by_cases c : canB ls x out e = true
      · rw [if_pos (show (fitB ls x e && !(out.any (fun q => q == e.f0))) = true from c)] at hw
        cases b with
        | none => rw [pickE] at hw; cases hw; exact c
        | some v =>
          rw [pickE] at hw
          split at hw
          · cases hw; exact c
          · cases hw; exact hb _ rfl
      · rw [if_neg (show ¬ (fitB ls x e && !(out.any (fun q => q == e.f0))) = true from c)] at hw
        exact hb w hw
    obtain ⟨i1, i2⟩ := best_spec ls x out l (nextE ls x out b e) hn
    rw [bestE]
    refine ⟨fun h => ?_, fun w h => ?_⟩
    · obtain ⟨h1, h2⟩ := i1 h
      unfold nextE at h1
      by_cases c : canB ls x out e = true
      · rw [if_pos (show (fitB ls x e && !(out.any (fun q => q == e.f0))) = true from c)] at h1
        cases b with
        | none => rw [pickE] at h1; cases h1
        | some v => rw [pickE] at h1; split at h1 <;> cases h1
      · rw [if_neg (show ¬ (fitB ls x e && !(out.any (fun q => q == e.f0))) = true from c)] at h1
        refine ⟨h1, fun e' he' => ?_⟩
        rcases List.mem_cons.1 he' with rfl | he'
        · simpa using c
        · exact h2 e' he'
    · obtain ⟨h1, h2, h3, h4⟩ := i2 w h
      by_cases c : canB ls x out e = true
      · have hN : nextE ls x out b e = pickE e b := by unfold nextE; rw [if_pos (show (fitB ls x e && !(out.any (fun q => q == e.f0))) = true from c)]
        rw [hN] at h2 h3
        cases b with
        | none =>
          rw [pickE] at h2 h3
          refine ⟨h1, .inr ?_, by simp, fun e' he' hc' => ?_⟩
          · rcases h2 with h2 | h2
            · cases h2; simp
            · simp [h2]
          · rcases List.mem_cons.1 he' with rfl | he'
            · exact h3 _ rfl
            · exact h4 e' he' hc'
        | some v =>
          rw [pickE] at h2 h3
          by_cases hb2 : betB v e = true
          · rw [if_pos hb2] at h2 h3
            have hle : e.f2 ≤ v.f2 := by unfold betB at hb2; simp at hb2; omega
            refine ⟨h1, .inr ?_, fun v' hv' => ?_, fun e' he' hc' => ?_⟩
            · rcases h2 with h2 | h2
              · cases h2; simp
              · simp [h2]
            · cases hv'; have := h3 _ rfl; omega
            · rcases List.mem_cons.1 he' with rfl | he'
              · exact h3 _ rfl
              · exact h4 e' he' hc'
          · rw [if_neg hb2] at h2 h3
            have hle : v.f2 ≤ e.f2 := by unfold betB at hb2; simp at hb2; omega
            refine ⟨h1, ?_, fun v' hv' => ?_, fun e' he' hc' => ?_⟩
            · rcases h2 with h2 | h2
              · exact .inl h2
              · exact .inr (by simp [h2])
            · cases hv'; exact h3 _ rfl
            · rcases List.mem_cons.1 he' with rfl | he'
              · have := h3 _ rfl; omega
              · exact h4 e' he' hc'
      · have hN : nextE ls x out b e = b := by unfold nextE; rw [if_neg (show ¬ (fitB ls x e && !(out.any (fun q => q == e.f0))) = true from c)]
        rw [hN] at h2 h3
        refine ⟨h1, ?_, h3, fun e' he' hc' => ?_⟩
        · rcases h2 with h2 | h2
          · exact .inl h2
          · exact .inr (by simp [h2])
        · rcases List.mem_cons.1 he' with rfl | he'
          · exact absurd hc' c
          · exact h4 e' he' hc'
/-- Taking the best window is as good as anything, where later sights are not earlier in time. -/
theorem most_best (es : List Expect) (ls : List Sight) (hes : ∀ e ∈ es, ∀ e' ∈ es, e.f0 = e'.f0 → e = e') (x : Sight) (l : List Sight) (ht : ∀ y ∈ l, x.f0 ≤ y.f0) (u : List Int) :
    mostGo es ls (x :: l) u = match bestE ls x u none es with | none => mostGo es ls l u | some w => mostGo es ls l (w.f0 :: u) + 1 := by
  obtain ⟨i1, i2⟩ := best_spec ls x u es none (by simp)
  cases hb : bestE ls x u none es with
  | none =>
    refine Nat.le_antisymm (most_le es ls x l u _ (Nat.le_refl _) (fun e he hc => ?_)) (most_skip es ls x l u)
    rw [(i1 hb).2 e he] at hc; cases hc
  | some w =>
    obtain ⟨h1, h2, _, h4⟩ := i2 w hb
    have hw : w ∈ es := by rcases h2 with h2 | h2; · cases h2
                           · exact h2
    refine Nat.le_antisymm (most_le es ls x l u _ (most_one es ls w.f0 l u) (fun e he hc => Nat.add_le_add_right ?_ 1)) (most_take es ls x l u w hw h1)
    have h5 := h4 e he hc
    rw [can_iff] at hc h1
    refine most_swap es ls hes w e he hw l u (fun y hy hf => ?_) hc.2
    have hty := ht y hy
    have f1 := (fit_iff ls x e).1 hc.1
    have f2 := (fit_iff ls y w).1 hf
    exact (fit_iff ls y e).2 ⟨f2.1, f1.2.1, by omega, by omega⟩
/-- How many of the sights without a bag are taken for one. -/
def cntGo : List Sight → List Int → Nat
  | x :: l, q :: r => (if x.f1 = 0 ∧ q ≠ 0 then 1 else 0) + cntGo l r
  | _, _ => 0
/-- What Assign adds. -/
def asTail (es : List Expect) (ls : List Sight) : List Int → List Sight → List Int
  | _, [] => []
  | out, x :: l => bagOf x (bestE ls x out none es) :: asTail es ls (out ++ [bagOf x (bestE ls x out none es)]) l
theorem asGo_tail (es : List Expect) (ls : List Sight) : ∀ (l : List Sight) (out : List Int), asGo es ls out l = out ++ asTail es ls out l
  | [], out => by simp [asGo, asTail]
  | x :: l, out => by rw [asGo, asTail, asGo_tail es ls l]; simp
theorem as_most (es : List Expect) (ls : List Sight) (hes : ∀ e ∈ es, ∀ e' ∈ es, e.f0 = e'.f0 → e = e') (hp : ∀ e ∈ es, e.f0 ≠ 0) : ∀ (l : List Sight) (out : List Int), (∀ x ∈ l, x ∈ ls) → l.Pairwise (fun x y => x.f0 ≤ y.f0) → cntGo l (asTail es ls out l) = mostGo es ls l out
  | [], _, _, _ => by simp [cntGo, mostGo]
  | x :: l, out, hm, hs => by
    have hs' := List.pairwise_cons.1 hs
    rw [most_best es ls hes x l hs'.1 out, asTail, cntGo]
    have ih := as_most es ls hes hp l (out ++ [bagOf x (bestE ls x out none es)]) (fun y hy => hm y (by simp [hy])) hs'.2
    rw [ih]
    obtain ⟨_, i2⟩ := best_spec ls x out es none (by simp)
    cases hb : bestE ls x out none es with
    | none =>
      rw [show bagOf x none = x.f1 from rfl]
      rw [if_neg (by intro h; exact h.2 h.1), Nat.zero_add]
      refine most_same' es ls l _ _ (fun e he hn => ?_)
      simp only [List.mem_append, List.mem_singleton, or_iff_left_iff_imp]
      intro h
      rw [List.any_eq_false] at hn
      exact absurd (by simp [h]) (hn x (hm x (by simp)))
    | some w =>
      obtain ⟨h1, h2, _, _⟩ := i2 w hb
      have hw : w ∈ es := by
        rcases h2 with h2 | h2
        · cases h2
        · exact h2
      have hx := ((fit_iff ls x w).1 ((can_iff ls x out w).1 h1).1).1
      rw [show bagOf x (some w) = w.f0 from rfl]
      rw [if_pos ⟨hx, hp w hw⟩, Nat.add_comm]
      congr 1
      exact most_same es ls l _ _ (fun e _ => by simp [or_comm])
/-- No way to take sights takes more. -/
theorem take_most (es : List Expect) (ls : List Sight) : ∀ (l : List Sight) (t : List Int) (u : List Int), (∀ (i : Nat) (x : Sight) (q : Int), l[i]? = some x → t[i]? = some q → q ≠ 0 → ∃ e ∈ es, e.f0 = q ∧ fitB ls x e = true) → (∀ q ∈ t, q ≠ 0 → q ∉ u) → (∀ (i j : Nat) (q : Int), t[i]? = some q → t[j]? = some q → q ≠ 0 → i = j) → cntGo l t ≤ mostGo es ls l u
  | [], t, u, _, _, _ => by simp [cntGo]
  | x :: l, [], u, _, _, _ => by simp [cntGo]
  | x :: l, q :: t, u, h, hu, hd => by
    rw [cntGo]
    have h' : ∀ (i : Nat) (x : Sight) (q : Int), l[i]? = some x → t[i]? = some q → q ≠ 0 → ∃ e ∈ es, e.f0 = q ∧ fitB ls x e = true := fun i y p hy hp => h (i + 1) y p (by simpa using hy) (by simpa using hp)
    have hd' : ∀ (i j : Nat) (q : Int), t[i]? = some q → t[j]? = some q → q ≠ 0 → i = j := fun i j p hi hj hp => by have := hd (i + 1) (j + 1) p (by simpa using hi) (by simpa using hj) hp; omega
    by_cases c : q = 0
    · rw [if_neg (by simp [c]), Nat.zero_add]
      exact Nat.le_trans (take_most es ls l t u h' (fun p hp => hu p (by simp [hp])) hd') (most_skip es ls x l u)
    · obtain ⟨e, he, rfl, hf⟩ := h 0 x q rfl rfl c
      have h1 := most_take es ls x l u e he ((can_iff ls x u e).2 ⟨hf, hu _ (by simp) c⟩)
      have h2 := take_most es ls l t (e.f0 :: u) h' (fun p hp hp0 => by
        simp only [List.mem_cons, not_or]
        refine ⟨fun hh => ?_, hu p (by simp [hp]) hp0⟩
        obtain ⟨j, hj⟩ := List.getElem?_of_mem hp
        have := hd 0 (j + 1) p (by simp [hh]) (by simpa using hj) hp0
        omega) hd'
      have h3 : (if x.f1 = 0 ∧ e.f0 ≠ 0 then 1 else 0) ≤ 1 := by split <;> omega
      omega
theorem most_len (es : List Expect) (ls : List Sight) : ∀ (l : List Sight) (u : List Int), mostGo es ls l u ≤ l.length
  | [], _ => by simp [mostGo]
  | x :: l, u => most_le es ls x l u _ (Nat.le_trans (most_len es ls l u) (by simp)) (fun e _ _ => by have := most_len es ls l (e.f0 :: u); simp; omega)
theorem most_fit (ls : List Sight) (x : Sight) (e : Expect) : impl_MostAssigned.fit ls x e = fitB ls x e := by
  unfold impl_MostAssigned.fit; rw [impl_fits]; rfl
theorem most_cnt : ∀ (l : List Sight) (t : List Int), impl_MostAssigned.cnt l t = (cntGo l t : Int)
  | [], _ => rfl
  | _ :: _, [] => rfl
  | x :: l, q :: t => by
    rw [impl_MostAssigned.cnt, cntGo, most_cnt l t]
    split <;> simp
theorem cnt_end : ∀ (l : List Sight) (t : List Int) (x : Sight) (q : Int), t.length = l.length → cntGo (l ++ [x]) (t ++ [q]) = cntGo l t + (if x.f1 = 0 ∧ q ≠ 0 then 1 else 0)
  | [], [], x, q, _ => by simp [cntGo]
  | y :: l, p :: t, x, q, h => by
    have := cnt_end l t x q (by simpa using h)
    simp only [List.cons_append, cntGo] at this ⊢
    omega
theorem most_wy_fold (es : List Expect) (ls l : List Sight) (t : List Int) (x : Sight) (c : Nat) (m : Int) : ∀ (es' : List Expect) (b : Nat), (∀ e ∈ es', fitB ls x e = true → ∀ m', impl_MostAssigned.wy es ls l (t ++ [e.f0]) m' = mx m' ((c + 1 + mostGo es ls l (e.f0 :: t) : Nat) : Int)) →
    es'.foldl (fun m e => if (impl_MostAssigned.fit ls x e && !(t.any (fun q => q == e.f0))) = true then impl_MostAssigned.wy es ls l (t ++ [e.f0]) m else m) (mx m ((c + b : Nat) : Int)) = mx m ((c + es'.foldl (fun b e => if canB ls x t e = true then max b (mostGo es ls l (e.f0 :: t) + 1) else b) b : Nat) : Int)
  | [], b, _ => rfl
  | e :: es', b, h => by
    rw [List.foldl_cons, List.foldl_cons]
    have h2 : (impl_MostAssigned.fit ls x e && !(t.any (fun q => q == e.f0))) = canB ls x t e := by rw [most_fit]; rfl
    rw [h2]
    cases c2 : canB ls x t e with
    | false =>
      rw [if_neg (by decide), if_neg (by decide)]
      exact most_wy_fold es ls l t x c m es' b (fun e' he' => h e' (by simp [he']))
    | true =>
      rw [if_pos rfl, if_pos rfl, h e (by simp) ((can_iff ls x t e).1 c2).1]
      rw [← most_wy_fold es ls l t x c m es' (max b (mostGo es ls l (e.f0 :: t) + 1)) (fun e' he' => h e' (by simp [he']))]
      congr 1
      unfold mx
      split <;> split <;> split <;> omega
theorem most_wy (es : List Expect) (hp : ∀ e ∈ es, e.f0 ≠ 0) (ls : List Sight) : ∀ (l pre : List Sight) (t : List Int) (m : Int), pre ++ l = ls → t.length = pre.length → impl_MostAssigned.wy es ls l t m = mx m ((cntGo pre t + mostGo es ls l t : Nat) : Int)
  | [], pre, t, m, h, ht => by
    rw [List.append_nil] at h
    rw [impl_MostAssigned.wy, most_cnt, mostGo, h, Nat.add_zero]
  | x :: l, pre, t, m, h, ht => by
    have h' : (pre ++ [x]) ++ l = ls := by simpa using h
    have hx : x ∈ ls := by rw [← h]; simp
    rw [impl_MostAssigned.wy, mostGo, most_wy es hp ls l (pre ++ [x]) (t ++ [x.f1]) m h' (by simp [ht]), cnt_end pre t x x.f1 ht, if_neg (fun hh => hh.2 hh.1), Nat.add_zero]
    rw [most_same' es ls l (t ++ [x.f1]) t (fun e he hn => by
      simp only [List.mem_append, List.mem_singleton, or_iff_left_iff_imp]
      intro hq
      rw [List.any_eq_false] at hn
      exact absurd (by simp [hq]) (hn x hx))]
    refine most_wy_fold es ls l t x _ m es _ (fun e he hf m' => ?_)
    rw [most_wy es hp ls l (pre ++ [x]) (t ++ [e.f0]) m' h' (by simp [ht]), cnt_end pre t x e.f0 ht, if_pos ⟨((fit_iff ls x e).1 hf).1, hp e he⟩, most_same es ls l (t ++ [e.f0]) (e.f0 :: t) (fun e' _ => by simp [or_comm])]
theorem impl_most_ev (es : List Expect) (ls : List Sight) (hl : ls.length ≤ 1048600) : Ev (fun k => impl_MostAssigned.f k es ls) (if exB es = true ∧ siB ls = true then (mostGo es ls ls [] : Int) else -1) := by
  unfold impl_MostAssigned.f
  refine ev_bind _ (impl_are_ev es ls hl) ?_
  by_cases h : exB es = true ∧ siB ls = true
  · rw [if_pos h, h.1, h.2]
    have h1 := exB_len h.1
    have h2 := siB_len h.2
    simp only [Bool.and_self, if_true]
    rw [if_pos (by omega), most_wy es (fun e he => by have := (exB_mem h.1 e he).1; omega) ls ls [] [] 0 rfl rfl]
    refine ev_some ?_
    rw [show cntGo [] [] = 0 from rfl, Nat.zero_add]
    unfold mx
    split <;> omega
  · rw [if_neg h]
    have : (exB es && siB ls) = false := by
      cases e : exB es with
      | false => rfl
      | true =>
        cases e2 : siB ls with
        | false => rfl
        | true => exact absurd ⟨e, e2⟩ h
    rw [this]
    simp only [Bool.false_eq_true, if_false]; exact Ev.now _
theorem exRun_ne : ∀ (l seen : List Expect), exRun seen l = true → (∀ e ∈ l, ∀ y ∈ seen, y.f0 ≠ e.f0) ∧ (∀ e ∈ l, ∀ e' ∈ l, e.f0 = e'.f0 → e = e')
  | [], _, _ => by simp
  | x :: l, seen, h => by
    simp only [exRun, Bool.and_eq_true, Bool.not_eq_true', List.any_eq_false, beq_iff_eq] at h
    obtain ⟨i1, i2⟩ := exRun_ne l (seen ++ [x]) h.2
    have i3 : ∀ e ∈ l, x.f0 ≠ e.f0 := fun e he => i1 e he x (by simp)
    refine ⟨fun e he y hy => ?_, fun e he e' he' hh => ?_⟩
    · rcases List.mem_cons.1 he with rfl | he
      · exact h.1.2 y hy
      · exact i1 e he y (by simp [hy])
    · rw [List.mem_cons] at he he'
      rcases he with h1 | h1
      · rcases he' with h3 | h3
        · rw [h1, h3]
        · rw [h1] at hh; exact absurd hh (i3 e' h3)
      · rcases he' with h3 | h3
        · rw [h3] at hh; exact absurd hh.symm (i3 e h1)
        · exact i2 e h1 e' h3 hh
theorem exB_ne {l : List Expect} (h : exB l = true) : ∀ e ∈ l, ∀ e' ∈ l, e.f0 = e'.f0 → e = e' := by
  unfold exB at h
  simp only [Bool.and_eq_true] at h
  exact (exRun_ne l [] h.2).2
theorem siRun_sorted : ∀ (l s : List Sight), siRun s l = true → (∀ p, s.getLast? = some p → ∀ y ∈ l, p.f0 ≤ y.f0) ∧ l.Pairwise (fun x y => x.f0 ≤ y.f0)
  | [], _, _ => by simp
  | x :: l, s, h => by
    simp only [siRun, Bool.and_eq_true] at h
    obtain ⟨i1, i2⟩ := siRun_sorted l (s ++ [x]) h.2
    have i3 : ∀ y ∈ l, x.f0 ≤ y.f0 := i1 x (by simp)
    refine ⟨fun p hp y hy => ?_, List.pairwise_cons.2 ⟨i3, i2⟩⟩
    have h1 := h.1.1.2
    unfold siAft at h1
    rw [hp] at h1
    have h2 : p.f0 ≤ x.f0 := by simpa using h1
    rcases List.mem_cons.1 hy with rfl | hy
    · exact h2
    · exact Int.le_trans h2 (i3 y hy)
theorem siB_sorted {l : List Sight} (h : siB l = true) : l.Pairwise (fun x y => x.f0 ≤ y.f0) := by
  unfold siB at h
  simp only [Bool.and_eq_true] at h
  exact (siRun_sorted l [] h.2).2
theorem asR_most {es : List Expect} {ls : List Sight} (h : exB es = true) (h2 : siB ls = true) : cntGo ls (asR es ls) = mostGo es ls ls [] := by
  unfold asR
  rw [if_pos ⟨h, h2⟩, asGo_tail, List.nil_append]
  exact as_most es ls (exB_ne h) (fun e he => by have := (exB_mem h e he).1; omega) ls [] (fun x hx => hx) (siB_sorted h2)
theorem asR_length {es : List Expect} {ls : List Sight} (h : exB es = true) (h2 : siB ls = true) : (asR es ls).length = ls.length := by
  unfold asR
  rw [if_pos ⟨h, h2⟩, asGo_len]
  simp
theorem cnt_next : ∀ (l : List Sight) (t : List Int) (i : Nat) (h : i < l.length) (h2 : i < t.length), cntGo (l.take (i + 1)) (t.take (i + 1)) = cntGo (l.take i) (t.take i) + (if l[i].f1 = 0 ∧ t[i] ≠ 0 then 1 else 0)
  | x :: l, q :: t, 0, _, _ => by simp [cntGo]
  | x :: l, q :: t, i + 1, h, h2 => by
    have := cnt_next l t i (by simpa using h) (by simpa using h2)
    simp only [List.take_succ_cons, cntGo, List.getElem_cons_succ] at this ⊢
    omega
theorem cnt_le : ∀ (l : List Sight) (t : List Int), cntGo l t ≤ l.length
  | [], _ => by simp [cntGo]
  | _ :: _, [] => by simp [cntGo]
  | x :: l, q :: t => by
    have := cnt_le l t
    simp only [cntGo, List.length_cons]
    split <;> omega
/-- Is the entry at i of t a valid taking of its sight? -/
def okAt (es : List Expect) (ls : List Sight) (t : List Int) (i : Nat) : Prop := (∃ e ∈ es, e.f0 = rd t (i : Int) ∧ fitB ls (rd_T49 ls (i : Int)) e = true) ∧ ∀ j : Nat, j < t.length → j ≠ i → rd t (j : Int) ≠ rd t (i : Int)
theorem every_end (es : List Expect) (ls : List Sight) (h : exB es = true) (h2 : siB ls = true) (t : List Int) (n : Nat) (hn : n ≤ mostGo es ls ls []) (d : Nat) : ∀ i : Nat, i + d = ls.length → Ev (fun k => laws_FnEveryTaking.l3 k es ls n (asR es ls) (cntGo (ls.take i) ((asR es ls).take i) : Int) i) true := by
  have hl := siB_len h2
  have hlr := asR_length h h2
  induction d with
  | zero =>
    intro i hi
    have hi' : i = ls.length := by omega
    subst hi'
    have hm := asR_most h h2
    rw [List.take_length, ← hlr, List.take_length, hlr]
    refine Ev.step (fun k => by rw [laws_FnEveryTaking.l3, if_neg (show ¬ ((ls.length : Nat) : Int) < ((asR es ls).length : Int) by omega), if_pos (show (n : Int) ≤ (cntGo ls (asR es ls) : Int) by omega)]) ?_
    refine ev_bind _ (impl_most_ev es ls (by omega)) ?_
    rw [if_pos ⟨h, h2⟩]
    exact ev_some (by rw [hm]; simp)
  | succ d ih =>
    intro i hi
    have hlt : i < ls.length := by omega
    have hlt2 : i < (asR es ls).length := by omega
    have e1 : wrap64 ((i : Int) + 1) = ((i + 1 : Nat) : Int) := w64 (by omega) (by omega)
    have hc := cnt_le (ls.take i) ((asR es ls).take i)
    rw [List.length_take] at hc
    have e2 : wrap64 ((cntGo (ls.take i) ((asR es ls).take i) : Int) + 1) = ((cntGo (ls.take i) ((asR es ls).take i) + 1 : Nat) : Int) := w64 (by omega) (by omega)
    have ih := ih (i + 1) (by omega)
    rw [cnt_next ls (asR es ls) i hlt hlt2] at ih
    refine Ev.step (fun k => by rw [laws_FnEveryTaking.l3, if_pos (show (i : Int) < ((asR es ls).length : Int) by omega), if_pos (show (0 : Int) ≤ (i : Int) by omega), if_pos (show (i : Int) < (ls.length : Int) by omega), rd_Sight ls i hlt, rd_int (asR es ls) i hlt2, e1, e2]) ?_
    by_cases c : ls[i].f1 = 0
    · simp only [if_pos c]
      by_cases c2 : (asR es ls)[i] = 0
      · simp only [if_pos c2]
        rw [if_neg (fun hh => hh.2 c2), Nat.add_zero] at ih
        exact ih
      · simp only [if_neg c2]
        rw [if_pos ⟨c, c2⟩] at ih
        exact ih
    · simp only [if_neg c]
      rw [if_neg (fun hh => c hh.1), Nat.add_zero] at ih
      exact ih
theorem every_two (es : List Expect) (ls : List Sight) (hl : ls.length ≤ 6) (t : List Int) (ht : t.length = ls.length) (n : Nat) (i : Nat) (hi : i < ls.length)
    (hnext : okAt es ls t i → (rd_T49 ls (i : Int)).f1 = 0 → Ev (fun k => laws_FnEveryTaking.l0 k es ls t (wrap64 ((n : Int) + 1)) ((i + 1 : Nat) : Int)) true) (d : Nat) : ∀ (j : Nat) (b : Bool), j + d = ls.length → (b = true → (∃ e ∈ es, e.f0 = rd t (i : Int) ∧ e.f1 ≤ (rd_T49 ls (i : Int)).f0 ∧ (rd_T49 ls (i : Int)).f0 ≤ e.f2) ∧ (∀ q : Nat, q < j → (rd_T49 ls (q : Int)).f1 ≠ rd t (i : Int)) ∧ (∀ q : Nat, q < j → q ≠ i → rd t (q : Int) ≠ rd t (i : Int))) → Ev (fun k => laws_FnEveryTaking.l2 k es ls t n i b j) true := by
  induction d with
  | zero =>
    intro j b hj hb
    have e1 : wrap64 ((i : Int) + 1) = ((i + 1 : Nat) : Int) := w64 (by omega) (by omega)
    refine Ev.step (fun k => by rw [laws_FnEveryTaking.l2, if_neg (show ¬ (j : Int) < (ls.length : Int) by omega), e1]) ?_
    cases b with
    | false => exact Ev.now _
    | true =>
      obtain ⟨⟨e, he, h1, h2, h3⟩, h4, h5⟩ := hb rfl
      simp only [if_true, if_pos (show (0 : Int) ≤ (i : Int) by omega), if_pos (show (i : Int) < (ls.length : Int) by omega)]
      by_cases c : (rd_T49 ls (i : Int)).f1 = 0
      · simp only [if_pos c]
        refine hnext ⟨⟨e, he, h1, (fit_iff ls _ e).2 ⟨c, ?_, h2, h3⟩⟩, fun q hq hne => h5 q (by omega) hne⟩ c
        rw [List.any_eq_false]
        intro y hy
        obtain ⟨q, hq, rfl⟩ := List.mem_iff_getElem.1 hy
        have := h4 q (by omega)
        rw [rd_Sight ls q hq] at this
        simpa [h1] using this
      · simp only [if_neg c]; exact Ev.now _
  | succ d ih =>
    intro j b hj hb
    have e1 : wrap64 ((j : Int) + 1) = ((j + 1 : Nat) : Int) := w64 (by omega) (by omega)
    refine Ev.step (fun k => by rw [laws_FnEveryTaking.l2, if_pos (show (j : Int) < (ls.length : Int) by omega), e1]) ?_
    cases b with
    | false => exact ih (j + 1) false (by omega) (by simp)
    | true =>
      obtain ⟨h1, h4, h5⟩ := hb rfl
      simp only [if_true, if_pos (show (0 : Int) ≤ (j : Int) by omega), if_pos (show (0 : Int) ≤ (i : Int) by omega), if_pos (show (i : Int) < (t.length : Int) by omega), if_pos (show (j : Int) < (t.length : Int) by omega)]
      by_cases c : (rd_T49 ls (j : Int)).f1 = rd t (i : Int)
      · simp only [if_pos c]
        exact ih (j + 1) false (by omega) (by simp)
      · simp only [if_neg c]
        have h4' : ∀ q : Nat, q < j + 1 → (rd_T49 ls (q : Int)).f1 ≠ rd t (i : Int) := fun q hq => by
          by_cases hqj : q = j
          · subst hqj; exact c
          · exact h4 q (by omega)
        by_cases c2 : (j : Int) = (i : Int)
        · simp only [if_pos c2]
          exact ih (j + 1) true (by omega) (fun _ => ⟨h1, h4', fun q hq hne => h5 q (by omega) hne⟩)
        · simp only [if_neg c2]
          refine ih (j + 1) _ (by omega) (fun hb2 => ⟨h1, h4', fun q hq hne => ?_⟩)
          by_cases hqj : q = j
          · subst hqj; simpa using hb2
          · exact h5 q (by omega) hne
theorem every_one (es : List Expect) (ls : List Sight) (hes : es.length ≤ 6) (t : List Int) (ht : t.length = ls.length) (n : Nat) (i : Nat) (hi : i < ls.length)
    (hnext : ∀ b : Bool, (b = true → ∃ e ∈ es, e.f0 = rd t (i : Int) ∧ e.f1 ≤ (rd_T49 ls (i : Int)).f0 ∧ (rd_T49 ls (i : Int)).f0 ≤ e.f2) → Ev (fun k => laws_FnEveryTaking.l2 k es ls t n i b 0) true) (d : Nat) : ∀ (j : Nat) (b : Bool), j + d = es.length → (b = true → ∃ e ∈ es, e.f0 = rd t (i : Int) ∧ e.f1 ≤ (rd_T49 ls (i : Int)).f0 ∧ (rd_T49 ls (i : Int)).f0 ≤ e.f2) → Ev (fun k => laws_FnEveryTaking.l1 k es ls t n i b j) true := by
  induction d with
  | zero =>
    intro j b hj hb
    exact Ev.step (fun k => by rw [laws_FnEveryTaking.l1, if_neg (show ¬ (j : Int) < (es.length : Int) by omega)]) (hnext b hb)
  | succ d ih =>
    intro j b hj hb
    have hlt : j < es.length := by omega
    have e1 : wrap64 ((j : Int) + 1) = ((j + 1 : Nat) : Int) := w64 (by omega) (by omega)
    refine Ev.step (fun k => by rw [laws_FnEveryTaking.l1, if_pos (show (j : Int) < (es.length : Int) by omega), e1]) ?_
    cases b with
    | true => exact ih (j + 1) true (by omega) hb
    | false =>
      simp only [Bool.false_eq_true, if_false, if_pos (show (0 : Int) ≤ (j : Int) by omega), if_pos (show (0 : Int) ≤ (i : Int) by omega), if_pos (show (i : Int) < (t.length : Int) by omega), if_pos (show (i : Int) < (ls.length : Int) by omega)]
      have hno : Ev (fun k => laws_FnEveryTaking.l1 k es ls t n i false ((j + 1 : Nat) : Int)) true := ih (j + 1) false (by omega) (by simp)
      by_cases c : (rd_T47 es (j : Int)).f0 = rd t (i : Int)
      · simp only [if_pos c]
        by_cases c2 : (rd_T47 es (j : Int)).f1 ≤ (rd_T49 ls (i : Int)).f0
        · simp only [if_pos c2]
          refine ih (j + 1) _ (by omega) (fun hb2 => ⟨_, ?_, c, c2, of_decide_eq_true hb2⟩)
          rw [rd_Expect es j hlt]; exact List.getElem_mem _
        · simp only [if_neg c2]; exact hno
      · simp only [if_neg c]; exact hno
theorem every_zero (es : List Expect) (ls : List Sight) (h : exB es = true) (h2 : siB ls = true) (t : List Int) (ht : t.length = ls.length) (d : Nat) : ∀ i : Nat, i + d = ls.length → (∀ j : Nat, j < i → rd t (j : Int) ≠ 0 → okAt es ls t j) → Ev (fun k => laws_FnEveryTaking.l0 k es ls t (cntGo (ls.take i) (t.take i) : Int) i) true := by
  have hl := siB_len h2
  have hes := exB_len h
  induction d with
  | zero =>
    intro i hi hok
    have hi' : i = ls.length := by omega
    subst hi'
    rw [List.take_length, ← ht, List.take_length, ht]
    have hn : cntGo ls t ≤ mostGo es ls ls [] := by
      refine take_most es ls ls t [] (fun j x q hx hq hne => ?_) (by simp) (fun j j' q hj hj' hne => ?_)
      · obtain ⟨hlt, rfl⟩ := List.getElem?_eq_some_iff.1 hx
        obtain ⟨hlt2, rfl⟩ := List.getElem?_eq_some_iff.1 hq
        obtain ⟨⟨e, he, h3, h4⟩, _⟩ := hok j hlt (by rw [rd_int t j hlt2]; exact hne)
        rw [rd_int t j hlt2] at h3
        rw [rd_Sight ls j hlt] at h4
        exact ⟨e, he, h3, h4⟩
      · obtain ⟨hlt, e1⟩ := List.getElem?_eq_some_iff.1 hj
        obtain ⟨hlt2, e2⟩ := List.getElem?_eq_some_iff.1 hj'
        by_cases hh : j = j'
        · exact hh
        · have := (hok j (by omega) (by rw [rd_int t j hlt, e1]; exact hne)).2 j' hlt2 (fun hx => hh hx.symm)
          rw [rd_int t j hlt, rd_int t j' hlt2, e1, e2] at this
          exact absurd rfl this
    refine Ev.step (fun k => by rw [laws_FnEveryTaking.l0, if_neg (show ¬ ((ls.length : Nat) : Int) < (t.length : Int) by omega)]) ?_
    refine ev_bind _ (impl_as_ev es ls (by omega)) ?_
    simp only [if_pos (show ((asR es ls).length : Int) = (ls.length : Int) by rw [asR_length h h2])]
    simpa [cntGo] using every_end es ls h h2 t _ hn ls.length 0 (by omega)
  | succ d ih =>
    intro i hi hok
    have hlt : i < ls.length := by omega
    have hlt2 : i < t.length := by omega
    have e1 : wrap64 ((i : Int) + 1) = ((i + 1 : Nat) : Int) := w64 (by omega) (by omega)
    have hc := cnt_le (ls.take i) (t.take i)
    rw [List.length_take] at hc
    have e2 : wrap64 ((cntGo (ls.take i) (t.take i) : Int) + 1) = ((cntGo (ls.take i) (t.take i) + 1 : Nat) : Int) := w64 (by omega) (by omega)
    have ih := ih (i + 1) (by omega)
    rw [cnt_next ls t i hlt hlt2] at ih
    refine Ev.step (fun k => by rw [laws_FnEveryTaking.l0, if_pos (show (i : Int) < (t.length : Int) by omega), if_pos (show (0 : Int) ≤ (i : Int) by omega), e1]) ?_
    by_cases c : rd t (i : Int) = 0
    · simp only [if_pos c]
      rw [rd_int t i hlt2] at c
      rw [if_neg (fun hh => hh.2 c), Nat.add_zero] at ih
      refine ih (fun j hj hne => ?_)
      by_cases hji : j = i
      · subst hji; rw [rd_int t j hlt2] at hne; exact absurd c hne
      · exact hok j (by omega) hne
    · simp only [if_neg c]
      refine every_one es ls hes t ht _ i hlt (fun b hb => ?_) es.length 0 false (by omega) (by simp)
      refine every_two es ls hl t ht _ i hlt (fun hok2 hz => ?_) ls.length 0 b (by omega) (fun hb2 => ⟨hb hb2, by simp, by simp⟩)
      rw [e2]
      rw [rd_Sight ls i hlt] at hz
      rw [rd_int t i hlt2] at c
      rw [if_pos ⟨hz, c⟩] at ih
      refine ih (fun j hj hne => ?_)
      by_cases hji : j = i
      · subst hji; exact hok2
      · exact hok j (by omega) hne
theorem FnEveryTaking : laws_FnEveryTaking.Pure := by
  intro es ls t hl _ hls _ ht _
  refine Ev.rounds ?_
  unfold laws_FnEveryTaking.f
  have hno : Ev (fun k => laws_FnEveryTaking.j0 k es ls t true) true := Ev.step (fun k => by rw [laws_FnEveryTaking.j0, if_pos rfl]) (Ev.now _)
  refine ev_bind _ (spec_ex_ev es) ?_
  cases h : exB es with
  | false => simp only [Bool.false_eq_true, if_false]; exact hno
  | true =>
    simp only [if_true]
    refine ev_bind _ (spec_si_ev ls) ?_
    cases h2 : siB ls with
    | false => simp only [Bool.false_eq_true, if_false]; exact hno
    | true =>
      simp only [if_true]
      by_cases c : t.length = ls.length
      · rw [show ((t.length : Int) != (ls.length : Int)) = false by simp [c]]
        refine Ev.step (fun k => by rw [laws_FnEveryTaking.j0, if_neg (by decide)]) ?_
        simpa [cntGo] using every_zero es ls h h2 t c ls.length 0 (by omega) (by simp)
      · rw [show ((t.length : Int) != (ls.length : Int)) = true by simp; omega]
        exact hno

end Go.Proofs.Ytnnimbbffbfhoaa.Pure
