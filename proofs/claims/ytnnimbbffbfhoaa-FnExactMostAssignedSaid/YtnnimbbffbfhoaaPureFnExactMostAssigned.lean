/- For all windows and sights the law FnExactMostAssigned returns true (its printed function does): program and reference find the same greatest count. -/
import Derived.Test.YtnnimbbffbfhoaaPFnExactMostAssignedx10
import Derived.Test.YtnnimbbffbfhoaaKit
namespace Go.Proofs.Ytnnimbbffbfhoaa.Pure
open Go.RowKit Go.Proofs.Ytnnimbbffbfhoaa.PFnExactMostAssigned Go.Proofs.YtnnimbbffbfhoaaW.PrintWords Go.Proofs.YtnnimbbffbfhoaaW.PrintLast Go.Proofs.YtnnimbbffbfhoaaW.PrintMore Go.Proofs.Ytnnimbbffbfhoaa.Kit
set_option linter.unusedVariables false
set_option linter.unusedSimpArgs false

abbrev Expect := S47
theorem rd_Expect (l : List Expect) (i : Nat) (h : i < l.length) : rd_T47 l (i : Int) = l[i] := by
  simp [rd_T47, List.getD_eq_getElem?_getD, List.getElem?_eq_getElem h]
theorem drop_Expect (l : List Expect) (i : Nat) (h : i < l.length) : l.drop i = rd_T47 l (i : Int) :: l.drop (i + 1) := by
  rw [List.drop_eq_getElem_cons h, rd_Expect l i h]
theorem take_Expect (l : List Expect) (i : Nat) (h : i < l.length) : l.take (i + 1) = l.take i ++ [rd_T47 l (i : Int)] := by
  rw [rd_Expect l i h, List.take_succ_eq_append_getElem h]
/-- Windows that are valid, their bags other than those met. -/
def exRun : List Expect → List Expect → Bool
  | _, [] => true
  | seen, x :: l => decide (1 ≤ x.f0 ∧ 0 ≤ x.f1 ∧ x.f1 ≤ x.f2 ∧ x.f2 ≤ 100000) && !(seen.any (fun y => y.f0 == x.f0)) && exRun (seen ++ [x]) l
def exB (l : List Expect) : Bool := decide (l.length ≤ 6) && exRun [] l
abbrev Sight := S49
theorem rd_Sight (l : List Sight) (i : Nat) (h : i < l.length) : rd_T49 l (i : Int) = l[i] := by
  simp [rd_T49, List.getD_eq_getElem?_getD, List.getElem?_eq_getElem h]
theorem drop_Sight (l : List Sight) (i : Nat) (h : i < l.length) : l.drop i = rd_T49 l (i : Int) :: l.drop (i + 1) := by
  rw [List.drop_eq_getElem_cons h, rd_Sight l i h]
theorem take_Sight (l : List Sight) (i : Nat) (h : i < l.length) : l.take (i + 1) = l.take i ++ [rd_T49 l (i : Int)] := by
  rw [rd_Sight l i h, List.take_succ_eq_append_getElem h]
/-- Is the sight not before the last one? -/
def siAft (s : List Sight) (x : Sight) : Bool := match s.getLast? with
  | none => true
  | some p => decide (p.f0 ≤ x.f0)
/-- Sights that are valid behind others. -/
def siRun : List Sight → List Sight → Bool
  | _, [] => true
  | s, x :: l => decide (0 ≤ x.f0 ∧ x.f0 ≤ 100000 ∧ 0 ≤ x.f1) && siAft s x && (decide (x.f1 = 0) || !(s.any (fun y => y.f1 == x.f1))) && siRun (s ++ [x]) l
def siB (l : List Sight) : Bool := decide (l.length ≤ 6) && siRun [] l
theorem siAft_zero (l : List Sight) (x : Sight) : siAft (l.take 0) x = true := rfl
theorem siAft_pos (l : List Sight) (i : Nat) (x : Sight) (h : 0 < i) (hi : i ≤ l.length) : siAft (l.take i) x = decide ((rd_T49 l ((i - 1 : Nat) : Int)).f0 ≤ x.f0) := by
  have e : l.take i = l.take (i - 1) ++ [rd_T49 l ((i - 1 : Nat) : Int)] := by
    rw [← take_Sight l (i - 1) (by omega), show i - 1 + 1 = i by omega]
  rw [e, siAft, List.getLast?_append]
  rfl
theorem rd_int (l : List Int) (i : Nat) (h : i < l.length) : rd l (i : Int) = l[i] := by
  simp [rd, List.getD_eq_getElem?_getD, List.getElem?_eq_getElem h]
theorem drop_int (l : List Int) (i : Nat) (h : i < l.length) : l.drop i = rd l (i : Int) :: l.drop (i + 1) := by
  rw [List.drop_eq_getElem_cons h, rd_int l i h]
/-- Does sight x fit window e, with no sight of its bag? -/
def fitB (ls : List Sight) (x : Sight) (e : Expect) : Bool := decide (x.f1 = 0) && !(ls.any (fun y => y.f1 == e.f0)) && decide (e.f1 ≤ x.f0 ∧ x.f0 ≤ e.f2)
/-- Is window e better than the best one so far? -/
def betB (b e : Expect) : Bool := decide (e.f2 < b.f2) || (decide (e.f2 = b.f2) && decide (e.f0 < b.f0))
/-- The better one of two windows. -/
def pickE (e : Expect) : Option Expect → Option Expect
  | none => some e
  | some w => if betB w e = true then some e else some w
/-- The best one so far, after one more window. -/
def nextE (ls : List Sight) (x : Sight) (out : List Int) (b : Option Expect) (e : Expect) : Option Expect := if (fitB ls x e && !(out.any (fun q => q == e.f0))) = true then pickE e b else b
/-- The best of the windows for a sight, after the best so far. -/
def bestE (ls : List Sight) (x : Sight) (out : List Int) : Option Expect → List Expect → Option Expect
  | b, [] => b
  | b, e :: l => bestE ls x out (nextE ls x out b e) l
def bagOf (x : Sight) (b : Option Expect) : Int := match b with
  | none => x.f1
  | some w => w.f0
/-- The bags of the sights, one after the other. -/
def asGo (es : List Expect) (ls : List Sight) : List Int → List Sight → List Int
  | out, [] => out
  | out, x :: l => asGo es ls (out ++ [bagOf x (bestE ls x out none es)]) l
/-- What Assign returns. -/
def asR (es : List Expect) (ls : List Sight) : List Int := if exB es = true ∧ siB ls = true then asGo es ls [] ls else []
theorem exB_len {l : List Expect} (h : exB l = true) : l.length ≤ 6 := by
  unfold exB at h
  simp only [Bool.and_eq_true, decide_eq_true_eq] at h
  exact h.1
theorem exRun_mem : ∀ (l s : List Expect), exRun s l = true → ∀ x ∈ l, 1 ≤ x.f0 ∧ 0 ≤ x.f1 ∧ x.f1 ≤ x.f2 ∧ x.f2 ≤ 100000
  | [], _, _, x, hx => by simp at hx
  | y :: l, s, h, x, hx => by
    simp only [exRun, Bool.and_eq_true, decide_eq_true_eq] at h
    rcases List.mem_cons.1 hx with rfl | hx
    · exact h.1.1
    · exact exRun_mem l _ h.2 x hx
theorem exB_mem {l : List Expect} (h : exB l = true) : ∀ x ∈ l, 1 ≤ x.f0 ∧ 0 ≤ x.f1 ∧ x.f1 ≤ x.f2 ∧ x.f2 ≤ 100000 := by
  unfold exB at h
  simp only [Bool.and_eq_true, decide_eq_true_eq] at h
  exact exRun_mem l [] h.2
theorem siB_len {l : List Sight} (h : siB l = true) : l.length ≤ 6 := by
  unfold siB at h
  simp only [Bool.and_eq_true, decide_eq_true_eq] at h
  exact h.1
theorem siRun_mem : ∀ (l s : List Sight), siRun s l = true → ∀ x ∈ l, 0 ≤ x.f0 ∧ x.f0 ≤ 100000 ∧ 0 ≤ x.f1
  | [], _, _, x, hx => by simp at hx
  | y :: l, s, h, x, hx => by
    simp only [siRun, Bool.and_eq_true, decide_eq_true_eq] at h
    rcases List.mem_cons.1 hx with rfl | hx
    · exact h.1.1.1
    · exact siRun_mem l _ h.2 x hx
theorem siB_mem {l : List Sight} (h : siB l = true) : ∀ x ∈ l, 0 ≤ x.f0 ∧ x.f0 ≤ 100000 ∧ 0 ≤ x.f1 := by
  unfold siB at h
  simp only [Bool.and_eq_true, decide_eq_true_eq] at h
  exact siRun_mem l [] h.2
theorem bestE_mem (ls : List Sight) (x : Sight) (out : List Int) : ∀ (l : List Expect) (b : Option Expect) (w : Expect), bestE ls x out b l = some w → b = some w ∨ (w ∈ l ∧ x.f1 = 0)
  | [], b, w, h => .inl h
  | e :: l, b, w, h => by
    rw [bestE] at h
    rcases bestE_mem ls x out l _ w h with h1 | h1
    · unfold nextE at h1
      split at h1
      · rename_i c
        have hx : x.f1 = 0 := by
          simp only [fitB, Bool.and_eq_true, decide_eq_true_eq] at c
          exact c.1.1.1
        cases b with
        | none => rw [pickE] at h1; obtain rfl := Option.some.inj h1; exact .inr ⟨by simp, hx⟩
        | some v =>
          rw [pickE] at h1
          split at h1
          · obtain rfl := Option.some.inj h1; exact .inr ⟨by simp, hx⟩
          · exact .inl h1
      · exact .inl h1
    · exact .inr ⟨by simp [h1.1], h1.2⟩
theorem asGo_len (es : List Expect) (ls : List Sight) : ∀ (l : List Sight) (out : List Int), (asGo es ls out l).length = out.length + l.length
  | [], out => rfl
  | x :: l, out => by rw [asGo, asGo_len es ls l]; simp; omega
theorem asR_len (es : List Expect) (ls : List Sight) : (asR es ls).length ≤ 6 := by
  unfold asR
  split
  · rename_i h
    rw [asGo_len]
    have := siB_len h.2
    simpa using this
  · simp
theorem spec_ex_seen (l : List Expect) (hl : l.length ≤ 6) (i : Nat) (hi : i < l.length) (r : Bool) (hr : (l.take i).any (fun y => y.f0 == (rd_T47 l (i : Int)).f0) = false → Ev (fun k => spec_ExpectOk.l0 k l ((i + 1 : Nat) : Int)) r) (hf : (l.take i).any (fun y => y.f0 == (rd_T47 l (i : Int)).f0) = true → r = false) (d : Nat) : ∀ j : Nat, j + d = i → (l.take j).any (fun y => y.f0 == (rd_T47 l (i : Int)).f0) = false → Ev (fun k => spec_ExpectOk.l1 k l i j) r := by
  induction d with
  | zero =>
    intro j hj h
    have e1 : wrap64 ((i : Int) + 1) = ((i + 1 : Nat) : Int) := w64 (by omega) (by omega)
    obtain rfl : j = i := by omega
    exact Ev.step (fun k => by rw [spec_ExpectOk.l1, if_neg (show ¬ (j : Int) < (j : Int) by omega), e1]) (hr h)
  | succ d ih =>
    intro j hj h
    have e1 : wrap64 ((j : Int) + 1) = ((j + 1 : Nat) : Int) := w64 (by omega) (by omega)
    refine Ev.step (fun k => by rw [spec_ExpectOk.l1, if_pos (show (j : Int) < (i : Int) by omega), if_pos (show (0 : Int) ≤ (j : Int) by omega), if_pos (show (j : Int) < (l.length : Int) by omega), if_pos (show (0 : Int) ≤ (i : Int) by omega), if_pos (show (i : Int) < (l.length : Int) by omega), e1]) ?_
    by_cases c : (rd_T47 l (j : Int)).f0 = (rd_T47 l (i : Int)).f0
    · simp only [if_pos c]
      refine ev_some (hf ?_).symm
      rw [rd_Expect l j (by omega)] at c
      exact List.any_eq_true.2 ⟨l[j], List.mem_take_iff_getElem.2 ⟨j, by omega, rfl⟩, by simp [c]⟩
    · simp only [if_neg c]
      refine ih (j + 1) (by omega) ?_
      rw [take_Expect l j (by omega), List.any_append, h]
      simp [c]
theorem spec_ex_loop (l : List Expect) (hl : l.length ≤ 6) (d : Nat) : ∀ i : Nat, i + d = l.length → Ev (fun k => spec_ExpectOk.l0 k l i) (exRun (l.take i) (l.drop i)) := by
  induction d with
  | zero =>
    intro i hi
    rw [List.drop_eq_nil_of_le (by omega)]
    exact Ev.step (f := fun _ => some true) (fun k => by rw [spec_ExpectOk.l0, if_neg (show ¬ (i : Int) < (l.length : Int) by omega)]) (Ev.now _)
  | succ d ih =>
    intro i hi
    have hlt : i < l.length := by omega
    rw [drop_Expect l i hlt, exRun, ← take_Expect l i hlt]
    refine Ev.step (fun k => by rw [spec_ExpectOk.l0, if_pos (show (i : Int) < (l.length : Int) by omega), if_pos (show (0 : Int) ≤ (i : Int) by omega)]) ?_
    have hno : Ev (fun k => spec_ExpectOk.j1 k l i true) false := Ev.step (fun k => by rw [spec_ExpectOk.j1, if_pos rfl]) (Ev.now _)
    by_cases c : 1 ≤ (rd_T47 l (i : Int)).f0 ∧ 0 ≤ (rd_T47 l (i : Int)).f1 ∧ (rd_T47 l (i : Int)).f1 ≤ (rd_T47 l (i : Int)).f2 ∧ (rd_T47 l (i : Int)).f2 ≤ 100000
    · rw [decide_eq_true c, Bool.true_and]
      simp only [if_neg (show ¬ (rd_T47 l (i : Int)).f0 < 1 by omega), if_neg (show ¬ (rd_T47 l (i : Int)).f1 < 0 by omega), if_neg (show ¬ (rd_T47 l (i : Int)).f2 < (rd_T47 l (i : Int)).f1 by omega), decide_eq_false (show ¬ (rd_T47 l (i : Int)).f2 > 100000 by omega)]
      refine Ev.step (fun k => by rw [spec_ExpectOk.j1, if_neg (by decide)]) ?_
      refine spec_ex_seen l hl i hlt _ (fun h => ?_) (fun h => ?_) i 0 (by omega) (by simp)
      · rw [h]
        simpa using ih (i + 1) (by omega)
      · rw [h]; rfl
    · rw [decide_eq_false c, Bool.false_and, Bool.false_and]
      by_cases c1 : (rd_T47 l (i : Int)).f0 < 1
      · simp only [if_pos c1]; exact hno
      · by_cases c2 : (rd_T47 l (i : Int)).f1 < 0
        · simp only [if_neg c1, if_pos c2]; exact hno
        · by_cases c3 : (rd_T47 l (i : Int)).f2 < (rd_T47 l (i : Int)).f1
          · simp only [if_neg c1, if_neg c2, if_pos c3]; exact hno
          · simp only [if_neg c1, if_neg c2, if_neg c3, decide_eq_true (show (rd_T47 l (i : Int)).f2 > 100000 by omega)]; exact hno
theorem spec_ex_ev (l : List Expect) : Ev (fun k => spec_ExpectOk.f k l) (exB l) := by
  unfold spec_ExpectOk.f exB
  by_cases h : (l.length : Int) > 6
  · rw [decide_eq_false (show ¬ l.length ≤ 6 by omega)]
    simp only [if_pos h]; exact Ev.now _
  · rw [decide_eq_true (show l.length ≤ 6 by omega)]
    simp only [if_neg h]
    simpa using spec_ex_loop l (by omega) l.length 0 (by omega)
theorem spec_in (x a b : Int) : spec_l01In.f x a b = some (decide (a ≤ x ∧ x ≤ b)) := by
  unfold spec_l01In.f
  by_cases h : x ≥ a
  · rw [if_pos h]; congr 1; simp; omega
  · rw [if_neg h]; congr 1; simp; omega
theorem spec_si_seen (l : List Sight) (hl : l.length ≤ 6) (i : Nat) (hi : i < l.length) (r : Bool) (hr : (decide ((rd_T49 l (i : Int)).f1 = 0) || !((l.take i).any (fun y => y.f1 == (rd_T49 l (i : Int)).f1))) = true → Ev (fun k => spec_SightsOk.l0 k l ((i + 1 : Nat) : Int)) r) (hf : (decide ((rd_T49 l (i : Int)).f1 = 0) || !((l.take i).any (fun y => y.f1 == (rd_T49 l (i : Int)).f1))) = false → r = false) (d : Nat) : ∀ j : Nat, j + d = i → (decide ((rd_T49 l (i : Int)).f1 = 0) || !((l.take j).any (fun y => y.f1 == (rd_T49 l (i : Int)).f1))) = true → Ev (fun k => spec_SightsOk.l1 k l i j) r := by
  induction d with
  | zero =>
    intro j hj h
    have e1 : wrap64 ((i : Int) + 1) = ((i + 1 : Nat) : Int) := w64 (by omega) (by omega)
    obtain rfl : j = i := by omega
    exact Ev.step (fun k => by rw [spec_SightsOk.l1, if_neg (show ¬ (j : Int) < (j : Int) by omega), e1]) (hr h)
  | succ d ih =>
    intro j hj h
    have e1 : wrap64 ((j : Int) + 1) = ((j + 1 : Nat) : Int) := w64 (by omega) (by omega)
    refine Ev.step (fun k => by rw [spec_SightsOk.l1, if_pos (show (j : Int) < (i : Int) by omega), if_pos (show (0 : Int) ≤ (i : Int) by omega), if_pos (show (i : Int) < (l.length : Int) by omega), if_pos (show (0 : Int) ≤ (j : Int) by omega), if_pos (show (j : Int) < (l.length : Int) by omega), e1]) ?_
    by_cases c0 : (rd_T49 l (i : Int)).f1 = 0
    · simp only [if_pos c0]
      exact ih (j + 1) (by omega) (by rw [decide_eq_true c0]; rfl)
    · simp only [if_neg c0]
      rw [decide_eq_false c0, Bool.false_or] at h hf
      simp only [decide_eq_false c0, Bool.false_or] at ih
      by_cases c : (rd_T49 l (j : Int)).f1 = (rd_T49 l (i : Int)).f1
      · simp only [if_pos c]
        refine ev_some (hf ?_).symm
        rw [rd_Sight l j (by omega)] at c
        rw [List.any_eq_true.2 ⟨l[j], List.mem_take_iff_getElem.2 ⟨j, by omega, rfl⟩, by simp [c]⟩]
        rfl
      · simp only [if_neg c]
        refine ih (j + 1) (by omega) ?_
        rw [take_Sight l j (by omega), List.any_append]
        simp only [Bool.not_eq_true'] at h
        rw [h]
        simp [c]
theorem spec_si_loop (l : List Sight) (hl : l.length ≤ 6) (d : Nat) : ∀ i : Nat, i + d = l.length → Ev (fun k => spec_SightsOk.l0 k l i) (siRun (l.take i) (l.drop i)) := by
  induction d with
  | zero =>
    intro i hi
    rw [List.drop_eq_nil_of_le (by omega)]
    exact Ev.step (f := fun _ => some true) (fun k => by rw [spec_SightsOk.l0, if_neg (show ¬ (i : Int) < (l.length : Int) by omega)]) (Ev.now _)
  | succ d ih =>
    intro i hi
    have hlt : i < l.length := by omega
    rw [drop_Sight l i hlt, siRun, ← take_Sight l i hlt]
    refine Ev.step (fun k => by rw [spec_SightsOk.l0, if_pos (show (i : Int) < (l.length : Int) by omega), if_pos (show (0 : Int) ≤ (i : Int) by omega), spec_in, Option.bind_some]) ?_
    have hno : Ev (fun k => spec_SightsOk.j1 k l i true) false := Ev.step (fun k => by rw [spec_SightsOk.j1, if_pos rfl]) (Ev.now _)
    have hyes : Ev (fun k => spec_SightsOk.j1 k l i false) ((decide ((rd_T49 l (i : Int)).f1 = 0) || !((l.take i).any (fun y => y.f1 == (rd_T49 l (i : Int)).f1))) && siRun (l.take (i + 1)) (l.drop (i + 1))) := by
      refine Ev.step (fun k => by rw [spec_SightsOk.j1, if_neg (by decide)]) ?_
      refine spec_si_seen l hl i hlt _ (fun h => ?_) (fun h => ?_) i 0 (by omega) (by simp)
      · rw [h]
        simpa using ih (i + 1) (by omega)
      · rw [h]; rfl
    by_cases c : 0 ≤ (rd_T49 l (i : Int)).f0 ∧ (rd_T49 l (i : Int)).f0 ≤ 100000
    · simp only [if_pos (decide_eq_true c)]
      by_cases c2 : (rd_T49 l (i : Int)).f1 < 0
      · rw [decide_eq_false (show ¬ (0 ≤ (rd_T49 l (i : Int)).f0 ∧ (rd_T49 l (i : Int)).f0 ≤ 100000 ∧ 0 ≤ (rd_T49 l (i : Int)).f1) by omega)]
        simp only [if_pos c2, Bool.false_and]; exact hno
      · rw [decide_eq_true (show (0 ≤ (rd_T49 l (i : Int)).f0 ∧ (rd_T49 l (i : Int)).f0 ≤ 100000 ∧ 0 ≤ (rd_T49 l (i : Int)).f1) by omega), Bool.true_and]
        simp only [if_neg c2]
        by_cases c3 : i = 0
        · subst c3
          rw [siAft_zero, Bool.true_and]
          simp only [if_neg (show ¬ ((0 : Nat) : Int) > 0 by omega)]
          exact hyes
        · have e2 : wrap64 ((i : Int) - 1) = ((i - 1 : Nat) : Int) := by rw [w64 (by omega) (by omega)]; omega
          rw [siAft_pos l i _ (by omega) (by omega), e2]
          simp only [if_pos (show (i : Int) > 0 by omega), if_pos (show (0 : Int) ≤ ((i - 1 : Nat) : Int) by omega), if_pos (show ((i - 1 : Nat) : Int) < (l.length : Int) by omega)]
          by_cases c4 : (rd_T49 l (i : Int)).f0 < (rd_T49 l ((i - 1 : Nat) : Int)).f0
          · rw [decide_eq_true c4, decide_eq_false (show ¬ (rd_T49 l ((i - 1 : Nat) : Int)).f0 ≤ (rd_T49 l (i : Int)).f0 by omega), Bool.false_and, Bool.false_and]
            exact hno
          · rw [decide_eq_false c4, decide_eq_true (show (rd_T49 l ((i - 1 : Nat) : Int)).f0 ≤ (rd_T49 l (i : Int)).f0 by omega), Bool.true_and]
            exact hyes
    · rw [decide_eq_false c, decide_eq_false (show ¬ (0 ≤ (rd_T49 l (i : Int)).f0 ∧ (rd_T49 l (i : Int)).f0 ≤ 100000 ∧ 0 ≤ (rd_T49 l (i : Int)).f1) by omega)]
      simp only [Bool.false_eq_true, if_false, Bool.false_and]; exact hno
theorem spec_si_ev (l : List Sight) : Ev (fun k => spec_SightsOk.f k l) (siB l) := by
  unfold spec_SightsOk.f siB
  by_cases h : (l.length : Int) > 6
  · rw [decide_eq_false (show ¬ l.length ≤ 6 by omega)]
    simp only [if_pos h]; exact Ev.now _
  · rw [decide_eq_true (show l.length ≤ 6 by omega)]
    simp only [if_neg h]
    simpa using spec_si_loop l (by omega) l.length 0 (by omega)
theorem spec_fits_loop (es : List Expect) (ls : List Sight) (hl : ls.length ≤ 6) (i e : Nat) (hi : i < ls.length) (he : e < es.length) (d : Nat) : ∀ j : Nat, j + d = ls.length → (ls.take j).any (fun y => y.f1 == (rd_T47 es (e : Int)).f0) = false → Ev (fun k => spec_l03Fits.l0 k es ls i e j) (fitB ls (rd_T49 ls (i : Int)) (rd_T47 es (e : Int))) := by
  induction d with
  | zero =>
    intro j hj h
    rw [List.take_of_length_le (by omega)] at h
    refine Ev.step (fun k => by rw [spec_l03Fits.l0, if_neg (show ¬ (j : Int) < (ls.length : Int) by omega), if_pos (show (0 : Int) ≤ (i : Int) by omega), if_pos (show (i : Int) < (ls.length : Int) by omega), if_pos (show (0 : Int) ≤ (e : Int) by omega), if_pos (show (e : Int) < (es.length : Int) by omega), spec_in, Option.bind_some]) ?_
    unfold fitB
    rw [h]
    by_cases c : (rd_T49 ls (i : Int)).f1 = 0
    · simp only [if_pos c]; exact ev_some (by simp [c])
    · simp only [if_neg c]; exact ev_some (by simp [c])
  | succ d ih =>
    intro j hj h
    have e1 : wrap64 ((j : Int) + 1) = ((j + 1 : Nat) : Int) := w64 (by omega) (by omega)
    refine Ev.step (fun k => by rw [spec_l03Fits.l0, if_pos (show (j : Int) < (ls.length : Int) by omega), if_pos (show (0 : Int) ≤ (j : Int) by omega), if_pos (show (0 : Int) ≤ (e : Int) by omega), if_pos (show (e : Int) < (es.length : Int) by omega), e1]) ?_
    by_cases c : (rd_T49 ls (j : Int)).f1 = (rd_T47 es (e : Int)).f0
    · simp only [if_pos c]
      refine ev_some ?_
      unfold fitB
      rw [rd_Sight ls j (by omega)] at c
      rw [List.any_eq_true.2 ⟨ls[j], List.getElem_mem _, by simp [c]⟩]
      simp
    · simp only [if_neg c]
      refine ih (j + 1) (by omega) ?_
      rw [take_Sight ls j (by omega), List.any_append, h]
      simp [c]
theorem spec_fits_ev (es : List Expect) (ls : List Sight) (hl : ls.length ≤ 6) (i e : Nat) (hi : i < ls.length) (he : e < es.length) : Ev (fun k => spec_l03Fits.f k es ls i e) (fitB ls (rd_T49 ls (i : Int)) (rd_T47 es (e : Int))) := by
  unfold spec_l03Fits.f
  exact spec_fits_loop es ls hl i e hi he ls.length 0 (by omega) (by simp)
theorem spec_has_loop (l : List Int) (hl : l.length ≤ 100) (q : Int) (d : Nat) : ∀ j : Nat, j + d = l.length → Ev (fun k => spec_l03Has.l0 k l q j) ((l.drop j).any (fun y => y == q)) := by
  induction d with
  | zero =>
    intro j hj
    rw [List.drop_eq_nil_of_le (by omega)]
    exact Ev.step (f := fun _ => some false) (fun k => by rw [spec_l03Has.l0, if_neg (show ¬ (j : Int) < (l.length : Int) by omega)]) (Ev.now _)
  | succ d ih =>
    intro j hj
    have e1 : wrap64 ((j : Int) + 1) = ((j + 1 : Nat) : Int) := w64 (by omega) (by omega)
    rw [drop_int l j (by omega), List.any_cons]
    refine Ev.step (fun k => by rw [spec_l03Has.l0, if_pos (show (j : Int) < (l.length : Int) by omega), if_pos (show (0 : Int) ≤ (j : Int) by omega), e1]) ?_
    by_cases c : rd l (j : Int) = q
    · simp only [if_pos c]; exact ev_some (by simp [c])
    · simp only [if_neg c]
      rw [show (rd l (j : Int) == q) = false by simp [c], Bool.false_or]
      exact ih (j + 1) (by omega)
theorem spec_has_ev (l : List Int) (hl : l.length ≤ 100) (q : Int) : Ev (fun k => spec_l03Has.f k l q) (l.any (fun y => y == q)) := by
  unfold spec_l03Has.f
  simpa using spec_has_loop l hl q l.length 0 (by omega)
/-- May sight x be taken for window e, without the bags in used? -/
def canB (ls : List Sight) (x : Sight) (used : List Int) (e : Expect) : Bool := fitB ls x e && !(used.any (fun q => q == e.f0))
/-- The most of the sights that can be taken for windows, without the bags in used. -/
def mostGo (es : List Expect) (ls : List Sight) : List Sight → List Int → Nat
  | [], _ => 0
  | x :: l, used => es.foldl (fun b e => if canB ls x used e = true then max b (mostGo es ls l (e.f0 :: used) + 1) else b) (mostGo es ls l used)
theorem fold_ge {α : Type} (c : α → Bool) (g : α → Nat) : ∀ (es : List α) (b : Nat), b ≤ es.foldl (fun b e => if c e = true then max b (g e) else b) b
  | [], b => Nat.le_refl _
  | e :: es, b => by
    rw [List.foldl_cons]
    refine Nat.le_trans ?_ (fold_ge c g es _)
    split <;> omega
theorem fold_has {α : Type} (c : α → Bool) (g : α → Nat) : ∀ (es : List α) (b : Nat) (e : α), e ∈ es → c e = true → g e ≤ es.foldl (fun b e => if c e = true then max b (g e) else b) b
  | e' :: es, b, e, h, hc => by
    rw [List.foldl_cons]
    rcases List.mem_cons.1 h with rfl | h
    · refine Nat.le_trans ?_ (fold_ge c g es _)
      rw [if_pos hc]; omega
    · exact fold_has c g es _ e h hc
theorem fold_le {α : Type} (c : α → Bool) (g : α → Nat) (m : Nat) : ∀ (es : List α) (b : Nat), b ≤ m → (∀ e ∈ es, c e = true → g e ≤ m) → es.foldl (fun b e => if c e = true then max b (g e) else b) b ≤ m
  | [], b, hb, _ => hb
  | e :: es, b, hb, h => by
    rw [List.foldl_cons]
    refine fold_le c g m es _ ?_ (fun e' he => h e' (by simp [he]))
    have := h e (by simp)
    split
    · have := this (by assumption); omega
    · exact hb
theorem most_skip (es : List Expect) (ls : List Sight) (x : Sight) (l : List Sight) (u : List Int) : mostGo es ls l u ≤ mostGo es ls (x :: l) u := by
  rw [mostGo]; exact fold_ge _ _ es _
theorem most_take (es : List Expect) (ls : List Sight) (x : Sight) (l : List Sight) (u : List Int) (e : Expect) (he : e ∈ es) (hc : canB ls x u e = true) : mostGo es ls l (e.f0 :: u) + 1 ≤ mostGo es ls (x :: l) u := by
  rw [mostGo]; exact fold_has (canB ls x u) (fun e => mostGo es ls l (e.f0 :: u) + 1) es _ e he hc
theorem most_le (es : List Expect) (ls : List Sight) (x : Sight) (l : List Sight) (u : List Int) (m : Nat) (h0 : mostGo es ls l u ≤ m) (h : ∀ e ∈ es, canB ls x u e = true → mostGo es ls l (e.f0 :: u) + 1 ≤ m) : mostGo es ls (x :: l) u ≤ m := by
  rw [mostGo]; exact fold_le (canB ls x u) (fun e => mostGo es ls l (e.f0 :: u) + 1) m es _ h0 h
theorem fit_iff (ls : List Sight) (x : Sight) (e : Expect) : fitB ls x e = true ↔ x.f1 = 0 ∧ ls.any (fun y => y.f1 == e.f0) = false ∧ e.f1 ≤ x.f0 ∧ x.f0 ≤ e.f2 := by
  unfold fitB
  simp only [Bool.and_eq_true, Bool.not_eq_true', decide_eq_true_eq, and_assoc]
theorem can_iff (ls : List Sight) (x : Sight) (u : List Int) (e : Expect) : canB ls x u e = true ↔ fitB ls x e = true ∧ e.f0 ∉ u := by
  unfold canB
  simp only [Bool.and_eq_true, Bool.not_eq_true', List.any_eq_false, beq_iff_eq]
  refine and_congr Iff.rfl ⟨fun h hm => h _ hm rfl, fun h q hq hx => h (hx ▸ hq)⟩
/-- Only which bags are used matters (of windows whose bags no sight has). -/
theorem most_same' (es : List Expect) (ls : List Sight) : ∀ (l : List Sight) (u v : List Int), (∀ e ∈ es, ls.any (fun y => y.f1 == e.f0) = false → (e.f0 ∈ u ↔ e.f0 ∈ v)) → mostGo es ls l u = mostGo es ls l v := by
  have key : ∀ (l : List Sight) (u v : List Int), (∀ e ∈ es, ls.any (fun y => y.f1 == e.f0) = false → (e.f0 ∈ u ↔ e.f0 ∈ v)) → mostGo es ls l u ≤ mostGo es ls l v := by
    intro l
    induction l with
    | nil => intro u v _; exact Nat.le_refl _
    | cons x l ih =>
      intro u v h
      refine most_le es ls x l u _ (Nat.le_trans (ih u v h) (most_skip es ls x l v)) (fun e he hc => ?_)
      rw [can_iff] at hc
      refine Nat.le_trans (Nat.add_le_add_right (ih (e.f0 :: u) (e.f0 :: v) (fun e' he' hn => ?_)) 1) (most_take es ls x l v e he ((can_iff ls x v e).2 ⟨hc.1, fun hm => hc.2 ((h e he ((fit_iff ls x e).1 hc.1).2.1).2 hm)⟩))
      simp only [List.mem_cons, h e' he' hn]
  exact fun l u v h => Nat.le_antisymm (key l u v h) (key l v u (fun e he hn => (h e he hn).symm))
theorem most_same (es : List Expect) (ls : List Sight) (l : List Sight) (u v : List Int) (h : ∀ e ∈ es, e.f0 ∈ u ↔ e.f0 ∈ v) : mostGo es ls l u = mostGo es ls l v := most_same' es ls l u v (fun e he _ => h e he)
/-- One bag more that is used costs at most one. -/
theorem most_one (es : List Expect) (ls : List Sight) (a : Int) : ∀ (l : List Sight) (u : List Int), mostGo es ls l u ≤ mostGo es ls l (a :: u) + 1
  | [], u => by simp [mostGo]
  | x :: l, u => by
    refine most_le es ls x l u _ (Nat.le_trans (most_one es ls a l u) (Nat.add_le_add_right (most_skip es ls x l _) 1)) (fun e he hc => ?_)
    by_cases h : e.f0 = a
    · rw [h]; exact Nat.add_le_add_right (most_skip es ls x l _) 1
    · rw [can_iff] at hc
      have h1 := most_take es ls x l (a :: u) e he ((can_iff ls x (a :: u) e).2 ⟨hc.1, by simp [h, hc.2]⟩)
      have h2 := most_one es ls a l (e.f0 :: u)
      rw [most_same es ls l (a :: e.f0 :: u) (e.f0 :: a :: u) (fun e' _ => by simp only [List.mem_cons]; exact or_left_comm)] at h2
      omega
/-- Of two windows, keep the one that fits whatever the other one fits later. -/
theorem most_swap (es : List Expect) (ls : List Sight) (hes : ∀ e ∈ es, ∀ e' ∈ es, e.f0 = e'.f0 → e = e') (a b : Expect) (hb : b ∈ es) (ha : a ∈ es) : ∀ (l : List Sight) (u : List Int), (∀ x ∈ l, fitB ls x a = true → fitB ls x b = true) → b.f0 ∉ u → mostGo es ls l (b.f0 :: u) ≤ mostGo es ls l (a.f0 :: u)
  | [], u, _, _ => by simp [mostGo]
  | x :: l, u, h, hu => by
    have hl : ∀ x ∈ l, fitB ls x a = true → fitB ls x b = true := fun x hx => h x (by simp [hx])
    by_cases hab : b.f0 = a.f0
    · rw [hab]; exact Nat.le_refl _
    refine most_le es ls x l _ _ (Nat.le_trans (most_swap es ls hes a b hb ha l u hl hu) (most_skip es ls x l _)) (fun e he hc => ?_)
    rw [can_iff] at hc
    have hne : e.f0 ≠ b.f0 := fun hh => hc.2 (by simp [hh])
    have hnu : e.f0 ∉ u := fun hh => hc.2 (by simp [hh])
    by_cases hea : e.f0 = a.f0
    · have e1 := hes e he a ha hea
      subst e1
      have h1 := most_take es ls x l (e.f0 :: u) b hb ((can_iff ls x _ b).2 ⟨h x (by simp) hc.1, by simp [hab, hu]⟩)
      rw [most_same es ls l (e.f0 :: b.f0 :: u) (b.f0 :: e.f0 :: u) (fun e' _ => by simp only [List.mem_cons]; exact or_left_comm)]
      exact h1
    · have h1 := most_take es ls x l (a.f0 :: u) e he ((can_iff ls x _ e).2 ⟨hc.1, by simp [hea, hnu]⟩)
      have h2 := most_swap es ls hes a b hb ha l (e.f0 :: u) hl (by simp [hu, Ne.symm hne])
      rw [most_same es ls l (b.f0 :: e.f0 :: u) (e.f0 :: b.f0 :: u) (fun e' _ => by simp only [List.mem_cons]; exact or_left_comm), most_same es ls l (a.f0 :: e.f0 :: u) (e.f0 :: a.f0 :: u) (fun e' _ => by simp only [List.mem_cons]; exact or_left_comm)] at h2
      omega
/-- What is best among the windows that a sight can be taken for. -/
theorem best_spec (ls : List Sight) (x : Sight) (out : List Int) : ∀ (l : List Expect) (b : Option Expect), (∀ w, b = some w → canB ls x out w = true) →
    (bestE ls x out b l = none → b = none ∧ ∀ e ∈ l, canB ls x out e = false) ∧
    (∀ w, bestE ls x out b l = some w → canB ls x out w = true ∧ (b = some w ∨ w ∈ l) ∧ (∀ v, b = some v → w.f2 ≤ v.f2) ∧ ∀ e ∈ l, canB ls x out e = true → w.f2 ≤ e.f2)
  | [], b, hb => ⟨fun h => ⟨h, by simp⟩, fun w h => ⟨hb w h, .inl h, fun v hv => by rw [show b = some w from h] at hv; cases hv; exact Int.le_refl _, by simp⟩⟩
  | e :: l, b, hb => by
    have hn : ∀ w, nextE ls x out b e = some w → canB ls x out w = true := by
      intro w hw
      unfold nextE at hw
      by_cases c : canB ls x out e = true
      · rw [if_pos (show (fitB ls x e && !(out.any (fun q => q == e.f0))) = true from c)] at hw
        cases b with
        | none => rw [pickE] at hw; cases hw; exact c
        | some v =>
          rw [pickE] at hw
          split at hw
          · cases hw; exact c
          · cases hw; exact hb _ rfl
      · rw [if_neg (show ¬ (fitB ls x e && !(out.any (fun q => q == e.f0))) = true from c)] at hw
        exact hb w hw
    obtain ⟨i1, i2⟩ := best_spec ls x out l (nextE ls x out b e) hn
    rw [bestE]
    refine ⟨fun h => ?_, fun w h => ?_⟩
    · obtain ⟨h1, h2⟩ := i1 h
      unfold nextE at h1
      by_cases c : canB ls x out e = true
      · rw [if_pos (show (fitB ls x e && !(out.any (fun q => q == e.f0))) = true from c)] at h1
        cases b with
        | none => rw [pickE] at h1; cases h1
        | some v => rw [pickE] at h1; split at h1 <;> cases h1
      · rw [if_neg (show ¬ (fitB ls x e && !(out.any (fun q => q == e.f0))) = true from c)] at h1
        refine ⟨h1, fun e' he' => ?_⟩
        rcases List.mem_cons.1 he' with rfl | he'
        · simpa using c
        · exact h2 e' he'
    · obtain ⟨h1, h2, h3, h4⟩ := i2 w h
      by_cases c : canB ls x out e = true
      · have hN : nextE ls x out b e = pickE e b := by unfold nextE; rw [if_pos (show (fitB ls x e && !(out.any (fun q => q == e.f0))) = true from c)]
        rw [hN] at h2 h3
        cases b with
        | none =>
          rw [pickE] at h2 h3
          refine ⟨h1, .inr ?_, by simp, fun e' he' hc' => ?_⟩
          · rcases h2 with h2 | h2
            · cases h2; simp
            · simp [h2]
          · rcases List.mem_cons.1 he' with rfl | he'
            · exact h3 _ rfl
            · exact h4 e' he' hc'
        | some v =>
          rw [pickE] at h2 h3
          by_cases hb2 : betB v e = true
          · rw [if_pos hb2] at h2 h3
            have hle : e.f2 ≤ v.f2 := by unfold betB at hb2; simp at hb2; omega
            refine ⟨h1, .inr ?_, fun v' hv' => ?_, fun e' he' hc' => ?_⟩
            · rcases h2 with h2 | h2
              · cases h2; simp
              · simp [h2]
            · cases hv'; have := h3 _ rfl; omega
            · rcases List.mem_cons.1 he' with rfl | he'
              · exact h3 _ rfl
              · exact h4 e' he' hc'
          · rw [if_neg hb2] at h2 h3
            have hle : v.f2 ≤ e.f2 := by unfold betB at hb2; simp at hb2; omega
            refine ⟨h1, ?_, fun v' hv' => ?_, fun e' he' hc' => ?_⟩
            · rcases h2 with h2 | h2
              · exact .inl h2
              · exact .inr (by simp [h2])
            · cases hv'; exact h3 _ rfl
            · rcases List.mem_cons.1 he' with rfl | he'
              · have := h3 _ rfl; omega
              · exact h4 e' he' hc'
      · have hN : nextE ls x out b e = b := by unfold nextE; rw [if_neg (show ¬ (fitB ls x e && !(out.any (fun q => q == e.f0))) = true from c)]
        rw [hN] at h2 h3
        refine ⟨h1, ?_, h3, fun e' he' hc' => ?_⟩
        · rcases h2 with h2 | h2
          · exact .inl h2
          · exact .inr (by simp [h2])
        · rcases List.mem_cons.1 he' with rfl | he'
          · exact absurd hc' c
          · exact h4 e' he' hc'
/-- Taking the best window is as good as anything, where later sights are not earlier in time. -/
theorem most_best (es : List Expect) (ls : List Sight) (hes : ∀ e ∈ es, ∀ e' ∈ es, e.f0 = e'.f0 → e = e') (x : Sight) (l : List Sight) (ht : ∀ y ∈ l, x.f0 ≤ y.f0) (u : List Int) :
    mostGo es ls (x :: l) u = match bestE ls x u none es with | none => mostGo es ls l u | some w => mostGo es ls l (w.f0 :: u) + 1 := by
  obtain ⟨i1, i2⟩ := best_spec ls x u es none (by simp)
  cases hb : bestE ls x u none es with
  | none =>
    refine Nat.le_antisymm (most_le es ls x l u _ (Nat.le_refl _) (fun e he hc => ?_)) (most_skip es ls x l u)
    rw [(i1 hb).2 e he] at hc; cases hc
  | some w =>
    obtain ⟨h1, h2, _, h4⟩ := i2 w hb
    have hw : w ∈ es := by rcases h2 with h2 | h2; · cases h2
                           · exact h2
    refine Nat.le_antisymm (most_le es ls x l u _ (most_one es ls w.f0 l u) (fun e he hc => Nat.add_le_add_right ?_ 1)) (most_take es ls x l u w hw h1)
    have h5 := h4 e he hc
    rw [can_iff] at hc h1
    refine most_swap es ls hes w e he hw l u (fun y hy hf => ?_) hc.2
    have hty := ht y hy
    have f1 := (fit_iff ls x e).1 hc.1
    have f2 := (fit_iff ls y w).1 hf
    exact (fit_iff ls y e).2 ⟨f2.1, f1.2.1, by omega, by omega⟩
/-- How many of the sights without a bag are taken for one. -/
def cntGo : List Sight → List Int → Nat
  | x :: l, q :: r => (if x.f1 = 0 ∧ q ≠ 0 then 1 else 0) + cntGo l r
  | _, _ => 0
/-- What Assign adds. -/
def asTail (es : List Expect) (ls : List Sight) : List Int → List Sight → List Int
  | _, [] => []
  | out, x :: l => bagOf x (bestE ls x out none es) :: asTail es ls (out ++ [bagOf x (bestE ls x out none es)]) l
theorem asGo_tail (es : List Expect) (ls : List Sight) : ∀ (l : List Sight) (out : List Int), asGo es ls out l = out ++ asTail es ls out l
  | [], out => by simp [asGo, asTail]
  | x :: l, out => by rw [asGo, asTail, asGo_tail es ls l]; simp
theorem as_most (es : List Expect) (ls : List Sight) (hes : ∀ e ∈ es, ∀ e' ∈ es, e.f0 = e'.f0 → e = e') (hp : ∀ e ∈ es, e.f0 ≠ 0) : ∀ (l : List Sight) (out : List Int), (∀ x ∈ l, x ∈ ls) → l.Pairwise (fun x y => x.f0 ≤ y.f0) → cntGo l (asTail es ls out l) = mostGo es ls l out
  | [], _, _, _ => by simp [cntGo, mostGo]
  | x :: l, out, hm, hs => by
    have hs' := List.pairwise_cons.1 hs
    rw [most_best es ls hes x l hs'.1 out, asTail, cntGo]
    have ih := as_most es ls hes hp l (out ++ [bagOf x (bestE ls x out none es)]) (fun y hy => hm y (by simp [hy])) hs'.2
    rw [ih]
    obtain ⟨_, i2⟩ := best_spec ls x out es none (by simp)
    cases hb : bestE ls x out none es with
    | none =>
      rw [show bagOf x none = x.f1 from rfl]
      rw [if_neg (by intro h; exact h.2 h.1), Nat.zero_add]
      refine most_same' es ls l _ _ (fun e he hn => ?_)
      simp only [List.mem_append, List.mem_singleton, or_iff_left_iff_imp]
      intro h
      rw [List.any_eq_false] at hn
      exact absurd (by simp [h]) (hn x (hm x (by simp)))
    | some w =>
      obtain ⟨h1, h2, _, _⟩ := i2 w hb
      have hw : w ∈ es := by
        rcases h2 with h2 | h2
        · cases h2
        · exact h2
      have hx := ((fit_iff ls x w).1 ((can_iff ls x out w).1 h1).1).1
      rw [show bagOf x (some w) = w.f0 from rfl]
      rw [if_pos ⟨hx, hp w hw⟩, Nat.add_comm]
      congr 1
      exact most_same es ls l _ _ (fun e _ => by simp [or_comm])
/-- No way to take sights takes more. -/
theorem take_most (es : List Expect) (ls : List Sight) : ∀ (l : List Sight) (t : List Int) (u : List Int), (∀ (i : Nat) (x : Sight) (q : Int), l[i]? = some x → t[i]? = some q → q ≠ 0 → ∃ e ∈ es, e.f0 = q ∧ fitB ls x e = true) → (∀ q ∈ t, q ≠ 0 → q ∉ u) → (∀ (i j : Nat) (q : Int), t[i]? = some q → t[j]? = some q → q ≠ 0 → i = j) → cntGo l t ≤ mostGo es ls l u
  | [], t, u, _, _, _ => by simp [cntGo]
  | x :: l, [], u, _, _, _ => by simp [cntGo]
  | x :: l, q :: t, u, h, hu, hd => by
    rw [cntGo]
    have h' : ∀ (i : Nat) (x : Sight) (q : Int), l[i]? = some x → t[i]? = some q → q ≠ 0 → ∃ e ∈ es, e.f0 = q ∧ fitB ls x e = true := fun i y p hy hp => h (i + 1) y p (by simpa using hy) (by simpa using hp)
    have hd' : ∀ (i j : Nat) (q : Int), t[i]? = some q → t[j]? = some q → q ≠ 0 → i = j := fun i j p hi hj hp => by have := hd (i + 1) (j + 1) p (by simpa using hi) (by simpa using hj) hp; omega
    by_cases c : q = 0
    · rw [if_neg (by simp [c]), Nat.zero_add]
      exact Nat.le_trans (take_most es ls l t u h' (fun p hp => hu p (by simp [hp])) hd') (most_skip es ls x l u)
    · obtain ⟨e, he, rfl, hf⟩ := h 0 x q rfl rfl c
      have h1 := most_take es ls x l u e he ((can_iff ls x u e).2 ⟨hf, hu _ (by simp) c⟩)
      have h2 := take_most es ls l t (e.f0 :: u) h' (fun p hp hp0 => by
        simp only [List.mem_cons, not_or]
        refine ⟨fun hh => ?_, hu p (by simp [hp]) hp0⟩
        obtain ⟨j, hj⟩ := List.getElem?_of_mem hp
        have := hd 0 (j + 1) p (by simp [hh]) (by simpa using hj) hp0
        omega) hd'
      have h3 : (if x.f1 = 0 ∧ e.f0 ≠ 0 then 1 else 0) ≤ 1 := by split <;> omega
      omega
theorem most_len (es : List Expect) (ls : List Sight) : ∀ (l : List Sight) (u : List Int), mostGo es ls l u ≤ l.length
  | [], _ => by simp [mostGo]
  | x :: l, u => most_le es ls x l u _ (Nat.le_trans (most_len es ls l u) (by simp)) (fun e _ _ => by have := most_len es ls l (e.f0 :: u); simp; omega)
/-- What MostAssigned returns. -/
def mostR (es : List Expect) (ls : List Sight) : Int := if exB es = true ∧ siB ls = true then (mostGo es ls ls [] : Int) else -1
theorem ev_pos {α : Type} {c : Prop} [Decidable c] {A B : Nat → Option α} {r : α} (h : c) (hA : Ev A r) : Ev (fun k => if c then A k else B k) r := by
  have : (fun k => if c then A k else B k) = A := funext (fun k => if_pos h)
  rw [this]; exact hA
theorem ev_neg {α : Type} {c : Prop} [Decidable c] {A B : Nat → Option α} {r : α} (h : ¬ c) (hB : Ev B r) : Ev (fun k => if c then A k else B k) r := by
  have : (fun k => if c then A k else B k) = B := funext (fun k => if_neg h)
  rw [this]; exact hB
theorem spec_most_in (es : List Expect) (ls : List Sight) (hes : es.length ≤ 6) (hl : ls.length ≤ 6) (i : Nat) (hi : i < ls.length) (used : List Int) (hu : used.length ≤ i) (ih : ∀ u : List Int, u.length ≤ i + 1 → Ev (fun k => spec_l03Most.f k es ls ((i + 1 : Nat) : Int) u (-1) 0) (mostGo es ls (ls.drop (i + 1)) u : Int)) (d : Nat) : ∀ (e b : Nat), e + d = es.length → b ≤ 6 → Ev (fun k => spec_l03Most.l0 k es ls i used (-1) 0 b e) ((es.drop e).foldl (fun b e => if canB ls (rd_T49 ls (i : Int)) used e = true then max b (mostGo es ls (ls.drop (i + 1)) (e.f0 :: used) + 1) else b) b : Nat) := by
  induction d with
  | zero =>
    intro e b he _
    rw [List.drop_eq_nil_of_le (show es.length ≤ e by omega), List.foldl_nil]
    exact Ev.step (f := fun _ => some (b : Int)) (fun k => by rw [spec_l03Most.l0, if_neg (show ¬ (e : Int) < (es.length : Int) by omega)]) (Ev.now _)
  | succ d ih2 =>
    intro e b he hb
    have hlt : e < es.length := by omega
    have e1 : wrap64 ((e : Int) + 1) = ((e + 1 : Nat) : Int) := w64 (by omega) (by omega)
    have e2 : wrap64 ((i : Int) + 1) = ((i + 1 : Nat) : Int) := w64 (by omega) (by omega)
    rw [drop_Expect es e hlt, List.foldl_cons]
    refine Ev.step (fun k => by rw [spec_l03Most.l0, if_pos (show (e : Int) < (es.length : Int) by omega)]) ?_
    refine ev_bind _ (spec_fits_ev es ls hl i e hi hlt) ?_
    cases c : fitB ls (rd_T49 ls (i : Int)) (rd_T47 es (e : Int)) with
    | false =>
      simp only [Bool.false_eq_true, if_false]
      rw [if_neg (by simp [canB, c])]
      exact Ev.step (fun k => by rw [spec_l03Most.j3, if_pos rfl, e1]) (ih2 (e + 1) b (by omega) hb)
    | true =>
      simp only [if_true, if_pos (show (0 : Int) ≤ (e : Int) by omega)]
      refine ev_bind _ (spec_has_ev used (by omega) _) ?_
      cases c2 : used.any (fun y => y == (rd_T47 es (e : Int)).f0) with
      | true =>
        simp only [if_true]
        rw [if_neg (by simp [canB, c2])]
        exact Ev.step (fun k => by rw [spec_l03Most.j3, if_pos rfl, e1]) (ih2 (e + 1) b (by omega) hb)
      | false =>
        simp only [Bool.false_eq_true, if_false, if_neg (show ¬ (i : Int) = -1 by omega)]
        rw [if_pos (by simp [canB, c, c2])]
        refine Ev.step (fun k => by rw [spec_l03Most.j3, if_neg (by decide), Option.bind_some, if_pos (show ([] : List Int).length + used.length < 17592186044416 by simp; omega), Option.bind_some, if_pos (show (0 : Int) ≤ (e : Int) by omega), if_pos (show (e : Int) < (es.length : Int) by omega), Option.bind_some, if_pos (show ([] ++ used : List Int).length + [(rd_T47 es (e : Int)).f0].length < 17592186044416 by simp; omega), List.nil_append, e1, e2]) ?_
        have hlen := most_len es ls (ls.drop (i + 1)) ((rd_T47 es (e : Int)).f0 :: used)
        rw [List.length_drop] at hlen
        refine ev_bind _ (ih _ (by simp; omega)) ?_
        rw [most_same es ls (ls.drop (i + 1)) (used ++ [(rd_T47 es (e : Int)).f0]) ((rd_T47 es (e : Int)).f0 :: used) (fun e' _ => by simp [or_comm])]
        generalize mostGo es ls (ls.drop (i + 1)) ((rd_T47 es (e : Int)).f0 :: used) = m at hlen ⊢
        have hE : e + 1 + d = es.length := by omega
        have hM : m + 1 ≤ 6 := by omega
        have e3 : wrap64 ((m : Int) + 1) = ((m + 1 : Nat) : Int) := w64 (by omega) (by omega)
        refine ev_pos (Int.natCast_nonneg m) ?_
        by_cases c3 : m + 1 > b
        · refine ev_pos (show wrap64 ((m : Int) + 1) > (b : Int) by rw [e3]; exact Int.ofNat_lt.2 c3) ?_
          rw [Nat.max_eq_right (Nat.le_of_lt c3)]
          have h := ih2 (e + 1) (m + 1) hE hM
          rw [← e3] at h
          exact h
        · refine ev_neg (show ¬ wrap64 ((m : Int) + 1) > (b : Int) by rw [e3]; exact fun hh => c3 (Int.ofNat_lt.1 hh)) ?_
          rw [Nat.max_eq_left (Nat.le_of_not_lt c3)]
          exact ih2 (e + 1) b hE hb
theorem spec_most_loop (es : List Expect) (ls : List Sight) (hes : es.length ≤ 6) (hl : ls.length ≤ 6) (d : Nat) : ∀ (i : Nat) (used : List Int), i + d = ls.length → used.length ≤ i → Ev (fun k => spec_l03Most.f k es ls i used (-1) 0) (mostGo es ls (ls.drop i) used : Int) := by
  induction d with
  | zero =>
    intro i used hi _
    rw [List.drop_eq_nil_of_le (by omega), mostGo]
    exact Ev.step (f := fun _ => some (0 : Int)) (fun k => by rw [spec_l03Most.f, if_pos (show (i : Int) ≥ (ls.length : Int) by omega)]) (Ev.now _)
  | succ d ih =>
    intro i used hi hu
    have e2 : wrap64 ((i : Int) + 1) = ((i + 1 : Nat) : Int) := w64 (by omega) (by omega)
    rw [drop_Sight ls i (by omega), mostGo]
    refine Ev.step (fun k => by rw [spec_l03Most.f, if_neg (show ¬ (i : Int) ≥ (ls.length : Int) by omega), if_neg (show ¬ (i : Int) = -1 by omega)]) ?_
    refine Ev.step (fun k => by rw [spec_l03Most.j0, if_pos rfl, e2]) ?_
    refine ev_bind _ (ih (i + 1) used (by omega) (by omega)) ?_
    have hlen := most_len es ls (ls.drop (i + 1)) used
    rw [List.length_drop] at hlen
    refine Ev.step (fun k => by rw [spec_l03Most.j1]) ?_
    simpa using spec_most_in es ls hes hl i (by omega) used hu (fun u hu' => ih (i + 1) u (by omega) hu') es.length 0 _ (by omega) (by omega)
theorem spec_most_ev (es : List Expect) (ls : List Sight) : Ev (fun k => spec_MostAssigned.f k es ls) (mostR es ls) := by
  unfold spec_MostAssigned.f mostR
  refine ev_bind _ (spec_ex_ev es) ?_
  cases h : exB es with
  | false => simp only [Bool.false_eq_true, if_false, false_and]; exact Ev.now _
  | true =>
    simp only [if_true, true_and]
    refine ev_bind _ (spec_si_ev ls) ?_
    cases h2 : siB ls with
    | false => simp only [Bool.false_eq_true, if_false]; exact Ev.now _
    | true =>
      simp only [if_true]
      refine ev_bind _ (by simpa using spec_most_loop es ls (exB_len h) (siB_len h2) ls.length 0 [] (by omega) (by simp)) ?_
      exact Ev.now _
theorem ex_go : ∀ (l s : List Expect), impl_ExpectOk.go s l = exRun s l
  | [], s => rfl
  | x :: l, s => by
    unfold impl_ExpectOk.go exRun
    by_cases c : x.f0 < 1 ∨ x.f1 < 0 ∨ x.f2 < x.f1 ∨ x.f2 > 100000 ∨ s.any (fun y => y.f0 == x.f0) = true
    · rw [if_pos c]
      cases e : s.any (fun y => y.f0 == x.f0) with
      | true => simp
      | false =>
        rw [e] at c
        rw [decide_eq_false (show ¬ (1 ≤ x.f0 ∧ 0 ≤ x.f1 ∧ x.f1 ≤ x.f2 ∧ x.f2 ≤ 100000) by simp at c; omega)]
        simp
    · rw [if_neg c]
      have e : s.any (fun y => y.f0 == x.f0) = false := by
        cases e : s.any (fun y => y.f0 == x.f0) with
        | true => exact absurd (.inr (.inr (.inr (.inr e)))) c
        | false => rfl
      rw [e, decide_eq_true (show 1 ≤ x.f0 ∧ 0 ≤ x.f1 ∧ x.f1 ≤ x.f2 ∧ x.f2 ≤ 100000 by omega), ex_go l]
      simp
theorem impl_ex (l : List Expect) : impl_ExpectOk.f l = some (exB l) := by
  unfold impl_ExpectOk.f exB
  rw [ex_go, Bool.and_comm]
  congr 2
  simp; omega
theorem impl_tick (x : Int) : impl_isTick.f x = some (decide (0 ≤ x ∧ x ≤ 100000)) := by
  unfold impl_isTick.f
  by_cases h : x ≥ 0
  · rw [if_pos h]; congr 1; simp; omega
  · rw [if_neg h]; congr 1; simp; omega
theorem impl_si_loop (l : List Sight) (hl : l.length ≤ 1048600) (d : Nat) : ∀ i : Nat, i + d = l.length → Ev (fun k => impl_SightsOk.l0 k l l (l.length : Int) i) (siRun (l.take i) (l.drop i) && decide (l.length ≤ 6)) := by
  induction d with
  | zero =>
    intro i hi
    rw [List.drop_eq_nil_of_le (by omega), siRun, Bool.true_and]
    exact Ev.step (f := fun _ => some (decide ((l.length : Int) ≤ 6))) (fun k => by rw [impl_SightsOk.l0, if_neg (show ¬ (i : Int) < (l.length : Int) by omega)]) (ev_some (by simp; omega))
  | succ d ih =>
    intro i hi
    have hlt : i < l.length := by omega
    have e1 : wrap64 ((i : Int) + 1) = ((i + 1 : Nat) : Int) := w64 (by omega) (by omega)
    rw [drop_Sight l i hlt, siRun, ← take_Sight l i hlt]
    refine Ev.step (fun k => by rw [impl_SightsOk.l0, if_pos (show (i : Int) < (l.length : Int) by omega), if_pos (show (0 : Int) ≤ (i : Int) by omega), if_pos (show (i : Int) < (l.length : Int) by omega), impl_tick, Option.bind_some]) ?_
    have hno : ∀ b c, Ev (fun k => impl_SightsOk.j1 k l i l (l.length : Int) i true b c) false := fun b c => Ev.step (fun k => by rw [impl_SightsOk.j1, if_pos rfl]) (Ev.now _)
    have hyes : ∀ b, Ev (fun k => impl_SightsOk.j1 k l i l (l.length : Int) i false b (rd_T49 l (i : Int)).f1) (((decide ((rd_T49 l (i : Int)).f1 = 0) || !((l.take i).any (fun y => y.f1 == (rd_T49 l (i : Int)).f1))) && siRun (l.take (i + 1)) (l.drop (i + 1))) && decide (l.length ≤ 6)) := fun b => by
      refine Ev.step (fun k => by rw [impl_SightsOk.j1, if_neg (by decide), e1]) ?_
      by_cases c : (rd_T49 l (i : Int)).f1 = 0
      · rw [decide_eq_true c]
        simp only [if_pos c, Bool.true_or, Bool.true_and]
        exact ih (i + 1) (by omega)
      · rw [decide_eq_false c, Bool.false_or]
        simp only [if_neg c, if_pos (show (0 : Int) ≤ (i : Int) by omega), if_pos (show (i : Int) ≤ (l.length : Int) by omega), impl_isNamed.f, Option.bind_some, Int.toNat_natCast]
        cases h : (l.take i).any (fun y => y.f1 == (rd_T49 l (i : Int)).f1) with
        | true => simp only [if_true, Bool.not_true, Bool.false_and]; exact Ev.now _
        | false =>
          simp only [Bool.false_eq_true, if_false, Bool.not_false, Bool.true_and]
          exact ih (i + 1) (by omega)
    by_cases c : 0 ≤ (rd_T49 l (i : Int)).f0 ∧ (rd_T49 l (i : Int)).f0 ≤ 100000
    · simp only [if_pos (decide_eq_true c)]
      by_cases c3 : i = 0
      · subst c3
        rw [siAft_zero, Bool.and_true]
        simp only [if_neg (show ¬ ((0 : Nat) : Int) > 0 by omega)]
        by_cases c2 : (rd_T49 l ((0 : Nat) : Int)).f1 < 0
        · rw [decide_eq_false (show ¬ (0 ≤ (rd_T49 l ((0 : Nat) : Int)).f0 ∧ (rd_T49 l ((0 : Nat) : Int)).f0 ≤ 100000 ∧ 0 ≤ (rd_T49 l ((0 : Nat) : Int)).f1) by omega), decide_eq_true c2]
          simp only [Bool.false_and]; exact hno _ _
        · rw [decide_eq_true (show (0 ≤ (rd_T49 l ((0 : Nat) : Int)).f0 ∧ (rd_T49 l ((0 : Nat) : Int)).f0 ≤ 100000 ∧ 0 ≤ (rd_T49 l ((0 : Nat) : Int)).f1) by omega), Bool.true_and, decide_eq_false c2]
          exact hyes _
      · have e2 : wrap64 ((i : Int) - 1) = ((i - 1 : Nat) : Int) := by rw [w64 (by omega) (by omega)]; omega
        rw [siAft_pos l i _ (by omega) (by omega), e2]
        simp only [if_pos (show (i : Int) > 0 by omega), if_pos (show (0 : Int) ≤ ((i - 1 : Nat) : Int) by omega), if_pos (show ((i - 1 : Nat) : Int) < (l.length : Int) by omega)]
        by_cases c4 : (rd_T49 l (i : Int)).f0 < (rd_T49 l ((i - 1 : Nat) : Int)).f0
        · rw [decide_eq_false (show ¬ (rd_T49 l ((i - 1 : Nat) : Int)).f0 ≤ (rd_T49 l (i : Int)).f0 by omega)]
          simp only [if_pos c4, Bool.and_false, Bool.false_and]
          exact hno _ _
        · rw [decide_eq_true (show (rd_T49 l ((i - 1 : Nat) : Int)).f0 ≤ (rd_T49 l (i : Int)).f0 by omega), Bool.and_true]
          simp only [if_neg c4]
          by_cases c2 : (rd_T49 l (i : Int)).f1 < 0
          · rw [decide_eq_false (show ¬ (0 ≤ (rd_T49 l (i : Int)).f0 ∧ (rd_T49 l (i : Int)).f0 ≤ 100000 ∧ 0 ≤ (rd_T49 l (i : Int)).f1) by omega), decide_eq_true c2]
            simp only [Bool.false_and]; exact hno _ _
          · rw [decide_eq_true (show (0 ≤ (rd_T49 l (i : Int)).f0 ∧ (rd_T49 l (i : Int)).f0 ≤ 100000 ∧ 0 ≤ (rd_T49 l (i : Int)).f1) by omega), Bool.true_and, decide_eq_false c2]
            exact hyes _
    · rw [decide_eq_false c, decide_eq_false (show ¬ (0 ≤ (rd_T49 l (i : Int)).f0 ∧ (rd_T49 l (i : Int)).f0 ≤ 100000 ∧ 0 ≤ (rd_T49 l (i : Int)).f1) by omega)]
      simp only [Bool.false_eq_true, if_false, Bool.false_and]; exact hno _ _
theorem impl_si_ev (l : List Sight) (hl : l.length ≤ 1048600) : Ev (fun k => impl_SightsOk.f k l) (siB l) := by
  unfold impl_SightsOk.f siB
  rw [Bool.and_comm]
  simpa using impl_si_loop l hl l.length 0 (by omega)
theorem impl_fits (ls : List Sight) (x : Sight) (e : Expect) : impl_fits.f ls x.f0 x.f1 e.f0 e.f1 e.f2 = some (fitB ls x e) := by
  unfold impl_fits.f fitB impl_isNamed.f
  by_cases c : x.f1 = 0
  · rw [if_pos c, Option.bind_some, decide_eq_true c]
    cases h : ls.any (fun y => y.f1 == e.f0) with
    | true => simp
    | false =>
      rw [if_neg (by decide)]
      by_cases c2 : x.f0 ≥ e.f1
      · rw [if_pos c2]; congr 1; simp; omega
      · rw [if_neg c2]; congr 1; simp; omega
  · rw [if_neg c, decide_eq_false c]; rfl
theorem impl_are_ev (es : List Expect) (ls : List Sight) (hl : ls.length ≤ 1048600) : Ev (fun k => impl_areSights.f k es ls) (exB es && siB ls) := by
  unfold impl_areSights.f
  simp only [impl_ex, Option.bind_some]
  cases h : exB es with
  | false => simp only [Bool.false_eq_true, if_false, Bool.false_and]; exact Ev.now _
  | true =>
    simp only [if_true, Bool.true_and]
    exact ev_bind _ (impl_si_ev ls hl) (Ev.now _)

theorem most_fit (ls : List Sight) (x : Sight) (e : Expect) : impl_MostAssigned.fit ls x e = fitB ls x e := by
  unfold impl_MostAssigned.fit; rw [impl_fits]; rfl
theorem most_cnt : ∀ (l : List Sight) (t : List Int), impl_MostAssigned.cnt l t = (cntGo l t : Int)
  | [], _ => rfl
  | _ :: _, [] => rfl
  | x :: l, q :: t => by
    rw [impl_MostAssigned.cnt, cntGo, most_cnt l t]
    split <;> simp
theorem cnt_end : ∀ (l : List Sight) (t : List Int) (x : Sight) (q : Int), t.length = l.length → cntGo (l ++ [x]) (t ++ [q]) = cntGo l t + (if x.f1 = 0 ∧ q ≠ 0 then 1 else 0)
  | [], [], x, q, _ => by simp [cntGo]
  | y :: l, p :: t, x, q, h => by
    have := cnt_end l t x q (by simpa using h)
    simp only [List.cons_append, cntGo] at this ⊢
    omega
theorem most_wy_fold (es : List Expect) (ls l : List Sight) (t : List Int) (x : Sight) (c : Nat) (m : Int) : ∀ (es' : List Expect) (b : Nat), (∀ e ∈ es', fitB ls x e = true → ∀ m', impl_MostAssigned.wy es ls l (t ++ [e.f0]) m' = mx m' ((c + 1 + mostGo es ls l (e.f0 :: t) : Nat) : Int)) →
    es'.foldl (fun m e => if (impl_MostAssigned.fit ls x e && !(t.any (fun q => q == e.f0))) = true then impl_MostAssigned.wy es ls l (t ++ [e.f0]) m else m) (mx m ((c + b : Nat) : Int)) = mx m ((c + es'.foldl (fun b e => if canB ls x t e = true then max b (mostGo es ls l (e.f0 :: t) + 1) else b) b : Nat) : Int)
  | [], b, _ => rfl
  | e :: es', b, h => by
    rw [List.foldl_cons, List.foldl_cons]
    have h2 : (impl_MostAssigned.fit ls x e && !(t.any (fun q => q == e.f0))) = canB ls x t e := by rw [most_fit]; rfl
    rw [h2]
    cases c2 : canB ls x t e with
    | false =>
      rw [if_neg (by decide), if_neg (by decide)]
      exact most_wy_fold es ls l t x c m es' b (fun e' he' => h e' (by simp [he']))
    | true =>
      rw [if_pos rfl, if_pos rfl, h e (by simp) ((can_iff ls x t e).1 c2).1]
      rw [← most_wy_fold es ls l t x c m es' (max b (mostGo es ls l (e.f0 :: t) + 1)) (fun e' he' => h e' (by simp [he']))]
      congr 1
      unfold mx
      split <;> split <;> split <;> omega
theorem most_wy (es : List Expect) (hp : ∀ e ∈ es, e.f0 ≠ 0) (ls : List Sight) : ∀ (l pre : List Sight) (t : List Int) (m : Int), pre ++ l = ls → t.length = pre.length → impl_MostAssigned.wy es ls l t m = mx m ((cntGo pre t + mostGo es ls l t : Nat) : Int)
  | [], pre, t, m, h, ht => by
    rw [List.append_nil] at h
    rw [impl_MostAssigned.wy, most_cnt, mostGo, h, Nat.add_zero]
  | x :: l, pre, t, m, h, ht => by
    have h' : (pre ++ [x]) ++ l = ls := by simpa using h
    have hx : x ∈ ls := by rw [← h]; simp
    rw [impl_MostAssigned.wy, mostGo, most_wy es hp ls l (pre ++ [x]) (t ++ [x.f1]) m h' (by simp [ht]), cnt_end pre t x x.f1 ht, if_neg (fun hh => hh.2 hh.1), Nat.add_zero]
    rw [most_same' es ls l (t ++ [x.f1]) t (fun e he hn => by
      simp only [List.mem_append, List.mem_singleton, or_iff_left_iff_imp]
      intro hq
      rw [List.any_eq_false] at hn
      exact absurd (by simp [hq]) (hn x hx))]
    refine most_wy_fold es ls l t x _ m es _ (fun e he hf m' => ?_)
    rw [most_wy es hp ls l (pre ++ [x]) (t ++ [e.f0]) m' h' (by simp [ht]), cnt_end pre t x e.f0 ht, if_pos ⟨((fit_iff ls x e).1 hf).1, hp e he⟩, most_same es ls l (t ++ [e.f0]) (e.f0 :: t) (fun e' _ => by simp [or_comm])]
theorem impl_most_ev (es : List Expect) (ls : List Sight) (hl : ls.length ≤ 1048600) : Ev (fun k => impl_MostAssigned.f k es ls) (if exB es = true ∧ siB ls = true then (mostGo es ls ls [] : Int) else -1) := by
  unfold impl_MostAssigned.f
  refine ev_bind _ (impl_are_ev es ls hl) ?_
  by_cases h : exB es = true ∧ siB ls = true
  · rw [if_pos h, h.1, h.2]
    have h1 := exB_len h.1
    have h2 := siB_len h.2
    simp only [Bool.and_self, if_true]
    rw [if_pos (by omega), most_wy es (fun e he => by have := (exB_mem h.1 e he).1; omega) ls ls [] [] 0 rfl rfl]
    refine ev_some ?_
    rw [show cntGo [] [] = 0 from rfl, Nat.zero_add]
    unfold mx
    split <;> omega
  · rw [if_neg h]
    have : (exB es && siB ls) = false := by
      cases e : exB es with
      | false => rfl
      | true =>
        cases e2 : siB ls with
        | false => rfl
        | true => exact absurd ⟨e, e2⟩ h
    rw [this]
    simp only [Bool.false_eq_true, if_false]; exact Ev.now _
abbrev LExpect := S82
def toMExpect (x : LExpect) : Expect := ⟨x.f0, x.f1, x.f2⟩
theorem to_ExpectS_loop (l : List LExpect) (hl : l.length ≤ 1048576) (d : Nat) : ∀ (i : Nat) (m : List Expect), i + d = l.length → m.length = l.length → m.take i = (l.take i).map toMExpect → Ev (fun k => laws_toExpectS.l0 k l m i) (l.map toMExpect) := by
  induction d with
  | zero =>
    intro i m hi hm h
    refine Ev.step (fun k => by rw [laws_toExpectS.l0, if_neg (show ¬ (i : Int) < (l.length : Int) by omega)]) (ev_some ?_)
    rw [List.take_of_length_le (by omega), List.take_of_length_le (by omega)] at h
    exact h
  | succ d ih =>
    intro i m hi hm h
    have e1 : wrap64 ((i : Int) + 1) = ((i + 1 : Nat) : Int) := w64 (by omega) (by omega)
    have hlt : i < l.length := by omega
    have hr : rd_T82 l (i : Int) = l[i] := by simp [rd_T82, List.getD_eq_getElem?_getD, List.getElem?_eq_getElem hlt]
    refine Ev.step (fun k => by rw [laws_toExpectS.l0, if_pos (show (i : Int) < (l.length : Int) by omega), if_pos (show (0 : Int) ≤ (i : Int) by omega), laws_toExpect.f, Option.bind_some, if_pos (show (i : Int) < (m.length : Int) by omega), e1, hr, Int.toNat_natCast]) ?_
    refine ih (i + 1) _ (by omega) (by simp [hm]) ?_
    rw [List.take_succ_eq_append_getElem (by simp; omega), List.take_succ_eq_append_getElem hlt, List.map_append, ← h]
    rw [List.take_set, List.set_eq_of_length_le (by simp; omega)]
    simp [toMExpect]
theorem to_ExpectS_ev (l : List LExpect) (hl : l.length ≤ 1048576) : Ev (fun k => laws_toExpectS.f k l) (l.map toMExpect) := by
  unfold laws_toExpectS.f
  simp only [if_pos (show (0 : Int) ≤ (l.length : Int) by omega), Int.toNat_natCast, if_pos (show l.length ≤ 11728124029610 by omega)]
  exact to_ExpectS_loop l hl l.length 0 _ (by omega) (by simp) rfl
theorem sz_ExpectS (l : List LExpect) (hl : l.length ≤ 9223372036854775807) (q : Int) (h0 : 0 ≤ q) (h1 : q ≤ 1048576) : ∃ n, laws_szExpectS.f l q = some n ∧ n ≤ 1048576 ∧ (n < 0 ∨ l.length ≤ 1048576) := by
  unfold laws_szExpectS.f
  have e : wrap64 (q - (l.length : Int)) = q - (l.length : Int) := w64 (by omega) (by omega)
  rw [e]
  by_cases h : q - (l.length : Int) < 0
  · rw [if_pos h]; exact ⟨-1, rfl, by omega, .inl (by omega)⟩
  · rw [if_neg h]; exact ⟨_, rfl, by omega, .inr (by omega)⟩
abbrev LSight := S88
def toMSight (x : LSight) : Sight := ⟨x.f0, x.f1⟩
theorem to_SightS_loop (l : List LSight) (hl : l.length ≤ 1048576) (d : Nat) : ∀ (i : Nat) (m : List Sight), i + d = l.length → m.length = l.length → m.take i = (l.take i).map toMSight → Ev (fun k => laws_toSightS.l0 k l m i) (l.map toMSight) := by
  induction d with
  | zero =>
    intro i m hi hm h
    refine Ev.step (fun k => by rw [laws_toSightS.l0, if_neg (show ¬ (i : Int) < (l.length : Int) by omega)]) (ev_some ?_)
    rw [List.take_of_length_le (by omega), List.take_of_length_le (by omega)] at h
    exact h
  | succ d ih =>
    intro i m hi hm h
    have e1 : wrap64 ((i : Int) + 1) = ((i + 1 : Nat) : Int) := w64 (by omega) (by omega)
    have hlt : i < l.length := by omega
    have hr : rd_T88 l (i : Int) = l[i] := by simp [rd_T88, List.getD_eq_getElem?_getD, List.getElem?_eq_getElem hlt]
    refine Ev.step (fun k => by rw [laws_toSightS.l0, if_pos (show (i : Int) < (l.length : Int) by omega), if_pos (show (0 : Int) ≤ (i : Int) by omega), laws_toSight.f, Option.bind_some, if_pos (show (i : Int) < (m.length : Int) by omega), e1, hr, Int.toNat_natCast]) ?_
    refine ih (i + 1) _ (by omega) (by simp [hm]) ?_
    rw [List.take_succ_eq_append_getElem (by simp; omega), List.take_succ_eq_append_getElem hlt, List.map_append, ← h]
    rw [List.take_set, List.set_eq_of_length_le (by simp; omega)]
    simp [toMSight]
theorem to_SightS_ev (l : List LSight) (hl : l.length ≤ 1048576) : Ev (fun k => laws_toSightS.f k l) (l.map toMSight) := by
  unfold laws_toSightS.f
  simp only [if_pos (show (0 : Int) ≤ (l.length : Int) by omega), Int.toNat_natCast, if_pos (show l.length ≤ 17592186044416 by omega)]
  exact to_SightS_loop l hl l.length 0 _ (by omega) (by simp) rfl
theorem sz_SightS (l : List LSight) (hl : l.length ≤ 9223372036854775807) (q : Int) (h0 : 0 ≤ q) (h1 : q ≤ 1048576) : ∃ n, laws_szSightS.f l q = some n ∧ n ≤ 1048576 ∧ (n < 0 ∨ l.length ≤ 1048576) := by
  unfold laws_szSightS.f
  have e : wrap64 (q - (l.length : Int)) = q - (l.length : Int) := w64 (by omega) (by omega)
  rw [e]
  by_cases h : q - (l.length : Int) < 0
  · rw [if_pos h]; exact ⟨-1, rfl, by omega, .inl (by omega)⟩
  · rw [if_neg h]; exact ⟨_, rfl, by omega, .inr (by omega)⟩
theorem eq_Expect (a b c : Int) : laws_eqExpect.f a b c a b c = some true := by unfold laws_eqExpect.f; simp
theorem eq_ExpectS_loop (l : List Expect) (hl : l.length ≤ 1048600) (d : Nat) : ∀ i : Nat, i + d = l.length → Ev (fun k => laws_eqExpectS.l0 k l l i) true := by
  induction d with
  | zero =>
    intro i hi
    exact Ev.step (fun k => by rw [laws_eqExpectS.l0, if_neg (show ¬ (i : Int) < (l.length : Int) by omega)]) (Ev.now _)
  | succ d ih =>
    intro i hi
    have e1 : wrap64 ((i : Int) + 1) = ((i + 1 : Nat) : Int) := w64 (by omega) (by omega)
    refine Ev.step (fun k => by rw [laws_eqExpectS.l0, if_pos (show (i : Int) < (l.length : Int) by omega), if_pos (show (0 : Int) ≤ (i : Int) by omega), if_pos (show (i : Int) < (l.length : Int) by omega), eq_Expect, Option.bind_some, if_pos rfl, e1]) ?_
    exact ih (i + 1) (by omega)
theorem eq_ExpectS_ev (l : List Expect) (hl : l.length ≤ 1048600) : Ev (fun k => laws_eqExpectS.f k l l) true := by
  unfold laws_eqExpectS.f
  simp only [if_true]
  exact eq_ExpectS_loop l hl l.length 0 (by omega)
theorem eq_Sight (a b : Int) : laws_eqSight.f a b a b = some true := by unfold laws_eqSight.f; simp
theorem eq_SightS_loop (l : List Sight) (hl : l.length ≤ 1048600) (d : Nat) : ∀ i : Nat, i + d = l.length → Ev (fun k => laws_eqSightS.l0 k l l i) true := by
  induction d with
  | zero =>
    intro i hi
    exact Ev.step (fun k => by rw [laws_eqSightS.l0, if_neg (show ¬ (i : Int) < (l.length : Int) by omega)]) (Ev.now _)
  | succ d ih =>
    intro i hi
    have e1 : wrap64 ((i : Int) + 1) = ((i + 1 : Nat) : Int) := w64 (by omega) (by omega)
    refine Ev.step (fun k => by rw [laws_eqSightS.l0, if_pos (show (i : Int) < (l.length : Int) by omega), if_pos (show (0 : Int) ≤ (i : Int) by omega), if_pos (show (i : Int) < (l.length : Int) by omega), eq_Sight, Option.bind_some, if_pos rfl, e1]) ?_
    exact ih (i + 1) (by omega)
theorem eq_SightS_ev (l : List Sight) (hl : l.length ≤ 1048600) : Ev (fun k => laws_eqSightS.f k l l) true := by
  unfold laws_eqSightS.f
  simp only [if_true]
  exact eq_SightS_loop l hl l.length 0 (by omega)
theorem FnExactMostAssigned : laws_FnExactMostAssigned.Pure := by
  intro le ls hl _ hls _
  refine Ev.rounds ?_
  unfold laws_FnExactMostAssigned.f
  obtain ⟨n, hn, hn1, hc⟩ := sz_ExpectS le hl 1048576 (by omega) (by omega)
  simp only [hn, Option.bind_some]
  by_cases h : n < 0
  · simp only [if_pos h]; exact Ev.now _
  · simp only [if_neg h]
    obtain ⟨n2, hn2, _, hc2⟩ := sz_SightS ls hls n (by omega) hn1
    simp only [hn2, Option.bind_some]
    by_cases h2 : n2 < 0
    · simp only [if_pos h2]; exact Ev.now _
    · have h3 : le.length ≤ 1048576 := by omega
      have h4 : ls.length ≤ 1048576 := by omega
      have h3' : (le.map toMExpect).length ≤ 1048600 := by simp; omega
      have h4' : (ls.map toMSight).length ≤ 1048600 := by simp; omega
      simp only [if_neg h2]
      refine ev_bind _ (to_ExpectS_ev le h3) ?_
      refine ev_bind _ (to_SightS_ev ls h4) ?_
      refine ev_bind _ (spec_most_ev _ _) ?_
      refine ev_bind _ (to_ExpectS_ev le h3) ?_
      refine ev_bind _ (to_SightS_ev ls h4) ?_
      refine ev_bind _ (impl_most_ev _ _ h4') ?_
      simp only [show (if exB (le.map toMExpect) = true ∧ siB (ls.map toMSight) = true then (mostGo (le.map toMExpect) (ls.map toMSight) (ls.map toMSight) [] : Int) else -1) = mostR (le.map toMExpect) (ls.map toMSight) from rfl, if_true]
      refine ev_bind _ (to_ExpectS_ev le h3) ?_
      refine ev_bind _ (eq_ExpectS_ev _ h3') ?_
      simp only [if_true]
      refine ev_bind _ (to_SightS_ev ls h4) ?_
      refine ev_bind _ (eq_SightS_ev _ h4') ?_
      simp only [if_true]
      exact Ev.now _

end Go.Proofs.Ytnnimbbffbfhoaa.Pure
