/- For all windows and sights the law FnExactMissing returns true (its printed function does): program and reference tell the same missing bags, in new memory. -/
import Derived.Test.YtnnimbbffbfhoaaPFnExactMissingx10
import Derived.Test.YtnnimbbffbfhoaaKit
namespace Go.Proofs.Ytnnimbbffbfhoaa.Pure
open Go.RowKit Go.Proofs.Ytnnimbbffbfhoaa.PFnExactMissing Go.Proofs.YtnnimbbffbfhoaaW.PrintWords Go.Proofs.YtnnimbbffbfhoaaW.PrintLast Go.Proofs.YtnnimbbffbfhoaaW.PrintMore Go.Proofs.Ytnnimbbffbfhoaa.Kit
set_option linter.unusedVariables false
set_option linter.unusedSimpArgs false

abbrev Expect := S47
theorem rd_Expect (l : List Expect) (i : Nat) (h : i < l.length) : rd_T47 l (i : Int) = l[i] := by
  simp [rd_T47, List.getD_eq_getElem?_getD, List.getElem?_eq_getElem h]
theorem drop_Expect (l : List Expect) (i : Nat) (h : i < l.length) : l.drop i = rd_T47 l (i : Int) :: l.drop (i + 1) := by
  rw [List.drop_eq_getElem_cons h, rd_Expect l i h]
theorem take_Expect (l : List Expect) (i : Nat) (h : i < l.length) : l.take (i + 1) = l.take i ++ [rd_T47 l (i : Int)] := by
  rw [rd_Expect l i h, List.take_succ_eq_append_getElem h]
/-- Windows that are valid, their bags other than those met. -/
def exRun : List Expect → List Expect → Bool
  | _, [] => true
  | seen, x :: l => decide (1 ≤ x.f0 ∧ 0 ≤ x.f1 ∧ x.f1 ≤ x.f2 ∧ x.f2 ≤ 100000) && !(seen.any (fun y => y.f0 == x.f0)) && exRun (seen ++ [x]) l
def exB (l : List Expect) : Bool := decide (l.length ≤ 6) && exRun [] l
abbrev Sight := S49
theorem rd_Sight (l : List Sight) (i : Nat) (h : i < l.length) : rd_T49 l (i : Int) = l[i] := by
  simp [rd_T49, List.getD_eq_getElem?_getD, List.getElem?_eq_getElem h]
theorem drop_Sight (l : List Sight) (i : Nat) (h : i < l.length) : l.drop i = rd_T49 l (i : Int) :: l.drop (i + 1) := by
  rw [List.drop_eq_getElem_cons h, rd_Sight l i h]
theorem take_Sight (l : List Sight) (i : Nat) (h : i < l.length) : l.take (i + 1) = l.take i ++ [rd_T49 l (i : Int)] := by
  rw [rd_Sight l i h, List.take_succ_eq_append_getElem h]
/-- Is the sight not before the last one? -/
def siAft (s : List Sight) (x : Sight) : Bool := match s.getLast? with
  | none => true
  | some p => decide (p.f0 ≤ x.f0)
/-- Sights that are valid behind others. -/
def siRun : List Sight → List Sight → Bool
  | _, [] => true
  | s, x :: l => decide (0 ≤ x.f0 ∧ x.f0 ≤ 100000 ∧ 0 ≤ x.f1) && siAft s x && (decide (x.f1 = 0) || !(s.any (fun y => y.f1 == x.f1))) && siRun (s ++ [x]) l
def siB (l : List Sight) : Bool := decide (l.length ≤ 6) && siRun [] l
theorem siAft_zero (l : List Sight) (x : Sight) : siAft (l.take 0) x = true := rfl
theorem siAft_pos (l : List Sight) (i : Nat) (x : Sight) (h : 0 < i) (hi : i ≤ l.length) : siAft (l.take i) x = decide ((rd_T49 l ((i - 1 : Nat) : Int)).f0 ≤ x.f0) := by
  have e : l.take i = l.take (i - 1) ++ [rd_T49 l ((i - 1 : Nat) : Int)] := by
    rw [← take_Sight l (i - 1) (by omega), show i - 1 + 1 = i by omega]
  rw [e, siAft, List.getLast?_append]
  rfl
theorem rd_int (l : List Int) (i : Nat) (h : i < l.length) : rd l (i : Int) = l[i] := by
  simp [rd, List.getD_eq_getElem?_getD, List.getElem?_eq_getElem h]
theorem drop_int (l : List Int) (i : Nat) (h : i < l.length) : l.drop i = rd l (i : Int) :: l.drop (i + 1) := by
  rw [List.drop_eq_getElem_cons h, rd_int l i h]
/-- Does sight x fit window e, with no sight of its bag? -/
def fitB (ls : List Sight) (x : Sight) (e : Expect) : Bool := decide (x.f1 = 0) && !(ls.any (fun y => y.f1 == e.f0)) && decide (e.f1 ≤ x.f0 ∧ x.f0 ≤ e.f2)
/-- Is window e better than the best one so far? -/
def betB (b e : Expect) : Bool := decide (e.f2 < b.f2) || (decide (e.f2 = b.f2) && decide (e.f0 < b.f0))
/-- The better one of two windows. -/
def pickE (e : Expect) : Option Expect → Option Expect
  | none => some e
  | some w => if betB w e = true then some e else some w
/-- The best one so far, after one more window. -/
def nextE (ls : List Sight) (x : Sight) (out : List Int) (b : Option Expect) (e : Expect) : Option Expect := if (fitB ls x e && !(out.any (fun q => q == e.f0))) = true then pickE e b else b
/-- The best of the windows for a sight, after the best so far. -/
def bestE (ls : List Sight) (x : Sight) (out : List Int) : Option Expect → List Expect → Option Expect
  | b, [] => b
  | b, e :: l => bestE ls x out (nextE ls x out b e) l
def bagOf (x : Sight) (b : Option Expect) : Int := match b with
  | none => x.f1
  | some w => w.f0
/-- The bags of the sights, one after the other. -/
def asGo (es : List Expect) (ls : List Sight) : List Int → List Sight → List Int
  | out, [] => out
  | out, x :: l => asGo es ls (out ++ [bagOf x (bestE ls x out none es)]) l
/-- What Assign returns. -/
def asR (es : List Expect) (ls : List Sight) : List Int := if exB es = true ∧ siB ls = true then asGo es ls [] ls else []
theorem exB_len {l : List Expect} (h : exB l = true) : l.length ≤ 6 := by
  unfold exB at h
  simp only [Bool.and_eq_true, decide_eq_true_eq] at h
  exact h.1
theorem exRun_mem : ∀ (l s : List Expect), exRun s l = true → ∀ x ∈ l, 1 ≤ x.f0 ∧ 0 ≤ x.f1 ∧ x.f1 ≤ x.f2 ∧ x.f2 ≤ 100000
  | [], _, _, x, hx => by simp at hx
  | y :: l, s, h, x, hx => by
    simp only [exRun, Bool.and_eq_true, decide_eq_true_eq] at h
    rcases List.mem_cons.1 hx with rfl | hx
    · exact h.1.1
    · exact exRun_mem l _ h.2 x hx
theorem exB_mem {l : List Expect} (h : exB l = true) : ∀ x ∈ l, 1 ≤ x.f0 ∧ 0 ≤ x.f1 ∧ x.f1 ≤ x.f2 ∧ x.f2 ≤ 100000 := by
  unfold exB at h
  simp only [Bool.and_eq_true, decide_eq_true_eq] at h
  exact exRun_mem l [] h.2
theorem siB_len {l : List Sight} (h : siB l = true) : l.length ≤ 6 := by
  unfold siB at h
  simp only [Bool.and_eq_true, decide_eq_true_eq] at h
  exact h.1
theorem siRun_mem : ∀ (l s : List Sight), siRun s l = true → ∀ x ∈ l, 0 ≤ x.f0 ∧ x.f0 ≤ 100000 ∧ 0 ≤ x.f1
  | [], _, _, x, hx => by simp at hx
  | y :: l, s, h, x, hx => by
    simp only [siRun, Bool.and_eq_true, decide_eq_true_eq] at h
    rcases List.mem_cons.1 hx with rfl | hx
    · exact h.1.1.1
    · exact siRun_mem l _ h.2 x hx
theorem siB_mem {l : List Sight} (h : siB l = true) : ∀ x ∈ l, 0 ≤ x.f0 ∧ x.f0 ≤ 100000 ∧ 0 ≤ x.f1 := by
  unfold siB at h
  simp only [Bool.and_eq_true, decide_eq_true_eq] at h
  exact siRun_mem l [] h.2
theorem bestE_mem (ls : List Sight) (x : Sight) (out : List Int) : ∀ (l : List Expect) (b : Option Expect) (w : Expect), bestE ls x out b l = some w → b = some w ∨ (w ∈ l ∧ x.f1 = 0)
  | [], b, w, h => .inl h
  | e :: l, b, w, h => by
    rw [bestE] at h
    rcases bestE_mem ls x out l _ w h with h1 | h1
    · unfold nextE at h1
      split at h1
      · rename_i c
        have hx : x.f1 = 0 := by
          simp only [fitB, Bool.and_eq_true, decide_eq_true_eq] at c
          exact c.1.1.1
        cases b with
        | none => rw [pickE] at h1; obtain rfl := Option.some.inj h1; exact .inr ⟨by simp, hx⟩
        | some v =>
          rw [pickE] at h1
          split at h1
          · obtain rfl := Option.some.inj h1; exact .inr ⟨by simp, hx⟩
          · exact .inl h1
      · exact .inl h1
    · exact .inr ⟨by simp [h1.1], h1.2⟩
theorem asGo_len (es : List Expect) (ls : List Sight) : ∀ (l : List Sight) (out : List Int), (asGo es ls out l).length = out.length + l.length
  | [], out => rfl
  | x :: l, out => by rw [asGo, asGo_len es ls l]; simp; omega
theorem asR_len (es : List Expect) (ls : List Sight) : (asR es ls).length ≤ 6 := by
  unfold asR
  split
  · rename_i h
    rw [asGo_len]
    have := siB_len h.2
    simpa using this
  · simp
theorem spec_ex_seen (l : List Expect) (hl : l.length ≤ 6) (i : Nat) (hi : i < l.length) (r : Bool) (hr : (l.take i).any (fun y => y.f0 == (rd_T47 l (i : Int)).f0) = false → Ev (fun k => spec_ExpectOk.l0 k l ((i + 1 : Nat) : Int)) r) (hf : (l.take i).any (fun y => y.f0 == (rd_T47 l (i : Int)).f0) = true → r = false) (d : Nat) : ∀ j : Nat, j + d = i → (l.take j).any (fun y => y.f0 == (rd_T47 l (i : Int)).f0) = false → Ev (fun k => spec_ExpectOk.l1 k l i j) r := by
  induction d with
  | zero =>
    intro j hj h
    have e1 : wrap64 ((i : Int) + 1) = ((i + 1 : Nat) : Int) := w64 (by omega) (by omega)
    obtain rfl : j = i := by omega
    exact Ev.step (fun k => by rw [spec_ExpectOk.l1, if_neg (show ¬ (j : Int) < (j : Int) by omega), e1]) (hr h)
  | succ d ih =>
    intro j hj h
    have e1 : wrap64 ((j : Int) + 1) = ((j + 1 : Nat) : Int) := w64 (by omega) (by omega)
    refine Ev.step (fun k => by rw [spec_ExpectOk.l1, if_pos (show (j : Int) < (i : Int) by omega), if_pos (show (0 : Int) ≤ (j : Int) by omega), if_pos (show (j : Int) < (l.length : Int) by omega), if_pos (show (0 : Int) ≤ (i : Int) by omega), if_pos (show (i : Int) < (l.length : Int) by omega), e1]) ?_
    by_cases c : (rd_T47 l (j : Int)).f0 = (rd_T47 l (i : Int)).f0
    · simp only [if_pos c]
      refine ev_some (hf ?_).symm
      rw [rd_Expect l j (by omega)] at c
      exact List.any_eq_true.2 ⟨l[j], List.mem_take_iff_getElem.2 ⟨j, by omega, rfl⟩, by simp [c]⟩
    · simp only [if_neg c]
      refine ih (j + 1) (by omega) ?_
      rw [take_Expect l j (by omega), List.any_append, h]
      simp [c]
theorem spec_ex_loop (l : List Expect) (hl : l.length ≤ 6) (d : Nat) : ∀ i : Nat, i + d = l.length → Ev (fun k => spec_ExpectOk.l0 k l i) (exRun (l.take i) (l.drop i)) := by
  induction d with
  | zero =>
    intro i hi
    rw [List.drop_eq_nil_of_le (by omega)]
    exact Ev.step (f := fun _ => some true) (fun k => by rw [spec_ExpectOk.l0, if_neg (show ¬ (i : Int) < (l.length : Int) by omega)]) (Ev.now _)
  | succ d ih =>
    intro i hi
    have hlt : i < l.length := by omega
    rw [drop_Expect l i hlt, exRun, ← take_Expect l i hlt]
    refine Ev.step (fun k => by rw [spec_ExpectOk.l0, if_pos (show (i : Int) < (l.length : Int) by omega), if_pos (show (0 : Int) ≤ (i : Int) by omega)]) ?_
    have hno : Ev (fun k => spec_ExpectOk.j1 k l i true) false := Ev.step (fun k => by rw [spec_ExpectOk.j1, if_pos rfl]) (Ev.now _)
    by_cases c : 1 ≤ (rd_T47 l (i : Int)).f0 ∧ 0 ≤ (rd_T47 l (i : Int)).f1 ∧ (rd_T47 l (i : Int)).f1 ≤ (rd_T47 l (i : Int)).f2 ∧ (rd_T47 l (i : Int)).f2 ≤ 100000
    · rw [decide_eq_true c, Bool.true_and]
      simp only [if_neg (show ¬ (rd_T47 l (i : Int)).f0 < 1 by omega), if_neg (show ¬ (rd_T47 l (i : Int)).f1 < 0 by omega), if_neg (show ¬ (rd_T47 l (i : Int)).f2 < (rd_T47 l (i : Int)).f1 by omega), decide_eq_false (show ¬ (rd_T47 l (i : Int)).f2 > 100000 by omega)]
      refine Ev.step (fun k => by rw [spec_ExpectOk.j1, if_neg (by decide)]) ?_
      refine spec_ex_seen l hl i hlt _ (fun h => ?_) (fun h => ?_) i 0 (by omega) (by simp)
      · rw [h]
        simpa using ih (i + 1) (by omega)
      · rw [h]; rfl
    · rw [decide_eq_false c, Bool.false_and, Bool.false_and]
      by_cases c1 : (rd_T47 l (i : Int)).f0 < 1
      · simp only [if_pos c1]; exact hno
      · by_cases c2 : (rd_T47 l (i : Int)).f1 < 0
        · simp only [if_neg c1, if_pos c2]; exact hno
        · by_cases c3 : (rd_T47 l (i : Int)).f2 < (rd_T47 l (i : Int)).f1
          · simp only [if_neg c1, if_neg c2, if_pos c3]; exact hno
          · simp only [if_neg c1, if_neg c2, if_neg c3, decide_eq_true (show (rd_T47 l (i : Int)).f2 > 100000 by omega)]; exact hno
theorem spec_ex_ev (l : List Expect) : Ev (fun k => spec_ExpectOk.f k l) (exB l) := by
  unfold spec_ExpectOk.f exB
  by_cases h : (l.length : Int) > 6
  · rw [decide_eq_false (show ¬ l.length ≤ 6 by omega)]
    simp only [if_pos h]; exact Ev.now _
  · rw [decide_eq_true (show l.length ≤ 6 by omega)]
    simp only [if_neg h]
    simpa using spec_ex_loop l (by omega) l.length 0 (by omega)
theorem spec_in (x a b : Int) : spec_l01In.f x a b = some (decide (a ≤ x ∧ x ≤ b)) := by
  unfold spec_l01In.f
  by_cases h : x ≥ a
  · rw [if_pos h]; congr 1; simp; omega
  · rw [if_neg h]; congr 1; simp; omega
theorem spec_si_seen (l : List Sight) (hl : l.length ≤ 6) (i : Nat) (hi : i < l.length) (r : Bool) (hr : (decide ((rd_T49 l (i : Int)).f1 = 0) || !((l.take i).any (fun y => y.f1 == (rd_T49 l (i : Int)).f1))) = true → Ev (fun k => spec_SightsOk.l0 k l ((i + 1 : Nat) : Int)) r) (hf : (decide ((rd_T49 l (i : Int)).f1 = 0) || !((l.take i).any (fun y => y.f1 == (rd_T49 l (i : Int)).f1))) = false → r = false) (d : Nat) : ∀ j : Nat, j + d = i → (decide ((rd_T49 l (i : Int)).f1 = 0) || !((l.take j).any (fun y => y.f1 == (rd_T49 l (i : Int)).f1))) = true → Ev (fun k => spec_SightsOk.l1 k l i j) r := by
  induction d with
  | zero =>
    intro j hj h
    have e1 : wrap64 ((i : Int) + 1) = ((i + 1 : Nat) : Int) := w64 (by omega) (by omega)
    obtain rfl : j = i := by omega
    exact Ev.step (fun k => by rw [spec_SightsOk.l1, if_neg (show ¬ (j : Int) < (j : Int) by omega), e1]) (hr h)
  | succ d ih =>
    intro j hj h
    have e1 : wrap64 ((j : Int) + 1) = ((j + 1 : Nat) : Int) := w64 (by omega) (by omega)
    refine Ev.step (fun k => by rw [spec_SightsOk.l1, if_pos (show (j : Int) < (i : Int) by omega), if_pos (show (0 : Int) ≤ (i : Int) by omega), if_pos (show (i : Int) < (l.length : Int) by omega), if_pos (show (0 : Int) ≤ (j : Int) by omega), if_pos (show (j : Int) < (l.length : Int) by omega), e1]) ?_
    by_cases c0 : (rd_T49 l (i : Int)).f1 = 0
    · simp only [if_pos c0]
      exact ih (j + 1) (by omega) (by rw [decide_eq_true c0]; rfl)
    · simp only [if_neg c0]
      rw [decide_eq_false c0, Bool.false_or] at h hf
      simp only [decide_eq_false c0, Bool.false_or] at ih
      by_cases c : (rd_T49 l (j : Int)).f1 = (rd_T49 l (i : Int)).f1
      · simp only [if_pos c]
        refine ev_some (hf ?_).symm
        rw [rd_Sight l j (by omega)] at c
        rw [List.any_eq_true.2 ⟨l[j], List.mem_take_iff_getElem.2 ⟨j, by omega, rfl⟩, by simp [c]⟩]
        rfl
      · simp only [if_neg c]
        refine ih (j + 1) (by omega) ?_
        rw [take_Sight l j (by omega), List.any_append]
        simp only [Bool.not_eq_true'] at h
        rw [h]
        simp [c]
theorem spec_si_loop (l : List Sight) (hl : l.length ≤ 6) (d : Nat) : ∀ i : Nat, i + d = l.length → Ev (fun k => spec_SightsOk.l0 k l i) (siRun (l.take i) (l.drop i)) := by
  induction d with
  | zero =>
    intro i hi
    rw [List.drop_eq_nil_of_le (by omega)]
    exact Ev.step (f := fun _ => some true) (fun k => by rw [spec_SightsOk.l0, if_neg (show ¬ (i : Int) < (l.length : Int) by omega)]) (Ev.now _)
  | succ d ih =>
    intro i hi
    have hlt : i < l.length := by omega
    rw [drop_Sight l i hlt, siRun, ← take_Sight l i hlt]
    refine Ev.step (fun k => by rw [spec_SightsOk.l0, if_pos (show (i : Int) < (l.length : Int) by omega), if_pos (show (0 : Int) ≤ (i : Int) by omega), spec_in, Option.bind_some]) ?_
    have hno : Ev (fun k => spec_SightsOk.j1 k l i true) false := Ev.step (fun k => by rw [spec_SightsOk.j1, if_pos rfl]) (Ev.now _)
    have hyes : Ev (fun k => spec_SightsOk.j1 k l i false) ((decide ((rd_T49 l (i : Int)).f1 = 0) || !((l.take i).any (fun y => y.f1 == (rd_T49 l (i : Int)).f1))) && siRun (l.take (i + 1)) (l.drop (i + 1))) := by
      refine Ev.step (fun k => by rw [spec_SightsOk.j1, if_neg (by decide)]) ?_
      refine spec_si_seen l hl i hlt _ (fun h => ?_) (fun h => ?_) i 0 (by omega) (by simp)
      · rw [h]
        simpa using ih (i + 1) (by omega)
      · rw [h]; rfl
    by_cases c : 0 ≤ (rd_T49 l (i : Int)).f0 ∧ (rd_T49 l (i : Int)).f0 ≤ 100000
    · simp only [if_pos (decide_eq_true c)]
      by_cases c2 : (rd_T49 l (i : Int)).f1 < 0
      · rw [decide_eq_false (show ¬ (0 ≤ (rd_T49 l (i : Int)).f0 ∧ (rd_T49 l (i : Int)).f0 ≤ 100000 ∧ 0 ≤ (rd_T49 l (i : Int)).f1) by omega)]
        simp only [if_pos c2, Bool.false_and]; exact hno
      · rw [decide_eq_true (show (0 ≤ (rd_T49 l (i : Int)).f0 ∧ (rd_T49 l (i : Int)).f0 ≤ 100000 ∧ 0 ≤ (rd_T49 l (i : Int)).f1) by omega), Bool.true_and]
        simp only [if_neg c2]
        by_cases c3 : i = 0
        · subst c3
          rw [siAft_zero, Bool.true_and]
          simp only [if_neg (show ¬ ((0 : Nat) : Int) > 0 by omega)]
          exact hyes
        · have e2 : wrap64 ((i : Int) - 1) = ((i - 1 : Nat) : Int) := by rw [w64 (by omega) (by omega)]; omega
          rw [siAft_pos l i _ (by omega) (by omega), e2]
          simp only [if_pos (show (i : Int) > 0 by omega), if_pos (show (0 : Int) ≤ ((i - 1 : Nat) : Int) by omega), if_pos (show ((i - 1 : Nat) : Int) < (l.length : Int) by omega)]
          by_cases c4 : (rd_T49 l (i : Int)).f0 < (rd_T49 l ((i - 1 : Nat) : Int)).f0
          · rw [decide_eq_true c4, decide_eq_false (show ¬ (rd_T49 l ((i - 1 : Nat) : Int)).f0 ≤ (rd_T49 l (i : Int)).f0 by omega), Bool.false_and, Bool.false_and]
            exact hno
          · rw [decide_eq_false c4, decide_eq_true (show (rd_T49 l ((i - 1 : Nat) : Int)).f0 ≤ (rd_T49 l (i : Int)).f0 by omega), Bool.true_and]
            exact hyes
    · rw [decide_eq_false c, decide_eq_false (show ¬ (0 ≤ (rd_T49 l (i : Int)).f0 ∧ (rd_T49 l (i : Int)).f0 ≤ 100000 ∧ 0 ≤ (rd_T49 l (i : Int)).f1) by omega)]
      simp only [Bool.false_eq_true, if_false, Bool.false_and]; exact hno
theorem spec_si_ev (l : List Sight) : Ev (fun k => spec_SightsOk.f k l) (siB l) := by
  unfold spec_SightsOk.f siB
  by_cases h : (l.length : Int) > 6
  · rw [decide_eq_false (show ¬ l.length ≤ 6 by omega)]
    simp only [if_pos h]; exact Ev.now _
  · rw [decide_eq_true (show l.length ≤ 6 by omega)]
    simp only [if_neg h]
    simpa using spec_si_loop l (by omega) l.length 0 (by omega)
theorem spec_fits_loop (es : List Expect) (ls : List Sight) (hl : ls.length ≤ 6) (i e : Nat) (hi : i < ls.length) (he : e < es.length) (d : Nat) : ∀ j : Nat, j + d = ls.length → (ls.take j).any (fun y => y.f1 == (rd_T47 es (e : Int)).f0) = false → Ev (fun k => spec_l03Fits.l0 k es ls i e j) (fitB ls (rd_T49 ls (i : Int)) (rd_T47 es (e : Int))) := by
  induction d with
  | zero =>
    intro j hj h
    rw [List.take_of_length_le (by omega)] at h
    refine Ev.step (fun k => by rw [spec_l03Fits.l0, if_neg (show ¬ (j : Int) < (ls.length : Int) by omega), if_pos (show (0 : Int) ≤ (i : Int) by omega), if_pos (show (i : Int) < (ls.length : Int) by omega), if_pos (show (0 : Int) ≤ (e : Int) by omega), if_pos (show (e : Int) < (es.length : Int) by omega), spec_in, Option.bind_some]) ?_
    unfold fitB
    rw [h]
    by_cases c : (rd_T49 ls (i : Int)).f1 = 0
    · simp only [if_pos c]; exact ev_some (by simp [c])
    · simp only [if_neg c]; exact ev_some (by simp [c])
  | succ d ih =>
    intro j hj h
    have e1 : wrap64 ((j : Int) + 1) = ((j + 1 : Nat) : Int) := w64 (by omega) (by omega)
    refine Ev.step (fun k => by rw [spec_l03Fits.l0, if_pos (show (j : Int) < (ls.length : Int) by omega), if_pos (show (0 : Int) ≤ (j : Int) by omega), if_pos (show (0 : Int) ≤ (e : Int) by omega), if_pos (show (e : Int) < (es.length : Int) by omega), e1]) ?_
    by_cases c : (rd_T49 ls (j : Int)).f1 = (rd_T47 es (e : Int)).f0
    · simp only [if_pos c]
      refine ev_some ?_
      unfold fitB
      rw [rd_Sight ls j (by omega)] at c
      rw [List.any_eq_true.2 ⟨ls[j], List.getElem_mem _, by simp [c]⟩]
      simp
    · simp only [if_neg c]
      refine ih (j + 1) (by omega) ?_
      rw [take_Sight ls j (by omega), List.any_append, h]
      simp [c]
theorem spec_fits_ev (es : List Expect) (ls : List Sight) (hl : ls.length ≤ 6) (i e : Nat) (hi : i < ls.length) (he : e < es.length) : Ev (fun k => spec_l03Fits.f k es ls i e) (fitB ls (rd_T49 ls (i : Int)) (rd_T47 es (e : Int))) := by
  unfold spec_l03Fits.f
  exact spec_fits_loop es ls hl i e hi he ls.length 0 (by omega) (by simp)
theorem spec_has_loop (l : List Int) (hl : l.length ≤ 100) (q : Int) (d : Nat) : ∀ j : Nat, j + d = l.length → Ev (fun k => spec_l03Has.l0 k l q j) ((l.drop j).any (fun y => y == q)) := by
  induction d with
  | zero =>
    intro j hj
    rw [List.drop_eq_nil_of_le (by omega)]
    exact Ev.step (f := fun _ => some false) (fun k => by rw [spec_l03Has.l0, if_neg (show ¬ (j : Int) < (l.length : Int) by omega)]) (Ev.now _)
  | succ d ih =>
    intro j hj
    have e1 : wrap64 ((j : Int) + 1) = ((j + 1 : Nat) : Int) := w64 (by omega) (by omega)
    rw [drop_int l j (by omega), List.any_cons]
    refine Ev.step (fun k => by rw [spec_l03Has.l0, if_pos (show (j : Int) < (l.length : Int) by omega), if_pos (show (0 : Int) ≤ (j : Int) by omega), e1]) ?_
    by_cases c : rd l (j : Int) = q
    · simp only [if_pos c]; exact ev_some (by simp [c])
    · simp only [if_neg c]
      rw [show (rd l (j : Int) == q) = false by simp [c], Bool.false_or]
      exact ih (j + 1) (by omega)
theorem spec_has_ev (l : List Int) (hl : l.length ≤ 100) (q : Int) : Ev (fun k => spec_l03Has.f k l q) (l.any (fun y => y == q)) := by
  unfold spec_l03Has.f
  simpa using spec_has_loop l hl q l.length 0 (by omega)
/-- The index of the best window so far. -/
def atE (es : List Expect) (x : Int) (b : Option Expect) : Prop := (x = -1 ∧ b = none) ∨ ∃ j : Nat, j < es.length ∧ x = j ∧ b = some (rd_T47 es (j : Int))
theorem spec_as_in (es : List Expect) (ls : List Sight) (hes : es.length ≤ 6) (hl : ls.length ≤ 6) (out : List Int) (ho : out.length ≤ 6) (i : Nat) (hi : i < ls.length) (r : List Int) (hr : ∀ x8 x7 b, atE es x7 b → b = bestE ls (rd_T49 ls (i : Int)) out none es → Ev (fun k => spec_Assign.j3 k es ls out i x7 x8 false) r) (hf : (rd_T49 ls (i : Int)).f1 = 0) (d : Nat) : ∀ (e : Nat) (x7 : Int) (b : Option Expect), e + d = es.length → atE es x7 b → bestE ls (rd_T49 ls (i : Int)) out b (es.drop e) = bestE ls (rd_T49 ls (i : Int)) out none es → Ev (fun k => spec_Assign.l1 k es ls out i x7 e) r := by
  induction d with
  | zero =>
    intro e x7 b he ha hb
    rw [List.drop_eq_nil_of_le (by omega)] at hb
    refine Ev.step (fun k => by rw [spec_Assign.l1, if_neg (show ¬ (e : Int) < (es.length : Int) by omega)]) (hr _ _ _ ha hb)
  | succ d ih =>
    intro e x7 b he ha hb
    have hlt : e < es.length := by omega
    have e1 : wrap64 ((e : Int) + 1) = ((e + 1 : Nat) : Int) := w64 (by omega) (by omega)
    rw [drop_Expect es e hlt, bestE, nextE] at hb
    refine Ev.step (fun k => by rw [spec_Assign.l1, if_pos (show (e : Int) < (es.length : Int) by omega), if_pos (show (0 : Int) ≤ (i : Int) by omega), if_pos (show (i : Int) < (ls.length : Int) by omega), hf]) ?_
    refine Ev.step (fun k => by rw [spec_Assign.j3, if_pos (by rfl)]) ?_
    have hkeep : Ev (fun k => spec_Assign.l1 k es ls out i x7 ((e + 1 : Nat) : Int)) r → Ev (fun k => spec_Assign.j4 k es ls out i x7 e true) r := fun h => Ev.step (fun k => by rw [spec_Assign.j4, if_pos rfl, e1]) h
    refine ev_bind _ (spec_fits_ev es ls hl i e hi hlt) ?_
    cases c : fitB ls (rd_T49 ls (i : Int)) (rd_T47 es (e : Int)) with
    | false =>
      simp only [Bool.false_eq_true, if_false]
      rw [c, Bool.false_and, if_neg (by decide)] at hb
      exact hkeep (ih (e + 1) x7 b (by omega) ha hb)
    | true =>
      simp only [if_true, if_pos (show (0 : Int) ≤ (e : Int) by omega), if_pos (show (e : Int) < (es.length : Int) by omega)]
      refine ev_bind _ (spec_has_ev out (by omega) _) ?_
      cases c2 : out.any (fun y => y == (rd_T47 es (e : Int)).f0) with
      | true =>
        rw [c, c2, if_neg (by decide)] at hb
        exact hkeep (ih (e + 1) x7 b (by omega) ha hb)
      | false =>
        rw [c, c2, if_pos (by decide)] at hb
        refine Ev.step (fun k => by rw [spec_Assign.j4, if_neg (by decide), e1]) ?_
        have hnew : atE es (e : Int) (some (rd_T47 es (e : Int))) := .inr ⟨e, hlt, rfl, rfl⟩
        rcases ha with ⟨rfl, rfl⟩ | ⟨j, hj, rfl, rfl⟩
        · simp only [if_pos (show (-1 : Int) < 0 by omega)]
          exact ih (e + 1) e _ (by omega) hnew hb
        · simp only [if_neg (show ¬ (j : Int) < 0 by omega), if_pos (show (0 : Int) ≤ (e : Int) by omega), if_pos (show (e : Int) < (es.length : Int) by omega), if_pos (show (0 : Int) ≤ (j : Int) by omega), if_pos (show (j : Int) < (es.length : Int) by omega)]
          have hold : atE es (j : Int) (some (rd_T47 es (j : Int))) := .inr ⟨j, hj, rfl, rfl⟩
          rw [pickE] at hb
          unfold betB at hb
          by_cases c3 : (rd_T47 es (e : Int)).f2 < (rd_T47 es (j : Int)).f2
          · simp only [if_pos c3]
            rw [decide_eq_true c3, if_pos (by rfl)] at hb
            exact ih (e + 1) e _ (by omega) hnew hb
          · simp only [if_neg c3]
            rw [decide_eq_false c3] at hb
            by_cases c4 : (rd_T47 es (e : Int)).f2 = (rd_T47 es (j : Int)).f2
            · simp only [if_pos c4]
              rw [decide_eq_true c4] at hb
              by_cases c5 : (rd_T47 es (e : Int)).f0 < (rd_T47 es (j : Int)).f0
              · simp only [if_pos c5]
                rw [decide_eq_true c5, if_pos (by rfl)] at hb
                exact ih (e + 1) e _ (by omega) hnew hb
              · simp only [if_neg c5]
                rw [decide_eq_false c5, if_neg (by decide)] at hb
                exact ih (e + 1) j _ (by omega) hold hb
            · simp only [if_neg c4]
              rw [decide_eq_false c4, if_neg (by simp)] at hb
              exact ih (e + 1) j _ (by omega) hold hb
theorem bestE_named (ls : List Sight) (x : Sight) (out : List Int) (h : x.f1 ≠ 0) : ∀ (l : List Expect) (b : Option Expect), bestE ls x out b l = b
  | [], b => rfl
  | e :: l, b => by
    rw [bestE, nextE, show fitB ls x e = false by unfold fitB; rw [decide_eq_false h]; rfl, Bool.false_and, if_neg (by decide), bestE_named ls x out h l]
theorem spec_as_loop (es : List Expect) (ls : List Sight) (hes : es.length ≤ 6) (hl : ls.length ≤ 6) (d : Nat) : ∀ (i : Nat) (out : List Int), i + d = ls.length → out.length = i → Ev (fun k => spec_Assign.l0 k es ls out i) (asGo es ls out (ls.drop i)) := by
  induction d with
  | zero =>
    intro i out hi ho
    rw [List.drop_eq_nil_of_le (by omega)]
    exact Ev.step (f := fun _ => some out) (fun k => by rw [spec_Assign.l0, if_neg (show ¬ (i : Int) < (ls.length : Int) by omega)]) (Ev.now _)
  | succ d ih =>
    intro i out hi ho
    have hlt : i < ls.length := by omega
    have e1 : wrap64 ((i : Int) + 1) = ((i + 1 : Nat) : Int) := w64 (by omega) (by omega)
    rw [drop_Sight ls i hlt, asGo]
    refine Ev.step (fun k => by rw [spec_Assign.l0, if_pos (show (i : Int) < (ls.length : Int) by omega)]) ?_
    have hr : ∀ x8 x7 b, atE es x7 b → b = bestE ls (rd_T49 ls (i : Int)) out none es → Ev (fun k => spec_Assign.j3 k es ls out i x7 x8 false) (asGo es ls (out ++ [bagOf (rd_T49 ls (i : Int)) (bestE ls (rd_T49 ls (i : Int)) out none es)]) (ls.drop (i + 1))) := by
      intro x8 x7 b ha hb
      rw [← hb]
      refine Ev.step (fun k => by rw [spec_Assign.j3, if_neg (by decide), e1]) ?_
      rcases ha with ⟨rfl, rfl⟩ | ⟨j, hj, rfl, rfl⟩
      · simp only [if_neg (show ¬ (-1 : Int) ≥ 0 by omega), if_pos (show (0 : Int) ≤ (i : Int) by omega), if_pos (show (i : Int) < (ls.length : Int) by omega), if_pos (show out.length < 17592186044416 by omega)]
        exact ih (i + 1) _ (by omega) (by simp [ho])
      · simp only [if_pos (show (j : Int) ≥ 0 by omega), if_pos (show (0 : Int) ≤ (j : Int) by omega), if_pos (show (j : Int) < (es.length : Int) by omega), if_pos (show out.length < 17592186044416 by omega)]
        exact ih (i + 1) _ (by omega) (by simp [ho])
    by_cases hf : (rd_T49 ls (i : Int)).f1 = 0
    · exact spec_as_in es ls hes hl out (by omega) i hlt _ hr hf es.length 0 (-1) none (by omega) (.inl ⟨rfl, rfl⟩) (by simp)
    · have hb : none = bestE ls (rd_T49 ls (i : Int)) out none es := (bestE_named ls _ out hf es none).symm
      by_cases c : (0 : Int) < (es.length : Int)
      · refine Ev.step (fun k => by rw [spec_Assign.l1, if_pos c, if_pos (show (0 : Int) ≤ (i : Int) by omega), if_pos (show (i : Int) < (ls.length : Int) by omega), show ((rd_T49 ls (i : Int)).f1 == 0) = false by simp [hf]]) ?_
        exact hr _ _ _ (.inl ⟨rfl, rfl⟩) hb
      · refine Ev.step (fun k => by rw [spec_Assign.l1, if_neg c]) ?_
        exact hr _ _ _ (.inl ⟨rfl, rfl⟩) hb
theorem spec_as_ev (es : List Expect) (ls : List Sight) : Ev (fun k => spec_Assign.f k es ls) (asR es ls) := by
  unfold spec_Assign.f asR
  simp only [Option.bind_some]
  have hno : Ev (fun k => spec_Assign.j0 k es ls [] true) [] := Ev.step (fun k => by rw [spec_Assign.j0, if_pos rfl]) (Ev.now _)
  refine ev_bind _ (spec_ex_ev es) ?_
  cases h : exB es with
  | false => simp only [Bool.false_eq_true, if_false, false_and]; exact hno
  | true =>
    simp only [if_true, true_and]
    refine ev_bind _ (spec_si_ev ls) ?_
    cases h2 : siB ls with
    | false => simp only [Bool.false_eq_true, if_false]; exact hno
    | true =>
      simp only [if_true]
      refine Ev.step (fun k => by rw [spec_Assign.j0, if_neg (by decide)]) ?_
      simpa using spec_as_loop es ls (exB_len h) (siB_len h2) ls.length 0 [] (by omega) rfl
theorem ex_go : ∀ (l s : List Expect), impl_ExpectOk.go s l = exRun s l
  | [], s => rfl
  | x :: l, s => by
    unfold impl_ExpectOk.go exRun
    by_cases c : x.f0 < 1 ∨ x.f1 < 0 ∨ x.f2 < x.f1 ∨ x.f2 > 100000 ∨ s.any (fun y => y.f0 == x.f0) = true
    · rw [if_pos c]
      cases e : s.any (fun y => y.f0 == x.f0) with
      | true => simp
      | false =>
        rw [e] at c
        rw [decide_eq_false (show ¬ (1 ≤ x.f0 ∧ 0 ≤ x.f1 ∧ x.f1 ≤ x.f2 ∧ x.f2 ≤ 100000) by simp at c; omega)]
        simp
    · rw [if_neg c]
      have e : s.any (fun y => y.f0 == x.f0) = false := by
        cases e : s.any (fun y => y.f0 == x.f0) with
        | true => exact absurd (.inr (.inr (.inr (.inr e)))) c
        | false => rfl
      rw [e, decide_eq_true (show 1 ≤ x.f0 ∧ 0 ≤ x.f1 ∧ x.f1 ≤ x.f2 ∧ x.f2 ≤ 100000 by omega), ex_go l]
      simp
theorem impl_ex (l : List Expect) : impl_ExpectOk.f l = some (exB l) := by
  unfold impl_ExpectOk.f exB
  rw [ex_go, Bool.and_comm]
  congr 2
  simp; omega
theorem impl_tick (x : Int) : impl_isTick.f x = some (decide (0 ≤ x ∧ x ≤ 100000)) := by
  unfold impl_isTick.f
  by_cases h : x ≥ 0
  · rw [if_pos h]; congr 1; simp; omega
  · rw [if_neg h]; congr 1; simp; omega
theorem impl_si_loop (l : List Sight) (hl : l.length ≤ 1048600) (d : Nat) : ∀ i : Nat, i + d = l.length → Ev (fun k => impl_SightsOk.l0 k l l (l.length : Int) i) (siRun (l.take i) (l.drop i) && decide (l.length ≤ 6)) := by
  induction d with
  | zero =>
    intro i hi
    rw [List.drop_eq_nil_of_le (by omega), siRun, Bool.true_and]
    exact Ev.step (f := fun _ => some (decide ((l.length : Int) ≤ 6))) (fun k => by rw [impl_SightsOk.l0, if_neg (show ¬ (i : Int) < (l.length : Int) by omega)]) (ev_some (by simp; omega))
  | succ d ih =>
    intro i hi
    have hlt : i < l.length := by omega
    have e1 : wrap64 ((i : Int) + 1) = ((i + 1 : Nat) : Int) := w64 (by omega) (by omega)
    rw [drop_Sight l i hlt, siRun, ← take_Sight l i hlt]
    refine Ev.step (fun k => by rw [impl_SightsOk.l0, if_pos (show (i : Int) < (l.length : Int) by omega), if_pos (show (0 : Int) ≤ (i : Int) by omega), if_pos (show (i : Int) < (l.length : Int) by omega), impl_tick, Option.bind_some]) ?_
    have hno : ∀ b c, Ev (fun k => impl_SightsOk.j1 k l i l (l.length : Int) i true b c) false := fun b c => Ev.step (fun k => by rw [impl_SightsOk.j1, if_pos rfl]) (Ev.now _)
    have hyes : ∀ b, Ev (fun k => impl_SightsOk.j1 k l i l (l.length : Int) i false b (rd_T49 l (i : Int)).f1) (((decide ((rd_T49 l (i : Int)).f1 = 0) || !((l.take i).any (fun y => y.f1 == (rd_T49 l (i : Int)).f1))) && siRun (l.take (i + 1)) (l.drop (i + 1))) && decide (l.length ≤ 6)) := fun b => by
      refine Ev.step (fun k => by rw [impl_SightsOk.j1, if_neg (by decide), e1]) ?_
      by_cases c : (rd_T49 l (i : Int)).f1 = 0
      · rw [decide_eq_true c]
        simp only [if_pos c, Bool.true_or, Bool.true_and]
        exact ih (i + 1) (by omega)
      · rw [decide_eq_false c, Bool.false_or]
        simp only [if_neg c, if_pos (show (0 : Int) ≤ (i : Int) by omega), if_pos (show (i : Int) ≤ (l.length : Int) by omega), impl_isNamed.f, Option.bind_some, Int.toNat_natCast]
        cases h : (l.take i).any (fun y => y.f1 == (rd_T49 l (i : Int)).f1) with
        | true => simp only [if_true, Bool.not_true, Bool.false_and]; exact Ev.now _
        | false =>
          simp only [Bool.false_eq_true, if_false, Bool.not_false, Bool.true_and]
          exact ih (i + 1) (by omega)
    by_cases c : 0 ≤ (rd_T49 l (i : Int)).f0 ∧ (rd_T49 l (i : Int)).f0 ≤ 100000
    · simp only [if_pos (decide_eq_true c)]
      by_cases c3 : i = 0
      · subst c3
        rw [siAft_zero, Bool.and_true]
        simp only [if_neg (show ¬ ((0 : Nat) : Int) > 0 by omega)]
        by_cases c2 : (rd_T49 l ((0 : Nat) : Int)).f1 < 0
        · rw [decide_eq_false (show ¬ (0 ≤ (rd_T49 l ((0 : Nat) : Int)).f0 ∧ (rd_T49 l ((0 : Nat) : Int)).f0 ≤ 100000 ∧ 0 ≤ (rd_T49 l ((0 : Nat) : Int)).f1) by omega), decide_eq_true c2]
          simp only [Bool.false_and]; exact hno _ _
        · rw [decide_eq_true (show (0 ≤ (rd_T49 l ((0 : Nat) : Int)).f0 ∧ (rd_T49 l ((0 : Nat) : Int)).f0 ≤ 100000 ∧ 0 ≤ (rd_T49 l ((0 : Nat) : Int)).f1) by omega), Bool.true_and, decide_eq_false c2]
          exact hyes _
      · have e2 : wrap64 ((i : Int) - 1) = ((i - 1 : Nat) : Int) := by rw [w64 (by omega) (by omega)]; omega
        rw [siAft_pos l i _ (by omega) (by omega), e2]
        simp only [if_pos (show (i : Int) > 0 by omega), if_pos (show (0 : Int) ≤ ((i - 1 : Nat) : Int) by omega), if_pos (show ((i - 1 : Nat) : Int) < (l.length : Int) by omega)]
        by_cases c4 : (rd_T49 l (i : Int)).f0 < (rd_T49 l ((i - 1 : Nat) : Int)).f0
        · rw [decide_eq_false (show ¬ (rd_T49 l ((i - 1 : Nat) : Int)).f0 ≤ (rd_T49 l (i : Int)).f0 by omega)]
          simp only [if_pos c4, Bool.and_false, Bool.false_and]
          exact hno _ _
        · rw [decide_eq_true (show (rd_T49 l ((i - 1 : Nat) : Int)).f0 ≤ (rd_T49 l (i : Int)).f0 by omega), Bool.and_true]
          simp only [if_neg c4]
          by_cases c2 : (rd_T49 l (i : Int)).f1 < 0
          · rw [decide_eq_false (show ¬ (0 ≤ (rd_T49 l (i : Int)).f0 ∧ (rd_T49 l (i : Int)).f0 ≤ 100000 ∧ 0 ≤ (rd_T49 l (i : Int)).f1) by omega), decide_eq_true c2]
            simp only [Bool.false_and]; exact hno _ _
          · rw [decide_eq_true (show (0 ≤ (rd_T49 l (i : Int)).f0 ∧ (rd_T49 l (i : Int)).f0 ≤ 100000 ∧ 0 ≤ (rd_T49 l (i : Int)).f1) by omega), Bool.true_and, decide_eq_false c2]
            exact hyes _
    · rw [decide_eq_false c, decide_eq_false (show ¬ (0 ≤ (rd_T49 l (i : Int)).f0 ∧ (rd_T49 l (i : Int)).f0 ≤ 100000 ∧ 0 ≤ (rd_T49 l (i : Int)).f1) by omega)]
      simp only [Bool.false_eq_true, if_false, Bool.false_and]; exact hno _ _
theorem impl_si_ev (l : List Sight) (hl : l.length ≤ 1048600) : Ev (fun k => impl_SightsOk.f k l) (siB l) := by
  unfold impl_SightsOk.f siB
  rw [Bool.and_comm]
  simpa using impl_si_loop l hl l.length 0 (by omega)
theorem impl_fits (ls : List Sight) (x : Sight) (e : Expect) : impl_fits.f ls x.f0 x.f1 e.f0 e.f1 e.f2 = some (fitB ls x e) := by
  unfold impl_fits.f fitB impl_isNamed.f
  by_cases c : x.f1 = 0
  · rw [if_pos c, Option.bind_some, decide_eq_true c]
    cases h : ls.any (fun y => y.f1 == e.f0) with
    | true => simp
    | false =>
      rw [if_neg (by decide)]
      by_cases c2 : x.f0 ≥ e.f1
      · rw [if_pos c2]; congr 1; simp; omega
      · rw [if_neg c2]; congr 1; simp; omega
  · rw [if_neg c, decide_eq_false c]; rfl
theorem index_loop (l : List Int) (hl : l.length ≤ 100) (q : Int) (d : Nat) : ∀ j : Nat, j + d = l.length → ∃ r, Ev (fun k => slices_Index_int_int.l0 k l q (l.length : Int) j) r ∧ decide (r ≥ 0) = (l.drop j).any (fun y => y == q) := by
  induction d with
  | zero =>
    intro j hj
    rw [List.drop_eq_nil_of_le (by omega)]
    exact ⟨-1, Ev.step (f := fun _ => some (-1)) (fun k => by rw [slices_Index_int_int.l0, if_neg (show ¬ (j : Int) < (l.length : Int) by omega)]) (Ev.now _), rfl⟩
  | succ d ih =>
    intro j hj
    have e1 : wrap64 ((j : Int) + 1) = ((j + 1 : Nat) : Int) := w64 (by omega) (by omega)
    rw [drop_int l j (by omega), List.any_cons]
    by_cases c : rd l (j : Int) = q
    · refine ⟨j, Ev.step (f := fun _ => some (j : Int)) (fun k => by rw [slices_Index_int_int.l0, if_pos (show (j : Int) < (l.length : Int) by omega), if_pos (show (0 : Int) ≤ (j : Int) by omega), if_pos (show (j : Int) < (l.length : Int) by omega), if_pos c.symm]) (Ev.now _), ?_⟩
      simp [c]
    · obtain ⟨r, h1, h2⟩ := ih (j + 1) (by omega)
      refine ⟨r, Ev.step (fun k => by rw [slices_Index_int_int.l0, if_pos (show (j : Int) < (l.length : Int) by omega), if_pos (show (0 : Int) ≤ (j : Int) by omega), if_pos (show (j : Int) < (l.length : Int) by omega), if_neg (fun h => c h.symm), e1]) h1, ?_⟩
      rw [show (rd l (j : Int) == q) = false by simp [c], Bool.false_or]
      exact h2
theorem contains_ev (l : List Int) (hl : l.length ≤ 100) (q : Int) : Ev (fun k => slices_Contains_int_int.f k l q) (l.any (fun y => y == q)) := by
  unfold slices_Contains_int_int.f slices_Index_int_int.f
  obtain ⟨r, h1, h2⟩ := index_loop l hl q l.length 0 (by omega)
  refine ev_bind r h1 ?_
  rw [h2, List.drop_zero]
  exact Ev.now _
/-- The best window so far, as the program keeps it. -/
def isE (w : Expect) (b : Option Expect) : Prop := (w.f0 = 0 ∧ b = none) ∨ (1 ≤ w.f0 ∧ b = some w)
theorem impl_as_in (es : List Expect) (ls : List Sight) (hes : es.length ≤ 6) (hm : ∀ e ∈ es, 1 ≤ e.f0) (out : List Int) (ho : out.length ≤ 6) (x15 : List Sight) (x16 x17 : Int) (x : Sight) (r : List Int) (hr : ∀ w b, isE w b → b = bestE ls x out none es → Ev (fun k => if out.length < 17592186044416 then impl_Assign.l0 k es ls (out ++ [mx x.f1 w.f0]) x15 x16 (wrap64 (x17 + 1)) else none) r) (d : Nat) : ∀ (e : Nat) (w : Expect) (b : Option Expect), e + d = es.length → isE w b → bestE ls x out b (es.drop e) = bestE ls x out none es → Ev (fun k => impl_Assign.l1 k es ls out x15 x16 x17 es (es.length : Int) e x.f0 x.f1 w.f0 w.f1 w.f2) r := by
  induction d with
  | zero =>
    intro e w b he ha hb
    rw [List.drop_eq_nil_of_le (by omega)] at hb
    exact Ev.step (fun k => by rw [impl_Assign.l1, if_neg (show ¬ (e : Int) < (es.length : Int) by omega)]) (hr _ _ ha hb)
  | succ d ih =>
    intro e w b he ha hb
    have hlt : e < es.length := by omega
    have e1 : wrap64 ((e : Int) + 1) = ((e + 1 : Nat) : Int) := w64 (by omega) (by omega)
    have hpos : 1 ≤ (rd_T47 es (e : Int)).f0 := hm _ (by rw [rd_Expect es e hlt]; exact List.getElem_mem _)
    rw [drop_Expect es e hlt, bestE, nextE] at hb
    refine Ev.step (fun k => by rw [impl_Assign.l1, if_pos (show (e : Int) < (es.length : Int) by omega), if_pos (show (0 : Int) ≤ (e : Int) by omega), if_pos (show (e : Int) < (es.length : Int) by omega), impl_fits, Option.bind_some]) ?_
    have hkeep : ∀ q0 q1 q2, Ev (fun k => impl_Assign.l1 k es ls out x15 x16 x17 es (es.length : Int) ((e + 1 : Nat) : Int) x.f0 x.f1 w.f0 w.f1 w.f2) r → Ev (fun k => impl_Assign.j2 k es ls out x15 x16 x17 es (es.length : Int) e true x.f0 x.f1 w.f0 w.f1 w.f2 q0 q1 q2) r := fun q0 q1 q2 h => Ev.step (fun k => by rw [impl_Assign.j2, if_pos rfl, e1]) h
    cases c : fitB ls x (rd_T47 es (e : Int)) with
    | false =>
      simp only [Bool.false_eq_true, if_false]
      rw [c, Bool.false_and, if_neg (by decide)] at hb
      exact hkeep _ _ _ (ih (e + 1) w b (by omega) ha hb)
    | true =>
      simp only [if_true]
      refine ev_bind _ (contains_ev out (by omega) _) ?_
      cases c2 : out.any (fun y => y == (rd_T47 es (e : Int)).f0) with
      | true =>
        rw [c, c2, if_neg (by decide)] at hb
        exact hkeep _ _ _ (ih (e + 1) w b (by omega) ha hb)
      | false =>
        rw [c, c2, if_pos (by decide)] at hb
        refine Ev.step (fun k => by rw [impl_Assign.j2, if_neg (by decide), e1]) ?_
        have hnew : isE (rd_T47 es (e : Int)) (some (rd_T47 es (e : Int))) := .inr ⟨hpos, rfl⟩
        rcases ha with ⟨h0, rfl⟩ | ⟨h0, rfl⟩
        · simp only [if_pos h0]
          exact ih (e + 1) _ _ (by omega) hnew hb
        · simp only [if_neg (show ¬ w.f0 = 0 by omega)]
          have hold : isE w (some w) := .inr ⟨h0, rfl⟩
          rw [pickE] at hb
          unfold betB at hb
          by_cases c3 : (rd_T47 es (e : Int)).f2 < w.f2
          · simp only [if_pos c3]
            rw [decide_eq_true c3, if_pos (by rfl)] at hb
            exact ih (e + 1) _ _ (by omega) hnew hb
          · simp only [if_neg c3]
            rw [decide_eq_false c3] at hb
            by_cases c4 : (rd_T47 es (e : Int)).f2 = w.f2
            · simp only [if_pos c4]
              rw [decide_eq_true c4] at hb
              by_cases c5 : (rd_T47 es (e : Int)).f0 < w.f0
              · simp only [if_pos c5]
                rw [decide_eq_true c5, if_pos (by rfl)] at hb
                exact ih (e + 1) _ _ (by omega) hnew hb
              · simp only [if_neg c5]
                rw [decide_eq_false c5, if_neg (by decide)] at hb
                exact ih (e + 1) _ _ (by omega) hold hb
            · simp only [if_neg c4]
              rw [decide_eq_false c4, if_neg (by simp)] at hb
              exact ih (e + 1) _ _ (by omega) hold hb
theorem impl_as_loop (es : List Expect) (ls : List Sight) (hes : es.length ≤ 6) (hm : ∀ e ∈ es, 1 ≤ e.f0) (hl : ls.length ≤ 6) (hs : ∀ x ∈ ls, 0 ≤ x.f1) (d : Nat) : ∀ (i : Nat) (out : List Int), i + d = ls.length → out.length = i → Ev (fun k => impl_Assign.l0 k es ls out ls (ls.length : Int) i) (asGo es ls out (ls.drop i)) := by
  induction d with
  | zero =>
    intro i out hi ho
    rw [List.drop_eq_nil_of_le (by omega)]
    exact Ev.step (f := fun _ => some out) (fun k => by rw [impl_Assign.l0, if_neg (show ¬ (i : Int) < (ls.length : Int) by omega)]) (Ev.now _)
  | succ d ih =>
    intro i out hi ho
    have hlt : i < ls.length := by omega
    have e1 : wrap64 ((i : Int) + 1) = ((i + 1 : Nat) : Int) := w64 (by omega) (by omega)
    have hx : 0 ≤ (rd_T49 ls (i : Int)).f1 := hs _ (by rw [rd_Sight ls i hlt]; exact List.getElem_mem _)
    rw [drop_Sight ls i hlt, asGo]
    refine Ev.step (fun k => by rw [impl_Assign.l0, if_pos (show (i : Int) < (ls.length : Int) by omega), if_pos (show (0 : Int) ≤ (i : Int) by omega), if_pos (show (i : Int) < (ls.length : Int) by omega)]) ?_
    refine impl_as_in es ls hes hm out (by omega) ls _ _ (rd_T49 ls (i : Int)) _ (fun w b ha hb => ?_) es.length 0 ⟨0, 0, 0⟩ none (by omega) (.inl ⟨rfl, rfl⟩) (by simp)
    rw [← hb, e1]
    simp only [if_pos (show out.length < 17592186044416 by omega)]
    have hbag : mx (rd_T49 ls (i : Int)).f1 w.f0 = bagOf (rd_T49 ls (i : Int)) b := by
      rcases ha with ⟨h0, rfl⟩ | ⟨h0, rfl⟩
      · unfold mx bagOf; rw [h0, if_neg (by omega)]
      · have := bestE_mem ls _ out es none w hb.symm
        rcases this with h | ⟨_, h⟩
        · simp at h
        · unfold mx bagOf; rw [h, if_pos (by omega)]
    rw [hbag]
    exact ih (i + 1) _ (by omega) (by simp [ho])
theorem impl_are_ev (es : List Expect) (ls : List Sight) (hl : ls.length ≤ 1048600) : Ev (fun k => impl_areSights.f k es ls) (exB es && siB ls) := by
  unfold impl_areSights.f
  simp only [impl_ex, Option.bind_some]
  cases h : exB es with
  | false => simp only [Bool.false_eq_true, if_false, Bool.false_and]; exact Ev.now _
  | true =>
    simp only [if_true, Bool.true_and]
    exact ev_bind _ (impl_si_ev ls hl) (Ev.now _)
theorem impl_as_ev (es : List Expect) (ls : List Sight) (hl : ls.length ≤ 1048600) : Ev (fun k => impl_Assign.f k es ls) (asR es ls) := by
  unfold impl_Assign.f asR
  refine ev_bind _ (impl_are_ev es ls hl) ?_
  by_cases h : exB es = true ∧ siB ls = true
  · rw [if_pos h, h.1, h.2]
    simp only [Bool.and_self, if_true]
    simpa using impl_as_loop es ls (exB_len h.1) (fun e he => (exB_mem h.1 e he).1) (siB_len h.2) (fun x hx => (siB_mem h.2 x hx).2.2) ls.length 0 [] (by omega) rfl
  · rw [if_neg h]
    have : (exB es && siB ls) = false := by
      cases e : exB es with
      | false => rfl
      | true =>
        cases e2 : siB ls with
        | false => rfl
        | true => exact absurd ⟨e, e2⟩ h
    rw [this]
    simp only [Bool.false_eq_true, if_false]; exact Ev.now _
/-- The bags of the windows that are over, and of which no sight was taken. -/
def misGo (now : Int) (aw : List Int) : List Expect → List Int
  | [] => []
  | e :: l => if e.f2 < now ∧ aw.any (fun q => q == e.f0) = false then e.f0 :: misGo now aw l else misGo now aw l
def misR (es : List Expect) (ls : List Sight) (now : Int) : List Int := if exB es = true ∧ siB ls = true then misGo now (asR es ls) es else []
theorem misGo_len (now : Int) (aw : List Int) : ∀ l : List Expect, (misGo now aw l).length ≤ l.length
  | [] => Nat.le_refl _
  | e :: l => by
    have := misGo_len now aw l
    unfold misGo
    split <;> simp <;> omega
theorem misR_len (es : List Expect) (ls : List Sight) (now : Int) : (misR es ls now).length ≤ 6 := by
  unfold misR
  split
  · rename_i h
    have := misGo_len now (asR es ls) es
    have := exB_len h.1
    omega
  · simp
theorem spec_mis_loop (es : List Expect) (now : Int) (aw : List Int) (hes : es.length ≤ 6) (ha : aw.length ≤ 6) (d : Nat) : ∀ (i : Nat) (out : List Int), i + d = es.length → out.length ≤ i → Ev (fun k => spec_Missing.l0 k es now out aw i) (out ++ misGo now aw (es.drop i)) := by
  induction d with
  | zero =>
    intro i out hi ho
    rw [List.drop_eq_nil_of_le (by omega), misGo, List.append_nil]
    exact Ev.step (f := fun _ => some out) (fun k => by rw [spec_Missing.l0, if_neg (show ¬ (i : Int) < (es.length : Int) by omega)]) (Ev.now _)
  | succ d ih =>
    intro i out hi ho
    have hlt : i < es.length := by omega
    have e1 : wrap64 ((i : Int) + 1) = ((i + 1 : Nat) : Int) := w64 (by omega) (by omega)
    rw [drop_Expect es i hlt, misGo]
    refine Ev.step (fun k => by rw [spec_Missing.l0, if_pos (show (i : Int) < (es.length : Int) by omega), if_pos (show (0 : Int) ≤ (i : Int) by omega), e1]) ?_
    by_cases c : (rd_T47 es (i : Int)).f2 < now
    · simp only [if_pos c]
      refine ev_bind _ (spec_has_ev aw (by omega) _) ?_
      cases c2 : aw.any (fun y => y == (rd_T47 es (i : Int)).f0) with
      | true =>
        simp only [if_true]
        rw [if_neg (by simp)]
        exact ih (i + 1) out (by omega) (by omega)
      | false =>
        simp only [Bool.false_eq_true, if_false, if_pos (show out.length < 17592186044416 by omega)]
        rw [if_pos (by simp [c])]
        have := ih (i + 1) (out ++ [(rd_T47 es (i : Int)).f0]) (by omega) (by simp; omega)
        rw [List.append_assoc] at this
        exact this
    · simp only [if_neg c]
      rw [if_neg (fun q => c q.1)]
      exact ih (i + 1) out (by omega) (by omega)
theorem impl_mis_loop (es : List Expect) (now : Int) (aw : List Int) (hes : es.length ≤ 6) (ha : aw.length ≤ 6) (d : Nat) : ∀ (i : Nat) (out : List Int), i + d = es.length → out.length ≤ i → Ev (fun k => impl_Missing.l0 k now aw out es (es.length : Int) i) (out ++ misGo now aw (es.drop i)) := by
  induction d with
  | zero =>
    intro i out hi ho
    rw [List.drop_eq_nil_of_le (by omega), misGo, List.append_nil]
    exact Ev.step (f := fun _ => some out) (fun k => by rw [impl_Missing.l0, if_neg (show ¬ (i : Int) < (es.length : Int) by omega)]) (Ev.now _)
  | succ d ih =>
    intro i out hi ho
    have hlt : i < es.length := by omega
    have e1 : wrap64 ((i : Int) + 1) = ((i + 1 : Nat) : Int) := w64 (by omega) (by omega)
    rw [drop_Expect es i hlt, misGo]
    refine Ev.step (fun k => by rw [impl_Missing.l0, if_pos (show (i : Int) < (es.length : Int) by omega), if_pos (show (0 : Int) ≤ (i : Int) by omega), if_pos (show (i : Int) < (es.length : Int) by omega), e1]) ?_
    by_cases c : (rd_T47 es (i : Int)).f2 < now
    · simp only [if_pos c]
      refine ev_bind _ (contains_ev aw (by omega) _) ?_
      cases c2 : aw.any (fun y => y == (rd_T47 es (i : Int)).f0) with
      | true =>
        simp only [if_true]
        rw [if_neg (by simp)]
        exact ih (i + 1) out (by omega) (by omega)
      | false =>
        simp only [Bool.false_eq_true, if_false, if_pos (show out.length < 17592186044416 by omega)]
        rw [if_pos (by simp [c])]
        have := ih (i + 1) (out ++ [(rd_T47 es (i : Int)).f0]) (by omega) (by simp; omega)
        rw [List.append_assoc] at this
        exact this
    · simp only [if_neg c]
      rw [if_neg (fun q => c q.1)]
      exact ih (i + 1) out (by omega) (by omega)
theorem spec_mis_ev (es : List Expect) (ls : List Sight) (now : Int) : Ev (fun k => spec_Missing.f k es ls now) (misR es ls now) := by
  unfold spec_Missing.f misR
  simp only [Option.bind_some]
  have hno : Ev (fun k => spec_Missing.j0 k es ls now [] true) [] := Ev.step (fun k => by rw [spec_Missing.j0, if_pos rfl]) (Ev.now _)
  refine ev_bind _ (spec_ex_ev es) ?_
  cases h : exB es with
  | false => simp only [Bool.false_eq_true, if_false, false_and]; exact hno
  | true =>
    simp only [if_true, true_and]
    refine ev_bind _ (spec_si_ev ls) ?_
    cases h2 : siB ls with
    | false => simp only [Bool.false_eq_true, if_false]; exact hno
    | true =>
      simp only [if_true]
      refine Ev.step (fun k => by rw [spec_Missing.j0, if_neg (by decide)]) ?_
      refine ev_bind _ (spec_as_ev es ls) ?_
      simpa using spec_mis_loop es now (asR es ls) (exB_len h) (asR_len es ls) es.length 0 [] (by omega) (by simp)
theorem impl_mis_ev (es : List Expect) (ls : List Sight) (hl : ls.length ≤ 1048600) (now : Int) : Ev (fun k => impl_Missing.f k es ls now) (misR es ls now) := by
  unfold impl_Missing.f misR
  refine ev_bind _ (impl_are_ev es ls hl) ?_
  by_cases h : exB es = true ∧ siB ls = true
  · rw [if_pos h, h.1, h.2]
    simp only [Bool.and_self, if_true]
    refine ev_bind _ (impl_as_ev es ls hl) ?_
    simpa using impl_mis_loop es now (asR es ls) (exB_len h.1) (asR_len es ls) es.length 0 [] (by omega) (by simp)
  · rw [if_neg h]
    have : (exB es && siB ls) = false := by
      cases e : exB es with
      | false => rfl
      | true =>
        cases e2 : siB ls with
        | false => rfl
        | true => exact absurd ⟨e, e2⟩ h
    rw [this]
    simp only [Bool.false_eq_true, if_false]; exact Ev.now _
abbrev LExpect := S82
def toMExpect (x : LExpect) : Expect := ⟨x.f0, x.f1, x.f2⟩
theorem to_ExpectS_loop (l : List LExpect) (hl : l.length ≤ 1048576) (d : Nat) : ∀ (i : Nat) (m : List Expect), i + d = l.length → m.length = l.length → m.take i = (l.take i).map toMExpect → Ev (fun k => laws_toExpectS.l0 k l m i) (l.map toMExpect) := by
  induction d with
  | zero =>
    intro i m hi hm h
    refine Ev.step (fun k => by rw [laws_toExpectS.l0, if_neg (show ¬ (i : Int) < (l.length : Int) by omega)]) (ev_some ?_)
    rw [List.take_of_length_le (by omega), List.take_of_length_le (by omega)] at h
    exact h
  | succ d ih =>
    intro i m hi hm h
    have e1 : wrap64 ((i : Int) + 1) = ((i + 1 : Nat) : Int) := w64 (by omega) (by omega)
    have hlt : i < l.length := by omega
    have hr : rd_T82 l (i : Int) = l[i] := by simp [rd_T82, List.getD_eq_getElem?_getD, List.getElem?_eq_getElem hlt]
    refine Ev.step (fun k => by rw [laws_toExpectS.l0, if_pos (show (i : Int) < (l.length : Int) by omega), if_pos (show (0 : Int) ≤ (i : Int) by omega), laws_toExpect.f, Option.bind_some, if_pos (show (i : Int) < (m.length : Int) by omega), e1, hr, Int.toNat_natCast]) ?_
    refine ih (i + 1) _ (by omega) (by simp [hm]) ?_
    rw [List.take_succ_eq_append_getElem (by simp; omega), List.take_succ_eq_append_getElem hlt, List.map_append, ← h]
    rw [List.take_set, List.set_eq_of_length_le (by simp; omega)]
    simp [toMExpect]
theorem to_ExpectS_ev (l : List LExpect) (hl : l.length ≤ 1048576) : Ev (fun k => laws_toExpectS.f k l) (l.map toMExpect) := by
  unfold laws_toExpectS.f
  simp only [if_pos (show (0 : Int) ≤ (l.length : Int) by omega), Int.toNat_natCast, if_pos (show l.length ≤ 11728124029610 by omega)]
  exact to_ExpectS_loop l hl l.length 0 _ (by omega) (by simp) rfl
theorem sz_ExpectS (l : List LExpect) (hl : l.length ≤ 9223372036854775807) (q : Int) (h0 : 0 ≤ q) (h1 : q ≤ 1048576) : ∃ n, laws_szExpectS.f l q = some n ∧ n ≤ 1048576 ∧ (n < 0 ∨ l.length ≤ 1048576) := by
  unfold laws_szExpectS.f
  have e : wrap64 (q - (l.length : Int)) = q - (l.length : Int) := w64 (by omega) (by omega)
  rw [e]
  by_cases h : q - (l.length : Int) < 0
  · rw [if_pos h]; exact ⟨-1, rfl, by omega, .inl (by omega)⟩
  · rw [if_neg h]; exact ⟨_, rfl, by omega, .inr (by omega)⟩
abbrev LSight := S88
def toMSight (x : LSight) : Sight := ⟨x.f0, x.f1⟩
theorem to_SightS_loop (l : List LSight) (hl : l.length ≤ 1048576) (d : Nat) : ∀ (i : Nat) (m : List Sight), i + d = l.length → m.length = l.length → m.take i = (l.take i).map toMSight → Ev (fun k => laws_toSightS.l0 k l m i) (l.map toMSight) := by
  induction d with
  | zero =>
    intro i m hi hm h
    refine Ev.step (fun k => by rw [laws_toSightS.l0, if_neg (show ¬ (i : Int) < (l.length : Int) by omega)]) (ev_some ?_)
    rw [List.take_of_length_le (by omega), List.take_of_length_le (by omega)] at h
    exact h
  | succ d ih =>
    intro i m hi hm h
    have e1 : wrap64 ((i : Int) + 1) = ((i + 1 : Nat) : Int) := w64 (by omega) (by omega)
    have hlt : i < l.length := by omega
    have hr : rd_T88 l (i : Int) = l[i] := by simp [rd_T88, List.getD_eq_getElem?_getD, List.getElem?_eq_getElem hlt]
    refine Ev.step (fun k => by rw [laws_toSightS.l0, if_pos (show (i : Int) < (l.length : Int) by omega), if_pos (show (0 : Int) ≤ (i : Int) by omega), laws_toSight.f, Option.bind_some, if_pos (show (i : Int) < (m.length : Int) by omega), e1, hr, Int.toNat_natCast]) ?_
    refine ih (i + 1) _ (by omega) (by simp [hm]) ?_
    rw [List.take_succ_eq_append_getElem (by simp; omega), List.take_succ_eq_append_getElem hlt, List.map_append, ← h]
    rw [List.take_set, List.set_eq_of_length_le (by simp; omega)]
    simp [toMSight]
theorem to_SightS_ev (l : List LSight) (hl : l.length ≤ 1048576) : Ev (fun k => laws_toSightS.f k l) (l.map toMSight) := by
  unfold laws_toSightS.f
  simp only [if_pos (show (0 : Int) ≤ (l.length : Int) by omega), Int.toNat_natCast, if_pos (show l.length ≤ 17592186044416 by omega)]
  exact to_SightS_loop l hl l.length 0 _ (by omega) (by simp) rfl
theorem sz_SightS (l : List LSight) (hl : l.length ≤ 9223372036854775807) (q : Int) (h0 : 0 ≤ q) (h1 : q ≤ 1048576) : ∃ n, laws_szSightS.f l q = some n ∧ n ≤ 1048576 ∧ (n < 0 ∨ l.length ≤ 1048576) := by
  unfold laws_szSightS.f
  have e : wrap64 (q - (l.length : Int)) = q - (l.length : Int) := w64 (by omega) (by omega)
  rw [e]
  by_cases h : q - (l.length : Int) < 0
  · rw [if_pos h]; exact ⟨-1, rfl, by omega, .inl (by omega)⟩
  · rw [if_neg h]; exact ⟨_, rfl, by omega, .inr (by omega)⟩
theorem eq_Expect (a b c : Int) : laws_eqExpect.f a b c a b c = some true := by unfold laws_eqExpect.f; simp
theorem eq_ExpectS_loop (l : List Expect) (hl : l.length ≤ 1048600) (d : Nat) : ∀ i : Nat, i + d = l.length → Ev (fun k => laws_eqExpectS.l0 k l l i) true := by
  induction d with
  | zero =>
    intro i hi
    exact Ev.step (fun k => by rw [laws_eqExpectS.l0, if_neg (show ¬ (i : Int) < (l.length : Int) by omega)]) (Ev.now _)
  | succ d ih =>
    intro i hi
    have e1 : wrap64 ((i : Int) + 1) = ((i + 1 : Nat) : Int) := w64 (by omega) (by omega)
    refine Ev.step (fun k => by rw [laws_eqExpectS.l0, if_pos (show (i : Int) < (l.length : Int) by omega), if_pos (show (0 : Int) ≤ (i : Int) by omega), if_pos (show (i : Int) < (l.length : Int) by omega), eq_Expect, Option.bind_some, if_pos rfl, e1]) ?_
    exact ih (i + 1) (by omega)
theorem eq_ExpectS_ev (l : List Expect) (hl : l.length ≤ 1048600) : Ev (fun k => laws_eqExpectS.f k l l) true := by
  unfold laws_eqExpectS.f
  simp only [if_true]
  exact eq_ExpectS_loop l hl l.length 0 (by omega)
theorem eq_Sight (a b : Int) : laws_eqSight.f a b a b = some true := by unfold laws_eqSight.f; simp
theorem eq_SightS_loop (l : List Sight) (hl : l.length ≤ 1048600) (d : Nat) : ∀ i : Nat, i + d = l.length → Ev (fun k => laws_eqSightS.l0 k l l i) true := by
  induction d with
  | zero =>
    intro i hi
    exact Ev.step (fun k => by rw [laws_eqSightS.l0, if_neg (show ¬ (i : Int) < (l.length : Int) by omega)]) (Ev.now _)
  | succ d ih =>
    intro i hi
    have e1 : wrap64 ((i : Int) + 1) = ((i + 1 : Nat) : Int) := w64 (by omega) (by omega)
    refine Ev.step (fun k => by rw [laws_eqSightS.l0, if_pos (show (i : Int) < (l.length : Int) by omega), if_pos (show (0 : Int) ≤ (i : Int) by omega), if_pos (show (i : Int) < (l.length : Int) by omega), eq_Sight, Option.bind_some, if_pos rfl, e1]) ?_
    exact ih (i + 1) (by omega)
theorem eq_SightS_ev (l : List Sight) (hl : l.length ≤ 1048600) : Ev (fun k => laws_eqSightS.f k l l) true := by
  unfold laws_eqSightS.f
  simp only [if_true]
  exact eq_SightS_loop l hl l.length 0 (by omega)
theorem eq_ints_loop (l : List Int) (hl : l.length ≤ 1048600) (d : Nat) : ∀ i : Nat, i + d = l.length → Ev (fun k => laws_eqIntS.l0 k l l i) true := by
  induction d with
  | zero =>
    intro i hi
    exact Ev.step (fun k => by rw [laws_eqIntS.l0, if_neg (show ¬ (i : Int) < (l.length : Int) by omega)]) (Ev.now _)
  | succ d ih =>
    intro i hi
    have e1 : wrap64 ((i : Int) + 1) = ((i + 1 : Nat) : Int) := w64 (by omega) (by omega)
    refine Ev.step (fun k => by rw [laws_eqIntS.l0, if_pos (show (i : Int) < (l.length : Int) by omega), if_pos (show (0 : Int) ≤ (i : Int) by omega), if_pos (show (i : Int) < (l.length : Int) by omega), if_pos rfl, e1]) ?_
    exact ih (i + 1) (by omega)
theorem eq_ints_ev (l : List Int) (hl : l.length ≤ 1048600) : Ev (fun k => laws_eqIntS.f k l l) true := by
  unfold laws_eqIntS.f
  simp only [if_true]
  exact eq_ints_loop l hl l.length 0 (by omega)
/-- Element j, marked from m on. -/
def mkExpect (m : Int) (j : Nat) : Expect := ⟨m + 3 * j, m + 3 * j + 1, m + 3 * j + 2⟩
theorem mark_ExpectS_loop (l : List Expect) (hl : l.length ≤ 1048600) (m : Int) (h0 : 0 ≤ m) (h1 : m ≤ 1000000000) (d : Nat) : ∀ i : Nat, i + d = l.length →
    Ev (fun k => laws_markExpectS.l0 k ((List.range i).map (mkExpect m) ++ l.drop i) (m + 3 * i) i) (m + 3 * l.length, (List.range l.length).map (mkExpect m)) := by
  induction d with
  | zero =>
    intro i hi
    have : i = l.length := by omega
    subst this
    refine Ev.step (fun k => by rw [laws_markExpectS.l0, if_neg (by simp)]) (ev_some ?_)
    simp
  | succ d ih =>
    intro i hi
    have hlen : ((List.range i).map (mkExpect m) ++ l.drop i).length = l.length := by simp; omega
    have e1 : wrap64 ((i : Int) + 1) = ((i + 1 : Nat) : Int) := w64 (by omega) (by omega)
    have a1 : wrap64 (m + 3 * (i : Int) + 1) = m + 3 * (i : Int) + 1 := by rw [w64 (by omega) (by omega)] <;> omega
    have a2 : wrap64 (m + 3 * (i : Int) + 1 + 1) = m + 3 * (i : Int) + 2 := by rw [w64 (by omega) (by omega)] <;> omega
    have a3 : wrap64 (m + 3 * (i : Int) + 2 + 1) = m + 3 * ((i + 1 : Nat) : Int) := by rw [w64 (by omega) (by omega)] <;> omega
    have hr : ∀ (y : Expect) (t : List Expect), i < t.length → rd_T47 (t.set i y) (i : Int) = y := by
      intro y t ht
      simp [rd_T47, List.getD_eq_getElem?_getD, ht]
    refine Ev.step (fun k => by rw [laws_markExpectS.l0, if_pos (by rw [hlen]; omega), if_pos (show (0 : Int) ≤ (i : Int) by omega)]) ?_
    simp only [Option.bind_some, Int.toNat_natCast, a1, a2, a3, e1]
    rw [hr _ _ (by rw [hlen]; omega)]
    simp only [List.set_set]
    rw [hr _ _ (by rw [hlen]; omega)]
    have hm : (⟨m + 3 * (i : Int), m + 3 * (i : Int) + 1, m + 3 * (i : Int) + 2⟩ : Expect) = mkExpect m i := rfl
    rw [hm, set_mark (mkExpect m) l i (by omega)]
    exact ih (i + 1) (by omega)
theorem mark_ExpectS_ev (l : List Expect) (hl : l.length ≤ 1048600) (m : Int) (h0 : 0 ≤ m) (h1 : m ≤ 1000000000) : Ev (fun k => laws_markExpectS.f k l m) (m + 3 * l.length, (List.range l.length).map (mkExpect m)) := by
  unfold laws_markExpectS.f
  have := mark_ExpectS_loop l hl m h0 h1 l.length 0 (by omega)
  simpa using this
/-- Element j, marked from m on. -/
def mkSight (m : Int) (j : Nat) : Sight := ⟨m + 2 * j, m + 2 * j + 1⟩
theorem mark_SightS_loop (l : List Sight) (hl : l.length ≤ 1048600) (m : Int) (h0 : 0 ≤ m) (h1 : m ≤ 1000000000) (d : Nat) : ∀ i : Nat, i + d = l.length →
    Ev (fun k => laws_markSightS.l0 k ((List.range i).map (mkSight m) ++ l.drop i) (m + 2 * i) i) (m + 2 * l.length, (List.range l.length).map (mkSight m)) := by
  induction d with
  | zero =>
    intro i hi
    have : i = l.length := by omega
    subst this
    refine Ev.step (fun k => by rw [laws_markSightS.l0, if_neg (by simp)]) (ev_some ?_)
    simp
  | succ d ih =>
    intro i hi
    have hlen : ((List.range i).map (mkSight m) ++ l.drop i).length = l.length := by simp; omega
    have e1 : wrap64 ((i : Int) + 1) = ((i + 1 : Nat) : Int) := w64 (by omega) (by omega)
    have a1 : wrap64 (m + 2 * (i : Int) + 1) = m + 2 * (i : Int) + 1 := by rw [w64 (by omega) (by omega)] <;> omega
    have a2 : wrap64 (m + 2 * (i : Int) + 1 + 1) = m + 2 * ((i + 1 : Nat) : Int) := by rw [w64 (by omega) (by omega)] <;> omega
    have hr : ∀ (y : Sight) (t : List Sight), i < t.length → rd_T49 (t.set i y) (i : Int) = y := by
      intro y t ht
      simp [rd_T49, List.getD_eq_getElem?_getD, ht]
    refine Ev.step (fun k => by rw [laws_markSightS.l0, if_pos (by rw [hlen]; omega), if_pos (show (0 : Int) ≤ (i : Int) by omega)]) ?_
    simp only [Option.bind_some, Int.toNat_natCast, a1, a2, e1]
    rw [hr _ _ (by rw [hlen]; omega)]
    simp only [List.set_set]
    have hm : (⟨m + 2 * (i : Int), m + 2 * (i : Int) + 1⟩ : Sight) = mkSight m i := rfl
    rw [hm, set_mark (mkSight m) l i (by omega)]
    exact ih (i + 1) (by omega)
theorem mark_SightS_ev (l : List Sight) (hl : l.length ≤ 1048600) (m : Int) (h0 : 0 ≤ m) (h1 : m ≤ 1000000000) : Ev (fun k => laws_markSightS.f k l m) (m + 2 * l.length, (List.range l.length).map (mkSight m)) := by
  unfold laws_markSightS.f
  have := mark_SightS_loop l hl m h0 h1 l.length 0 (by omega)
  simpa using this
/-- Number j, marked from m on. -/
def mkN (m : Int) (j : Nat) : Int := m + j
theorem mark_ints_loop (l : List Int) (hl : l.length ≤ 1048600) (m : Int) (h0 : 0 ≤ m) (h1 : m ≤ 1000000000) (d : Nat) : ∀ i : Nat, i + d = l.length →
    Ev (fun k => laws_markIntS.l0 k ((List.range i).map (mkN m) ++ l.drop i) (m + i) i) (m + l.length, (List.range l.length).map (mkN m)) := by
  induction d with
  | zero =>
    intro i hi
    have : i = l.length := by omega
    subst this
    refine Ev.step (fun k => by rw [laws_markIntS.l0, if_neg (by simp)]) (ev_some ?_)
    simp
  | succ d ih =>
    intro i hi
    have hlen : ((List.range i).map (mkN m) ++ l.drop i).length = l.length := by simp; omega
    have e1 : wrap64 ((i : Int) + 1) = ((i + 1 : Nat) : Int) := w64 (by omega) (by omega)
    have a1 : wrap64 (m + (i : Int) + 1) = m + ((i + 1 : Nat) : Int) := by rw [w64 (by omega) (by omega)]; omega
    refine Ev.step (fun k => by rw [laws_markIntS.l0, if_pos (by rw [hlen]; omega), if_pos (show (0 : Int) ≤ (i : Int) by omega)]) ?_
    simp only [Int.toNat_natCast, a1, e1]
    have hm : m + (i : Int) = mkN m i := rfl
    rw [hm, set_mark (mkN m) l i (by omega)]
    exact ih (i + 1) (by omega)
theorem mark_ints_ev (l : List Int) (hl : l.length ≤ 1048600) (m : Int) (h0 : 0 ≤ m) (h1 : m ≤ 1000000000) : Ev (fun k => laws_markIntS.f k l m) (m + l.length, (List.range l.length).map (mkN m)) := by
  unfold laws_markIntS.f
  have := mark_ints_loop l hl m h0 h1 l.length 0 (by omega)
  simpa using this
theorem held_ints_loop (n : Nat) (hl : n ≤ 1048600) (m : Int) (h0 : 0 ≤ m) (h1 : m ≤ 1000000000) (d : Nat) : ∀ i : Nat, i + d = n →
    Ev (fun k => laws_heldIntS.l0 k ((List.range n).map (mkN m)) (m + i) i) (m + n) := by
  induction d with
  | zero =>
    intro i hi
    have : i = n := by omega
    subst this
    exact Ev.step (fun k => by rw [laws_heldIntS.l0, if_neg (by simp)]) (Ev.now _)
  | succ d ih =>
    intro i hi
    have e1 : wrap64 ((i : Int) + 1) = ((i + 1 : Nat) : Int) := w64 (by omega) (by omega)
    have a1 : wrap64 (m + (i : Int) + 1) = m + ((i + 1 : Nat) : Int) := by rw [w64 (by omega) (by omega)]; omega
    have e3 : rd ((List.range n).map (mkN m)) (i : Int) = m + (i : Int) := by
      unfold rd
      rw [Int.toNat_natCast, List.getD_eq_getElem?_getD, List.getElem?_map, List.getElem?_range (by omega)]
      rfl
    refine Ev.step (fun k => by rw [laws_heldIntS.l0, if_pos (by simp; omega), if_pos (show (0 : Int) ≤ (i : Int) by omega), e3]) ?_
    simp only [e1, a1, if_true]
    exact ih (i + 1) (by omega)
theorem held_ints_ev (n : Nat) (hl : n ≤ 1048600) (m : Int) (h0 : 0 ≤ m) (h1 : m ≤ 1000000000) : Ev (fun k => laws_heldIntS.f k ((List.range n).map (mkN m)) m) (m + n) := by
  unfold laws_heldIntS.f
  have := held_ints_loop n hl m h0 h1 n 0 (by omega)
  simpa using this
theorem FnExactMissing : laws_FnExactMissing.Pure := by
  intro le ls now hl _ hls _ _
  refine Ev.rounds ?_
  unfold laws_FnExactMissing.f
  obtain ⟨n, hn, hn1, hc⟩ := sz_ExpectS le hl 1048576 (by omega) (by omega)
  simp only [hn, Option.bind_some]
  by_cases h : n < 0
  · simp only [if_pos h]; exact Ev.now _
  · simp only [if_neg h]
    obtain ⟨n2, hn2, _, hc2⟩ := sz_SightS ls hls n (by omega) hn1
    simp only [hn2, Option.bind_some]
    by_cases h2 : n2 < 0
    · simp only [if_pos h2]; exact Ev.now _
    · have h3 : le.length ≤ 1048576 := by omega
      have h4 : ls.length ≤ 1048576 := by omega
      have h3' : (le.map toMExpect).length ≤ 1048600 := by simp; omega
      have h4' : (ls.map toMSight).length ≤ 1048600 := by simp; omega
      have hr := misR_len (le.map toMExpect) (ls.map toMSight) now
      simp only [if_neg h2]
      refine ev_bind _ (to_ExpectS_ev le h3) ?_
      refine ev_bind _ (to_SightS_ev ls h4) ?_
      refine ev_bind _ (spec_mis_ev _ _ now) ?_
      refine ev_bind _ (to_ExpectS_ev le h3) ?_
      refine ev_bind _ (to_SightS_ev ls h4) ?_
      refine ev_bind _ (impl_mis_ev _ _ h4' now) ?_
      refine ev_bind _ (eq_ints_ev _ (by omega)) ?_
      simp only [if_true]
      refine ev_bind _ (to_ExpectS_ev le h3) ?_
      refine ev_bind _ (eq_ExpectS_ev _ h3') ?_
      simp only [if_true]
      refine ev_bind _ (to_SightS_ev ls h4) ?_
      refine ev_bind _ (eq_SightS_ev _ h4') ?_
      simp only [if_true]
      refine ev_bind _ (mark_ExpectS_ev _ h3' 1 (by omega) (by omega)) ?_
      refine ev_bind _ (mark_SightS_ev _ h4' _ (by omega) (by simp; omega)) ?_
      simp only [if_neg (show ¬ ((1 : Int) + 3 * ((le.map toMExpect).length : Int) + 2 * ((ls.map toMSight).length : Int) < 0) by omega)]
      refine ev_bind _ (eq_ints_ev _ (by omega)) ?_
      refine Ev.step (fun k => by rw [laws_FnExactMissing.j0, if_neg (by decide)]) ?_
      refine ev_bind _ (mark_ints_ev _ (by omega) 1 (by omega) (by omega)) ?_
      refine ev_bind _ (held_ints_ev _ (by omega) 1 (by omega) (by omega)) ?_
      simp only [if_neg (show ¬ ((1 : Int) + ((misR (le.map toMExpect) (ls.map toMSight) now).length : Int) < 0) by omega), if_true]
      refine ev_bind _ (to_ExpectS_ev le h3) ?_
      refine ev_bind _ (to_SightS_ev ls h4) ?_
      refine ev_bind _ (impl_mis_ev _ _ h4' now) ?_
      refine ev_bind _ (eq_ints_ev _ (by omega)) ?_
      simp only [if_true]
      refine ev_bind _ (held_ints_ev _ (by omega) 1 (by omega) (by omega)) ?_
      simp only [if_neg (show ¬ ((1 : Int) + ((misR (le.map toMExpect) (ls.map toMSight) now).length : Int) < 0) by omega), if_true]
      exact Ev.now _

end Go.Proofs.Ytnnimbbffbfhoaa.Pure
