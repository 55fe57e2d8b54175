/- For every slice of bytes the law FnAssigned returns true (its printed function does): of what is drawn from it Assign takes as many sights as can be taken, each for one window. -/
import Derived.Test.YtnnimbbffbfhoaaPFnAssignedx14
import Derived.Test.YtnnimbbffbfhoaaKit
namespace Go.Proofs.Ytnnimbbffbfhoaa.Pure
open Go.RowKit Go.Proofs.Ytnnimbbffbfhoaa.PFnAssigned Go.Proofs.YtnnimbbffbfhoaaW.PrintWords Go.Proofs.YtnnimbbffbfhoaaW.PrintLast Go.Proofs.YtnnimbbffbfhoaaW.PrintMore Go.Proofs.Ytnnimbbffbfhoaa.Kit
set_option linter.unusedVariables false
set_option linter.unusedSimpArgs false

abbrev Expect := S47
theorem rd_Expect (l : List Expect) (i : Nat) (h : i < l.length) : rd_T47 l (i : Int) = l[i] := by
  simp [rd_T47, List.getD_eq_getElem?_getD, List.getElem?_eq_getElem h]
theorem drop_Expect (l : List Expect) (i : Nat) (h : i < l.length) : l.drop i = rd_T47 l (i : Int) :: l.drop (i + 1) := by
  rw [List.drop_eq_getElem_cons h, rd_Expect l i h]
theorem take_Expect (l : List Expect) (i : Nat) (h : i < l.length) : l.take (i + 1) = l.take i ++ [rd_T47 l (i : Int)] := by
  rw [rd_Expect l i h, List.take_succ_eq_append_getElem h]
/-- Windows that are valid, their bags other than those met. -/
def exRun : List Expect → List Expect → Bool
  | _, [] => true
  | seen, x :: l => decide (1 ≤ x.f0 ∧ 0 ≤ x.f1 ∧ x.f1 ≤ x.f2 ∧ x.f2 ≤ 100000) && !(seen.any (fun y => y.f0 == x.f0)) && exRun (seen ++ [x]) l
def exB (l : List Expect) : Bool := decide (l.length ≤ 6) && exRun [] l
abbrev Sight := S49
theorem rd_Sight (l : List Sight) (i : Nat) (h : i < l.length) : rd_T49 l (i : Int) = l[i] := by
  simp [rd_T49, List.getD_eq_getElem?_getD, List.getElem?_eq_getElem h]
theorem drop_Sight (l : List Sight) (i : Nat) (h : i < l.length) : l.drop i = rd_T49 l (i : Int) :: l.drop (i + 1) := by
  rw [List.drop_eq_getElem_cons h, rd_Sight l i h]
theorem take_Sight (l : List Sight) (i : Nat) (h : i < l.length) : l.take (i + 1) = l.take i ++ [rd_T49 l (i : Int)] := by
  rw [rd_Sight l i h, List.take_succ_eq_append_getElem h]
/-- Is the sight not before the last one? -/
def siAft (s : List Sight) (x : Sight) : Bool := match s.getLast? with
  | none => true
  | some p => decide (p.f0 ≤ x.f0)
/-- Sights that are valid behind others. -/
def siRun : List Sight → List Sight → Bool
  | _, [] => true
  | s, x :: l => decide (0 ≤ x.f0 ∧ x.f0 ≤ 100000 ∧ 0 ≤ x.f1) && siAft s x && (decide (x.f1 = 0) || !(s.any (fun y => y.f1 == x.f1))) && siRun (s ++ [x]) l
def siB (l : List Sight) : Bool := decide (l.length ≤ 6) && siRun [] l
theorem siAft_zero (l : List Sight) (x : Sight) : siAft (l.take 0) x = true := rfl
theorem siAft_pos (l : List Sight) (i : Nat) (x : Sight) (h : 0 < i) (hi : i ≤ l.length) : siAft (l.take i) x = decide ((rd_T49 l ((i - 1 : Nat) : Int)).f0 ≤ x.f0) := by
  have e : l.take i = l.take (i - 1) ++ [rd_T49 l ((i - 1 : Nat) : Int)] := by
    rw [← take_Sight l (i - 1) (by omega), show i - 1 + 1 = i by omega]
  rw [e, siAft, List.getLast?_append]
  rfl
theorem rd_int (l : List Int) (i : Nat) (h : i < l.length) : rd l (i : Int) = l[i] := by
  simp [rd, List.getD_eq_getElem?_getD, List.getElem?_eq_getElem h]
theorem drop_int (l : List Int) (i : Nat) (h : i < l.length) : l.drop i = rd l (i : Int) :: l.drop (i + 1) := by
  rw [List.drop_eq_getElem_cons h, rd_int l i h]
/-- Does sight x fit window e, with no sight of its bag? -/
def fitB (ls : List Sight) (x : Sight) (e : Expect) : Bool := decide (x.f1 = 0) && !(ls.any (fun y => y.f1 == e.f0)) && decide (e.f1 ≤ x.f0 ∧ x.f0 ≤ e.f2)
/-- Is window e better than the best one so far? -/
def betB (b e : Expect) : Bool := decide (e.f2 < b.f2) || (decide (e.f2 = b.f2) && decide (e.f0 < b.f0))
/-- The better one of two windows. -/
def pickE (e : Expect) : Option Expect → Option Expect
  | none => some e
  | some w => if betB w e = true then some e else some w
/-- The best one so far, after one more window. -/
def nextE (ls : List Sight) (x : Sight) (out : List Int) (b : Option Expect) (e : Expect) : Option Expect := if (fitB ls x e && !(out.any (fun q => q == e.f0))) = true then pickE e b else b
/-- The best of the windows for a sight, after the best so far. -/
def bestE (ls : List Sight) (x : Sight) (out : List Int) : Option Expect → List Expect → Option Expect
  | b, [] => b
  | b, e :: l => bestE ls x out (nextE ls x out b e) l
def bagOf (x : Sight) (b : Option Expect) : Int := match b with
  | none => x.f1
  | some w => w.f0
/-- The bags of the sights, one after the other. -/
def asGo (es : List Expect) (ls : List Sight) : List Int → List Sight → List Int
  | out, [] => out
  | out, x :: l => asGo es ls (out ++ [bagOf x (bestE ls x out none es)]) l
/-- What Assign returns. -/
def asR (es : List Expect) (ls : List Sight) : List Int := if exB es = true ∧ siB ls = true then asGo es ls [] ls else []
theorem exB_len {l : List Expect} (h : exB l = true) : l.length ≤ 6 := by
  unfold exB at h
  simp only [Bool.and_eq_true, decide_eq_true_eq] at h
  exact h.1
theorem exRun_mem : ∀ (l s : List Expect), exRun s l = true → ∀ x ∈ l, 1 ≤ x.f0 ∧ 0 ≤ x.f1 ∧ x.f1 ≤ x.f2 ∧ x.f2 ≤ 100000
  | [], _, _, x, hx => by simp at hx
  | y :: l, s, h, x, hx => by
    simp only [exRun, Bool.and_eq_true, decide_eq_true_eq] at h
    rcases List.mem_cons.1 hx with rfl | hx
    · exact h.1.1
    · exact exRun_mem l _ h.2 x hx
theorem exB_mem {l : List Expect} (h : exB l = true) : ∀ x ∈ l, 1 ≤ x.f0 ∧ 0 ≤ x.f1 ∧ x.f1 ≤ x.f2 ∧ x.f2 ≤ 100000 := by
  unfold exB at h
  simp only [Bool.and_eq_true, decide_eq_true_eq] at h
  exact exRun_mem l [] h.2
theorem siB_len {l : List Sight} (h : siB l = true) : l.length ≤ 6 := by
  unfold siB at h
  simp only [Bool.and_eq_true, decide_eq_true_eq] at h
  exact h.1
theorem siRun_mem : ∀ (l s : List Sight), siRun s l = true → ∀ x ∈ l, 0 ≤ x.f0 ∧ x.f0 ≤ 100000 ∧ 0 ≤ x.f1
  | [], _, _, x, hx => by simp at hx
  | y :: l, s, h, x, hx => by
    simp only [siRun, Bool.and_eq_true, decide_eq_true_eq] at h
    rcases List.mem_cons.1 hx with rfl | hx
    · exact h.1.1.1
    · exact siRun_mem l _ h.2 x hx
theorem siB_mem {l : List Sight} (h : siB l = true) : ∀ x ∈ l, 0 ≤ x.f0 ∧ x.f0 ≤ 100000 ∧ 0 ≤ x.f1 := by
  unfold siB at h
  simp only [Bool.and_eq_true, decide_eq_true_eq] at h
  exact siRun_mem l [] h.2
theorem bestE_mem (ls : List Sight) (x : Sight) (out : List Int) : ∀ (l : List Expect) (b : Option Expect) (w : Expect), bestE ls x out b l = some w → b = some w ∨ (w ∈ l ∧ x.f1 = 0)
  | [], b, w, h => .inl h
  | e :: l, b, w, h => by
    rw [bestE] at h
    rcases bestE_mem ls x out l _ w h with h1 | h1
    · unfold nextE at h1
      split at h1
      · rename_i c
        have hx : x.f1 = 0 := by
          simp only [fitB, Bool.and_eq_true, decide_eq_true_eq] at c
          exact c.1.1.1
        cases b with
        | none => rw [pickE] at h1; obtain rfl := Option.some.inj h1; exact .inr ⟨by simp, hx⟩
        | some v =>
          rw [pickE] at h1
          split at h1
          · obtain rfl := Option.some.inj h1; exact .inr ⟨by simp, hx⟩
          · exact .inl h1
      · exact .inl h1
    · exact .inr ⟨by simp [h1.1], h1.2⟩
theorem asGo_len (es : List Expect) (ls : List Sight) : ∀ (l : List Sight) (out : List Int), (asGo es ls out l).length = out.length + l.length
  | [], out => rfl
  | x :: l, out => by rw [asGo, asGo_len es ls l]; simp; omega
theorem asR_len (es : List Expect) (ls : List Sight) : (asR es ls).length ≤ 6 := by
  unfold asR
  split
  · rename_i h
    rw [asGo_len]
    have := siB_len h.2
    simpa using this
  · simp
theorem spec_ex_seen (l : List Expect) (hl : l.length ≤ 6) (i : Nat) (hi : i < l.length) (r : Bool) (hr : (l.take i).any (fun y => y.f0 == (rd_T47 l (i : Int)).f0) = false → Ev (fun k => spec_ExpectOk.l0 k l ((i + 1 : Nat) : Int)) r) (hf : (l.take i).any (fun y => y.f0 == (rd_T47 l (i : Int)).f0) = true → r = false) (d : Nat) : ∀ j : Nat, j + d = i → (l.take j).any (fun y => y.f0 == (rd_T47 l (i : Int)).f0) = false → Ev (fun k => spec_ExpectOk.l1 k l i j) r := by
  induction d with
  | zero =>
    intro j hj h
    have e1 : wrap64 ((i : Int) + 1) = ((i + 1 : Nat) : Int) := w64 (by omega) (by omega)
    obtain rfl : j = i := by omega
    exact Ev.step (fun k => by rw [spec_ExpectOk.l1, if_neg (show ¬ (j : Int) < (j : Int) by omega), e1]) (hr h)
  | succ d ih =>
    intro j hj h
    have e1 : wrap64 ((j : Int) + 1) = ((j + 1 : Nat) : Int) := w64 (by omega) (by omega)
    refine Ev.step (fun k => by rw [spec_ExpectOk.l1, if_pos (show (j : Int) < (i : Int) by omega), if_pos (show (0 : Int) ≤ (j : Int) by omega), if_pos (show (j : Int) < (l.length : Int) by omega), if_pos (show (0 : Int) ≤ (i : Int) by omega), if_pos (show (i : Int) < (l.length : Int) by omega), e1]) ?_
    by_cases c : (rd_T47 l (j : Int)).f0 = (rd_T47 l (i : Int)).f0
    · simp only [if_pos c]
      refine ev_some (hf ?_).symm
      rw [rd_Expect l j (by omega)] at c
      exact List.any_eq_true.2 ⟨l[j], List.mem_take_iff_getElem.2 ⟨j, by omega, rfl⟩, by simp [c]⟩
    · simp only [if_neg c]
      refine ih (j + 1) (by omega) ?_
      rw [take_Expect l j (by omega), List.any_append, h]
      simp [c]
theorem spec_ex_loop (l : List Expect) (hl : l.length ≤ 6) (d : Nat) : ∀ i : Nat, i + d = l.length → Ev (fun k => spec_ExpectOk.l0 k l i) (exRun (l.take i) (l.drop i)) := by
  induction d with
  | zero =>
    intro i hi
    rw [List.drop_eq_nil_of_le (by omega)]
    exact Ev.step (f := fun _ => some true) (fun k => by rw [spec_ExpectOk.l0, if_neg (show ¬ (i : Int) < (l.length : Int) by omega)]) (Ev.now _)
  | succ d ih =>
    intro i hi
    have hlt : i < l.length := by omega
    rw [drop_Expect l i hlt, exRun, ← take_Expect l i hlt]
    refine Ev.step (fun k => by rw [spec_ExpectOk.l0, if_pos (show (i : Int) < (l.length : Int) by omega), if_pos (show (0 : Int) ≤ (i : Int) by omega)]) ?_
    have hno : Ev (fun k => spec_ExpectOk.j1 k l i true) false := Ev.step (fun k => by rw [spec_ExpectOk.j1, if_pos rfl]) (Ev.now _)
    by_cases c : 1 ≤ (rd_T47 l (i : Int)).f0 ∧ 0 ≤ (rd_T47 l (i : Int)).f1 ∧ (rd_T47 l (i : Int)).f1 ≤ (rd_T47 l (i : Int)).f2 ∧ (rd_T47 l (i : Int)).f2 ≤ 100000
    · rw [decide_eq_true c, Bool.true_and]
      simp only [if_neg (show ¬ (rd_T47 l (i : Int)).f0 < 1 by omega), if_neg (show ¬ (rd_T47 l (i : Int)).f1 < 0 by omega), if_neg (show ¬ (rd_T47 l (i : Int)).f2 < (rd_T47 l (i : Int)).f1 by omega), decide_eq_false (show ¬ (rd_T47 l (i : Int)).f2 > 100000 by omega)]
      refine Ev.step (fun k => by rw [spec_ExpectOk.j1, if_neg (by decide)]) ?_
      refine spec_ex_seen l hl i hlt _ (fun h => ?_) (fun h => ?_) i 0 (by omega) (by simp)
      · rw [h]
        simpa using ih (i + 1) (by omega)
      · rw [h]; rfl
    · rw [decide_eq_false c, Bool.false_and, Bool.false_and]
      by_cases c1 : (rd_T47 l (i : Int)).f0 < 1
      · simp only [if_pos c1]; exact hno
      · by_cases c2 : (rd_T47 l (i : Int)).f1 < 0
        · simp only [if_neg c1, if_pos c2]; exact hno
        · by_cases c3 : (rd_T47 l (i : Int)).f2 < (rd_T47 l (i : Int)).f1
          · simp only [if_neg c1, if_neg c2, if_pos c3]; exact hno
          · simp only [if_neg c1, if_neg c2, if_neg c3, decide_eq_true (show (rd_T47 l (i : Int)).f2 > 100000 by omega)]; exact hno
theorem spec_ex_ev (l : List Expect) : Ev (fun k => spec_ExpectOk.f k l) (exB l) := by
  unfold spec_ExpectOk.f exB
  by_cases h : (l.length : Int) > 6
  · rw [decide_eq_false (show ¬ l.length ≤ 6 by omega)]
    simp only [if_pos h]; exact Ev.now _
  · rw [decide_eq_true (show l.length ≤ 6 by omega)]
    simp only [if_neg h]
    simpa using spec_ex_loop l (by omega) l.length 0 (by omega)
theorem spec_in (x a b : Int) : spec_l01In.f x a b = some (decide (a ≤ x ∧ x ≤ b)) := by
  unfold spec_l01In.f
  by_cases h : x ≥ a
  · rw [if_pos h]; congr 1; simp; omega
  · rw [if_neg h]; congr 1; simp; omega
theorem spec_si_seen (l : List Sight) (hl : l.length ≤ 6) (i : Nat) (hi : i < l.length) (r : Bool) (hr : (decide ((rd_T49 l (i : Int)).f1 = 0) || !((l.take i).any (fun y => y.f1 == (rd_T49 l (i : Int)).f1))) = true → Ev (fun k => spec_SightsOk.l0 k l ((i + 1 : Nat) : Int)) r) (hf : (decide ((rd_T49 l (i : Int)).f1 = 0) || !((l.take i).any (fun y => y.f1 == (rd_T49 l (i : Int)).f1))) = false → r = false) (d : Nat) : ∀ j : Nat, j + d = i → (decide ((rd_T49 l (i : Int)).f1 = 0) || !((l.take j).any (fun y => y.f1 == (rd_T49 l (i : Int)).f1))) = true → Ev (fun k => spec_SightsOk.l1 k l i j) r := by
  induction d with
  | zero =>
    intro j hj h
    have e1 : wrap64 ((i : Int) + 1) = ((i + 1 : Nat) : Int) := w64 (by omega) (by omega)
    obtain rfl : j = i := by omega
    exact Ev.step (fun k => by rw [spec_SightsOk.l1, if_neg (show ¬ (j : Int) < (j : Int) by omega), e1]) (hr h)
  | succ d ih =>
    intro j hj h
    have e1 : wrap64 ((j : Int) + 1) = ((j + 1 : Nat) : Int) := w64 (by omega) (by omega)
    refine Ev.step (fun k => by rw [spec_SightsOk.l1, if_pos (show (j : Int) < (i : Int) by omega), if_pos (show (0 : Int) ≤ (i : Int) by omega), if_pos (show (i : Int) < (l.length : Int) by omega), if_pos (show (0 : Int) ≤ (j : Int) by omega), if_pos (show (j : Int) < (l.length : Int) by omega), e1]) ?_
    by_cases c0 : (rd_T49 l (i : Int)).f1 = 0
    · simp only [if_pos c0]
      exact ih (j + 1) (by omega) (by rw [decide_eq_true c0]; rfl)
    · simp only [if_neg c0]
      rw [decide_eq_false c0, Bool.false_or] at h hf
      simp only [decide_eq_false c0, Bool.false_or] at ih
      by_cases c : (rd_T49 l (j : Int)).f1 = (rd_T49 l (i : Int)).f1
      · simp only [if_pos c]
        refine ev_some (hf ?_).symm
        rw [rd_Sight l j (by omega)] at c
        rw [List.any_eq_true.2 ⟨l[j], List.mem_take_iff_getElem.2 ⟨j, by omega, rfl⟩, by simp [c]⟩]
        rfl
      · simp only [if_neg c]
        refine ih (j + 1) (by omega) ?_
        rw [take_Sight l j (by omega), List.any_append]
        simp only [Bool.not_eq_true'] at h
        rw [h]
        simp [c]
theorem spec_si_loop (l : List Sight) (hl : l.length ≤ 6) (d : Nat) : ∀ i : Nat, i + d = l.length → Ev (fun k => spec_SightsOk.l0 k l i) (siRun (l.take i) (l.drop i)) := by
  induction d with
  | zero =>
    intro i hi
    rw [List.drop_eq_nil_of_le (by omega)]
    exact Ev.step (f := fun _ => some true) (fun k => by rw [spec_SightsOk.l0, if_neg (show ¬ (i : Int) < (l.length : Int) by omega)]) (Ev.now _)
  | succ d ih =>
    intro i hi
    have hlt : i < l.length := by omega
    rw [drop_Sight l i hlt, siRun, ← take_Sight l i hlt]
    refine Ev.step (fun k => by rw [spec_SightsOk.l0, if_pos (show (i : Int) < (l.length : Int) by omega), if_pos (show (0 : Int) ≤ (i : Int) by omega), spec_in, Option.bind_some]) ?_
    have hno : Ev (fun k => spec_SightsOk.j1 k l i true) false := Ev.step (fun k => by rw [spec_SightsOk.j1, if_pos rfl]) (Ev.now _)
    have hyes : Ev (fun k => spec_SightsOk.j1 k l i false) ((decide ((rd_T49 l (i : Int)).f1 = 0) || !((l.take i).any (fun y => y.f1 == (rd_T49 l (i : Int)).f1))) && siRun (l.take (i + 1)) (l.drop (i + 1))) := by
      refine Ev.step (fun k => by rw [spec_SightsOk.j1, if_neg (by decide)]) ?_
      refine spec_si_seen l hl i hlt _ (fun h => ?_) (fun h => ?_) i 0 (by omega) (by simp)
      · rw [h]
        simpa using ih (i + 1) (by omega)
      · rw [h]; rfl
    by_cases c : 0 ≤ (rd_T49 l (i : Int)).f0 ∧ (rd_T49 l (i : Int)).f0 ≤ 100000
    · simp only [if_pos (decide_eq_true c)]
      by_cases c2 : (rd_T49 l (i : Int)).f1 < 0
      · rw [decide_eq_false (show ¬ (0 ≤ (rd_T49 l (i : Int)).f0 ∧ (rd_T49 l (i : Int)).f0 ≤ 100000 ∧ 0 ≤ (rd_T49 l (i : Int)).f1) by omega)]
        simp only [if_pos c2, Bool.false_and]; exact hno
      · rw [decide_eq_true (show (0 ≤ (rd_T49 l (i : Int)).f0 ∧ (rd_T49 l (i : Int)).f0 ≤ 100000 ∧ 0 ≤ (rd_T49 l (i : Int)).f1) by omega), Bool.true_and]
        simp only [if_neg c2]
        by_cases c3 : i = 0
        · subst c3
          rw [siAft_zero, Bool.true_and]
          simp only [if_neg (show ¬ ((0 : Nat) : Int) > 0 by omega)]
          exact hyes
        · have e2 : wrap64 ((i : Int) - 1) = ((i - 1 : Nat) : Int) := by rw [w64 (by omega) (by omega)]; omega
          rw [siAft_pos l i _ (by omega) (by omega), e2]
          simp only [if_pos (show (i : Int) > 0 by omega), if_pos (show (0 : Int) ≤ ((i - 1 : Nat) : Int) by omega), if_pos (show ((i - 1 : Nat) : Int) < (l.length : Int) by omega)]
          by_cases c4 : (rd_T49 l (i : Int)).f0 < (rd_T49 l ((i - 1 : Nat) : Int)).f0
          · rw [decide_eq_true c4, decide_eq_false (show ¬ (rd_T49 l ((i - 1 : Nat) : Int)).f0 ≤ (rd_T49 l (i : Int)).f0 by omega), Bool.false_and, Bool.false_and]
            exact hno
          · rw [decide_eq_false c4, decide_eq_true (show (rd_T49 l ((i - 1 : Nat) : Int)).f0 ≤ (rd_T49 l (i : Int)).f0 by omega), Bool.true_and]
            exact hyes
    · rw [decide_eq_false c, decide_eq_false (show ¬ (0 ≤ (rd_T49 l (i : Int)).f0 ∧ (rd_T49 l (i : Int)).f0 ≤ 100000 ∧ 0 ≤ (rd_T49 l (i : Int)).f1) by omega)]
      simp only [Bool.false_eq_true, if_false, Bool.false_and]; exact hno
theorem spec_si_ev (l : List Sight) : Ev (fun k => spec_SightsOk.f k l) (siB l) := by
  unfold spec_SightsOk.f siB
  by_cases h : (l.length : Int) > 6
  · rw [decide_eq_false (show ¬ l.length ≤ 6 by omega)]
    simp only [if_pos h]; exact Ev.now _
  · rw [decide_eq_true (show l.length ≤ 6 by omega)]
    simp only [if_neg h]
    simpa using spec_si_loop l (by omega) l.length 0 (by omega)
theorem spec_fits_loop (es : List Expect) (ls : List Sight) (hl : ls.length ≤ 6) (i e : Nat) (hi : i < ls.length) (he : e < es.length) (d : Nat) : ∀ j : Nat, j + d = ls.length → (ls.take j).any (fun y => y.f1 == (rd_T47 es (e : Int)).f0) = false → Ev (fun k => spec_l03Fits.l0 k es ls i e j) (fitB ls (rd_T49 ls (i : Int)) (rd_T47 es (e : Int))) := by
  induction d with
  | zero =>
    intro j hj h
    rw [List.take_of_length_le (by omega)] at h
    refine Ev.step (fun k => by rw [spec_l03Fits.l0, if_neg (show ¬ (j : Int) < (ls.length : Int) by omega), if_pos (show (0 : Int) ≤ (i : Int) by omega), if_pos (show (i : Int) < (ls.length : Int) by omega), if_pos (show (0 : Int) ≤ (e : Int) by omega), if_pos (show (e : Int) < (es.length : Int) by omega), spec_in, Option.bind_some]) ?_
    unfold fitB
    rw [h]
    by_cases c : (rd_T49 ls (i : Int)).f1 = 0
    · simp only [if_pos c]; exact ev_some (by simp [c])
    · simp only [if_neg c]; exact ev_some (by simp [c])
  | succ d ih =>
    intro j hj h
    have e1 : wrap64 ((j : Int) + 1) = ((j + 1 : Nat) : Int) := w64 (by omega) (by omega)
    refine Ev.step (fun k => by rw [spec_l03Fits.l0, if_pos (show (j : Int) < (ls.length : Int) by omega), if_pos (show (0 : Int) ≤ (j : Int) by omega), if_pos (show (0 : Int) ≤ (e : Int) by omega), if_pos (show (e : Int) < (es.length : Int) by omega), e1]) ?_
    by_cases c : (rd_T49 ls (j : Int)).f1 = (rd_T47 es (e : Int)).f0
    · simp only [if_pos c]
      refine ev_some ?_
      unfold fitB
      rw [rd_Sight ls j (by omega)] at c
      rw [List.any_eq_true.2 ⟨ls[j], List.getElem_mem _, by simp [c]⟩]
      simp
    · simp only [if_neg c]
      refine ih (j + 1) (by omega) ?_
      rw [take_Sight ls j (by omega), List.any_append, h]
      simp [c]
theorem spec_fits_ev (es : List Expect) (ls : List Sight) (hl : ls.length ≤ 6) (i e : Nat) (hi : i < ls.length) (he : e < es.length) : Ev (fun k => spec_l03Fits.f k es ls i e) (fitB ls (rd_T49 ls (i : Int)) (rd_T47 es (e : Int))) := by
  unfold spec_l03Fits.f
  exact spec_fits_loop es ls hl i e hi he ls.length 0 (by omega) (by simp)
theorem spec_has_loop (l : List Int) (hl : l.length ≤ 100) (q : Int) (d : Nat) : ∀ j : Nat, j + d = l.length → Ev (fun k => spec_l03Has.l0 k l q j) ((l.drop j).any (fun y => y == q)) := by
  induction d with
  | zero =>
    intro j hj
    rw [List.drop_eq_nil_of_le (by omega)]
    exact Ev.step (f := fun _ => some false) (fun k => by rw [spec_l03Has.l0, if_neg (show ¬ (j : Int) < (l.length : Int) by omega)]) (Ev.now _)
  | succ d ih =>
    intro j hj
    have e1 : wrap64 ((j : Int) + 1) = ((j + 1 : Nat) : Int) := w64 (by omega) (by omega)
    rw [drop_int l j (by omega), List.any_cons]
    refine Ev.step (fun k => by rw [spec_l03Has.l0, if_pos (show (j : Int) < (l.length : Int) by omega), if_pos (show (0 : Int) ≤ (j : Int) by omega), e1]) ?_
    by_cases c : rd l (j : Int) = q
    · simp only [if_pos c]; exact ev_some (by simp [c])
    · simp only [if_neg c]
      rw [show (rd l (j : Int) == q) = false by simp [c], Bool.false_or]
      exact ih (j + 1) (by omega)
theorem spec_has_ev (l : List Int) (hl : l.length ≤ 100) (q : Int) : Ev (fun k => spec_l03Has.f k l q) (l.any (fun y => y == q)) := by
  unfold spec_l03Has.f
  simpa using spec_has_loop l hl q l.length 0 (by omega)
/-- May sight x be taken for window e, without the bags in used? -/
def canB (ls : List Sight) (x : Sight) (used : List Int) (e : Expect) : Bool := fitB ls x e && !(used.any (fun q => q == e.f0))
/-- The most of the sights that can be taken for windows, without the bags in used. -/
def mostGo (es : List Expect) (ls : List Sight) : List Sight → List Int → Nat
  | [], _ => 0
  | x :: l, used => es.foldl (fun b e => if canB ls x used e = true then max b (mostGo es ls l (e.f0 :: used) + 1) else b) (mostGo es ls l used)
theorem fold_ge {α : Type} (c : α → Bool) (g : α → Nat) : ∀ (es : List α) (b : Nat), b ≤ es.foldl (fun b e => if c e = true then max b (g e) else b) b
  | [], b => Nat.le_refl _
  | e :: es, b => by
    rw [List.foldl_cons]
    refine Nat.le_trans ?_ (fold_ge c g es _)
    split <;> omega
theorem fold_has {α : Type} (c : α → Bool) (g : α → Nat) : ∀ (es : List α) (b : Nat) (e : α), e ∈ es → c e = true → g e ≤ es.foldl (fun b e => if c e = true then max b (g e) else b) b
  | e' :: es, b, e, h, hc => by
    rw [List.foldl_cons]
    rcases List.mem_cons.1 h with rfl | h
    · refine Nat.le_trans ?_ (fold_ge c g es _)
      rw [if_pos hc]; omega
    · exact fold_has c g es _ e h hc
theorem fold_le {α : Type} (c : α → Bool) (g : α → Nat) (m : Nat) : ∀ (es : List α) (b : Nat), b ≤ m → (∀ e ∈ es, c e = true → g e ≤ m) → es.foldl (fun b e => if c e = true then max b (g e) else b) b ≤ m
  | [], b, hb, _ => hb
  | e :: es, b, hb, h => by
    rw [List.foldl_cons]
    refine fold_le c g m es _ ?_ (fun e' he => h e' (by simp [he]))
    have := h e (by simp)
    split
    · have := this (by assumption); omega
    · exact hb
theorem most_skip (es : List Expect) (ls : List Sight) (x : Sight) (l : List Sight) (u : List Int) : mostGo es ls l u ≤ mostGo es ls (x :: l) u := by
  rw [mostGo]; exact fold_ge _ _ es _
theorem most_take (es : List Expect) (ls : List Sight) (x : Sight) (l : List Sight) (u : List Int) (e : Expect) (he : e ∈ es) (hc : canB ls x u e = true) : mostGo es ls l (e.f0 :: u) + 1 ≤ mostGo es ls (x :: l) u := by
  rw [mostGo]; exact fold_has (canB ls x u) (fun e => mostGo es ls l (e.f0 :: u) + 1) es _ e he hc
theorem most_le (es : List Expect) (ls : List Sight) (x : Sight) (l : List Sight) (u : List Int) (m : Nat) (h0 : mostGo es ls l u ≤ m) (h : ∀ e ∈ es, canB ls x u e = true → mostGo es ls l (e.f0 :: u) + 1 ≤ m) : mostGo es ls (x :: l) u ≤ m := by
  rw [mostGo]; exact fold_le (canB ls x u) (fun e => mostGo es ls l (e.f0 :: u) + 1) m es _ h0 h
theorem fit_iff (ls : List Sight) (x : Sight) (e : Expect) : fitB ls x e = true ↔ x.f1 = 0 ∧ ls.any (fun y => y.f1 == e.f0) = false ∧ e.f1 ≤ x.f0 ∧ x.f0 ≤ e.f2 := by
  unfold fitB
  simp only [Bool.and_eq_true, Bool.not_eq_true', decide_eq_true_eq, and_assoc]
theorem can_iff (ls : List Sight) (x : Sight) (u : List Int) (e : Expect) : canB ls x u e = true ↔ fitB ls x e = true ∧ e.f0 ∉ u := by
  unfold canB
  simp only [Bool.and_eq_true, Bool.not_eq_true', List.any_eq_false, beq_iff_eq]
  refine and_congr Iff.rfl ⟨fun h hm => h _ hm rfl, fun h q hq hx => h (hx ▸ hq)⟩
/-- Only which bags are used matters (of windows whose bags no sight has). -/
theorem most_same' (es : List Expect) (ls : List Sight) : ∀ (l : List Sight) (u v : List Int), (∀ e ∈ es, ls.any (fun y => y.f1 == e.f0) = false → (e.f0 ∈ u ↔ e.f0 ∈ v)) → mostGo es ls l u = mostGo es ls l v := by
  have key : ∀ (l : List Sight) (u v : List Int), (∀ e ∈ es, ls.any (fun y => y.f1 == e.f0) = false → (e.f0 ∈ u ↔ e.f0 ∈ v)) → mostGo es ls l u ≤ mostGo es ls l v := by
    intro l
    induction l with
    | nil => intro u v _; exact Nat.le_refl _
    | cons x l ih =>
      intro u v h
      refine most_le es ls x l u _ (Nat.le_trans (ih u v h) (most_skip es ls x l v)) (fun e he hc => ?_)
      rw [can_iff] at hc
      refine Nat.le_trans (Nat.add_le_add_right (ih (e.f0 :: u) (e.f0 :: v) (fun e' he' hn => ?_)) 1) (most_take es ls x l v e he ((can_iff ls x v e).2 ⟨hc.1, fun hm => hc.2 ((h e he ((fit_iff ls x e).1 hc.1).2.1).2 hm)⟩))
      simp only [List.mem_cons, h e' he' hn]
  exact fun l u v h => Nat.le_antisymm (key l u v h) (key l v u (fun e he hn => (h e he hn).symm))
theorem most_same (es : List Expect) (ls : List Sight) (l : List Sight) (u v : List Int) (h : ∀ e ∈ es, e.f0 ∈ u ↔ e.f0 ∈ v) : mostGo es ls l u = mostGo es ls l v := most_same' es ls l u v (fun e he _ => h e he)
/-- One bag more that is used costs at most one. -/
theorem most_one (es : List Expect) (ls : List Sight) (a : Int) : ∀ (l : List Sight) (u : List Int), mostGo es ls l u ≤ mostGo es ls l (a :: u) + 1
  | [], u => by simp [mostGo]
  | x :: l, u => by
    refine most_le es ls x l u _ (Nat.le_trans (most_one es ls a l u) (Nat.add_le_add_right (most_skip es ls x l _) 1)) (fun e he hc => ?_)
    by_cases h : e.f0 = a
    · rw [h]; exact Nat.add_le_add_right (most_skip es ls x l _) 1
    · rw [can_iff] at hc
      have h1 := most_take es ls x l (a :: u) e he ((can_iff ls x (a :: u) e).2 ⟨hc.1, by simp [h, hc.2]⟩)
      have h2 := most_one es ls a l (e.f0 :: u)
      rw [most_same es ls l (a :: e.f0 :: u) (e.f0 :: a :: u) (fun e' _ => by simp only [List.mem_cons]; exact or_left_comm)] at h2
      omega
/-- Of two windows, keep the one that fits whatever the other one fits later. -/
theorem most_swap (es : List Expect) (ls : List Sight) (hes : ∀ e ∈ es, ∀ e' ∈ es, e.f0 = e'.f0 → e = e') (a b : Expect) (hb : b ∈ es) (ha : a ∈ es) : ∀ (l : List Sight) (u : List Int), (∀ x ∈ l, fitB ls x a = true → fitB ls x b = true) → b.f0 ∉ u → mostGo es ls l (b.f0 :: u) ≤ mostGo es ls l (a.f0 :: u)
  | [], u, _, _ => by simp [mostGo]
  | x :: l, u, h, hu => by
    have hl : ∀ x ∈ l, fitB ls x a = true → fitB ls x b = true := fun x hx => h x (by simp [hx])
    by_cases hab : b.f0 = a.f0
    · rw [hab]; exact Nat.le_refl _
    refine most_le es ls x l _ _ (Nat.le_trans (most_swap es ls hes a b hb ha l u hl hu) (most_skip es ls x l _)) (fun e he hc => ?_)
    rw [can_iff] at hc
    have hne : e.f0 ≠ b.f0 := fun hh => hc.2 (by simp [hh])
    have hnu : e.f0 ∉ u := fun hh => hc.2 (by simp [hh])
    by_cases hea : e.f0 = a.f0
    · have e1 := hes e he a ha hea
      subst e1
      have h1 := most_take es ls x l (e.f0 :: u) b hb ((can_iff ls x _ b).2 ⟨h x (by simp) hc.1, by simp [hab, hu]⟩)
      rw [most_same es ls l (e.f0 :: b.f0 :: u) (b.f0 :: e.f0 :: u) (fun e' _ => by simp only [List.mem_cons]; exact or_left_comm)]
      exact h1
    · have h1 := most_take es ls x l (a.f0 :: u) e he ((can_iff ls x _ e).2 ⟨hc.1, by simp [hea, hnu]⟩)
      have h2 := most_swap es ls hes a b hb ha l (e.f0 :: u) hl (by simp [hu, Ne.symm hne])
      rw [most_same es ls l (b.f0 :: e.f0 :: u) (e.f0 :: b.f0 :: u) (fun e' _ => by simp only [List.mem_cons]; exact or_left_comm), most_same es ls l (a.f0 :: e.f0 :: u) (e.f0 :: a.f0 :: u) (fun e' _ => by simp only [List.mem_cons]; exact or_left_comm)] at h2
      omega
/-- What is best among the windows that a sight can be taken for. -/
theorem best_spec (ls : List Sight) (x : Sight) (out : List Int) : ∀ (l : List Expect) (b : Option Expect), (∀ w, b = some w → canB ls x out w = true) →
    (bestE ls x out b l = none → b = none ∧ ∀ e ∈ l, canB ls x out e = false) ∧
    (∀ w, bestE ls x out b l = some w → canB ls x out w = true ∧ (b = some w ∨ w ∈ l) ∧ (∀ v, b = some v → w.f2 ≤ v.f2) ∧ ∀ e ∈ l, canB ls x out e = true → w.f2 ≤ e.f2)
  | [], b, hb => ⟨fun h => ⟨h, by simp⟩, fun w h => ⟨hb w h, .inl h, fun v hv => by rw [show b = some w from h] at hv; cases hv; exact Int.le_refl _, by simp⟩⟩
  | e :: l, b, hb => by
    have hn : ∀ w, nextE ls x out b e = some w → canB ls x out w = true := by
      intro w hw
      unfold nextE at hw
      by_cases c : canB ls x out e = true
      · rw [if_pos (show (fitB ls x e && !(out.any (fun q => q == e.f0))) = true from c)] at hw
        cases b with
        | none => rw [pickE] at hw; cases hw; exact c
        | some v =>
          rw [pickE] at hw
          split at hw
          · cases hw; exact c
          · cases hw; exact hb _ rfl
      · rw [if_neg (show ¬ (fitB ls x e && !(out.any (fun q => q == e.f0))) = true from c)] at hw
        exact hb w hw
    obtain ⟨i1, i2⟩ := best_spec ls x out l (nextE ls x out b e) hn
    rw [bestE]
    refine ⟨fun h => ?_, fun w h => ?_⟩
    · obtain ⟨h1, h2⟩ := i1 h
      unfold nextE at h1
      by_cases c : canB ls x out e = true
      · rw [if_pos (show (fitB ls x e && !(out.any (fun q => q == e.f0))) = true from c)] at h1
        cases b with
        | none => rw [pickE] at h1; cases h1
        | some v => rw [pickE] at h1; split at h1 <;> cases h1
      · rw [if_neg (show ¬ (fitB ls x e && !(out.any (fun q => q == e.f0))) = true from c)] at h1
        refine ⟨h1, fun e' he' => ?_⟩
        rcases List.mem_cons.1 he' with rfl | he'
        · simpa using c
        · exact h2 e' he'
    · obtain ⟨h1, h2, h3, h4⟩ := i2 w h
      by_cases c : canB ls x out e = true
      · have hN : nextE ls x out b e = pickE e b := by unfold nextE; rw [if_pos (show (fitB ls x e && !(out.any (fun q => q == e.f0))) = true from c)]
        rw [hN] at h2 h3
        cases b with
        | none =>
          rw [pickE] at h2 h3
          refine ⟨h1, .inr ?_, by simp, fun e' he' hc' => ?_⟩
          · rcases h2 with h2 | h2
            · cases h2; simp
            · simp [h2]
          · rcases List.mem_cons.1 he' with rfl | he'
            · exact h3 _ rfl
            · exact h4 e' he' hc'
        | some v =>
          rw [pickE] at h2 h3
          by_cases hb2 : betB v e = true
          · rw [if_pos hb2] at h2 h3
            have hle : e.f2 ≤ v.f2 := by unfold betB at hb2; simp at hb2; omega
            refine ⟨h1, .inr ?_, fun v' hv' => ?_, fun e' he' hc' => ?_⟩
            · rcases h2 with h2 | h2
              · cases h2; simp
              · simp [h2]
            · cases hv'; have := h3 _ rfl; omega
            · rcases List.mem_cons.1 he' with rfl | he'
              · exact h3 _ rfl
              · exact h4 e' he' hc'
          · rw [if_neg hb2] at h2 h3
            have hle : v.f2 ≤ e.f2 := by unfold betB at hb2; simp at hb2; omega
            refine ⟨h1, ?_, fun v' hv' => ?_, fun e' he' hc' => ?_⟩
            · rcases h2 with h2 | h2
              · exact .inl h2
              · exact .inr (by simp [h2])
            · cases hv'; exact h3 _ rfl
            · rcases List.mem_cons.1 he' with rfl | he'
              · have := h3 _ rfl; omega
              · exact h4 e' he' hc'
      · have hN : nextE ls x out b e = b := by unfold nextE; rw [if_neg (show ¬ (fitB ls x e && !(out.any (fun q => q == e.f0))) = true from c)]
        rw [hN] at h2 h3
        refine ⟨h1, ?_, h3, fun e' he' hc' => ?_⟩
        · rcases h2 with h2 | h2
          · exact .inl h2
          · exact .inr (by simp [h2])
        · rcases List.mem_cons.1 he' with rfl | he'
          · exact absurd hc' c
          · exact h4 e' he' hc'
/-- Taking the best window is as good as anything, where later sights are not earlier in time. -/
theorem most_best (es : List Expect) (ls : List Sight) (hes : ∀ e ∈ es, ∀ e' ∈ es, e.f0 = e'.f0 → e = e') (x : Sight) (l : List Sight) (ht : ∀ y ∈ l, x.f0 ≤ y.f0) (u : List Int) :
    mostGo es ls (x :: l) u = match bestE ls x u none es with | none => mostGo es ls l u | some w => mostGo es ls l (w.f0 :: u) + 1 := by
  obtain ⟨i1, i2⟩ := best_spec ls x u es none (by simp)
  cases hb : bestE ls x u none es with
  | none =>
    refine Nat.le_antisymm (most_le es ls x l u _ (Nat.le_refl _) (fun e he hc => ?_)) (most_skip es ls x l u)
    rw [(i1 hb).2 e he] at hc; cases hc
  | some w =>
    obtain ⟨h1, h2, _, h4⟩ := i2 w hb
    have hw : w ∈ es := by rcases h2 with h2 | h2; · cases h2
                           · exact h2
    refine Nat.le_antisymm (most_le es ls x l u _ (most_one es ls w.f0 l u) (fun e he hc => Nat.add_le_add_right ?_ 1)) (most_take es ls x l u w hw h1)
    have h5 := h4 e he hc
    rw [can_iff] at hc h1
    refine most_swap es ls hes w e he hw l u (fun y hy hf => ?_) hc.2
    have hty := ht y hy
    have f1 := (fit_iff ls x e).1 hc.1
    have f2 := (fit_iff ls y w).1 hf
    exact (fit_iff ls y e).2 ⟨f2.1, f1.2.1, by omega, by omega⟩
/-- How many of the sights without a bag are taken for one. -/
def cntGo : List Sight → List Int → Nat
  | x :: l, q :: r => (if x.f1 = 0 ∧ q ≠ 0 then 1 else 0) + cntGo l r
  | _, _ => 0
/-- What Assign adds. -/
def asTail (es : List Expect) (ls : List Sight) : List Int → List Sight → List Int
  | _, [] => []
  | out, x :: l => bagOf x (bestE ls x out none es) :: asTail es ls (out ++ [bagOf x (bestE ls x out none es)]) l
theorem asGo_tail (es : List Expect) (ls : List Sight) : ∀ (l : List Sight) (out : List Int), asGo es ls out l = out ++ asTail es ls out l
  | [], out => by simp [asGo, asTail]
  | x :: l, out => by rw [asGo, asTail, asGo_tail es ls l]; simp
theorem as_most (es : List Expect) (ls : List Sight) (hes : ∀ e ∈ es, ∀ e' ∈ es, e.f0 = e'.f0 → e = e') (hp : ∀ e ∈ es, e.f0 ≠ 0) : ∀ (l : List Sight) (out : List Int), (∀ x ∈ l, x ∈ ls) → l.Pairwise (fun x y => x.f0 ≤ y.f0) → cntGo l (asTail es ls out l) = mostGo es ls l out
  | [], _, _, _ => by simp [cntGo, mostGo]
  | x :: l, out, hm, hs => by
    have hs' := List.pairwise_cons.1 hs
    rw [most_best es ls hes x l hs'.1 out, asTail, cntGo]
    have ih := as_most es ls hes hp l (out ++ [bagOf x (bestE ls x out none es)]) (fun y hy => hm y (by simp [hy])) hs'.2
    rw [ih]
    obtain ⟨_, i2⟩ := best_spec ls x out es none (by simp)
    cases hb : bestE ls x out none es with
    | none =>
      rw [show bagOf x none = x.f1 from rfl]
      rw [if_neg (by intro h; exact h.2 h.1), Nat.zero_add]
      refine most_same' es ls l _ _ (fun e he hn => ?_)
      simp only [List.mem_append, List.mem_singleton, or_iff_left_iff_imp]
      intro h
      rw [List.any_eq_false] at hn
      exact absurd (by simp [h]) (hn x (hm x (by simp)))
    | some w =>
      obtain ⟨h1, h2, _, _⟩ := i2 w hb
      have hw : w ∈ es := by
        rcases h2 with h2 | h2
        · cases h2
        · exact h2
      have hx := ((fit_iff ls x w).1 ((can_iff ls x out w).1 h1).1).1
      rw [show bagOf x (some w) = w.f0 from rfl]
      rw [if_pos ⟨hx, hp w hw⟩, Nat.add_comm]
      congr 1
      exact most_same es ls l _ _ (fun e _ => by simp [or_comm])
/-- No way to take sights takes more. -/
theorem take_most (es : List Expect) (ls : List Sight) : ∀ (l : List Sight) (t : List Int) (u : List Int), (∀ (i : Nat) (x : Sight) (q : Int), l[i]? = some x → t[i]? = some q → q ≠ 0 → ∃ e ∈ es, e.f0 = q ∧ fitB ls x e = true) → (∀ q ∈ t, q ≠ 0 → q ∉ u) → (∀ (i j : Nat) (q : Int), t[i]? = some q → t[j]? = some q → q ≠ 0 → i = j) → cntGo l t ≤ mostGo es ls l u
  | [], t, u, _, _, _ => by simp [cntGo]
  | x :: l, [], u, _, _, _ => by simp [cntGo]
  | x :: l, q :: t, u, h, hu, hd => by
    rw [cntGo]
    have h' : ∀ (i : Nat) (x : Sight) (q : Int), l[i]? = some x → t[i]? = some q → q ≠ 0 → ∃ e ∈ es, e.f0 = q ∧ fitB ls x e = true := fun i y p hy hp => h (i + 1) y p (by simpa using hy) (by simpa using hp)
    have hd' : ∀ (i j : Nat) (q : Int), t[i]? = some q → t[j]? = some q → q ≠ 0 → i = j := fun i j p hi hj hp => by have := hd (i + 1) (j + 1) p (by simpa using hi) (by simpa using hj) hp; omega
    by_cases c : q = 0
    · rw [if_neg (by simp [c]), Nat.zero_add]
      exact Nat.le_trans (take_most es ls l t u h' (fun p hp => hu p (by simp [hp])) hd') (most_skip es ls x l u)
    · obtain ⟨e, he, rfl, hf⟩ := h 0 x q rfl rfl c
      have h1 := most_take es ls x l u e he ((can_iff ls x u e).2 ⟨hf, hu _ (by simp) c⟩)
      have h2 := take_most es ls l t (e.f0 :: u) h' (fun p hp hp0 => by
        simp only [List.mem_cons, not_or]
        refine ⟨fun hh => ?_, hu p (by simp [hp]) hp0⟩
        obtain ⟨j, hj⟩ := List.getElem?_of_mem hp
        have := hd 0 (j + 1) p (by simp [hh]) (by simpa using hj) hp0
        omega) hd'
      have h3 : (if x.f1 = 0 ∧ e.f0 ≠ 0 then 1 else 0) ≤ 1 := by split <;> omega
      omega
theorem most_len (es : List Expect) (ls : List Sight) : ∀ (l : List Sight) (u : List Int), mostGo es ls l u ≤ l.length
  | [], _ => by simp [mostGo]
  | x :: l, u => most_le es ls x l u _ (Nat.le_trans (most_len es ls l u) (by simp)) (fun e _ _ => by have := most_len es ls l (e.f0 :: u); simp; omega)
/-- What MostAssigned returns. -/
def mostR (es : List Expect) (ls : List Sight) : Int := if exB es = true ∧ siB ls = true then (mostGo es ls ls [] : Int) else -1
theorem ev_pos {α : Type} {c : Prop} [Decidable c] {A B : Nat → Option α} {r : α} (h : c) (hA : Ev A r) : Ev (fun k => if c then A k else B k) r := by
  have : (fun k => if c then A k else B k) = A := funext (fun k => if_pos h)
  rw [this]; exact hA
theorem ev_neg {α : Type} {c : Prop} [Decidable c] {A B : Nat → Option α} {r : α} (h : ¬ c) (hB : Ev B r) : Ev (fun k => if c then A k else B k) r := by
  have : (fun k => if c then A k else B k) = B := funext (fun k => if_neg h)
  rw [this]; exact hB
theorem spec_most_in (es : List Expect) (ls : List Sight) (hes : es.length ≤ 6) (hl : ls.length ≤ 6) (i : Nat) (hi : i < ls.length) (used : List Int) (hu : used.length ≤ i) (ih : ∀ u : List Int, u.length ≤ i + 1 → Ev (fun k => spec_l03Most.f k es ls ((i + 1 : Nat) : Int) u (-1) 0) (mostGo es ls (ls.drop (i + 1)) u : Int)) (d : Nat) : ∀ (e b : Nat), e + d = es.length → b ≤ 6 → Ev (fun k => spec_l03Most.l0 k es ls i used (-1) 0 b e) ((es.drop e).foldl (fun b e => if canB ls (rd_T49 ls (i : Int)) used e = true then max b (mostGo es ls (ls.drop (i + 1)) (e.f0 :: used) + 1) else b) b : Nat) := by
  induction d with
  | zero =>
    intro e b he _
    rw [List.drop_eq_nil_of_le (show es.length ≤ e by omega), List.foldl_nil]
    exact Ev.step (f := fun _ => some (b : Int)) (fun k => by rw [spec_l03Most.l0, if_neg (show ¬ (e : Int) < (es.length : Int) by omega)]) (Ev.now _)
  | succ d ih2 =>
    intro e b he hb
    have hlt : e < es.length := by omega
    have e1 : wrap64 ((e : Int) + 1) = ((e + 1 : Nat) : Int) := w64 (by omega) (by omega)
    have e2 : wrap64 ((i : Int) + 1) = ((i + 1 : Nat) : Int) := w64 (by omega) (by omega)
    rw [drop_Expect es e hlt, List.foldl_cons]
    refine Ev.step (fun k => by rw [spec_l03Most.l0, if_pos (show (e : Int) < (es.length : Int) by omega)]) ?_
    refine ev_bind _ (spec_fits_ev es ls hl i e hi hlt) ?_
    cases c : fitB ls (rd_T49 ls (i : Int)) (rd_T47 es (e : Int)) with
    | false =>
      simp only [Bool.false_eq_true, if_false]
      rw [if_neg (by simp [canB, c])]
      exact Ev.step (fun k => by rw [spec_l03Most.j3, if_pos rfl, e1]) (ih2 (e + 1) b (by omega) hb)
    | true =>
      simp only [if_true, if_pos (show (0 : Int) ≤ (e : Int) by omega)]
      refine ev_bind _ (spec_has_ev used (by omega) _) ?_
      cases c2 : used.any (fun y => y == (rd_T47 es (e : Int)).f0) with
      | true =>
        simp only [if_true]
        rw [if_neg (by simp [canB, c2])]
        exact Ev.step (fun k => by rw [spec_l03Most.j3, if_pos rfl, e1]) (ih2 (e + 1) b (by omega) hb)
      | false =>
        simp only [Bool.false_eq_true, if_false, if_neg (show ¬ (i : Int) = -1 by omega)]
        rw [if_pos (by simp [canB, c, c2])]
        refine Ev.step (fun k => by rw [spec_l03Most.j3, if_neg (by decide), Option.bind_some, if_pos (show ([] : List Int).length + used.length < 17592186044416 by simp; omega), Option.bind_some, if_pos (show (0 : Int) ≤ (e : Int) by omega), if_pos (show (e : Int) < (es.length : Int) by omega), Option.bind_some, if_pos (show ([] ++ used : List Int).length + [(rd_T47 es (e : Int)).f0].length < 17592186044416 by simp; omega), List.nil_append, e1, e2]) ?_
        have hlen := most_len es ls (ls.drop (i + 1)) ((rd_T47 es (e : Int)).f0 :: used)
        rw [List.length_drop] at hlen
        refine ev_bind _ (ih _ (by simp; omega)) ?_
        rw [most_same es ls (ls.drop (i + 1)) (used ++ [(rd_T47 es (e : Int)).f0]) ((rd_T47 es (e : Int)).f0 :: used) (fun e' _ => by simp [or_comm])]
        generalize mostGo es ls (ls.drop (i + 1)) ((rd_T47 es (e : Int)).f0 :: used) = m at hlen ⊢
        have hE : e + 1 + d = es.length := by omega
        have hM : m + 1 ≤ 6 := by omega
        have e3 : wrap64 ((m : Int) + 1) = ((m + 1 : Nat) : Int) := w64 (by omega) (by omega)
        refine ev_pos (Int.natCast_nonneg m) ?_
        by_cases c3 : m + 1 > b
        · refine ev_pos (show wrap64 ((m : Int) + 1) > (b : Int) by rw [e3]; exact Int.ofNat_lt.2 c3) ?_
          rw [Nat.max_eq_right (Nat.le_of_lt c3)]
          have h := ih2 (e + 1) (m + 1) hE hM
          rw [← e3] at h
          exact h
        · refine ev_neg (show ¬ wrap64 ((m : Int) + 1) > (b : Int) by rw [e3]; exact fun hh => c3 (Int.ofNat_lt.1 hh)) ?_
          rw [Nat.max_eq_left (Nat.le_of_not_lt c3)]
          exact ih2 (e + 1) b hE hb
theorem spec_most_loop (es : List Expect) (ls : List Sight) (hes : es.length ≤ 6) (hl : ls.length ≤ 6) (d : Nat) : ∀ (i : Nat) (used : List Int), i + d = ls.length → used.length ≤ i → Ev (fun k => spec_l03Most.f k es ls i used (-1) 0) (mostGo es ls (ls.drop i) used : Int) := by
  induction d with
  | zero =>
    intro i used hi _
    rw [List.drop_eq_nil_of_le (by omega), mostGo]
    exact Ev.step (f := fun _ => some (0 : Int)) (fun k => by rw [spec_l03Most.f, if_pos (show (i : Int) ≥ (ls.length : Int) by omega)]) (Ev.now _)
  | succ d ih =>
    intro i used hi hu
    have e2 : wrap64 ((i : Int) + 1) = ((i + 1 : Nat) : Int) := w64 (by omega) (by omega)
    rw [drop_Sight ls i (by omega), mostGo]
    refine Ev.step (fun k => by rw [spec_l03Most.f, if_neg (show ¬ (i : Int) ≥ (ls.length : Int) by omega), if_neg (show ¬ (i : Int) = -1 by omega)]) ?_
    refine Ev.step (fun k => by rw [spec_l03Most.j0, if_pos rfl, e2]) ?_
    refine ev_bind _ (ih (i + 1) used (by omega) (by omega)) ?_
    have hlen := most_len es ls (ls.drop (i + 1)) used
    rw [List.length_drop] at hlen
    refine Ev.step (fun k => by rw [spec_l03Most.j1]) ?_
    simpa using spec_most_in es ls hes hl i (by omega) used hu (fun u hu' => ih (i + 1) u (by omega) hu') es.length 0 _ (by omega) (by omega)
theorem spec_most_ev (es : List Expect) (ls : List Sight) : Ev (fun k => spec_MostAssigned.f k es ls) (mostR es ls) := by
  unfold spec_MostAssigned.f mostR
  refine ev_bind _ (spec_ex_ev es) ?_
  cases h : exB es with
  | false => simp only [Bool.false_eq_true, if_false, false_and]; exact Ev.now _
  | true =>
    simp only [if_true, true_and]
    refine ev_bind _ (spec_si_ev ls) ?_
    cases h2 : siB ls with
    | false => simp only [Bool.false_eq_true, if_false]; exact Ev.now _
    | true =>
      simp only [if_true]
      refine ev_bind _ (by simpa using spec_most_loop es ls (exB_len h) (siB_len h2) ls.length 0 [] (by omega) (by simp)) ?_
      exact Ev.now _
/-- The index of the best window so far. -/
def atE (es : List Expect) (x : Int) (b : Option Expect) : Prop := (x = -1 ∧ b = none) ∨ ∃ j : Nat, j < es.length ∧ x = j ∧ b = some (rd_T47 es (j : Int))
theorem spec_as_in (es : List Expect) (ls : List Sight) (hes : es.length ≤ 6) (hl : ls.length ≤ 6) (out : List Int) (ho : out.length ≤ 6) (i : Nat) (hi : i < ls.length) (r : List Int) (hr : ∀ x8 x7 b, atE es x7 b → b = bestE ls (rd_T49 ls (i : Int)) out none es → Ev (fun k => spec_Assign.j3 k es ls out i x7 x8 false) r) (hf : (rd_T49 ls (i : Int)).f1 = 0) (d : Nat) : ∀ (e : Nat) (x7 : Int) (b : Option Expect), e + d = es.length → atE es x7 b → bestE ls (rd_T49 ls (i : Int)) out b (es.drop e) = bestE ls (rd_T49 ls (i : Int)) out none es → Ev (fun k => spec_Assign.l1 k es ls out i x7 e) r := by
  induction d with
  | zero =>
    intro e x7 b he ha hb
    rw [List.drop_eq_nil_of_le (by omega)] at hb
    refine Ev.step (fun k => by rw [spec_Assign.l1, if_neg (show ¬ (e : Int) < (es.length : Int) by omega)]) (hr _ _ _ ha hb)
  | succ d ih =>
    intro e x7 b he ha hb
    have hlt : e < es.length := by omega
    have e1 : wrap64 ((e : Int) + 1) = ((e + 1 : Nat) : Int) := w64 (by omega) (by omega)
    rw [drop_Expect es e hlt, bestE, nextE] at hb
    refine Ev.step (fun k => by rw [spec_Assign.l1, if_pos (show (e : Int) < (es.length : Int) by omega), if_pos (show (0 : Int) ≤ (i : Int) by omega), if_pos (show (i : Int) < (ls.length : Int) by omega), hf]) ?_
    refine Ev.step (fun k => by rw [spec_Assign.j3, if_pos (by rfl)]) ?_
    have hkeep : Ev (fun k => spec_Assign.l1 k es ls out i x7 ((e + 1 : Nat) : Int)) r → Ev (fun k => spec_Assign.j4 k es ls out i x7 e true) r := fun h => Ev.step (fun k => by rw [spec_Assign.j4, if_pos rfl, e1]) h
    refine ev_bind _ (spec_fits_ev es ls hl i e hi hlt) ?_
    cases c : fitB ls (rd_T49 ls (i : Int)) (rd_T47 es (e : Int)) with
    | false =>
      simp only [Bool.false_eq_true, if_false]
      rw [c, Bool.false_and, if_neg (by decide)] at hb
      exact hkeep (ih (e + 1) x7 b (by omega) ha hb)
    | true =>
      simp only [if_true, if_pos (show (0 : Int) ≤ (e : Int) by omega), if_pos (show (e : Int) < (es.length : Int) by omega)]
      refine ev_bind _ (spec_has_ev out (by omega) _) ?_
      cases c2 : out.any (fun y => y == (rd_T47 es (e : Int)).f0) with
      | true =>
        rw [c, c2, if_neg (by decide)] at hb
        exact hkeep (ih (e + 1) x7 b (by omega) ha hb)
      | false =>
        rw [c, c2, if_pos (by decide)] at hb
        refine Ev.step (fun k => by rw [spec_Assign.j4, if_neg (by decide), e1]) ?_
        have hnew : atE es (e : Int) (some (rd_T47 es (e : Int))) := .inr ⟨e, hlt, rfl, rfl⟩
        rcases ha with ⟨rfl, rfl⟩ | ⟨j, hj, rfl, rfl⟩
        · simp only [if_pos (show (-1 : Int) < 0 by omega)]
          exact ih (e + 1) e _ (by omega) hnew hb
        · simp only [if_neg (show ¬ (j : Int) < 0 by omega), if_pos (show (0 : Int) ≤ (e : Int) by omega), if_pos (show (e : Int) < (es.length : Int) by omega), if_pos (show (0 : Int) ≤ (j : Int) by omega), if_pos (show (j : Int) < (es.length : Int) by omega)]
          have hold : atE es (j : Int) (some (rd_T47 es (j : Int))) := .inr ⟨j, hj, rfl, rfl⟩
          rw [pickE] at hb
          unfold betB at hb
          by_cases c3 : (rd_T47 es (e : Int)).f2 < (rd_T47 es (j : Int)).f2
          · simp only [if_pos c3]
            rw [decide_eq_true c3, if_pos (by rfl)] at hb
            exact ih (e + 1) e _ (by omega) hnew hb
          · simp only [if_neg c3]
            rw [decide_eq_false c3] at hb
            by_cases c4 : (rd_T47 es (e : Int)).f2 = (rd_T47 es (j : Int)).f2
            · simp only [if_pos c4]
              rw [decide_eq_true c4] at hb
              by_cases c5 : (rd_T47 es (e : Int)).f0 < (rd_T47 es (j : Int)).f0
              · simp only [if_pos c5]
                rw [decide_eq_true c5, if_pos (by rfl)] at hb
                exact ih (e + 1) e _ (by omega) hnew hb
              · simp only [if_neg c5]
                rw [decide_eq_false c5, if_neg (by decide)] at hb
                exact ih (e + 1) j _ (by omega) hold hb
            · simp only [if_neg c4]
              rw [decide_eq_false c4, if_neg (by simp)] at hb
              exact ih (e + 1) j _ (by omega) hold hb
theorem bestE_named (ls : List Sight) (x : Sight) (out : List Int) (h : x.f1 ≠ 0) : ∀ (l : List Expect) (b : Option Expect), bestE ls x out b l = b
  | [], b => rfl
  | e :: l, b => by
    rw [bestE, nextE, show fitB ls x e = false by unfold fitB; rw [decide_eq_false h]; rfl, Bool.false_and, if_neg (by decide), bestE_named ls x out h l]
theorem spec_as_loop (es : List Expect) (ls : List Sight) (hes : es.length ≤ 6) (hl : ls.length ≤ 6) (d : Nat) : ∀ (i : Nat) (out : List Int), i + d = ls.length → out.length = i → Ev (fun k => spec_Assign.l0 k es ls out i) (asGo es ls out (ls.drop i)) := by
  induction d with
  | zero =>
    intro i out hi ho
    rw [List.drop_eq_nil_of_le (by omega)]
    exact Ev.step (f := fun _ => some out) (fun k => by rw [spec_Assign.l0, if_neg (show ¬ (i : Int) < (ls.length : Int) by omega)]) (Ev.now _)
  | succ d ih =>
    intro i out hi ho
    have hlt : i < ls.length := by omega
    have e1 : wrap64 ((i : Int) + 1) = ((i + 1 : Nat) : Int) := w64 (by omega) (by omega)
    rw [drop_Sight ls i hlt, asGo]
    refine Ev.step (fun k => by rw [spec_Assign.l0, if_pos (show (i : Int) < (ls.length : Int) by omega)]) ?_
    have hr : ∀ x8 x7 b, atE es x7 b → b = bestE ls (rd_T49 ls (i : Int)) out none es → Ev (fun k => spec_Assign.j3 k es ls out i x7 x8 false) (asGo es ls (out ++ [bagOf (rd_T49 ls (i : Int)) (bestE ls (rd_T49 ls (i : Int)) out none es)]) (ls.drop (i + 1))) := by
      intro x8 x7 b ha hb
      rw [← hb]
      refine Ev.step (fun k => by rw [spec_Assign.j3, if_neg (by decide), e1]) ?_
      rcases ha with ⟨rfl, rfl⟩ | ⟨j, hj, rfl, rfl⟩
      · simp only [if_neg (show ¬ (-1 : Int) ≥ 0 by omega), if_pos (show (0 : Int) ≤ (i : Int) by omega), if_pos (show (i : Int) < (ls.length : Int) by omega), if_pos (show out.length < 17592186044416 by omega)]
        exact ih (i + 1) _ (by omega) (by simp [ho])
      · simp only [if_pos (show (j : Int) ≥ 0 by omega), if_pos (show (0 : Int) ≤ (j : Int) by omega), if_pos (show (j : Int) < (es.length : Int) by omega), if_pos (show out.length < 17592186044416 by omega)]
        exact ih (i + 1) _ (by omega) (by simp [ho])
    by_cases hf : (rd_T49 ls (i : Int)).f1 = 0
    · exact spec_as_in es ls hes hl out (by omega) i hlt _ hr hf es.length 0 (-1) none (by omega) (.inl ⟨rfl, rfl⟩) (by simp)
    · have hb : none = bestE ls (rd_T49 ls (i : Int)) out none es := (bestE_named ls _ out hf es none).symm
      by_cases c : (0 : Int) < (es.length : Int)
      · refine Ev.step (fun k => by rw [spec_Assign.l1, if_pos c, if_pos (show (0 : Int) ≤ (i : Int) by omega), if_pos (show (i : Int) < (ls.length : Int) by omega), show ((rd_T49 ls (i : Int)).f1 == 0) = false by simp [hf]]) ?_
        exact hr _ _ _ (.inl ⟨rfl, rfl⟩) hb
      · refine Ev.step (fun k => by rw [spec_Assign.l1, if_neg c]) ?_
        exact hr _ _ _ (.inl ⟨rfl, rfl⟩) hb
theorem spec_as_ev (es : List Expect) (ls : List Sight) : Ev (fun k => spec_Assign.f k es ls) (asR es ls) := by
  unfold spec_Assign.f asR
  simp only [Option.bind_some]
  have hno : Ev (fun k => spec_Assign.j0 k es ls [] true) [] := Ev.step (fun k => by rw [spec_Assign.j0, if_pos rfl]) (Ev.now _)
  refine ev_bind _ (spec_ex_ev es) ?_
  cases h : exB es with
  | false => simp only [Bool.false_eq_true, if_false, false_and]; exact hno
  | true =>
    simp only [if_true, true_and]
    refine ev_bind _ (spec_si_ev ls) ?_
    cases h2 : siB ls with
    | false => simp only [Bool.false_eq_true, if_false]; exact hno
    | true =>
      simp only [if_true]
      refine Ev.step (fun k => by rw [spec_Assign.j0, if_neg (by decide)]) ?_
      simpa using spec_as_loop es ls (exB_len h) (siB_len h2) ls.length 0 [] (by omega) rfl
theorem ex_go : ∀ (l s : List Expect), impl_ExpectOk.go s l = exRun s l
  | [], s => rfl
  | x :: l, s => by
    unfold impl_ExpectOk.go exRun
    by_cases c : x.f0 < 1 ∨ x.f1 < 0 ∨ x.f2 < x.f1 ∨ x.f2 > 100000 ∨ s.any (fun y => y.f0 == x.f0) = true
    · rw [if_pos c]
      cases e : s.any (fun y => y.f0 == x.f0) with
      | true => simp
      | false =>
        rw [e] at c
        rw [decide_eq_false (show ¬ (1 ≤ x.f0 ∧ 0 ≤ x.f1 ∧ x.f1 ≤ x.f2 ∧ x.f2 ≤ 100000) by simp at c; omega)]
        simp
    · rw [if_neg c]
      have e : s.any (fun y => y.f0 == x.f0) = false := by
        cases e : s.any (fun y => y.f0 == x.f0) with
        | true => exact absurd (.inr (.inr (.inr (.inr e)))) c
        | false => rfl
      rw [e, decide_eq_true (show 1 ≤ x.f0 ∧ 0 ≤ x.f1 ∧ x.f1 ≤ x.f2 ∧ x.f2 ≤ 100000 by omega), ex_go l]
      simp
theorem impl_ex (l : List Expect) : impl_ExpectOk.f l = some (exB l) := by
  unfold impl_ExpectOk.f exB
  rw [ex_go, Bool.and_comm]
  congr 2
  simp; omega
theorem impl_tick (x : Int) : impl_isTick.f x = some (decide (0 ≤ x ∧ x ≤ 100000)) := by
  unfold impl_isTick.f
  by_cases h : x ≥ 0
  · rw [if_pos h]; congr 1; simp; omega
  · rw [if_neg h]; congr 1; simp; omega
theorem impl_si_loop (l : List Sight) (hl : l.length ≤ 1048600) (d : Nat) : ∀ i : Nat, i + d = l.length → Ev (fun k => impl_SightsOk.l0 k l l (l.length : Int) i) (siRun (l.take i) (l.drop i) && decide (l.length ≤ 6)) := by
  induction d with
  | zero =>
    intro i hi
    rw [List.drop_eq_nil_of_le (by omega), siRun, Bool.true_and]
    exact Ev.step (f := fun _ => some (decide ((l.length : Int) ≤ 6))) (fun k => by rw [impl_SightsOk.l0, if_neg (show ¬ (i : Int) < (l.length : Int) by omega)]) (ev_some (by simp; omega))
  | succ d ih =>
    intro i hi
    have hlt : i < l.length := by omega
    have e1 : wrap64 ((i : Int) + 1) = ((i + 1 : Nat) : Int) := w64 (by omega) (by omega)
    rw [drop_Sight l i hlt, siRun, ← take_Sight l i hlt]
    refine Ev.step (fun k => by rw [impl_SightsOk.l0, if_pos (show (i : Int) < (l.length : Int) by omega), if_pos (show (0 : Int) ≤ (i : Int) by omega), if_pos (show (i : Int) < (l.length : Int) by omega), impl_tick, Option.bind_some]) ?_
    have hno : ∀ b c, Ev (fun k => impl_SightsOk.j1 k l i l (l.length : Int) i true b c) false := fun b c => Ev.step (fun k => by rw [impl_SightsOk.j1, if_pos rfl]) (Ev.now _)
    have hyes : ∀ b, Ev (fun k => impl_SightsOk.j1 k l i l (l.length : Int) i false b (rd_T49 l (i : Int)).f1) (((decide ((rd_T49 l (i : Int)).f1 = 0) || !((l.take i).any (fun y => y.f1 == (rd_T49 l (i : Int)).f1))) && siRun (l.take (i + 1)) (l.drop (i + 1))) && decide (l.length ≤ 6)) := fun b => by
      refine Ev.step (fun k => by rw [impl_SightsOk.j1, if_neg (by decide), e1]) ?_
      by_cases c : (rd_T49 l (i : Int)).f1 = 0
      · rw [decide_eq_true c]
        simp only [if_pos c, Bool.true_or, Bool.true_and]
        exact ih (i + 1) (by omega)
      · rw [decide_eq_false c, Bool.false_or]
        simp only [if_neg c, if_pos (show (0 : Int) ≤ (i : Int) by omega), if_pos (show (i : Int) ≤ (l.length : Int) by omega), impl_isNamed.f, Option.bind_some, Int.toNat_natCast]
        cases h : (l.take i).any (fun y => y.f1 == (rd_T49 l (i : Int)).f1) with
        | true => simp only [if_true, Bool.not_true, Bool.false_and]; exact Ev.now _
        | false =>
          simp only [Bool.false_eq_true, if_false, Bool.not_false, Bool.true_and]
          exact ih (i + 1) (by omega)
    by_cases c : 0 ≤ (rd_T49 l (i : Int)).f0 ∧ (rd_T49 l (i : Int)).f0 ≤ 100000
    · simp only [if_pos (decide_eq_true c)]
      by_cases c3 : i = 0
      · subst c3
        rw [siAft_zero, Bool.and_true]
        simp only [if_neg (show ¬ ((0 : Nat) : Int) > 0 by omega)]
        by_cases c2 : (rd_T49 l ((0 : Nat) : Int)).f1 < 0
        · rw [decide_eq_false (show ¬ (0 ≤ (rd_T49 l ((0 : Nat) : Int)).f0 ∧ (rd_T49 l ((0 : Nat) : Int)).f0 ≤ 100000 ∧ 0 ≤ (rd_T49 l ((0 : Nat) : Int)).f1) by omega), decide_eq_true c2]
          simp only [Bool.false_and]; exact hno _ _
        · rw [decide_eq_true (show (0 ≤ (rd_T49 l ((0 : Nat) : Int)).f0 ∧ (rd_T49 l ((0 : Nat) : Int)).f0 ≤ 100000 ∧ 0 ≤ (rd_T49 l ((0 : Nat) : Int)).f1) by omega), Bool.true_and, decide_eq_false c2]
          exact hyes _
      · have e2 : wrap64 ((i : Int) - 1) = ((i - 1 : Nat) : Int) := by rw [w64 (by omega) (by omega)]; omega
        rw [siAft_pos l i _ (by omega) (by omega), e2]
        simp only [if_pos (show (i : Int) > 0 by omega), if_pos (show (0 : Int) ≤ ((i - 1 : Nat) : Int) by omega), if_pos (show ((i - 1 : Nat) : Int) < (l.length : Int) by omega)]
        by_cases c4 : (rd_T49 l (i : Int)).f0 < (rd_T49 l ((i - 1 : Nat) : Int)).f0
        · rw [decide_eq_false (show ¬ (rd_T49 l ((i - 1 : Nat) : Int)).f0 ≤ (rd_T49 l (i : Int)).f0 by omega)]
          simp only [if_pos c4, Bool.and_false, Bool.false_and]
          exact hno _ _
        · rw [decide_eq_true (show (rd_T49 l ((i - 1 : Nat) : Int)).f0 ≤ (rd_T49 l (i : Int)).f0 by omega), Bool.and_true]
          simp only [if_neg c4]
          by_cases c2 : (rd_T49 l (i : Int)).f1 < 0
          · rw [decide_eq_false (show ¬ (0 ≤ (rd_T49 l (i : Int)).f0 ∧ (rd_T49 l (i : Int)).f0 ≤ 100000 ∧ 0 ≤ (rd_T49 l (i : Int)).f1) by omega), decide_eq_true c2]
            simp only [Bool.false_and]; exact hno _ _
          · rw [decide_eq_true (show (0 ≤ (rd_T49 l (i : Int)).f0 ∧ (rd_T49 l (i : Int)).f0 ≤ 100000 ∧ 0 ≤ (rd_T49 l (i : Int)).f1) by omega), Bool.true_and, decide_eq_false c2]
            exact hyes _
    · rw [decide_eq_false c, decide_eq_false (show ¬ (0 ≤ (rd_T49 l (i : Int)).f0 ∧ (rd_T49 l (i : Int)).f0 ≤ 100000 ∧ 0 ≤ (rd_T49 l (i : Int)).f1) by omega)]
      simp only [Bool.false_eq_true, if_false, Bool.false_and]; exact hno _ _
theorem impl_si_ev (l : List Sight) (hl : l.length ≤ 1048600) : Ev (fun k => impl_SightsOk.f k l) (siB l) := by
  unfold impl_SightsOk.f siB
  rw [Bool.and_comm]
  simpa using impl_si_loop l hl l.length 0 (by omega)
theorem impl_fits (ls : List Sight) (x : Sight) (e : Expect) : impl_fits.f ls x.f0 x.f1 e.f0 e.f1 e.f2 = some (fitB ls x e) := by
  unfold impl_fits.f fitB impl_isNamed.f
  by_cases c : x.f1 = 0
  · rw [if_pos c, Option.bind_some, decide_eq_true c]
    cases h : ls.any (fun y => y.f1 == e.f0) with
    | true => simp
    | false =>
      rw [if_neg (by decide)]
      by_cases c2 : x.f0 ≥ e.f1
      · rw [if_pos c2]; congr 1; simp; omega
      · rw [if_neg c2]; congr 1; simp; omega
  · rw [if_neg c, decide_eq_false c]; rfl
theorem impl_are_ev (es : List Expect) (ls : List Sight) (hl : ls.length ≤ 1048600) : Ev (fun k => impl_areSights.f k es ls) (exB es && siB ls) := by
  unfold impl_areSights.f
  simp only [impl_ex, Option.bind_some]
  cases h : exB es with
  | false => simp only [Bool.false_eq_true, if_false, Bool.false_and]; exact Ev.now _
  | true =>
    simp only [if_true, Bool.true_and]
    exact ev_bind _ (impl_si_ev ls hl) (Ev.now _)
theorem index_loop (l : List Int) (hl : l.length ≤ 100) (q : Int) (d : Nat) : ∀ j : Nat, j + d = l.length → ∃ r, Ev (fun k => slices_Index_int_int.l0 k l q (l.length : Int) j) r ∧ decide (r ≥ 0) = (l.drop j).any (fun y => y == q) := by
  induction d with
  | zero =>
    intro j hj
    rw [List.drop_eq_nil_of_le (by omega)]
    exact ⟨-1, Ev.step (f := fun _ => some (-1)) (fun k => by rw [slices_Index_int_int.l0, if_neg (show ¬ (j : Int) < (l.length : Int) by omega)]) (Ev.now _), rfl⟩
  | succ d ih =>
    intro j hj
    have e1 : wrap64 ((j : Int) + 1) = ((j + 1 : Nat) : Int) := w64 (by omega) (by omega)
    rw [drop_int l j (by omega), List.any_cons]
    by_cases c : rd l (j : Int) = q
    · refine ⟨j, Ev.step (f := fun _ => some (j : Int)) (fun k => by rw [slices_Index_int_int.l0, if_pos (show (j : Int) < (l.length : Int) by omega), if_pos (show (0 : Int) ≤ (j : Int) by omega), if_pos (show (j : Int) < (l.length : Int) by omega), if_pos c.symm]) (Ev.now _), ?_⟩
      simp [c]
    · obtain ⟨r, h1, h2⟩ := ih (j + 1) (by omega)
      refine ⟨r, Ev.step (fun k => by rw [slices_Index_int_int.l0, if_pos (show (j : Int) < (l.length : Int) by omega), if_pos (show (0 : Int) ≤ (j : Int) by omega), if_pos (show (j : Int) < (l.length : Int) by omega), if_neg (fun h => c h.symm), e1]) h1, ?_⟩
      rw [show (rd l (j : Int) == q) = false by simp [c], Bool.false_or]
      exact h2
theorem contains_ev (l : List Int) (hl : l.length ≤ 100) (q : Int) : Ev (fun k => slices_Contains_int_int.f k l q) (l.any (fun y => y == q)) := by
  unfold slices_Contains_int_int.f slices_Index_int_int.f
  obtain ⟨r, h1, h2⟩ := index_loop l hl q l.length 0 (by omega)
  refine ev_bind r h1 ?_
  rw [h2, List.drop_zero]
  exact Ev.now _
/-- The best window so far, as the program keeps it. -/
def isE (w : Expect) (b : Option Expect) : Prop := (w.f0 = 0 ∧ b = none) ∨ (1 ≤ w.f0 ∧ b = some w)
theorem impl_as_in (es : List Expect) (ls : List Sight) (hes : es.length ≤ 6) (hm : ∀ e ∈ es, 1 ≤ e.f0) (out : List Int) (ho : out.length ≤ 6) (x15 : List Sight) (x16 x17 : Int) (x : Sight) (r : List Int) (hr : ∀ w b, isE w b → b = bestE ls x out none es → Ev (fun k => if out.length < 17592186044416 then impl_Assign.l0 k es ls (out ++ [mx x.f1 w.f0]) x15 x16 (wrap64 (x17 + 1)) else none) r) (d : Nat) : ∀ (e : Nat) (w : Expect) (b : Option Expect), e + d = es.length → isE w b → bestE ls x out b (es.drop e) = bestE ls x out none es → Ev (fun k => impl_Assign.l1 k es ls out x15 x16 x17 es (es.length : Int) e x.f0 x.f1 w.f0 w.f1 w.f2) r := by
  induction d with
  | zero =>
    intro e w b he ha hb
    rw [List.drop_eq_nil_of_le (by omega)] at hb
    exact Ev.step (fun k => by rw [impl_Assign.l1, if_neg (show ¬ (e : Int) < (es.length : Int) by omega)]) (hr _ _ ha hb)
  | succ d ih =>
    intro e w b he ha hb
    have hlt : e < es.length := by omega
    have e1 : wrap64 ((e : Int) + 1) = ((e + 1 : Nat) : Int) := w64 (by omega) (by omega)
    have hpos : 1 ≤ (rd_T47 es (e : Int)).f0 := hm _ (by rw [rd_Expect es e hlt]; exact List.getElem_mem _)
    rw [drop_Expect es e hlt, bestE, nextE] at hb
    refine Ev.step (fun k => by rw [impl_Assign.l1, if_pos (show (e : Int) < (es.length : Int) by omega), if_pos (show (0 : Int) ≤ (e : Int) by omega), if_pos (show (e : Int) < (es.length : Int) by omega), impl_fits, Option.bind_some]) ?_
    have hkeep : ∀ q0 q1 q2, Ev (fun k => impl_Assign.l1 k es ls out x15 x16 x17 es (es.length : Int) ((e + 1 : Nat) : Int) x.f0 x.f1 w.f0 w.f1 w.f2) r → Ev (fun k => impl_Assign.j2 k es ls out x15 x16 x17 es (es.length : Int) e true x.f0 x.f1 w.f0 w.f1 w.f2 q0 q1 q2) r := fun q0 q1 q2 h => Ev.step (fun k => by rw [impl_Assign.j2, if_pos rfl, e1]) h
    cases c : fitB ls x (rd_T47 es (e : Int)) with
    | false =>
      simp only [Bool.false_eq_true, if_false]
      rw [c, Bool.false_and, if_neg (by decide)] at hb
      exact hkeep _ _ _ (ih (e + 1) w b (by omega) ha hb)
    | true =>
      simp only [if_true]
      refine ev_bind _ (contains_ev out (by omega) _) ?_
      cases c2 : out.any (fun y => y == (rd_T47 es (e : Int)).f0) with
      | true =>
        rw [c, c2, if_neg (by decide)] at hb
        exact hkeep _ _ _ (ih (e + 1) w b (by omega) ha hb)
      | false =>
        rw [c, c2, if_pos (by decide)] at hb
        refine Ev.step (fun k => by rw [impl_Assign.j2, if_neg (by decide), e1]) ?_
        have hnew : isE (rd_T47 es (e : Int)) (some (rd_T47 es (e : Int))) := .inr ⟨hpos, rfl⟩
        rcases ha with ⟨h0, rfl⟩ | ⟨h0, rfl⟩
        · simp only [if_pos h0]
          exact ih (e + 1) _ _ (by omega) hnew hb
        · simp only [if_neg (show ¬ w.f0 = 0 by omega)]
          have hold : isE w (some w) := .inr ⟨h0, rfl⟩
          rw [pickE] at hb
          unfold betB at hb
          by_cases c3 : (rd_T47 es (e : Int)).f2 < w.f2
          · simp only [if_pos c3]
            rw [decide_eq_true c3, if_pos (by rfl)] at hb
            exact ih (e + 1) _ _ (by omega) hnew hb
          · simp only [if_neg c3]
            rw [decide_eq_false c3] at hb
            by_cases c4 : (rd_T47 es (e : Int)).f2 = w.f2
            · simp only [if_pos c4]
              rw [decide_eq_true c4] at hb
              by_cases c5 : (rd_T47 es (e : Int)).f0 < w.f0
              · simp only [if_pos c5]
                rw [decide_eq_true c5, if_pos (by rfl)] at hb
                exact ih (e + 1) _ _ (by omega) hnew hb
              · simp only [if_neg c5]
                rw [decide_eq_false c5, if_neg (by decide)] at hb
                exact ih (e + 1) _ _ (by omega) hold hb
            · simp only [if_neg c4]
              rw [decide_eq_false c4, if_neg (by simp)] at hb
              exact ih (e + 1) _ _ (by omega) hold hb
theorem impl_as_loop (es : List Expect) (ls : List Sight) (hes : es.length ≤ 6) (hm : ∀ e ∈ es, 1 ≤ e.f0) (hl : ls.length ≤ 6) (hs : ∀ x ∈ ls, 0 ≤ x.f1) (d : Nat) : ∀ (i : Nat) (out : List Int), i + d = ls.length → out.length = i → Ev (fun k => impl_Assign.l0 k es ls out ls (ls.length : Int) i) (asGo es ls out (ls.drop i)) := by
  induction d with
  | zero =>
    intro i out hi ho
    rw [List.drop_eq_nil_of_le (by omega)]
    exact Ev.step (f := fun _ => some out) (fun k => by rw [impl_Assign.l0, if_neg (show ¬ (i : Int) < (ls.length : Int) by omega)]) (Ev.now _)
  | succ d ih =>
    intro i out hi ho
    have hlt : i < ls.length := by omega
    have e1 : wrap64 ((i : Int) + 1) = ((i + 1 : Nat) : Int) := w64 (by omega) (by omega)
    have hx : 0 ≤ (rd_T49 ls (i : Int)).f1 := hs _ (by rw [rd_Sight ls i hlt]; exact List.getElem_mem _)
    rw [drop_Sight ls i hlt, asGo]
    refine Ev.step (fun k => by rw [impl_Assign.l0, if_pos (show (i : Int) < (ls.length : Int) by omega), if_pos (show (0 : Int) ≤ (i : Int) by omega), if_pos (show (i : Int) < (ls.length : Int) by omega)]) ?_
    refine impl_as_in es ls hes hm out (by omega) ls _ _ (rd_T49 ls (i : Int)) _ (fun w b ha hb => ?_) es.length 0 ⟨0, 0, 0⟩ none (by omega) (.inl ⟨rfl, rfl⟩) (by simp)
    rw [← hb, e1]
    simp only [if_pos (show out.length < 17592186044416 by omega)]
    have hbag : mx (rd_T49 ls (i : Int)).f1 w.f0 = bagOf (rd_T49 ls (i : Int)) b := by
      rcases ha with ⟨h0, rfl⟩ | ⟨h0, rfl⟩
      · unfold mx bagOf; rw [h0, if_neg (by omega)]
      · have := bestE_mem ls _ out es none w hb.symm
        rcases this with h | ⟨_, h⟩
        · simp at h
        · unfold mx bagOf; rw [h, if_pos (by omega)]
    rw [hbag]
    exact ih (i + 1) _ (by omega) (by simp [ho])
theorem impl_as_ev (es : List Expect) (ls : List Sight) (hl : ls.length ≤ 1048600) : Ev (fun k => impl_Assign.f k es ls) (asR es ls) := by
  unfold impl_Assign.f asR
  refine ev_bind _ (impl_are_ev es ls hl) ?_
  by_cases h : exB es = true ∧ siB ls = true
  · rw [if_pos h, h.1, h.2]
    simp only [Bool.and_self, if_true]
    simpa using impl_as_loop es ls (exB_len h.1) (fun e he => (exB_mem h.1 e he).1) (siB_len h.2) (fun x hx => (siB_mem h.2 x hx).2.2) ls.length 0 [] (by omega) rfl
  · rw [if_neg h]
    have : (exB es && siB ls) = false := by
      cases e : exB es with
      | false => rfl
      | true =>
        cases e2 : siB ls with
        | false => rfl
        | true => exact absurd ⟨e, e2⟩ h
    rw [this]
    simp only [Bool.false_eq_true, if_false]; exact Ev.now _
theorem most_fit (ls : List Sight) (x : Sight) (e : Expect) : impl_MostAssigned.fit ls x e = fitB ls x e := by
  unfold impl_MostAssigned.fit; rw [impl_fits]; rfl
theorem most_cnt : ∀ (l : List Sight) (t : List Int), impl_MostAssigned.cnt l t = (cntGo l t : Int)
  | [], _ => rfl
  | _ :: _, [] => rfl
  | x :: l, q :: t => by
    rw [impl_MostAssigned.cnt, cntGo, most_cnt l t]
    split <;> simp
theorem cnt_end : ∀ (l : List Sight) (t : List Int) (x : Sight) (q : Int), t.length = l.length → cntGo (l ++ [x]) (t ++ [q]) = cntGo l t + (if x.f1 = 0 ∧ q ≠ 0 then 1 else 0)
  | [], [], x, q, _ => by simp [cntGo]
  | y :: l, p :: t, x, q, h => by
    have := cnt_end l t x q (by simpa using h)
    simp only [List.cons_append, cntGo] at this ⊢
    omega
theorem most_wy_fold (es : List Expect) (ls l : List Sight) (t : List Int) (x : Sight) (c : Nat) (m : Int) : ∀ (es' : List Expect) (b : Nat), (∀ e ∈ es', fitB ls x e = true → ∀ m', impl_MostAssigned.wy es ls l (t ++ [e.f0]) m' = mx m' ((c + 1 + mostGo es ls l (e.f0 :: t) : Nat) : Int)) →
    es'.foldl (fun m e => if (impl_MostAssigned.fit ls x e && !(t.any (fun q => q == e.f0))) = true then impl_MostAssigned.wy es ls l (t ++ [e.f0]) m else m) (mx m ((c + b : Nat) : Int)) = mx m ((c + es'.foldl (fun b e => if canB ls x t e = true then max b (mostGo es ls l (e.f0 :: t) + 1) else b) b : Nat) : Int)
  | [], b, _ => rfl
  | e :: es', b, h => by
    rw [List.foldl_cons, List.foldl_cons]
    have h2 : (impl_MostAssigned.fit ls x e && !(t.any (fun q => q == e.f0))) = canB ls x t e := by rw [most_fit]; rfl
    rw [h2]
    cases c2 : canB ls x t e with
    | false =>
      rw [if_neg (by decide), if_neg (by decide)]
      exact most_wy_fold es ls l t x c m es' b (fun e' he' => h e' (by simp [he']))
    | true =>
      rw [if_pos rfl, if_pos rfl, h e (by simp) ((can_iff ls x t e).1 c2).1]
      rw [← most_wy_fold es ls l t x c m es' (max b (mostGo es ls l (e.f0 :: t) + 1)) (fun e' he' => h e' (by simp [he']))]
      congr 1
      unfold mx
      split <;> split <;> split <;> omega
theorem most_wy (es : List Expect) (hp : ∀ e ∈ es, e.f0 ≠ 0) (ls : List Sight) : ∀ (l pre : List Sight) (t : List Int) (m : Int), pre ++ l = ls → t.length = pre.length → impl_MostAssigned.wy es ls l t m = mx m ((cntGo pre t + mostGo es ls l t : Nat) : Int)
  | [], pre, t, m, h, ht => by
    rw [List.append_nil] at h
    rw [impl_MostAssigned.wy, most_cnt, mostGo, h, Nat.add_zero]
  | x :: l, pre, t, m, h, ht => by
    have h' : (pre ++ [x]) ++ l = ls := by simpa using h
    have hx : x ∈ ls := by rw [← h]; simp
    rw [impl_MostAssigned.wy, mostGo, most_wy es hp ls l (pre ++ [x]) (t ++ [x.f1]) m h' (by simp [ht]), cnt_end pre t x x.f1 ht, if_neg (fun hh => hh.2 hh.1), Nat.add_zero]
    rw [most_same' es ls l (t ++ [x.f1]) t (fun e he hn => by
      simp only [List.mem_append, List.mem_singleton, or_iff_left_iff_imp]
      intro hq
      rw [List.any_eq_false] at hn
      exact absurd (by simp [hq]) (hn x hx))]
    refine most_wy_fold es ls l t x _ m es _ (fun e he hf m' => ?_)
    rw [most_wy es hp ls l (pre ++ [x]) (t ++ [e.f0]) m' h' (by simp [ht]), cnt_end pre t x e.f0 ht, if_pos ⟨((fit_iff ls x e).1 hf).1, hp e he⟩, most_same es ls l (t ++ [e.f0]) (e.f0 :: t) (fun e' _ => by simp [or_comm])]
theorem impl_most_ev (es : List Expect) (ls : List Sight) (hl : ls.length ≤ 1048600) : Ev (fun k => impl_MostAssigned.f k es ls) (if exB es = true ∧ siB ls = true then (mostGo es ls ls [] : Int) else -1) := by
  unfold impl_MostAssigned.f
  refine ev_bind _ (impl_are_ev es ls hl) ?_
  by_cases h : exB es = true ∧ siB ls = true
  · rw [if_pos h, h.1, h.2]
    have h1 := exB_len h.1
    have h2 := siB_len h.2
    simp only [Bool.and_self, if_true]
    rw [if_pos (by omega), most_wy es (fun e he => by have := (exB_mem h.1 e he).1; omega) ls ls [] [] 0 rfl rfl]
    refine ev_some ?_
    rw [show cntGo [] [] = 0 from rfl, Nat.zero_add]
    unfold mx
    split <;> omega
  · rw [if_neg h]
    have : (exB es && siB ls) = false := by
      cases e : exB es with
      | false => rfl
      | true =>
        cases e2 : siB ls with
        | false => rfl
        | true => exact absurd ⟨e, e2⟩ h
    rw [this]
    simp only [Bool.false_eq_true, if_false]; exact Ev.now _
theorem exRun_ne : ∀ (l seen : List Expect), exRun seen l = true → (∀ e ∈ l, ∀ y ∈ seen, y.f0 ≠ e.f0) ∧ (∀ e ∈ l, ∀ e' ∈ l, e.f0 = e'.f0 → e = e')
  | [], _, _ => by simp
  | x :: l, seen, h => by
    simp only [exRun, Bool.and_eq_true, Bool.not_eq_true', List.any_eq_false, beq_iff_eq] at h
    obtain ⟨i1, i2⟩ := exRun_ne l (seen ++ [x]) h.2
    have i3 : ∀ e ∈ l, x.f0 ≠ e.f0 := fun e he => i1 e he x (by simp)
    refine ⟨fun e he y hy => ?_, fun e he e' he' hh => ?_⟩
    · rcases List.mem_cons.1 he with rfl | he
      · exact h.1.2 y hy
      · exact i1 e he y (by simp [hy])
    · rw [List.mem_cons] at he he'
      rcases he with h1 | h1
      · rcases he' with h3 | h3
        · rw [h1, h3]
        · rw [h1] at hh; exact absurd hh (i3 e' h3)
      · rcases he' with h3 | h3
        · rw [h3] at hh; exact absurd hh.symm (i3 e h1)
        · exact i2 e h1 e' h3 hh
theorem exB_ne {l : List Expect} (h : exB l = true) : ∀ e ∈ l, ∀ e' ∈ l, e.f0 = e'.f0 → e = e' := by
  unfold exB at h
  simp only [Bool.and_eq_true] at h
  exact (exRun_ne l [] h.2).2
theorem siRun_sorted : ∀ (l s : List Sight), siRun s l = true → (∀ p, s.getLast? = some p → ∀ y ∈ l, p.f0 ≤ y.f0) ∧ l.Pairwise (fun x y => x.f0 ≤ y.f0)
  | [], _, _ => by simp
  | x :: l, s, h => by
    simp only [siRun, Bool.and_eq_true] at h
    obtain ⟨i1, i2⟩ := siRun_sorted l (s ++ [x]) h.2
    have i3 : ∀ y ∈ l, x.f0 ≤ y.f0 := i1 x (by simp)
    refine ⟨fun p hp y hy => ?_, List.pairwise_cons.2 ⟨i3, i2⟩⟩
    have h1 := h.1.1.2
    unfold siAft at h1
    rw [hp] at h1
    have h2 : p.f0 ≤ x.f0 := by simpa using h1
    rcases List.mem_cons.1 hy with rfl | hy
    · exact h2
    · exact Int.le_trans h2 (i3 y hy)
theorem siB_sorted {l : List Sight} (h : siB l = true) : l.Pairwise (fun x y => x.f0 ≤ y.f0) := by
  unfold siB at h
  simp only [Bool.and_eq_true] at h
  exact (siRun_sorted l [] h.2).2
theorem asR_most {es : List Expect} {ls : List Sight} (h : exB es = true) (h2 : siB ls = true) : cntGo ls (asR es ls) = mostGo es ls ls [] := by
  unfold asR
  rw [if_pos ⟨h, h2⟩, asGo_tail, List.nil_append]
  exact as_most es ls (exB_ne h) (fun e he => by have := (exB_mem h e he).1; omega) ls [] (fun x hx => hx) (siB_sorted h2)
theorem asR_length {es : List Expect} {ls : List Sight} (h : exB es = true) (h2 : siB ls = true) : (asR es ls).length = ls.length := by
  unfold asR
  rw [if_pos ⟨h, h2⟩, asGo_len]
  simp
theorem cnt_next : ∀ (l : List Sight) (t : List Int) (i : Nat) (h : i < l.length) (h2 : i < t.length), cntGo (l.take (i + 1)) (t.take (i + 1)) = cntGo (l.take i) (t.take i) + (if l[i].f1 = 0 ∧ t[i] ≠ 0 then 1 else 0)
  | x :: l, q :: t, 0, _, _ => by simp [cntGo]
  | x :: l, q :: t, i + 1, h, h2 => by
    have := cnt_next l t i (by simpa using h) (by simpa using h2)
    simp only [List.take_succ_cons, cntGo, List.getElem_cons_succ] at this ⊢
    omega
theorem cnt_le : ∀ (l : List Sight) (t : List Int), cntGo l t ≤ l.length
  | [], _ => by simp [cntGo]
  | _ :: _, [] => by simp [cntGo]
  | x :: l, q :: t => by
    have := cnt_le l t
    simp only [cntGo, List.length_cons]
    split <;> omega
theorem byte_ok (b : List Int) (i h : Int) (hi : 0 ≤ i) (hb : b.length ≤ 140737488351232) :
    ∃ x i' h', spec_l01Byte.f b i h = some (x, i', h') ∧ 0 ≤ x ∧ x ≤ 255 ∧ 0 ≤ i' := by
  unfold spec_l01Byte.f
  by_cases h1 : i < (b.length : Int)
  · rw [if_pos h1, if_pos hi]
    refine ⟨_, _, _, rfl, (mask255 _).1, (mask255 _).2, ?_⟩
    rw [w64 (by omega) (by omega)]; omega
  · rw [if_neg h1]
    exact ⟨_, _, _, rfl, (mask255 _).1, (mask255 _).2, hi⟩
theorem below_ok (b : List Int) (i h n : Int) (hi : 0 ≤ i) (hb : b.length ≤ 140737488351232) :
    ∃ x i' h', spec_l01Below.f b i h n = some (x, i', h') ∧ (n ≤ 0 → x = 0) ∧ (0 < n → 0 ≤ x ∧ x < n) ∧ 0 ≤ i' := by
  unfold spec_l01Below.f
  by_cases h0 : n ≤ 0
  · rw [if_pos h0]
    exact ⟨_, _, _, rfl, fun _ => rfl, fun hn => by omega, hi⟩
  · rw [if_neg h0]
    by_cases h1 : n ≤ 256
    · rw [if_pos h1]
      obtain ⟨x, i', h', e, hx0, hx1, hi'⟩ := byte_ok b i h hi hb
      rw [e, Option.bind_some]
      simp only [if_neg (show ¬ n = 0 by omega)]
      have hm := Int.tmod_eq_emod_of_nonneg (b := n) hx0
      have := Int.emod_nonneg x (show n ≠ 0 by omega)
      have := Int.emod_lt_of_pos x (show 0 < n by omega)
      exact ⟨_, _, _, rfl, fun hn => by omega, fun _ => by rw [hm]; omega, hi'⟩
    · rw [if_neg h1]
      obtain ⟨x, i1, g1, e1, hx0, hx1, hi1⟩ := byte_ok b i h hi hb
      obtain ⟨y, i2, g2, e2, hy0, hy1, hi2⟩ := byte_ok b i1 g1 hi1 hb
      obtain ⟨z, i3, g3, e3, hz0, hz1, hi3⟩ := byte_ok b i2 g2 hi2 hb
      obtain ⟨v, i4, g4, e4, hv0, hv1, hi4⟩ := byte_ok b i3 g3 hi3 hb
      simp only [e1, e2, e3, e4, Option.bind_some, if_neg (show ¬ n = 0 by omega)]
      have w1 : wrap64 (x * 16777216) = x * 16777216 := w64 (by omega) (by omega)
      have w2 : wrap64 (y * 65536) = y * 65536 := w64 (by omega) (by omega)
      have w3 : wrap64 (z * 256) = z * 256 := w64 (by omega) (by omega)
      have w4 : wrap64 (x * 16777216 + y * 65536) = x * 16777216 + y * 65536 := w64 (by omega) (by omega)
      have w5 : wrap64 (x * 16777216 + y * 65536 + z * 256) = x * 16777216 + y * 65536 + z * 256 := w64 (by omega) (by omega)
      have w6 : wrap64 (x * 16777216 + y * 65536 + z * 256 + v) = x * 16777216 + y * 65536 + z * 256 + v := w64 (by omega) (by omega)
      rw [w1, w2, w3, w4, w5, w6]
      have hm := Int.tmod_eq_emod_of_nonneg (a := x * 16777216 + y * 65536 + z * 256 + v) (b := n) (by omega)
      have := Int.emod_nonneg (x * 16777216 + y * 65536 + z * 256 + v) (show n ≠ 0 by omega)
      have := Int.emod_lt_of_pos (x * 16777216 + y * 65536 + z * 256 + v) (show 0 < n by omega)
      exact ⟨_, _, _, rfl, fun hn => by omega, fun _ => by rw [hm]; omega, hi4⟩
theorem new_loop (b : List Int) (hb : b.length ≤ 140737488351232) (d : Nat) : ∀ (i : Nat) (h : Int), i + d = b.length → ∃ h', Ev (fun k => spec_l01New.l0 k b h i) (b, 0, h') := by
  induction d with
  | zero =>
    intro i h hi
    exact ⟨h, Ev.step (f := fun _ => some (b, 0, h)) (fun k => by rw [spec_l01New.l0, if_neg (by omega)]) (Ev.now _)⟩
  | succ d ih =>
    intro i h hi
    by_cases h4 : (i : Int) < 4000
    · obtain ⟨h', hev⟩ := ih (i + 1) (Go.bits .and .i64 (wrap64 ((wrap64 ((wrap64 (h * 131)) + (wrap64 (rd b i)))) + 7)) 1073741823) (by omega)
      refine ⟨h', Ev.step (fun k => ?_) hev⟩
      have e : wrap64 ((i : Int) + 1) = ((i + 1 : Nat) : Int) := w64 (by omega) (by omega)
      rw [spec_l01New.l0, if_pos (by omega), if_pos h4, if_pos (by omega), e]
    · exact ⟨h, Ev.step (f := fun _ => some (b, 0, h)) (fun k => by rw [spec_l01New.l0, if_pos (by omega), if_neg h4]) (Ev.now _)⟩
theorem new_ok (b : List Int) (hb : b.length ≤ 140737488351232) : ∃ h', Ev (fun k => spec_l01New.f k b) (b, 0, h') := by
  unfold spec_l01New.f
  exact new_loop b hb b.length 0 _ (by omega)
theorem pickInt_ok (b : List Int) (i h : Int) (l : List Int) (hl : 0 < l.length) (hi : 0 ≤ i) (hb : b.length ≤ 140737488351232) :
    ∃ x i' h', spec_l01PickInt.f b i h l = some (x, i', h') ∧ x ∈ l ∧ 0 ≤ i' := by
  unfold spec_l01PickInt.f
  obtain ⟨x, i1, h1, e1, _, hx, hi1⟩ := below_ok b i h l.length hi hb
  obtain ⟨h0, h2⟩ := hx (by omega)
  rw [e1, Option.bind_some]
  simp only [if_pos h0, if_pos h2]
  refine ⟨_, _, _, rfl, ?_, hi1⟩
  unfold rd
  rw [List.getD_eq_getElem?_getD, List.getElem?_eq_getElem (show x.toNat < l.length by omega)]
  exact List.getElem_mem _
theorem once_ok (b : List Int) (i h n : Int) (hi : 0 ≤ i) (hb : b.length ≤ 140737488351232) :
    ∃ (x : Bool) (i' h' : Int), spec_l01Once.f b i h n = some (x, i', h') ∧ 0 ≤ i' := by
  unfold spec_l01Once.f
  obtain ⟨x, i1, h1, e1, _, _, hi1⟩ := below_ok b i h n hi hb
  rw [e1, Option.bind_some]
  exact ⟨_, _, _, rfl, hi1⟩
/-- Valid windows with different bags. -/
theorem exRun_of : ∀ (l seen : List Expect), (∀ x ∈ l, 1 ≤ x.f0 ∧ 0 ≤ x.f1 ∧ x.f1 ≤ x.f2 ∧ x.f2 ≤ 100000) → (seen ++ l).Pairwise (fun x y => x.f0 ≠ y.f0) → exRun seen l = true
  | [], _, _, _ => rfl
  | x :: l, seen, h, hp => by
    have h2 : (seen ++ [x] ++ l).Pairwise (fun x y => x.f0 ≠ y.f0) := by simpa using hp
    have h3 := (List.pairwise_append.1 hp).2.2
    simp only [exRun, Bool.and_eq_true, decide_eq_true_eq, Bool.not_eq_true', List.any_eq_false, beq_iff_eq]
    exact ⟨⟨h x (by simp), fun y hy => h3 y hy x (by simp)⟩, exRun_of l (seen ++ [x]) (fun y hy => h y (by simp [hy])) h2⟩
theorem exB_of (l : List Expect) (hl : l.length ≤ 6) (h : ∀ x ∈ l, 1 ≤ x.f0 ∧ 0 ≤ x.f1 ∧ x.f1 ≤ x.f2 ∧ x.f2 ≤ 100000) (hp : l.Pairwise (fun x y => x.f0 ≠ y.f0)) : exB l = true := by
  unfold exB
  rw [decide_eq_true hl, exRun_of l [] h (by simpa using hp)]; rfl
theorem siRun_end : ∀ (l s : List Sight) (x : Sight), siRun s (l ++ [x]) = (siRun s l && (decide (0 ≤ x.f0 ∧ x.f0 ≤ 100000 ∧ 0 ≤ x.f1) && siAft (s ++ l) x && (decide (x.f1 = 0) || !((s ++ l).any (fun y => y.f1 == x.f1)))))
  | [], s, x => by simp [siRun]
  | y :: l, s, x => by
    rw [List.cons_append, siRun, siRun, siRun_end l (s ++ [y]) x]
    simp only [List.append_assoc, List.singleton_append, Bool.and_assoc]
theorem draw_ex_loop (b : List Int) (hb : b.length ≤ 140737488351232) : ∀ (n : Nat) (l : List Expect) (i h : Int), 0 ≤ i → l.length + n ≤ 6 → (∀ x ∈ l, 1 ≤ x.f0 ∧ 0 ≤ x.f1 ∧ x.f1 ≤ x.f2 ∧ x.f2 ≤ 100000) → (∀ x ∈ l, x.f0 ≤ 3 * (l.length : Int)) → l.Pairwise (fun x y => x.f0 ≠ y.f0) → ∃ l' i' h', Ev (fun k => spec_l03Expects.l0 k l (n : Int) b i h) (l', i', h') ∧ 0 ≤ i' ∧ exB l' = true
  | 0, l, i, h, hi, hl, hv, _, hp => by
    by_cases c : (l.length : Int) > 1
    · obtain ⟨x, i1, h1, e1, hi1⟩ := once_ok b i h 2 hi hb
      cases x with
      | true =>
        have ew : wrap64 ((l.length : Int) - 1) = ((l.length - 1 : Nat) : Int) := by rw [w64 (by omega) (by omega)]; omega
        have hperm := List.set_set_perm (i := 0) (j := l.length - 1) (show 0 < l.length by omega) (show l.length - 1 < l.length by omega)
        refine ⟨(l.set 0 l[l.length - 1]).set (l.length - 1) l[0], i1, h1, Ev.step (f := fun _ => some ((l.set 0 l[l.length - 1]).set (l.length - 1) l[0], i1, h1)) (fun k => ?_) (Ev.now _), hi1, exB_of _ (by simp; omega) (fun x hx => hv x (hperm.mem_iff.1 hx)) ((hperm.pairwise_iff (fun {_ _} h => Ne.symm h)).2 hp)⟩
        rw [spec_l03Expects.l0, if_neg (by omega), if_pos c, e1, Option.bind_some, if_pos rfl, if_pos (by omega), ew, if_pos (by omega), if_pos (by omega), show rd_T47 l 0 = l[0] from rd_Expect l 0 (by omega), rd_Expect l (l.length - 1) (by omega)]
        rfl
      | false =>
        exact ⟨l, i1, h1, Ev.step (f := fun _ => some (l, i1, h1)) (fun k => by rw [spec_l03Expects.l0, if_neg (by omega), if_pos c, e1, Option.bind_some, if_neg (show ¬ ((false, i1, h1).1 = true) from Bool.false_ne_true)]) (Ev.now _), hi1, exB_of l (by omega) hv hp⟩
    · exact ⟨l, i, h, Ev.step (f := fun _ => some (l, i, h)) (fun k => by rw [spec_l03Expects.l0, if_neg (by omega), if_neg c]) (Ev.now _), hi, exB_of l (by omega) hv hp⟩
  | n + 1, l, i, h, hi, hl, hv, hb3, hp => by
    have e1 : wrap64 (((n + 1 : Nat) : Int) - 1) = (n : Int) := by rw [w64 (by omega) (by omega)]; omega
    obtain ⟨x, i1, h1, e2, _, hx, hi1⟩ := below_ok b i h 20 hi hb
    obtain ⟨y, i2, h2, e3, _, hy, hi2⟩ := below_ok b i1 h1 3 hi1 hb
    obtain ⟨z, i3, h3, e4, hz, hi3⟩ := pickInt_ok b i2 h2 [0, 1, 2, 3, 5, 9, 14] (by decide) hi2 hb
    have hx := hx (by omega)
    have hy := hy (by omega)
    have hz : 0 ≤ z ∧ z ≤ 14 := by simp only [List.mem_cons, List.not_mem_nil, or_false] at hz; omega
    have w1 : wrap64 (3 * (l.length : Int)) = 3 * (l.length : Int) := w64 (by omega) (by omega)
    have w2 : wrap64 (1 + 3 * (l.length : Int)) = 1 + 3 * (l.length : Int) := w64 (by omega) (by omega)
    have w3 : wrap64 (1 + 3 * (l.length : Int) + y) = 1 + 3 * (l.length : Int) + y := w64 (by omega) (by omega)
    have w4 : wrap64 (x + z) = x + z := w64 (by omega) (by omega)
    obtain ⟨l', i', h', e5, hi', hok⟩ := draw_ex_loop b hb n (l ++ [⟨1 + 3 * (l.length : Int) + y, x, x + z⟩]) i3 h3 hi3 (by simp; omega) (fun q hq => by
        rcases List.mem_append.1 hq with hq | hq
        · exact hv q hq
        · obtain rfl := List.mem_singleton.1 hq
          simp only; omega) (fun q hq => by
        rw [List.length_append, List.length_singleton]
        rcases List.mem_append.1 hq with hq | hq
        · have := hb3 q hq; omega
        · obtain rfl := List.mem_singleton.1 hq
          simp only; omega) (List.pairwise_append.2 ⟨hp, List.pairwise_singleton _ _, fun q hq p hpp => by
        obtain rfl := List.mem_singleton.1 hpp
        have := hb3 q hq
        simp only; omega⟩)
    refine ⟨l', i', h', Ev.step (fun k => ?_) e5, hi', hok⟩
    rw [spec_l03Expects.l0, if_pos (by omega), e2, Option.bind_some, e3, Option.bind_some, e4, Option.bind_some, if_pos (by omega), e1]
    simp only [w1, w2, w3, w4]
theorem draw_si_loop (b : List Int) (hb : b.length ≤ 140737488351232) : ∀ (n : Nat) (l : List Sight) (t : Int) (i h : Int), 0 ≤ i → l.length + n ≤ 6 → siRun [] l = true → (∀ x ∈ l, x.f1 ≤ 3 * (l.length : Int)) → (∀ q, siAft l ⟨t, q⟩ = true) → 0 ≤ t → t ≤ 8 + 6 * (l.length : Int) → ∃ l' i' h', Ev (fun k => spec_l03Sights.l0 k l t (n : Int) b i h) (l', i', h') ∧ siB l' = true
  | 0, l, t, i, h, hi, hl, hr, _, _, _, _ => ⟨l, i, h, Ev.step (f := fun _ => some (l, i, h)) (fun k => by rw [spec_l03Sights.l0, if_neg (by omega)]) (Ev.now _), by unfold siB; rw [hr, decide_eq_true (by omega)]; rfl⟩
  | n + 1, l, t, i, h, hi, hl, hr, hb3, ha, ht, ht2 => by
    have e1 : wrap64 (((n + 1 : Nat) : Int) - 1) = (n : Int) := by rw [w64 (by omega) (by omega)]; omega
    obtain ⟨x, i1, h1, e2, hi1⟩ := once_ok b i h 4 hi hb
    have go : ∀ (q : Int) (i2 h2 : Int), 0 ≤ i2 → 0 ≤ q → (q = 0 ∨ (3 * (l.length : Int) < q ∧ q ≤ 3 * (l.length : Int) + 3)) → ∃ z i3 h3 l' i' h', spec_l01PickInt.f b i2 h2 [0, 0, 1, 2, 3, 6] = some (z, i3, h3) ∧ Ev (fun k => spec_l03Sights.l0 k (l ++ [⟨t, q⟩]) (wrap64 (t + z)) (n : Int) b i3 h3) (l', i', h') ∧ siB l' = true := by
      intro q i2 h2 hi2 hq hq2
      obtain ⟨z, i3, h3, e4, hz, hi3⟩ := pickInt_ok b i2 h2 [0, 0, 1, 2, 3, 6] (by decide) hi2 hb
      have hz : 0 ≤ z ∧ z ≤ 6 := by simp only [List.mem_cons, List.not_mem_nil, or_false] at hz; omega
      have w4 : wrap64 (t + z) = t + z := w64 (by omega) (by omega)
      obtain ⟨l', i', h', e5, hok⟩ := draw_si_loop b hb n (l ++ [⟨t, q⟩]) (t + z) i3 h3 hi3 (by simp; omega) (by
          rw [siRun_end, hr, List.nil_append, ha q, decide_eq_true (show 0 ≤ t ∧ t ≤ 100000 ∧ 0 ≤ q by omega)]
          rcases hq2 with rfl | hq2
          · simp
          · have : l.any (fun y => y.f1 == q) = false := by
              rw [List.any_eq_false]
              intro y hy
              have := hb3 y hy
              simp; omega
            simp only [this]; simp) (fun p hp => by
          rw [List.length_append, List.length_singleton]
          rcases List.mem_append.1 hp with hp | hp
          · have := hb3 p hp; omega
          · obtain rfl := List.mem_singleton.1 hp
            simp only; omega) (fun q' => by
          unfold siAft
          rw [List.getLast?_append]
          simp; omega) (by omega) (by rw [List.length_append, List.length_singleton]; omega)
      exact ⟨z, i3, h3, l', i', h', e4, by rw [w4]; exact e5, hok⟩
    cases x with
    | true =>
      obtain ⟨y, i2, h2, e3, _, hy, hi2⟩ := below_ok b i1 h1 3 hi1 hb
      have hy := hy (by omega)
      have w1 : wrap64 (3 * (l.length : Int)) = 3 * (l.length : Int) := w64 (by omega) (by omega)
      have w2 : wrap64 (3 * (l.length : Int) + 1) = 3 * (l.length : Int) + 1 := w64 (by omega) (by omega)
      have w3 : wrap64 (3 * (l.length : Int) + 1 + y) = 3 * (l.length : Int) + 1 + y := w64 (by omega) (by omega)
      obtain ⟨z, i3, h3, l', i', h', e4, e5, hok⟩ := go (3 * (l.length : Int) + 1 + y) i2 h2 hi2 (by omega) (.inr (by omega))
      refine ⟨l', i', h', Ev.step (fun k => ?_) e5, hok⟩
      rw [spec_l03Sights.l0, if_pos (by omega), e2, Option.bind_some, if_pos rfl, e3, Option.bind_some, if_pos (by omega), e4, Option.bind_some, e1]
      simp only [w1, w2, w3]
    | false =>
      obtain ⟨z, i3, h3, l', i', h', e4, e5, hok⟩ := go 0 i1 h1 hi1 (by omega) (.inl rfl)
      refine ⟨l', i', h', Ev.step (fun k => ?_) e5, hok⟩
      rw [spec_l03Sights.l0, if_pos (by omega), e2, Option.bind_some, if_neg (show ¬ ((false, i1, h1).1 = true) from Bool.false_ne_true), if_pos (by omega), e4, Option.bind_some, e1]
theorem draw_take_ok (b : List Int) (hb : b.length ≤ 140737488351232) : ∃ es ls, Ev (fun k => spec_DrawExpects.f k b) (es, ls) ∧ exB es = true ∧ siB ls = true := by
  unfold spec_DrawExpects.f
  obtain ⟨h', hn⟩ := new_ok b hb
  obtain ⟨x, i1, h1, e1, _, hx, hi1⟩ := below_ok b 0 h' 6 (by omega) hb
  have hx := hx (by omega)
  obtain ⟨n, rfl⟩ := Int.eq_ofNat_of_zero_le hx.1
  obtain ⟨es, i2, h2, e2, hi2, hes⟩ := draw_ex_loop b hb n [] i1 h1 hi1 (by simp; omega) (by simp) (by simp) List.Pairwise.nil
  obtain ⟨t, i3, h3, e3, _, ht, hi3⟩ := below_ok b i2 h2 8 hi2 hb
  have ht := ht (by omega)
  obtain ⟨y, i4, h4, e4, _, hy, hi4⟩ := below_ok b i3 h3 6 hi3 hb
  have hy := hy (by omega)
  obtain ⟨m, rfl⟩ := Int.eq_ofNat_of_zero_le hy.1
  obtain ⟨ls, i5, h5, e5, hls⟩ := draw_si_loop b hb m [] t i4 h4 hi4 (by simp; omega) rfl (by simp) (fun q => rfl) ht.1 (by simp; omega)
  refine ⟨es, ls, ev_bind _ hn (ev_bind (es, i2, h2) ?_ (ev_bind (ls, i5, h5) ?_ (Ev.now _))), hes, hls⟩
  · unfold spec_l03Expects.f
    simp only [e1, Option.bind_some]
    exact e2
  · unfold spec_l03Sights.f
    simp only [e3, e4, Option.bind_some]
    exact e5
theorem as_at (es : List Expect) (ls : List Sight) : ∀ (l : List Sight) (out : List Int) (i : Nat) (h : i < l.length), (asTail es ls out l)[i]? = some (bagOf l[i] (bestE ls l[i] (out ++ (asTail es ls out l).take i) none es))
  | x :: l, out, 0, _ => by simp [asTail]
  | x :: l, out, i + 1, h => by
    have := as_at es ls l (out ++ [bagOf x (bestE ls x out none es)]) i (by simpa using h)
    rw [asTail, List.getElem?_cons_succ, this]
    simp
/-- What Assign returns at one place. -/
theorem as_r (es : List Expect) (ls : List Sight) (h : exB es = true) (h2 : siB ls = true) (i : Nat) (hi : i < ls.length) : rd (asR es ls) (i : Int) = bagOf ls[i] (bestE ls ls[i] ((asR es ls).take i) none es) := by
  have e : asR es ls = asTail es ls [] ls := by
    unfold asR
    rw [if_pos ⟨h, h2⟩, asGo_tail]; rfl
  have := as_at es ls ls [] i hi
  rw [List.nil_append, ← e] at this
  rw [rd_int _ i (by rw [asR_length h h2]; exact hi)]
  rw [List.getElem?_eq_getElem (by rw [asR_length h h2]; exact hi)] at this
  exact Option.some.inj this
theorem as_named (es : List Expect) (ls : List Sight) (h : exB es = true) (h2 : siB ls = true) (i : Nat) (hi : i < ls.length) (hf : ls[i].f1 ≠ 0) : rd (asR es ls) (i : Int) = ls[i].f1 := by
  rw [as_r es ls h h2 i hi, bestE_named ls _ _ hf]; rfl
theorem as_taken (es : List Expect) (ls : List Sight) (h : exB es = true) (h2 : siB ls = true) (i : Nat) (hi : i < ls.length) (hf : ls[i].f1 = 0) (hr : rd (asR es ls) (i : Int) ≠ 0) :
    (∃ e ∈ es, e.f0 = rd (asR es ls) (i : Int) ∧ e.f1 ≤ ls[i].f0 ∧ ls[i].f0 ≤ e.f2) ∧ ∀ j : Nat, j < ls.length → j ≠ i → rd (asR es ls) (j : Int) ≠ rd (asR es ls) (i : Int) := by
  have hlen := asR_length h h2
  have e1 := as_r es ls h h2 i hi
  obtain ⟨_, i2⟩ := best_spec ls ls[i] ((asR es ls).take i) es none (by simp)
  cases hb : bestE ls ls[i] ((asR es ls).take i) none es with
  | none => rw [hb] at e1; rw [e1] at hr; exact absurd hf hr
  | some w =>
    rw [hb] at e1
    have e1 : rd (asR es ls) (i : Int) = w.f0 := e1
    obtain ⟨h3, h4, _, _⟩ := i2 w hb
    have hw : w ∈ es := by
      rcases h4 with h4 | h4
      · cases h4
      · exact h4
    rw [can_iff] at h3
    have h5 := (fit_iff ls _ w).1 h3.1
    refine ⟨⟨w, hw, e1.symm, h5.2.2⟩, fun j hj hne hh => ?_⟩
    rw [e1] at hh
    have hjl : j < (asR es ls).length := by omega
    have hil : i < (asR es ls).length := by omega
    by_cases hji : j < i
    · refine h3.2 ?_
      rw [← hh, rd_int _ j hjl]
      exact List.mem_take_iff_getElem.2 ⟨j, by omega, rfl⟩
    · have e3 := as_r es ls h h2 j hj
      obtain ⟨_, j2⟩ := best_spec ls ls[j] ((asR es ls).take j) es none (by simp)
      cases hb2 : bestE ls ls[j] ((asR es ls).take j) none es with
      | none =>
        rw [hb2] at e3
        have e3 : rd (asR es ls) (j : Int) = ls[j].f1 := e3
        have h6 := h5.2.1
        rw [List.any_eq_false] at h6
        exact h6 ls[j] (List.getElem_mem _) (by simp [← e3, hh])
      | some v =>
        rw [hb2] at e3
        have e3 : rd (asR es ls) (j : Int) = v.f0 := e3
        have h7 := (can_iff ls _ _ v).1 (j2 v hb2).1
        refine h7.2 ?_
        rw [← e3, hh, ← e1, rd_int _ i hil]
        exact List.mem_take_iff_getElem.2 ⟨i, by omega, rfl⟩
theorem same_loop (l : List Int) (hl : l.length ≤ 100) (d : Nat) : ∀ j : Nat, j + d = l.length → Ev (fun k => laws_sameInts.l0 k l l j) true := by
  induction d with
  | zero => intro j hj; exact Ev.step (f := fun _ => some true) (fun k => by rw [laws_sameInts.l0, if_neg (show ¬ (j : Int) < (l.length : Int) by omega)]) (Ev.now _)
  | succ d ih =>
    intro j hj
    have e1 : wrap64 ((j : Int) + 1) = ((j + 1 : Nat) : Int) := w64 (by omega) (by omega)
    exact Ev.step (fun k => by rw [laws_sameInts.l0, if_pos (show (j : Int) < (l.length : Int) by omega), if_pos (show (0 : Int) ≤ (j : Int) by omega), if_pos (show (j : Int) < (l.length : Int) by omega), if_pos rfl, e1]) (ih (j + 1) (by omega))
theorem same_ev (l : List Int) (hl : l.length ≤ 100) : Ev (fun k => laws_sameInts.f k l l) true := by
  unfold laws_sameInts.f
  simp only [if_true]
  exact same_loop l hl l.length 0 (by omega)
theorem assigned_two (es : List Expect) (ls : List Sight) (r : List Int) (hl : r.length ≤ 6) (n : Int) (i : Nat) (hi : i < r.length) (hd : ∀ j : Nat, j < r.length → j ≠ i → rd r (j : Int) ≠ rd r (i : Int)) (hnext : Ev (fun k => laws_FnAssigned.l0 k es ls r n ((i + 1 : Nat) : Int)) true) (d : Nat) : ∀ j : Nat, j + d = r.length → Ev (fun k => laws_FnAssigned.l2 k es ls r n i true j) true := by
  have e2 : wrap64 ((i : Int) + 1) = ((i + 1 : Nat) : Int) := w64 (by omega) (by omega)
  induction d with
  | zero =>
    intro j hj
    exact Ev.step (fun k => by rw [laws_FnAssigned.l2, if_neg (show ¬ (j : Int) < (r.length : Int) by omega), if_pos rfl, e2]) hnext
  | succ d ih =>
    intro j hj
    have e1 : wrap64 ((j : Int) + 1) = ((j + 1 : Nat) : Int) := w64 (by omega) (by omega)
    refine Ev.step (fun k => by rw [laws_FnAssigned.l2, if_pos (show (j : Int) < (r.length : Int) by omega), e1]) ?_
    by_cases c : (j : Int) = (i : Int)
    · simp only [if_pos c]; exact ih (j + 1) (by omega)
    · simp only [if_neg c, if_pos (show (0 : Int) ≤ (j : Int) by omega), if_pos (show (0 : Int) ≤ (i : Int) by omega), if_pos (show (i : Int) < (r.length : Int) by omega), if_neg (hd j (by omega) (by omega))]
      exact ih (j + 1) (by omega)
theorem assigned_one (es : List Expect) (ls : List Sight) (hes : es.length ≤ 6) (r : List Int) (hr : r.length = ls.length) (n : Int) (i : Nat) (hi : i < ls.length)
    (hnext : Ev (fun k => laws_FnAssigned.l2 k es ls r n i true 0) true) (d : Nat) : ∀ (j : Nat) (b : Bool), j + d = es.length → (b = true ∨ ∃ e ∈ es.drop j, e.f0 = rd r (i : Int) ∧ e.f1 ≤ (rd_T49 ls (i : Int)).f0 ∧ (rd_T49 ls (i : Int)).f0 ≤ e.f2) → Ev (fun k => laws_FnAssigned.l1 k es ls r n i b j) true := by
  induction d with
  | zero =>
    intro j b hj hb
    have hb' : b = true := by
      rcases hb with hb | ⟨e, he, _⟩
      · exact hb
      · rw [List.drop_eq_nil_of_le (by omega)] at he; simp at he
    subst hb'
    exact Ev.step (fun k => by rw [laws_FnAssigned.l1, if_neg (show ¬ (j : Int) < (es.length : Int) by omega)]) hnext
  | succ d ih =>
    intro j b hj hb
    have hlt : j < es.length := by omega
    have e1 : wrap64 ((j : Int) + 1) = ((j + 1 : Nat) : Int) := w64 (by omega) (by omega)
    refine Ev.step (fun k => by rw [laws_FnAssigned.l1, if_pos (show (j : Int) < (es.length : Int) by omega), e1]) ?_
    cases b with
    | true => exact ih (j + 1) true (by omega) (.inl rfl)
    | false =>
      simp only [Bool.false_eq_true, if_false, if_pos (show (0 : Int) ≤ (j : Int) by omega), if_pos (show (0 : Int) ≤ (i : Int) by omega), if_pos (show (i : Int) < (r.length : Int) by omega), if_pos (show (i : Int) < (ls.length : Int) by omega)]
      have hb := hb.resolve_left (by decide)
      rw [drop_Expect es j hlt] at hb
      obtain ⟨e, he, h1, h2, h3⟩ := hb
      rcases List.mem_cons.1 he with rfl | he
      · simp only [if_pos h1, if_pos h2]
        exact ih (j + 1) _ (by omega) (.inl (decide_eq_true h3))
      · have hgo : ∀ b, Ev (fun k => laws_FnAssigned.l1 k es ls r n i b ((j + 1 : Nat) : Int)) true := fun b => ih (j + 1) b (by omega) (.inr ⟨e, he, h1, h2, h3⟩)
        by_cases c : (rd_T47 es (j : Int)).f0 = rd r (i : Int)
        · simp only [if_pos c]
          by_cases c2 : (rd_T47 es (j : Int)).f1 ≤ (rd_T49 ls (i : Int)).f0
          · simp only [if_pos c2]; exact hgo _
          · simp only [if_neg c2]; exact hgo _
        · simp only [if_neg c]; exact hgo _
theorem assigned_zero (es : List Expect) (ls : List Sight) (h : exB es = true) (h2 : siB ls = true) (d : Nat) : ∀ i : Nat, i + d = ls.length → Ev (fun k => laws_FnAssigned.l0 k es ls (asR es ls) (cntGo (ls.take i) ((asR es ls).take i) : Int) i) true := by
  have hl := siB_len h2
  have hes := exB_len h
  have hlr := asR_length h h2
  induction d with
  | zero =>
    intro i hi
    have hi' : i = ls.length := by omega
    subst hi'
    have hm := asR_most h h2
    rw [List.take_length, ← hlr, List.take_length, hlr, hm]
    refine Ev.step (fun k => by rw [laws_FnAssigned.l0, if_neg (show ¬ ((ls.length : Nat) : Int) < ((asR es ls).length : Int) by omega)]) ?_
    refine ev_bind _ (impl_most_ev es ls (by omega)) ?_
    rw [if_pos ⟨h, h2⟩]
    simp only [if_true]
    refine ev_bind _ (spec_most_ev es ls) ?_
    unfold mostR
    rw [if_pos ⟨h, h2⟩]
    exact ev_some (by simp)
  | succ d ih =>
    intro i hi
    have hlt : i < ls.length := by omega
    have hlt2 : i < (asR es ls).length := by omega
    have e1 : wrap64 ((i : Int) + 1) = ((i + 1 : Nat) : Int) := w64 (by omega) (by omega)
    have hc := cnt_le (ls.take i) ((asR es ls).take i)
    rw [List.length_take] at hc
    have e2 : wrap64 ((cntGo (ls.take i) ((asR es ls).take i) : Int) + 1) = ((cntGo (ls.take i) ((asR es ls).take i) + 1 : Nat) : Int) := w64 (by omega) (by omega)
    have ih := ih (i + 1) (by omega)
    rw [cnt_next ls (asR es ls) i hlt hlt2] at ih
    refine Ev.step (fun k => by rw [laws_FnAssigned.l0, if_pos (show (i : Int) < ((asR es ls).length : Int) by omega), if_pos (show (0 : Int) ≤ (i : Int) by omega), if_pos (show (i : Int) < (ls.length : Int) by omega), rd_Sight ls i hlt, e1, e2]) ?_
    by_cases c : ls[i].f1 = 0
    · simp only [if_pos c]
      by_cases c2 : rd (asR es ls) (i : Int) = 0
      · simp only [if_pos c2]
        rw [rd_int (asR es ls) i hlt2] at c2
        rw [if_neg (fun hh => hh.2 c2), Nat.add_zero] at ih
        exact ih
      · simp only [if_neg c2]
        obtain ⟨⟨e, he, h3, h4⟩, h5⟩ := as_taken es ls h h2 i hlt c c2
        refine assigned_one es ls hes _ hlr _ i hlt (assigned_two es ls _ (by omega) _ i hlt2 (fun j hj hne => h5 j (by omega) hne) ?_ (asR es ls).length 0 (by omega)) es.length 0 false (by omega) (.inr ⟨e, by simpa using he, h3, by rw [rd_Sight ls i hlt]; exact h4⟩)
        rw [rd_int (asR es ls) i hlt2] at c2
        rw [if_pos ⟨c, c2⟩] at ih
        exact ih
    · simp only [if_neg c, if_pos (as_named es ls h h2 i hlt c)]
      rw [if_neg (fun hh => c hh.1), Nat.add_zero] at ih
      exact ih
theorem FnAssigned : laws_FnAssigned.Pure := by
  intro b _ hb _
  refine Ev.rounds ?_
  have hb : b.length ≤ 140737488351232 := by omega
  unfold laws_FnAssigned.f laws_big.f
  simp only [Option.bind_some]
  by_cases c : (b.length : Int) > 1048576
  · simp only [if_pos (decide_eq_true c)]; exact Ev.now _
  · simp only [if_neg (show ¬ decide ((b.length : Int) > 1048576) = true by simpa using c)]
    obtain ⟨es, ls, e1, h, h2⟩ := draw_take_ok b hb
    have hlr := asR_length h h2
    have hl := siB_len h2
    refine ev_bind _ e1 ?_
    refine ev_bind _ (impl_as_ev es ls (by omega)) ?_
    refine ev_bind _ (spec_as_ev es ls) ?_
    refine ev_bind _ (same_ev _ (by omega)) ?_
    simp only [if_true, if_pos (show ((asR es ls).length : Int) = (ls.length : Int) by omega), impl_ex, Option.bind_some, h]
    refine ev_bind _ (impl_si_ev ls (by omega)) ?_
    rw [h2]
    refine Ev.step (fun k => by rw [laws_FnAssigned.j0, if_neg (by decide)]) ?_
    simpa [cntGo] using assigned_zero es ls h h2 ls.length 0 (by omega)

end Go.Proofs.Ytnnimbbffbfhoaa.Pure
