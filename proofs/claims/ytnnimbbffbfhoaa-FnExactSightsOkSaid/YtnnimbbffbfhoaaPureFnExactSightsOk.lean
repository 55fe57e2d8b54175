/- For every list of sights the law FnExactSightsOk returns true (its printed function does): program and reference take the same ones. -/
import Derived.Test.YtnnimbbffbfhoaaPFnExactSightsOkx5
import Derived.Test.YtnnimbbffbfhoaaKit
namespace Go.Proofs.Ytnnimbbffbfhoaa.Pure
open Go.RowKit Go.Proofs.Ytnnimbbffbfhoaa.PFnExactSightsOk Go.Proofs.YtnnimbbffbfhoaaW.PrintWords Go.Proofs.YtnnimbbffbfhoaaW.PrintLast Go.Proofs.YtnnimbbffbfhoaaW.PrintMore Go.Proofs.Ytnnimbbffbfhoaa.Kit
set_option linter.unusedVariables false
set_option linter.unusedSimpArgs false

abbrev Sight := S49
theorem rd_Sight (l : List Sight) (i : Nat) (h : i < l.length) : rd_T49 l (i : Int) = l[i] := by
  simp [rd_T49, List.getD_eq_getElem?_getD, List.getElem?_eq_getElem h]
theorem drop_Sight (l : List Sight) (i : Nat) (h : i < l.length) : l.drop i = rd_T49 l (i : Int) :: l.drop (i + 1) := by
  rw [List.drop_eq_getElem_cons h, rd_Sight l i h]
theorem take_Sight (l : List Sight) (i : Nat) (h : i < l.length) : l.take (i + 1) = l.take i ++ [rd_T49 l (i : Int)] := by
  rw [rd_Sight l i h, List.take_succ_eq_append_getElem h]
abbrev LSight := S88
def toMSight (x : LSight) : Sight := ⟨x.f0, x.f1⟩
theorem to_SightS_loop (l : List LSight) (hl : l.length ≤ 1048576) (d : Nat) : ∀ (i : Nat) (m : List Sight), i + d = l.length → m.length = l.length → m.take i = (l.take i).map toMSight → Ev (fun k => laws_toSightS.l0 k l m i) (l.map toMSight) := by
  induction d with
  | zero =>
    intro i m hi hm h
    refine Ev.step (fun k => by rw [laws_toSightS.l0, if_neg (show ¬ (i : Int) < (l.length : Int) by omega)]) (ev_some ?_)
    rw [List.take_of_length_le (by omega), List.take_of_length_le (by omega)] at h
    exact h
  | succ d ih =>
    intro i m hi hm h
    have e1 : wrap64 ((i : Int) + 1) = ((i + 1 : Nat) : Int) := w64 (by omega) (by omega)
    have hlt : i < l.length := by omega
    have hr : rd_T88 l (i : Int) = l[i] := by simp [rd_T88, List.getD_eq_getElem?_getD, List.getElem?_eq_getElem hlt]
    refine Ev.step (fun k => by rw [laws_toSightS.l0, if_pos (show (i : Int) < (l.length : Int) by omega), if_pos (show (0 : Int) ≤ (i : Int) by omega), laws_toSight.f, Option.bind_some, if_pos (show (i : Int) < (m.length : Int) by omega), e1, hr, Int.toNat_natCast]) ?_
    refine ih (i + 1) _ (by omega) (by simp [hm]) ?_
    rw [List.take_succ_eq_append_getElem (by simp; omega), List.take_succ_eq_append_getElem hlt, List.map_append, ← h]
    rw [List.take_set, List.set_eq_of_length_le (by simp; omega)]
    simp [toMSight]
theorem to_SightS_ev (l : List LSight) (hl : l.length ≤ 1048576) : Ev (fun k => laws_toSightS.f k l) (l.map toMSight) := by
  unfold laws_toSightS.f
  simp only [if_pos (show (0 : Int) ≤ (l.length : Int) by omega), Int.toNat_natCast, if_pos (show l.length ≤ 17592186044416 by omega)]
  exact to_SightS_loop l hl l.length 0 _ (by omega) (by simp) rfl
theorem sz_SightS (l : List LSight) (hl : l.length ≤ 9223372036854775807) (q : Int) (h0 : 0 ≤ q) (h1 : q ≤ 1048576) : ∃ n, laws_szSightS.f l q = some n ∧ n ≤ 1048576 ∧ (n < 0 ∨ l.length ≤ 1048576) := by
  unfold laws_szSightS.f
  have e : wrap64 (q - (l.length : Int)) = q - (l.length : Int) := w64 (by omega) (by omega)
  rw [e]
  by_cases h : q - (l.length : Int) < 0
  · rw [if_pos h]; exact ⟨-1, rfl, by omega, .inl (by omega)⟩
  · rw [if_neg h]; exact ⟨_, rfl, by omega, .inr (by omega)⟩
theorem eq_Sight (a b : Int) : laws_eqSight.f a b a b = some true := by unfold laws_eqSight.f; simp
theorem eq_SightS_loop (l : List Sight) (hl : l.length ≤ 1048600) (d : Nat) : ∀ i : Nat, i + d = l.length → Ev (fun k => laws_eqSightS.l0 k l l i) true := by
  induction d with
  | zero =>
    intro i hi
    exact Ev.step (fun k => by rw [laws_eqSightS.l0, if_neg (show ¬ (i : Int) < (l.length : Int) by omega)]) (Ev.now _)
  | succ d ih =>
    intro i hi
    have e1 : wrap64 ((i : Int) + 1) = ((i + 1 : Nat) : Int) := w64 (by omega) (by omega)
    refine Ev.step (fun k => by rw [laws_eqSightS.l0, if_pos (show (i : Int) < (l.length : Int) by omega), if_pos (show (0 : Int) ≤ (i : Int) by omega), if_pos (show (i : Int) < (l.length : Int) by omega), eq_Sight, Option.bind_some, if_pos rfl, e1]) ?_
    exact ih (i + 1) (by omega)
theorem eq_SightS_ev (l : List Sight) (hl : l.length ≤ 1048600) : Ev (fun k => laws_eqSightS.f k l l) true := by
  unfold laws_eqSightS.f
  simp only [if_true]
  exact eq_SightS_loop l hl l.length 0 (by omega)
/-- Is the sight not before the last one? -/
def siAft (s : List Sight) (x : Sight) : Bool := match s.getLast? with
  | none => true
  | some p => decide (p.f0 ≤ x.f0)
/-- Sights that are valid behind others. -/
def siRun : List Sight → List Sight → Bool
  | _, [] => true
  | s, x :: l => decide (0 ≤ x.f0 ∧ x.f0 ≤ 100000 ∧ 0 ≤ x.f1) && siAft s x && (decide (x.f1 = 0) || !(s.any (fun y => y.f1 == x.f1))) && siRun (s ++ [x]) l
def siB (l : List Sight) : Bool := decide (l.length ≤ 6) && siRun [] l
theorem siAft_zero (l : List Sight) (x : Sight) : siAft (l.take 0) x = true := rfl
theorem siAft_pos (l : List Sight) (i : Nat) (x : Sight) (h : 0 < i) (hi : i ≤ l.length) : siAft (l.take i) x = decide ((rd_T49 l ((i - 1 : Nat) : Int)).f0 ≤ x.f0) := by
  have e : l.take i = l.take (i - 1) ++ [rd_T49 l ((i - 1 : Nat) : Int)] := by
    rw [← take_Sight l (i - 1) (by omega), show i - 1 + 1 = i by omega]
  rw [e, siAft, List.getLast?_append]
  rfl
theorem spec_in (x a b : Int) : spec_l01In.f x a b = some (decide (a ≤ x ∧ x ≤ b)) := by
  unfold spec_l01In.f
  by_cases h : x ≥ a
  · rw [if_pos h]; congr 1; simp; omega
  · rw [if_neg h]; congr 1; simp; omega
theorem spec_si_seen (l : List Sight) (hl : l.length ≤ 6) (i : Nat) (hi : i < l.length) (r : Bool) (hr : (decide ((rd_T49 l (i : Int)).f1 = 0) || !((l.take i).any (fun y => y.f1 == (rd_T49 l (i : Int)).f1))) = true → Ev (fun k => spec_SightsOk.l0 k l ((i + 1 : Nat) : Int)) r) (hf : (decide ((rd_T49 l (i : Int)).f1 = 0) || !((l.take i).any (fun y => y.f1 == (rd_T49 l (i : Int)).f1))) = false → r = false) (d : Nat) : ∀ j : Nat, j + d = i → (decide ((rd_T49 l (i : Int)).f1 = 0) || !((l.take j).any (fun y => y.f1 == (rd_T49 l (i : Int)).f1))) = true → Ev (fun k => spec_SightsOk.l1 k l i j) r := by
  induction d with
  | zero =>
    intro j hj h
    have e1 : wrap64 ((i : Int) + 1) = ((i + 1 : Nat) : Int) := w64 (by omega) (by omega)
    obtain rfl : j = i := by omega
    exact Ev.step (fun k => by rw [spec_SightsOk.l1, if_neg (show ¬ (j : Int) < (j : Int) by omega), e1]) (hr h)
  | succ d ih =>
    intro j hj h
    have e1 : wrap64 ((j : Int) + 1) = ((j + 1 : Nat) : Int) := w64 (by omega) (by omega)
    refine Ev.step (fun k => by rw [spec_SightsOk.l1, if_pos (show (j : Int) < (i : Int) by omega), if_pos (show (0 : Int) ≤ (i : Int) by omega), if_pos (show (i : Int) < (l.length : Int) by omega), if_pos (show (0 : Int) ≤ (j : Int) by omega), if_pos (show (j : Int) < (l.length : Int) by omega), e1]) ?_
    by_cases c0 : (rd_T49 l (i : Int)).f1 = 0
    · simp only [if_pos c0]
      exact ih (j + 1) (by omega) (by rw [decide_eq_true c0]; rfl)
    · simp only [if_neg c0]
      rw [decide_eq_false c0, Bool.false_or] at h hf
      simp only [decide_eq_false c0, Bool.false_or] at ih
      by_cases c : (rd_T49 l (j : Int)).f1 = (rd_T49 l (i : Int)).f1
      · simp only [if_pos c]
        refine ev_some (hf ?_).symm
        rw [rd_Sight l j (by omega)] at c
        rw [List.any_eq_true.2 ⟨l[j], List.mem_take_iff_getElem.2 ⟨j, by omega, rfl⟩, by simp [c]⟩]
        rfl
      · simp only [if_neg c]
        refine ih (j + 1) (by omega) ?_
        rw [take_Sight l j (by omega), List.any_append]
        simp only [Bool.not_eq_true'] at h
        rw [h]
        simp [c]
theorem spec_si_loop (l : List Sight) (hl : l.length ≤ 6) (d : Nat) : ∀ i : Nat, i + d = l.length → Ev (fun k => spec_SightsOk.l0 k l i) (siRun (l.take i) (l.drop i)) := by
  induction d with
  | zero =>
    intro i hi
    rw [List.drop_eq_nil_of_le (by omega)]
    exact Ev.step (f := fun _ => some true) (fun k => by rw [spec_SightsOk.l0, if_neg (show ¬ (i : Int) < (l.length : Int) by omega)]) (Ev.now _)
  | succ d ih =>
    intro i hi
    have hlt : i < l.length := by omega
    rw [drop_Sight l i hlt, siRun, ← take_Sight l i hlt]
    refine Ev.step (fun k => by rw [spec_SightsOk.l0, if_pos (show (i : Int) < (l.length : Int) by omega), if_pos (show (0 : Int) ≤ (i : Int) by omega), spec_in, Option.bind_some]) ?_
    have hno : Ev (fun k => spec_SightsOk.j1 k l i true) false := Ev.step (fun k => by rw [spec_SightsOk.j1, if_pos rfl]) (Ev.now _)
    have hyes : Ev (fun k => spec_SightsOk.j1 k l i false) ((decide ((rd_T49 l (i : Int)).f1 = 0) || !((l.take i).any (fun y => y.f1 == (rd_T49 l (i : Int)).f1))) && siRun (l.take (i + 1)) (l.drop (i + 1))) := by
      refine Ev.step (fun k => by rw [spec_SightsOk.j1, if_neg (by decide)]) ?_
      refine spec_si_seen l hl i hlt _ (fun h => ?_) (fun h => ?_) i 0 (by omega) (by simp)
      · rw [h]
        simpa using ih (i + 1) (by omega)
      · rw [h]; rfl
    by_cases c : 0 ≤ (rd_T49 l (i : Int)).f0 ∧ (rd_T49 l (i : Int)).f0 ≤ 100000
    · simp only [if_pos (decide_eq_true c)]
      by_cases c2 : (rd_T49 l (i : Int)).f1 < 0
      · rw [decide_eq_false (show ¬ (0 ≤ (rd_T49 l (i : Int)).f0 ∧ (rd_T49 l (i : Int)).f0 ≤ 100000 ∧ 0 ≤ (rd_T49 l (i : Int)).f1) by omega)]
        simp only [if_pos c2, Bool.false_and]; exact hno
      · rw [decide_eq_true (show (0 ≤ (rd_T49 l (i : Int)).f0 ∧ (rd_T49 l (i : Int)).f0 ≤ 100000 ∧ 0 ≤ (rd_T49 l (i : Int)).f1) by omega), Bool.true_and]
        simp only [if_neg c2]
        by_cases c3 : i = 0
        · subst c3
          rw [siAft_zero, Bool.true_and]
          simp only [if_neg (show ¬ ((0 : Nat) : Int) > 0 by omega)]
          exact hyes
        · have e2 : wrap64 ((i : Int) - 1) = ((i - 1 : Nat) : Int) := by rw [w64 (by omega) (by omega)]; omega
          rw [siAft_pos l i _ (by omega) (by omega), e2]
          simp only [if_pos (show (i : Int) > 0 by omega), if_pos (show (0 : Int) ≤ ((i - 1 : Nat) : Int) by omega), if_pos (show ((i - 1 : Nat) : Int) < (l.length : Int) by omega)]
          by_cases c4 : (rd_T49 l (i : Int)).f0 < (rd_T49 l ((i - 1 : Nat) : Int)).f0
          · rw [decide_eq_true c4, decide_eq_false (show ¬ (rd_T49 l ((i - 1 : Nat) : Int)).f0 ≤ (rd_T49 l (i : Int)).f0 by omega), Bool.false_and, Bool.false_and]
            exact hno
          · rw [decide_eq_false c4, decide_eq_true (show (rd_T49 l ((i - 1 : Nat) : Int)).f0 ≤ (rd_T49 l (i : Int)).f0 by omega), Bool.true_and]
            exact hyes
    · rw [decide_eq_false c, decide_eq_false (show ¬ (0 ≤ (rd_T49 l (i : Int)).f0 ∧ (rd_T49 l (i : Int)).f0 ≤ 100000 ∧ 0 ≤ (rd_T49 l (i : Int)).f1) by omega)]
      simp only [Bool.false_eq_true, if_false, Bool.false_and]; exact hno
theorem spec_si_ev (l : List Sight) : Ev (fun k => spec_SightsOk.f k l) (siB l) := by
  unfold spec_SightsOk.f siB
  by_cases h : (l.length : Int) > 6
  · rw [decide_eq_false (show ¬ l.length ≤ 6 by omega)]
    simp only [if_pos h]; exact Ev.now _
  · rw [decide_eq_true (show l.length ≤ 6 by omega)]
    simp only [if_neg h]
    simpa using spec_si_loop l (by omega) l.length 0 (by omega)
theorem impl_tick (x : Int) : impl_isTick.f x = some (decide (0 ≤ x ∧ x ≤ 100000)) := by
  unfold impl_isTick.f
  by_cases h : x ≥ 0
  · rw [if_pos h]; congr 1; simp; omega
  · rw [if_neg h]; congr 1; simp; omega
theorem impl_si_loop (l : List Sight) (hl : l.length ≤ 1048600) (d : Nat) : ∀ i : Nat, i + d = l.length → Ev (fun k => impl_SightsOk.l0 k l l (l.length : Int) i) (siRun (l.take i) (l.drop i) && decide (l.length ≤ 6)) := by
  induction d with
  | zero =>
    intro i hi
    rw [List.drop_eq_nil_of_le (by omega), siRun, Bool.true_and]
    exact Ev.step (f := fun _ => some (decide ((l.length : Int) ≤ 6))) (fun k => by rw [impl_SightsOk.l0, if_neg (show ¬ (i : Int) < (l.length : Int) by omega)]) (ev_some (by simp; omega))
  | succ d ih =>
    intro i hi
    have hlt : i < l.length := by omega
    have e1 : wrap64 ((i : Int) + 1) = ((i + 1 : Nat) : Int) := w64 (by omega) (by omega)
    rw [drop_Sight l i hlt, siRun, ← take_Sight l i hlt]
    refine Ev.step (fun k => by rw [impl_SightsOk.l0, if_pos (show (i : Int) < (l.length : Int) by omega), if_pos (show (0 : Int) ≤ (i : Int) by omega), if_pos (show (i : Int) < (l.length : Int) by omega), impl_tick, Option.bind_some]) ?_
    have hno : ∀ b c, Ev (fun k => impl_SightsOk.j1 k l i l (l.length : Int) i true b c) false := fun b c => Ev.step (fun k => by rw [impl_SightsOk.j1, if_pos rfl]) (Ev.now _)
    have hyes : ∀ b, Ev (fun k => impl_SightsOk.j1 k l i l (l.length : Int) i false b (rd_T49 l (i : Int)).f1) (((decide ((rd_T49 l (i : Int)).f1 = 0) || !((l.take i).any (fun y => y.f1 == (rd_T49 l (i : Int)).f1))) && siRun (l.take (i + 1)) (l.drop (i + 1))) && decide (l.length ≤ 6)) := fun b => by
      refine Ev.step (fun k => by rw [impl_SightsOk.j1, if_neg (by decide), e1]) ?_
      by_cases c : (rd_T49 l (i : Int)).f1 = 0
      · rw [decide_eq_true c]
        simp only [if_pos c, Bool.true_or, Bool.true_and]
        exact ih (i + 1) (by omega)
      · rw [decide_eq_false c, Bool.false_or]
        simp only [if_neg c, if_pos (show (0 : Int) ≤ (i : Int) by omega), if_pos (show (i : Int) ≤ (l.length : Int) by omega), impl_isNamed.f, Option.bind_some, Int.toNat_natCast]
        cases h : (l.take i).any (fun y => y.f1 == (rd_T49 l (i : Int)).f1) with
        | true => simp only [if_true, Bool.not_true, Bool.false_and]; exact Ev.now _
        | false =>
          simp only [Bool.false_eq_true, if_false, Bool.not_false, Bool.true_and]
          exact ih (i + 1) (by omega)
    by_cases c : 0 ≤ (rd_T49 l (i : Int)).f0 ∧ (rd_T49 l (i : Int)).f0 ≤ 100000
    · simp only [if_pos (decide_eq_true c)]
      by_cases c3 : i = 0
      · subst c3
        rw [siAft_zero, Bool.and_true]
        simp only [if_neg (show ¬ ((0 : Nat) : Int) > 0 by omega)]
        by_cases c2 : (rd_T49 l ((0 : Nat) : Int)).f1 < 0
        · rw [decide_eq_false (show ¬ (0 ≤ (rd_T49 l ((0 : Nat) : Int)).f0 ∧ (rd_T49 l ((0 : Nat) : Int)).f0 ≤ 100000 ∧ 0 ≤ (rd_T49 l ((0 : Nat) : Int)).f1) by omega), decide_eq_true c2]
          simp only [Bool.false_and]; exact hno _ _
        · rw [decide_eq_true (show (0 ≤ (rd_T49 l ((0 : Nat) : Int)).f0 ∧ (rd_T49 l ((0 : Nat) : Int)).f0 ≤ 100000 ∧ 0 ≤ (rd_T49 l ((0 : Nat) : Int)).f1) by omega), Bool.true_and, decide_eq_false c2]
          exact hyes _
      · have e2 : wrap64 ((i : Int) - 1) = ((i - 1 : Nat) : Int) := by rw [w64 (by omega) (by omega)]; omega
        rw [siAft_pos l i _ (by omega) (by omega), e2]
        simp only [if_pos (show (i : Int) > 0 by omega), if_pos (show (0 : Int) ≤ ((i - 1 : Nat) : Int) by omega), if_pos (show ((i - 1 : Nat) : Int) < (l.length : Int) by omega)]
        by_cases c4 : (rd_T49 l (i : Int)).f0 < (rd_T49 l ((i - 1 : Nat) : Int)).f0
        · rw [decide_eq_false (show ¬ (rd_T49 l ((i - 1 : Nat) : Int)).f0 ≤ (rd_T49 l (i : Int)).f0 by omega)]
          simp only [if_pos c4, Bool.and_false, Bool.false_and]
          exact hno _ _
        · rw [decide_eq_true (show (rd_T49 l ((i - 1 : Nat) : Int)).f0 ≤ (rd_T49 l (i : Int)).f0 by omega), Bool.and_true]
          simp only [if_neg c4]
          by_cases c2 : (rd_T49 l (i : Int)).f1 < 0
          · rw [decide_eq_false (show ¬ (0 ≤ (rd_T49 l (i : Int)).f0 ∧ (rd_T49 l (i : Int)).f0 ≤ 100000 ∧ 0 ≤ (rd_T49 l (i : Int)).f1) by omega), decide_eq_true c2]
            simp only [Bool.false_and]; exact hno _ _
          · rw [decide_eq_true (show (0 ≤ (rd_T49 l (i : Int)).f0 ∧ (rd_T49 l (i : Int)).f0 ≤ 100000 ∧ 0 ≤ (rd_T49 l (i : Int)).f1) by omega), Bool.true_and, decide_eq_false c2]
            exact hyes _
    · rw [decide_eq_false c, decide_eq_false (show ¬ (0 ≤ (rd_T49 l (i : Int)).f0 ∧ (rd_T49 l (i : Int)).f0 ≤ 100000 ∧ 0 ≤ (rd_T49 l (i : Int)).f1) by omega)]
      simp only [Bool.false_eq_true, if_false, Bool.false_and]; exact hno _ _
theorem impl_si_ev (l : List Sight) (hl : l.length ≤ 1048600) : Ev (fun k => impl_SightsOk.f k l) (siB l) := by
  unfold impl_SightsOk.f siB
  rw [Bool.and_comm]
  simpa using impl_si_loop l hl l.length 0 (by omega)
theorem FnExactSightsOk : laws_FnExactSightsOk.Pure := by
  intro l hl _
  refine Ev.rounds ?_
  unfold laws_FnExactSightsOk.f
  obtain ⟨n, hn, _, hc⟩ := sz_SightS l hl 1048576 (by omega) (by omega)
  simp only [hn, Option.bind_some]
  by_cases h : n < 0
  · simp only [if_pos h]; exact Ev.now _
  · have hl2 : l.length ≤ 1048576 := by omega
    simp only [if_neg h]
    refine ev_bind _ (to_SightS_ev l hl2) ?_
    refine ev_bind _ (spec_si_ev _) ?_
    refine ev_bind _ (to_SightS_ev l hl2) ?_
    refine ev_bind _ (impl_si_ev _ (by simp; omega)) ?_
    simp only [bne_self_eq_false, if_neg (show ¬ (false = true) by decide)]
    refine ev_bind _ (to_SightS_ev l hl2) ?_
    refine ev_bind _ (eq_SightS_ev _ (by simp; omega)) ?_
    simp only [if_true]
    exact Ev.now _

end Go.Proofs.Ytnnimbbffbfhoaa.Pure
