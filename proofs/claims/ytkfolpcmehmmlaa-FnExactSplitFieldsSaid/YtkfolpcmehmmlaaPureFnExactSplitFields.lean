/- For every string the law FnExactSplitFields returns true (its printed function does): program and reference split alike, and what is returned is new memory. -/
import Derived.Test.YtkfolpcmehmmlaaPFnExactSplitFieldsx3
import Derived.Test.YtkfolpcmehmmlaaKit
namespace Go.Proofs.Ytkfolpcmehmmlaa.Pure
open Go.RowKit Go.Proofs.Ytkfolpcmehmmlaa.PFnExactSplitFields Go.Proofs.YtkfolpcmehmmlaaW.PrintWords Go.Proofs.YtkfolpcmehmmlaaW.PrintLast Go.Proofs.YtkfolpcmehmmlaaW.PrintMore Go.Proofs.Ytkfolpcmehmmlaa.Kit
set_option linter.unusedVariables false
set_option linter.unusedSimpArgs false

/-- The fields from a byte on: d bytes and the end are left. -/
def splitM (s : ByteArray) : Nat → List ByteArray → Nat → Nat → List ByteArray × Bool
  | 0, acc, a, i =>
    let acc' := if a < i then acc ++ [s.extract a i] else acc
    if (acc'.length : Int) > 24 then ([], false) else (acc', true)
  | d + 1, acc, a, i =>
    if bt s i < 32 ∨ bt s i > 126 then ([], false)
    else if bt s i ≠ 32 then splitM s d acc a (i + 1)
    else splitM s d (if a < i then acc ++ [s.extract a i] else acc) (i + 1) (i + 1)
theorem split_same : ∀ k, (∀ s acc a i, spec_SplitFields.l0 k s acc a i = impl_SplitFields.l0 k s acc a i) ∧ (∀ s acc a i x, spec_SplitFields.j1 k s acc a i x = impl_SplitFields.j1 k s acc a i x) ∧ (∀ s acc a i x, spec_SplitFields.j2 k s acc a i x = impl_SplitFields.j2 k s acc a i x)
  | 0 => ⟨fun _ _ _ _ => rfl, fun _ _ _ _ _ => rfl, fun _ _ _ _ _ => rfl⟩
  | k + 1 => by
    obtain ⟨h0, h1, h2⟩ := split_same k
    refine ⟨fun s acc a i => ?_, fun s acc a i x => ?_, fun s acc a i x => ?_⟩
    · rw [spec_SplitFields.l0, impl_SplitFields.l0]; simp only [h0, h1, h2]
    · rw [spec_SplitFields.j1, impl_SplitFields.j1]; simp only [h0, h1, h2]
    · rw [spec_SplitFields.j2, impl_SplitFields.j2]; simp only [h0, h1, h2, gt_iff_lt]
theorem split_loop (s : ByteArray) (hs : s.size ≤ 600) (d : Nat) : ∀ (i a : Nat) (acc : List ByteArray), i + d = s.size → a ≤ i → acc.length ≤ i →
    Ev (fun k => impl_SplitFields.l0 k s acc a i) (splitM s d acc a i) := by
  induction d with
  | zero =>
    intro i a acc hi ha hl
    refine Ev.step (fun k => by rw [impl_SplitFields.l0, if_pos (show (i : Int) ≤ (s.size : Int) by omega), if_neg (show ¬ (i : Int) < (s.size : Int) by omega)]) ?_
    refine Ev.step (fun k => by rw [impl_SplitFields.j1, if_neg (by decide), if_neg (show ¬ (i : Int) < (s.size : Int) by omega)]) ?_
    refine Ev.step (fun k => by rw [impl_SplitFields.j2, if_neg (by decide)]) ?_
    have e1 : wrap64 ((i : Int) + 1) = ((i + 1 : Nat) : Int) := w64 (by omega) (by omega)
    have fin : ∀ (acc' : List ByteArray) (b : Int), Ev (fun k => impl_SplitFields.l0 k s acc' b ((i + 1 : Nat) : Int)) (if (acc'.length : Int) > 24 then ([], false) else (acc', true)) := by
      intro acc' b
      refine Ev.step (fun k => by rw [impl_SplitFields.l0, if_neg (show ¬ ((i + 1 : Nat) : Int) ≤ (s.size : Int) by omega)]) ?_
      split
      · exact Ev.now _
      · exact Ev.now _
    simp only [e1, splitM]
    by_cases h : a < i
    · simp only [if_pos (show (i : Int) > (a : Int) by omega), if_pos (show (0 : Int) ≤ (a : Int) by omega), if_pos (show (a : Int) ≤ (i : Int) by omega), if_pos (show (i : Int) ≤ (s.size : Int) by omega), if_pos (show acc.length < 8796093022208 by omega), if_pos h, Int.toNat_natCast]
      exact fin _ _
    · simp only [if_neg (show ¬ (i : Int) > (a : Int) by omega), if_neg h]
      exact fin _ _
  | succ d ih =>
    intro i a acc hi ha hl
    have e1 : wrap64 ((i : Int) + 1) = ((i + 1 : Nat) : Int) := w64 (by omega) (by omega)
    refine Ev.step (fun k => by rw [impl_SplitFields.l0, if_pos (show (i : Int) ≤ (s.size : Int) by omega), if_pos (show (i : Int) < (s.size : Int) by omega), if_pos (show (0 : Int) ≤ (i : Int) by omega)]) ?_
    by_cases c1 : bt s i < 32
    · simp only [if_pos c1, splitM, if_pos (show bt s i < 32 ∨ bt s i > 126 from .inl c1)]
      exact Ev.step (fun k => by rw [impl_SplitFields.j1, if_pos rfl]) (Ev.now _)
    · by_cases c2 : bt s i > 126
      · have e : decide (bt s i > 126) = true := decide_eq_true c2
        simp only [if_neg c1, e, splitM, if_pos (show bt s i < 32 ∨ bt s i > 126 from .inr c2)]
        exact Ev.step (fun k => by rw [impl_SplitFields.j1, if_pos rfl]) (Ev.now _)
      · have e : decide (bt s i > 126) = false := decide_eq_false c2
        simp only [if_neg c1, e, splitM, if_neg (show ¬ (bt s i < 32 ∨ bt s i > 126) by omega)]
        refine Ev.step (fun k => by rw [impl_SplitFields.j1, if_neg (by decide), if_pos (show (i : Int) < (s.size : Int) by omega), if_pos (show (0 : Int) ≤ (i : Int) by omega)]) ?_
        by_cases c3 : bt s i = 32
        · have e' : (bt s i != 32) = false := by simp [c3]
          simp only [e', if_neg (show ¬ (bt s i ≠ 32) by omega)]
          refine Ev.step (fun k => by rw [impl_SplitFields.j2, if_neg (by decide)]) ?_
          by_cases h : a < i
          · simp only [if_pos (show (i : Int) > (a : Int) by omega), if_pos (show (0 : Int) ≤ (a : Int) by omega), if_pos (show (a : Int) ≤ (i : Int) by omega), if_pos (show (i : Int) ≤ (s.size : Int) by omega), if_pos (show acc.length < 8796093022208 by omega), if_pos h, Int.toNat_natCast, e1]
            exact ih (i + 1) (i + 1) _ (by omega) (by omega) (by simp only [List.length_append, List.length_cons, List.length_nil]; omega)
          · simp only [if_neg (show ¬ (i : Int) > (a : Int) by omega), if_neg h, e1]
            exact ih (i + 1) (i + 1) _ (by omega) (by omega) (by omega)
        · have e' : (bt s i != 32) = true := by simp [c3]
          simp only [e', if_pos (show (bt s i ≠ 32) from c3)]
          refine Ev.step (fun k => by rw [impl_SplitFields.j2, if_pos rfl, e1]) ?_
          exact ih (i + 1) a _ (by omega) (by omega) (by omega)
/-- What SplitFields returns. -/
def splitR (s : ByteArray) : List ByteArray × Bool := if (s.size : Int) > 600 then ([], false) else splitM s s.size [] 0 0
theorem impl_split_ev (s : ByteArray) : Ev (fun k => impl_SplitFields.f k s) (splitR s) := by
  unfold impl_SplitFields.f splitR
  by_cases h : (s.size : Int) > 600
  · simp only [if_pos h]; exact Ev.now _
  · simp only [if_neg h]
    exact split_loop s (by omega) s.size 0 0 [] (by omega) (by omega) (by simp)
theorem spec_split_ev (s : ByteArray) : Ev (fun k => spec_SplitFields.f k s) (splitR s) := by
  refine ev_same (fun k => ?_) (impl_split_ev s)
  unfold spec_SplitFields.f impl_SplitFields.f
  simp only [Option.bind_some]
  rw [(split_same k).1]
theorem splitM_len (s : ByteArray) (d : Nat) : ∀ acc a i, ((splitM s d acc a i).1.length : Int) ≤ 24 := by
  induction d with
  | zero =>
    intro acc a i
    have e : splitM s 0 acc a i = (if ((if a < i then acc ++ [s.extract a i] else acc).length : Int) > 24 then ([], false) else ((if a < i then acc ++ [s.extract a i] else acc), true)) := rfl
    rw [e]
    generalize (if a < i then acc ++ [s.extract a i] else acc) = x
    by_cases h : (x.length : Int) > 24
    · rw [if_pos h]; simp
    · rw [if_neg h]; simp only; omega
  | succ d ih =>
    intro acc a i
    simp only [splitM]
    split
    · simp
    · split
      · exact ih _ _ _
      · exact ih _ _ _
theorem splitR_len (s : ByteArray) : ((splitR s).1.length : Int) ≤ 24 := by
  unfold splitR
  split
  · simp
  · exact splitM_len s _ _ _ _
theorem eqStrings_loop (l : List ByteArray) (hl : l.length ≤ 1000000000) (d : Nat) : ∀ i : Nat, i + d = l.length → Ev (fun k => laws_eqStringS.l0 k l l i) true := by
  induction d with
  | zero =>
    intro i hi
    exact Ev.step (fun k => by rw [laws_eqStringS.l0, if_neg (show ¬ (i : Int) < (l.length : Int) by omega)]) (Ev.now _)
  | succ d ih =>
    intro i hi
    have e1 : wrap64 ((i : Int) + 1) = ((i + 1 : Nat) : Int) := w64 (by omega) (by omega)
    refine Ev.step (fun k => by rw [laws_eqStringS.l0, if_pos (show (i : Int) < (l.length : Int) by omega), if_pos (show (0 : Int) ≤ (i : Int) by omega), if_pos (show (i : Int) < (l.length : Int) by omega), if_pos rfl, e1]) ?_
    exact ih (i + 1) (by omega)
theorem eqStrings_ev (l : List ByteArray) (hl : l.length ≤ 1000000000) : Ev (fun k => laws_eqStringS.f k l l) true := by
  unfold laws_eqStringS.f
  simp only [if_true]
  exact eqStrings_loop l hl l.length 0 (by omega)
theorem markText_some : ∀ n : Fin 64, (laws_markText.f 20 ((n.val : Nat) : Int)).isSome = true := by decide +kernel
/-- The text that marks place n. -/
def markT (n : Nat) : ByteArray := ((laws_markText.f 20 (n : Int)).getD ⟨#[]⟩)
theorem markT_ev (n : Nat) (h : n < 64) : Ev (fun k => laws_markText.f k (n : Int)) (markT n) := by
  have h1 := markText_some ⟨n, h⟩
  simp only at h1
  refine Ev.of (laws_markText.mono _) (k := 20) ?_
  unfold markT
  cases e : laws_markText.f 20 (n : Int) with
  | none => rw [e] at h1; simp at h1
  | some t => rfl
theorem markStrings_loop (l : List ByteArray) (hl : l.length ≤ 40) (d : Nat) : ∀ i : Nat, i + d = l.length →
    Ev (fun k => laws_markStringS.l0 k ((List.range i).map (fun j => markT (j + 1)) ++ l.drop i) ((i + 1 : Nat) : Int) i) (((l.length + 1 : Nat) : Int), (List.range l.length).map (fun j => markT (j + 1))) := by
  induction d with
  | zero =>
    intro i hi
    have : i = l.length := by omega
    subst this
    refine Ev.step (fun k => by rw [laws_markStringS.l0, if_neg (by simp)]) (ev_some ?_)
    simp
  | succ d ih =>
    intro i hi
    have hlen : ((List.range i).map (fun j => markT (j + 1)) ++ l.drop i).length = l.length := by simp; omega
    have e1 : wrap64 ((i : Int) + 1) = ((i + 1 : Nat) : Int) := w64 (by omega) (by omega)
    have e2 : wrap64 (((i + 1 : Nat) : Int) + 1) = ((i + 1 + 1 : Nat) : Int) := w64 (by omega) (by omega)
    refine Ev.step (fun k => by rw [laws_markStringS.l0, if_pos (by rw [hlen]; omega)]) ?_
    refine ev_bind _ (markT_ev (i + 1) (by omega)) ?_
    simp only [if_pos (show (0 : Int) ≤ (i : Int) by omega), e1, e2, Int.toNat_natCast]
    rw [set_mark (fun j => markT (j + 1)) l i (by omega)]
    exact ih (i + 1) (by omega)
theorem markStrings_ev (l : List ByteArray) (hl : l.length ≤ 40) : Ev (fun k => laws_markStringS.f k l 1) (((l.length + 1 : Nat) : Int), (List.range l.length).map (fun j => markT (j + 1))) := by
  unfold laws_markStringS.f
  exact markStrings_loop l hl l.length 0 (by omega)
theorem heldStrings_loop (n : Nat) (hl : n ≤ 40) (d : Nat) : ∀ i : Nat, i + d = n →
    Ev (fun k => laws_heldStringS.l0 k ((List.range n).map (fun j => markT (j + 1))) ((i + 1 : Nat) : Int) i) ((n + 1 : Nat) : Int) := by
  induction d with
  | zero =>
    intro i hi
    have : i = n := by omega
    subst this
    exact Ev.step (fun k => by rw [laws_heldStringS.l0, if_neg (by simp)]) (Ev.now _)
  | succ d ih =>
    intro i hi
    have e1 : wrap64 ((i : Int) + 1) = ((i + 1 : Nat) : Int) := w64 (by omega) (by omega)
    have e2 : wrap64 (((i + 1 : Nat) : Int) + 1) = ((i + 1 + 1 : Nat) : Int) := w64 (by omega) (by omega)
    have e3 : rdOf ByteArray.empty ((List.range n).map (fun j => markT (j + 1))) (i : Int) = markT (i + 1) := by
      unfold rdOf
      rw [Int.toNat_natCast, List.getD_eq_getElem?_getD, List.getElem?_map, List.getElem?_range (by omega)]
      rfl
    refine Ev.step (fun k => by rw [laws_heldStringS.l0, if_pos (by simp; omega), if_pos (show (0 : Int) ≤ (i : Int) by omega)]) ?_
    refine ev_bind _ (markT_ev (i + 1) (by omega)) ?_
    simp only [e1, e2, e3, if_true]
    exact ih (i + 1) (by omega)
theorem heldStrings_ev (n : Nat) (hl : n ≤ 40) : Ev (fun k => laws_heldStringS.f k ((List.range n).map (fun j => markT (j + 1))) 1) ((n + 1 : Nat) : Int) := by
  unfold laws_heldStringS.f
  exact heldStrings_loop n hl n 0 (by omega)
theorem FnExactSplitFields : laws_FnExactSplitFields.Pure := by
  intro s _
  refine Ev.rounds ?_
  unfold laws_FnExactSplitFields.f
  by_cases h : (s.size : Int) > 1048576
  · simp only [if_pos h]; exact Ev.now _
  · simp only [if_neg h]
    have hl := splitR_len s
    refine ev_bind _ (spec_split_ev s) ?_
    refine ev_bind _ (impl_split_ev s) ?_
    refine ev_bind _ (eqStrings_ev (splitR s).1 (by omega)) ?_
    simp only [if_true, bne_self_eq_false]
    refine Ev.step (fun k => by rw [laws_FnExactSplitFields.j0, if_neg (by decide)]) ?_
    refine ev_bind _ (markStrings_ev (splitR s).1 (by omega)) ?_
    refine ev_bind _ (heldStrings_ev (splitR s).1.length (by omega)) ?_
    simp only [if_neg (show ¬ (((splitR s).1.length + 1 : Nat) : Int) < 0 by omega), if_true]
    refine ev_bind _ (impl_split_ev s) ?_
    refine ev_bind _ (eqStrings_ev (splitR s).1 (by omega)) ?_
    simp only [if_true, bne_self_eq_false]
    refine Ev.step (fun k => by rw [laws_FnExactSplitFields.j1, if_neg (by decide)]) ?_
    refine ev_bind _ (heldStrings_ev (splitR s).1.length (by omega)) ?_
    simp only [if_neg (show ¬ (((splitR s).1.length + 1 : Nat) : Int) < 0 by omega), if_true]
    exact Ev.now _

end Go.Proofs.Ytkfolpcmehmmlaa.Pure
