/- For every string the law FnExactDecodeHex returns true (its printed function does): program and reference decode alike. -/
import Derived.Test.YtkfolpcmehmmlaaPFnExactDecodeHexx1
import Derived.Test.YtkfolpcmehmmlaaKit
namespace Go.Proofs.Ytkfolpcmehmmlaa.Pure
open Go.RowKit Go.Proofs.Ytkfolpcmehmmlaa.PFnExactDecodeHex Go.Proofs.YtkfolpcmehmmlaaW.PrintWords Go.Proofs.YtkfolpcmehmmlaaW.PrintLast Go.Proofs.YtkfolpcmehmmlaaW.PrintMore Go.Proofs.Ytkfolpcmehmmlaa.Kit
set_option linter.unusedVariables false
set_option linter.unusedSimpArgs false

/-- A half byte's digit. -/
def figM (n : Int) : Int := if n < 10 then 48 + n else 87 + n
def encM (l : List Int) : List Int := l.flatMap fun b => [figM (b / 16), figM (b % 16)]
theorem encM_nil : encM [] = [] := rfl
theorem encM_cons (b : Int) (l : List Int) : encM (b :: l) = [figM (b / 16), figM (b % 16)] ++ encM l := by simp [encM]
theorem encM_length (l : List Int) : (encM l).length = 2 * l.length := by
  induction l with
  | nil => rfl
  | cons b l ih => rw [encM_cons, List.length_append, ih]; simp; omega
theorem bytes_drop (s : ByteArray) (i : Nat) (h : i < s.size) : (bytesOf s).drop i = bt s i :: (bytesOf s).drop (i + 1) := by
  have hl : i < (bytesOf s).length := by rw [bytesOf_length]; exact h
  rw [List.drop_eq_getElem_cons hl]
  congr 1
  have := rd_bytesOf s i
  rw [← this]
  simp [rd, List.getD_eq_getElem?_getD, List.getElem?_eq_getElem hl]
theorem bytes_drop_end (s : ByteArray) (i : Nat) (h : s.size ≤ i) : (bytesOf s).drop i = [] := List.drop_eq_nil_of_le (by rw [bytesOf_length]; exact h)
theorem bytes_range (s : ByteArray) : ∀ x ∈ bytesOf s, 0 ≤ x ∧ x ≤ 255 := by
  intro x hx
  simp only [bytesOf, List.mem_map] at hx
  obtain ⟨b, _, rfl⟩ := hx
  have := b.toNat_lt
  omega
theorem strOf_bytes (s : ByteArray) : strOfNums (bytesOf s) = s := by
  cases s with
  | mk a =>
    have e : (fun n : Int => UInt8.ofNat n.toNat) ∘ (fun b : UInt8 => (b.toNat : Int)) = id := by
      funext b
      simp
    simp [strOfNums, bytesOf, e]
/-- A digit's value, -1 of other bytes. -/
def hvM (c : Int) : Int := if 48 ≤ c ∧ c ≤ 57 then c - 48 else if 97 ≤ c ∧ c ≤ 102 then c - 87 else -1
def decM : List Int → List Int → ByteArray × Bool
  | acc, a :: b :: l => if hvM a < 0 then (⟨#[]⟩, false) else if hvM b < 0 then (⟨#[]⟩, false) else decM (acc ++ [16 * hvM a + hvM b]) l
  | acc, _ => (strOfNums acc, true)
theorem hvM_range (c : Int) : -1 ≤ hvM c ∧ hvM c ≤ 15 := by unfold hvM; (repeat' split) <;> omega
theorem value_all : ∀ n : Fin 256, spec_l01Value.f 1 ((n.val : Nat) : Int) = some (hvM ((n.val : Nat) : Int)) := by decide +kernel
theorem digit_all : ∀ n : Fin 256, impl_digit.f 20 ((n.val : Nat) : Int) = some (hvM ((n.val : Nat) : Int)) := by decide +kernel
theorem value_ev (c : Int) (h0 : 0 ≤ c) (h1 : c ≤ 255) : Ev (fun k => spec_l01Value.f k c) (hvM c) := by
  have h := value_all ⟨c.toNat, by omega⟩
  have e : ((c.toNat : Nat) : Int) = c := by omega
  simp only [e] at h
  exact Ev.of (spec_l01Value.mono c) h
theorem digit_ev (c : Int) (h0 : 0 ≤ c) (h1 : c ≤ 255) : Ev (fun k => impl_digit.f k c) (hvM c) := by
  have h := digit_all ⟨c.toNat, by omega⟩
  have e : ((c.toNat : Nat) : Int) = c := by omega
  simp only [e] at h
  exact Ev.of (impl_digit.mono c) h
theorem spec_dec_loop (s : ByteArray) (hs : s.size ≤ 40000) (d : Nat) : ∀ (i : Nat) (acc : List Int), i + 2 * d = s.size → acc.length ≤ i →
    Ev (fun k => spec_DecodeHex.l0 k s acc i) (decM acc ((bytesOf s).drop i)) := by
  induction d with
  | zero =>
    intro i acc hi ha
    refine Ev.step (f := fun _ => some (strOfNums acc, true)) (fun k => by rw [spec_DecodeHex.l0, if_neg (by omega)]) (ev_some ?_)
    rw [bytes_drop_end s i (by omega)]; rfl
  | succ d ih =>
    intro i acc hi ha
    have hr := bt_range s i
    have hr1 := bt_range s ((i + 1 : Nat) : Int)
    have e1 : wrap64 ((i : Int) + 1) = ((i + 1 : Nat) : Int) := w64 (by omega) (by omega)
    have e2 : wrap64 ((i : Int) + 2) = ((i + 2 : Nat) : Int) := w64 (by omega) (by omega)
    have g1 := hvM_range (bt s i)
    have g2 := hvM_range (bt s ((i + 1 : Nat) : Int))
    rw [bytes_drop s i (by omega), bytes_drop s (i + 1) (by omega)]
    refine Ev.step (fun k => by rw [spec_DecodeHex.l0, if_pos (show (i : Int) < (s.size : Int) by omega), if_pos (show (0 : Int) ≤ (i : Int) by omega)]) ?_
    refine ev_bind _ (value_ev _ hr.1 hr.2) ?_
    simp only [e1, if_pos (show (0 : Int) ≤ ((i + 1 : Nat) : Int) by omega), if_pos (show ((i + 1 : Nat) : Int) < (s.size : Int) by omega)]
    refine ev_bind _ (value_ev _ hr1.1 hr1.2) ?_
    by_cases c1 : hvM (bt s i) < 0
    · simp only [if_pos c1, decM]; exact Ev.now _
    · by_cases c2 : hvM (bt s ((i + 1 : Nat) : Int)) < 0
      · simp only [if_neg c1, if_pos c2, decM]; exact Ev.now _
      · have e3 : (wrap64 ((wrap64 (16 * hvM (bt s i))) + hvM (bt s ((i + 1 : Nat) : Int)))) % 256 = 16 * hvM (bt s i) + hvM (bt s ((i + 1 : Nat) : Int)) := by
          rw [w64 (x := 16 * hvM (bt s i)) (by omega) (by omega), w64 (by omega) (by omega)]
          omega
        simp only [if_neg c1, if_neg c2, if_pos (show acc.length < 140737488355328 by omega), e2, e3, decM]
        exact ih (i + 2) _ (by omega) (by simp only [List.length_append, List.length_cons, List.length_nil]; omega)
theorem impl_dec_loop (s : ByteArray) (hs : s.size ≤ 40000) (d : Nat) : ∀ (i : Nat) (acc : List Int), i + 2 * d = s.size → acc.length ≤ i →
    Ev (fun k => impl_DecodeHex.l0 k s acc i) (decM acc ((bytesOf s).drop i)) := by
  induction d with
  | zero =>
    intro i acc hi ha
    refine Ev.step (f := fun _ => some (strOfNums acc, true)) (fun k => by rw [impl_DecodeHex.l0, if_neg (by omega)]) (ev_some ?_)
    rw [bytes_drop_end s i (by omega)]; rfl
  | succ d ih =>
    intro i acc hi ha
    have hr := bt_range s i
    have hr1 := bt_range s ((i + 1 : Nat) : Int)
    have e1 : wrap64 ((i : Int) + 1) = ((i + 1 : Nat) : Int) := w64 (by omega) (by omega)
    have e2 : wrap64 ((i : Int) + 2) = ((i + 2 : Nat) : Int) := w64 (by omega) (by omega)
    have g1 := hvM_range (bt s i)
    have g2 := hvM_range (bt s ((i + 1 : Nat) : Int))
    rw [bytes_drop s i (by omega), bytes_drop s (i + 1) (by omega)]
    refine Ev.step (fun k => by rw [impl_DecodeHex.l0, if_pos (show (i : Int) < (s.size : Int) by omega), if_pos (show (0 : Int) ≤ (i : Int) by omega)]) ?_
    refine ev_bind _ (digit_ev _ hr.1 hr.2) ?_
    simp only [e1, if_pos (show (0 : Int) ≤ ((i + 1 : Nat) : Int) by omega), if_pos (show ((i + 1 : Nat) : Int) < (s.size : Int) by omega)]
    refine ev_bind _ (digit_ev _ hr1.1 hr1.2) ?_
    by_cases c1 : hvM (bt s i) < 0
    · simp only [if_pos c1, decM]; exact Ev.now _
    · by_cases c2 : hvM (bt s ((i + 1 : Nat) : Int)) < 0
      · simp only [if_neg c1, if_pos c2, decM]; exact Ev.now _
      · have e3 : (wrap64 ((wrap64 (16 * hvM (bt s i))) + hvM (bt s ((i + 1 : Nat) : Int)))) % 256 = 16 * hvM (bt s i) + hvM (bt s ((i + 1 : Nat) : Int)) := by
          rw [w64 (x := 16 * hvM (bt s i)) (by omega) (by omega), w64 (by omega) (by omega)]
          omega
        simp only [if_neg c1, if_neg c2, if_pos (show acc.length < 140737488355328 by omega), e2, e3, decM]
        exact ih (i + 2) _ (by omega) (by simp only [List.length_append, List.length_cons, List.length_nil]; omega)
/-- What DecodeHex returns. -/
def decR (s : ByteArray) : ByteArray × Bool := if (s.size : Int) > 40000 then (⟨#[]⟩, false) else if (s.size : Int) % 2 = 0 then decM [] (bytesOf s) else (⟨#[]⟩, false)
theorem spec_dec_ev (s : ByteArray) : Ev (fun k => spec_DecodeHex.f k s) (decR s) := by
  unfold spec_DecodeHex.f decR
  by_cases h : (s.size : Int) > 40000
  · simp only [if_pos h]
    exact Ev.step (fun k => by rw [spec_DecodeHex.j0, if_pos rfl]) (Ev.now _)
  · simp only [if_neg h]
    by_cases h2 : (s.size : Int) % 2 = 0
    · have e : ((s.size : Int) % 2 != 0) = false := by simp [h2]
      simp only [e, if_pos h2]
      refine Ev.step (fun k => by rw [spec_DecodeHex.j0, if_neg (by decide)]) ?_
      exact spec_dec_loop s (by omega) (s.size / 2) 0 [] (by omega) (Nat.le_refl _)
    · have e : ((s.size : Int) % 2 != 0) = true := by simp [h2]
      simp only [e, if_neg h2]
      exact Ev.step (fun k => by rw [spec_DecodeHex.j0, if_pos rfl]) (Ev.now _)
theorem impl_dec_ev (s : ByteArray) : Ev (fun k => impl_DecodeHex.f k s) (decR s) := by
  unfold impl_DecodeHex.f decR
  by_cases h2 : (s.size : Int) % 2 = 0
  · simp only [if_pos h2]
    by_cases h : (s.size : Int) > 40000
    · have e : decide ((s.size : Int) > 40000) = true := decide_eq_true h
      simp only [e, if_pos h]
      exact Ev.step (fun k => by rw [impl_DecodeHex.j0, if_pos rfl]) (Ev.now _)
    · have e : decide ((s.size : Int) > 40000) = false := decide_eq_false h
      simp only [e, if_neg h]
      refine Ev.step (fun k => by rw [impl_DecodeHex.j0, if_neg (by decide)]) ?_
      exact impl_dec_loop s (by omega) (s.size / 2) 0 [] (by omega) (Nat.le_refl _)
  · simp only [if_neg h2]
    have : (if (s.size : Int) > 40000 then ((⟨#[]⟩, false) : ByteArray × Bool) else (⟨#[]⟩, false)) = (⟨#[]⟩, false) := by split <;> rfl
    rw [this]
    exact Ev.step (fun k => by rw [impl_DecodeHex.j0, if_pos rfl]) (Ev.now _)
theorem FnExactDecodeHex : laws_FnExactDecodeHex.Pure := by
  intro s _
  refine Ev.rounds ?_
  unfold laws_FnExactDecodeHex.f
  by_cases h : (s.size : Int) > 1048576
  · simp only [if_pos h]; exact Ev.now _
  · simp only [if_neg h]
    refine ev_bind _ (spec_dec_ev s) ?_
    refine ev_bind _ (impl_dec_ev s) ?_
    simp
    exact Ev.now _

end Go.Proofs.Ytkfolpcmehmmlaa.Pure
