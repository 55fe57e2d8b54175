/- For every string the law FnExactEncodeHex returns true (its printed function does): program and reference encode alike. -/
import Derived.Test.YtkfolpcmehmmlaaPFnExactEncodeHexx1
import Derived.Test.YtkfolpcmehmmlaaKit
namespace Go.Proofs.Ytkfolpcmehmmlaa.Pure
open Go.RowKit Go.Proofs.Ytkfolpcmehmmlaa.PFnExactEncodeHex Go.Proofs.YtkfolpcmehmmlaaW.PrintWords Go.Proofs.YtkfolpcmehmmlaaW.PrintLast Go.Proofs.YtkfolpcmehmmlaaW.PrintMore Go.Proofs.Ytkfolpcmehmmlaa.Kit
set_option linter.unusedVariables false
set_option linter.unusedSimpArgs false

/-- A half byte's digit. -/
def figM (n : Int) : Int := if n < 10 then 48 + n else 87 + n
def encM (l : List Int) : List Int := l.flatMap fun b => [figM (b / 16), figM (b % 16)]
theorem encM_nil : encM [] = [] := rfl
theorem encM_cons (b : Int) (l : List Int) : encM (b :: l) = [figM (b / 16), figM (b % 16)] ++ encM l := by simp [encM]
theorem encM_length (l : List Int) : (encM l).length = 2 * l.length := by
  induction l with
  | nil => rfl
  | cons b l ih => rw [encM_cons, List.length_append, ih]; simp; omega
theorem bytes_drop (s : ByteArray) (i : Nat) (h : i < s.size) : (bytesOf s).drop i = bt s i :: (bytesOf s).drop (i + 1) := by
  have hl : i < (bytesOf s).length := by rw [bytesOf_length]; exact h
  rw [List.drop_eq_getElem_cons hl]
  congr 1
  have := rd_bytesOf s i
  rw [← this]
  simp [rd, List.getD_eq_getElem?_getD, List.getElem?_eq_getElem hl]
theorem bytes_drop_end (s : ByteArray) (i : Nat) (h : s.size ≤ i) : (bytesOf s).drop i = [] := List.drop_eq_nil_of_le (by rw [bytesOf_length]; exact h)
theorem bytes_range (s : ByteArray) : ∀ x ∈ bytesOf s, 0 ≤ x ∧ x ≤ 255 := by
  intro x hx
  simp only [bytesOf, List.mem_map] at hx
  obtain ⟨b, _, rfl⟩ := hx
  have := b.toNat_lt
  omega
theorem strOf_bytes (s : ByteArray) : strOfNums (bytesOf s) = s := by
  cases s with
  | mk a =>
    have e : (fun n : Int => UInt8.ofNat n.toNat) ∘ (fun b : UInt8 => (b.toNat : Int)) = id := by
      funext b
      simp
    simp [strOfNums, bytesOf, e]
theorem figure_eq (n : Int) (h0 : 0 ≤ n) (h1 : n ≤ 15) : spec_l01Figure.f n = some (figM n) := by
  unfold spec_l01Figure.f figM
  split
  · rw [w64 (by omega) (by omega)]; congr 1; omega
  · rw [w64 (by rw [w64 (by omega) (by omega)]; omega) (by rw [w64 (by omega) (by omega)]; omega), w64 (by omega) (by omega)]; congr 1; omega
theorem table_eq : ∀ n : Fin 16, bt (⟨#[48, 49, 50, 51, 52, 53, 54, 55, 56, 57, 97, 98, 99, 100, 101, 102]⟩ : ByteArray) ((n.val : Nat) : Int) = figM ((n.val : Nat) : Int) := by decide +kernel
theorem table_at (n : Int) (h0 : 0 ≤ n) (h1 : n < 16) : bt (⟨#[48, 49, 50, 51, 52, 53, 54, 55, 56, 57, 97, 98, 99, 100, 101, 102]⟩ : ByteArray) n = figM n := by
  have h := table_eq ⟨n.toNat, by omega⟩
  have e : ((n.toNat : Nat) : Int) = n := by omega
  simp only [e] at h
  exact h
theorem spec_enc_loop (s : ByteArray) (hs : s.size ≤ 20000) (d : Nat) : ∀ (i : Nat) (acc : List Int), i + d = s.size → acc.length = 2 * i →
    Ev (fun k => spec_EncodeHex.l0 k s acc i) (strOfNums (acc ++ encM ((bytesOf s).drop i)), true) := by
  induction d with
  | zero =>
    intro i acc hi ha
    refine Ev.step (f := fun _ => some (strOfNums acc, true)) (fun k => by rw [spec_EncodeHex.l0, if_neg (by omega)]) (ev_some ?_)
    rw [bytes_drop_end s i (by omega), encM_nil, List.append_nil]
  | succ d ih =>
    intro i acc hi ha
    have hr := bt_range s i
    have e1 : Int.tdiv (bt s i) 16 = bt s i / 16 := Int.tdiv_eq_ediv_of_nonneg hr.1
    have e2 : Int.tmod (bt s i) 16 = bt s i % 16 := Int.tmod_eq_emod_of_nonneg hr.1
    refine Ev.step (f := fun k => spec_EncodeHex.l0 k s (acc ++ [figM (bt s i / 16), figM (bt s i % 16)]) ((i + 1 : Nat) : Int)) (fun k => ?_) ?_
    · rw [spec_EncodeHex.l0, if_pos (by omega), if_pos (by omega), w64_bt, e1, e2, w64 (by omega) (by omega), figure_eq _ (by omega) (by omega), Option.bind_some, figure_eq _ (by omega) (by omega), Option.bind_some, Option.bind_some,
        if_pos (by simp only [List.length_cons, List.length_nil]; omega), w64 (by omega) (by omega)]
      rfl
    · rw [bytes_drop s i (by omega), encM_cons, ← List.append_assoc]
      exact ih (i + 1) _ (by omega) (by simp only [List.length_append, List.length_cons, List.length_nil]; omega)
theorem impl_enc_loop (s : ByteArray) (hs : s.size ≤ 20000) (d : Nat) : ∀ (i : Nat) (acc : List Int), i + d = s.size → acc.length = 2 * i →
    Ev (fun k => impl_EncodeHex.l0 k s acc i) (strOfNums (acc ++ encM ((bytesOf s).drop i)), true) := by
  induction d with
  | zero =>
    intro i acc hi ha
    refine Ev.step (f := fun _ => some (strOfNums acc, true)) (fun k => by rw [impl_EncodeHex.l0, if_neg (by omega)]) (ev_some ?_)
    rw [bytes_drop_end s i (by omega), encM_nil, List.append_nil]
  | succ d ih =>
    intro i acc hi ha
    have hr := bt_range s i
    have e2 : Go.bits .and .u8 (bt s i) 15 = bt s i % 16 := u8_and15 _ (by omega) (by omega)
    refine Ev.step (f := fun k => impl_EncodeHex.l0 k s (acc ++ [figM (bt s i / 16), figM (bt s i % 16)]) ((i + 1 : Nat) : Int)) (fun k => ?_) ?_
    · rw [impl_EncodeHex.l0, if_pos (by omega), if_pos (by omega), e2, if_pos (by omega), if_pos (by omega), if_pos (by omega), if_pos (by omega), Option.bind_some,
        table_at _ (by omega) (by omega), table_at _ (by omega) (by omega), if_pos (by simp only [List.length_cons, List.length_nil]; omega), w64 (by omega) (by omega)]
      rfl
    · rw [bytes_drop s i (by omega), encM_cons, ← List.append_assoc]
      exact ih (i + 1) _ (by omega) (by simp only [List.length_append, List.length_cons, List.length_nil]; omega)
/-- What EncodeHex returns. -/
def encR (s : ByteArray) : ByteArray × Bool := if (s.size : Int) > 20000 then (⟨#[]⟩, false) else (strOfNums (encM (bytesOf s)), true)
theorem spec_enc_ev (s : ByteArray) : Ev (fun k => spec_EncodeHex.f k s) (encR s) := by
  unfold spec_EncodeHex.f encR
  by_cases h : (s.size : Int) > 20000
  · simp only [if_pos h]; exact Ev.now _
  · simp only [if_neg h]
    exact spec_enc_loop s (by omega) s.size 0 [] (by omega) rfl
theorem impl_enc_ev (s : ByteArray) : Ev (fun k => impl_EncodeHex.f k s) (encR s) := by
  unfold impl_EncodeHex.f encR
  by_cases h : (s.size : Int) > 20000
  · simp only [if_pos h]; exact Ev.now _
  · simp only [if_neg h]
    exact impl_enc_loop s (by omega) s.size 0 [] (by omega) rfl
theorem FnExactEncodeHex : laws_FnExactEncodeHex.Pure := by
  intro s _
  refine Ev.rounds ?_
  unfold laws_FnExactEncodeHex.f
  by_cases h : (s.size : Int) > 1048576
  · simp only [if_pos h]; exact Ev.now _
  · simp only [if_neg h]
    refine ev_bind _ (spec_enc_ev s) ?_
    refine ev_bind _ (impl_enc_ev s) ?_
    simp
    exact Ev.now _

end Go.Proofs.Ytkfolpcmehmmlaa.Pure
