/- For every whole number of 64 bits the law FnExactFormatInt returns true (its printed function does): the program and the reference write it alike. -/
import Derived.Test.YtkfolpcmehmmlaaDoorPFnExactFormatIntx1
import Derived.Test.YtkfolpcmehmmlaaDoorKit
namespace Go.Proofs.YtkfolpcmehmmlaaDoor.Pure
open Go.RowKit Go.Proofs.YtkfolpcmehmmlaaDoor.PFnExactFormatInt Go.Proofs.YtkfolpcmehmmlaaDoorW.PrintWords Go.Proofs.YtkfolpcmehmmlaaDoorW.PrintLast Go.Proofs.YtkfolpcmehmmlaaDoorW.PrintMore Go.Proofs.YtkfolpcmehmmlaaDoor.Kit
set_option linter.unusedVariables false
set_option linter.unusedSimpArgs false

/-- A string of these bytes. -/
def mkB (l : List UInt8) : ByteArray := ⟨l.toArray⟩
theorem mkB_append (a b : List UInt8) : mkB a ++ mkB b = mkB (a ++ b) := by
  apply ByteArray.ext
  rw [ByteArray.data_append]
  simp [mkB]
theorem mkB_size (l : List UInt8) : (mkB l).size = l.length := by simp [mkB, ByteArray.size]
theorem mkB_nums (l : List Int) : strOfNums l = mkB (l.map fun n => UInt8.ofNat n.toNat) := by simp [mkB, strOfNums]
theorem mkB_list (l : List UInt8) : (mkB l).toList = l := by rw [ByteArray.toList_eq]; simp [mkB]
/-- The digits of a number, none of 0. -/
def digs (u : Nat) : List UInt8 := if u = 0 then [] else Go.Lib.decDigits u
theorem digs_step (u : Nat) (h : 0 < u) : digs u = digs (u / 10) ++ [UInt8.ofNat (48 + u % 10)] := by
  unfold digs
  rw [if_neg (by omega)]
  by_cases c : u < 10
  · rw [Go.Lib.decDigits_one c, if_pos (by omega), show u % 10 = u by omega]; rfl
  · rw [Go.Lib.decDigits, dif_neg c, if_neg (by omega)]
theorem fig_eq (d : Nat) (h : d < 10) : spec_l01Figure.f (d : Int) = some ((48 + d : Nat) : Int) := by
  unfold spec_l01Figure.f
  rw [if_pos (by omega), w64 (by omega) (by omega)]
  congr 1
  omega
/-- A number with its sign. -/
def sgn (b : Bool) (u : Nat) : Int := if b = true then -(u : Int) else u
theorem sgn_zero (b : Bool) (u : Nat) : sgn b u = 0 ↔ u = 0 := by unfold sgn; split <;> omega
theorem sgn_div (b : Bool) (u : Nat) : Int.tdiv (sgn b u) 10 = sgn b (u / 10) := by
  unfold sgn
  cases b with
  | true => simp only [if_true]; rw [Int.neg_tdiv, Int.tdiv_eq_ediv_of_nonneg (by omega)]; omega
  | false => simp only [Bool.false_eq_true, if_false]; rw [Int.tdiv_eq_ediv_of_nonneg (by omega)]; omega
theorem sgn_mod (b : Bool) (u : Nat) : Int.tmod (sgn b u) 10 = sgn b (u % 10) := by
  unfold sgn
  cases b with
  | true => simp only [if_true]; rw [Int.neg_tmod, Int.tmod_eq_emod_of_nonneg (by omega)]; omega
  | false => simp only [Bool.false_eq_true, if_false]; rw [Int.tmod_eq_emod_of_nonneg (by omega)]; omega
theorem fmt_loop (b x : Bool) (m : Nat) : ∀ (u : Nat) (s : List UInt8), u < 10 ^ m → u ≤ 9223372036854775808 → s.length + m ≤ 100 → Ev (fun k => spec_FormatInt.l0 k (sgn b u) x (mkB s)) (mkB ((if x = true then [45] else []) ++ (digs u ++ s))) := by
  have h0 : ∀ s : List UInt8, s.length ≤ 100 → Ev (fun k => spec_FormatInt.l0 k (sgn b 0) x (mkB s)) (mkB ((if x = true then [45] else []) ++ (digs 0 ++ s))) := by
    intro s hs
    refine Ev.step (f := fun _ => some (mkB ((if x = true then [45] else []) ++ (digs 0 ++ s)))) (fun k => ?_) (Ev.now _)
    rw [spec_FormatInt.l0, if_pos ((sgn_zero b 0).2 rfl), mkB_size]
    cases x with
    | true =>
      rw [if_pos rfl, if_pos (by omega), if_pos rfl, show (⟨#[45]⟩ : ByteArray) = mkB [45] from rfl, mkB_append]; rfl
    | false => rfl
  induction m with
  | zero => intro u s hu _ hs; obtain rfl : u = 0 := by simpa using hu
            exact h0 s (by omega)
  | succ m ih =>
    intro u s hu hu2 hs
    by_cases c : u = 0
    · subst c; exact h0 s (by omega)
    · rw [digs_step u (by omega)]
      have hr := ih (u / 10) (UInt8.ofNat (48 + u % 10) :: s) (by rw [Nat.pow_succ] at hu; omega) (by omega) (by simp; omega)
      have e1 : wrap64 (sgn b (u / 10)) = sgn b (u / 10) := by unfold sgn; cases b <;> simp <;> rw [w64 (by omega) (by omega)]
      have e3 : strOfNums [((48 + u % 10 : Nat) : Int)] = mkB [UInt8.ofNat (48 + u % 10)] := by rw [mkB_nums]; rfl
      have e2 : ∀ k, spec_FormatInt.l0 (k + 1) (sgn b u) x (mkB s) = spec_FormatInt.l0 k (sgn b (u / 10)) x (mkB (UInt8.ofNat (48 + u % 10) :: s)) := by
        intro k
        rw [spec_FormatInt.l0, if_neg (fun h => c ((sgn_zero b u).1 h)), sgn_mod, sgn_div, e1]
        by_cases c2 : sgn b (u % 10) < 0
        · have e4 : wrap64 (-(sgn b (u % 10))) = ((u % 10 : Nat) : Int) := by
            unfold sgn at c2 ⊢
            cases b with
            | true => simp only [if_true] at c2 ⊢; rw [w64 (by omega) (by omega)]; omega
            | false => simp only [Bool.false_eq_true, if_false] at c2; omega
          rw [if_pos c2, e4, fig_eq _ (by omega), Option.bind_some, Option.bind_some, e3, mkB_size, mkB_size, if_pos (by simp; omega), mkB_append]; rfl
        · have e4 : sgn b (u % 10) = ((u % 10 : Nat) : Int) := by
            unfold sgn at c2 ⊢
            cases b with
            | true => simp only [if_true] at c2 ⊢; omega
            | false => simp
          rw [if_neg c2, e4, fig_eq _ (by omega), Option.bind_some, Option.bind_some, e3, mkB_size, mkB_size, if_pos (by simp; omega), mkB_append]; rfl
      refine Ev.step e2 ?_
      rw [List.append_assoc]
      exact hr
theorem spec_fmt_ev (n : Int) (h0 : -9223372036854775808 ≤ n) (h1 : n ≤ 9223372036854775807) : Ev (fun k => spec_FormatInt.f k n) (mkB (Go.Lib.itoa n)) := by
  unfold spec_FormatInt.f
  by_cases c : n = 0
  · subst c
    simp only [if_true]
    refine ev_some ?_
    rw [Go.Lib.itoa, if_neg (by omega), Int.toNat_zero, Go.Lib.decDigits_one (by omega)]; rfl
  · simp only [if_neg c]
    have h := fmt_loop (decide (n < 0)) (decide (n < 0)) 19 n.natAbs [] (by omega) (by omega) (by simp)
    have e : sgn (decide (n < 0)) n.natAbs = n := by unfold sgn; by_cases d : n < 0 <;> simp [d] <;> omega
    rw [e] at h
    have e2 : (if decide (n < 0) = true then [45] else []) ++ (digs n.natAbs ++ []) = Go.Lib.itoa n := by
      unfold Go.Lib.itoa digs
      rw [if_neg (show ¬ n.natAbs = 0 by omega), List.append_nil]
      by_cases d : n < 0
      · simp [d]
      · simp only [d, decide_false, Bool.false_eq_true, if_false, List.nil_append]; congr 1; omega
    rw [e2] at h
    exact h
theorem impl_fmt (n : Int) (h0 : -9223372036854775808 ≤ n) (h1 : n ≤ 9223372036854775807) : impl_FormatInt.f n = some (mkB (Go.Lib.itoa n)) := by
  unfold impl_FormatInt.f strconv_Itoa.f
  rw [if_pos ⟨h0, h1⟩]; rfl
theorem FnExactFormatInt : laws_FnExactFormatInt.Pure := by
  intro n hn
  have hb := wf64 hn
  refine Ev.rounds ?_
  unfold laws_FnExactFormatInt.f
  refine ev_bind _ (spec_fmt_ev n hb.1 (by omega)) ?_
  rw [impl_fmt n hb.1 (by omega)]
  simp only [Option.bind_some, if_true]
  exact Ev.now _

end Go.Proofs.YtkfolpcmehmmlaaDoor.Pure
