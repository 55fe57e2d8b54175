/- For every string the law FnExactParseUint returns true (its printed function does): the program and the reference read the same numbers. -/
import Derived.Test.YtnkaimdcdedekaaDoorPFnExactParseUintx1
import Derived.Test.YtnkaimdcdedekaaDoorKit
namespace Go.Proofs.YtnkaimdcdedekaaDoor.Pure
open Go.RowKit Go.Proofs.YtnkaimdcdedekaaDoor.PFnExactParseUint Go.Proofs.YtnkaimdcdedekaaDoorW.PrintWords Go.Proofs.YtnkaimdcdedekaaDoorW.PrintLast Go.Proofs.YtnkaimdcdedekaaDoorW.PrintMore Go.Proofs.YtnkaimdcdedekaaDoor.Kit
set_option linter.unusedVariables false
set_option linter.unusedSimpArgs false

/-- A string of these bytes. -/
def mkB (l : List UInt8) : ByteArray := ⟨l.toArray⟩
theorem mkB_append (a b : List UInt8) : mkB a ++ mkB b = mkB (a ++ b) := by
  apply ByteArray.ext
  rw [ByteArray.data_append]
  simp [mkB]
theorem mkB_size (l : List UInt8) : (mkB l).size = l.length := by simp [mkB, ByteArray.size]
theorem mkB_nums (l : List Int) : strOfNums l = mkB (l.map fun n => UInt8.ofNat n.toNat) := by simp [mkB, strOfNums]
theorem mkB_list (l : List UInt8) : (mkB l).toList = l := by rw [ByteArray.toList_eq]; simp [mkB]
/-- The digits of a number, none of 0. -/
def digs (u : Nat) : List UInt8 := if u = 0 then [] else Go.Lib.decDigits u
theorem digs_step (u : Nat) (h : 0 < u) : digs u = digs (u / 10) ++ [UInt8.ofNat (48 + u % 10)] := by
  unfold digs
  rw [if_neg (by omega)]
  by_cases c : u < 10
  · rw [Go.Lib.decDigits_one c, if_pos (by omega), show u % 10 = u by omega]; rfl
  · rw [Go.Lib.decDigits, dif_neg c, if_neg (by omega)]
theorem fig_eq (d : Nat) (h : d < 10) : spec_l01Figure.f (d : Int) = some ((48 + d : Nat) : Int) := by
  unfold spec_l01Figure.f
  rw [if_pos (by omega), w64 (by omega) (by omega)]
  congr 1
  omega
/-- A number with its sign. -/
def sgn (b : Bool) (u : Nat) : Int := if b = true then -(u : Int) else u
theorem sgn_zero (b : Bool) (u : Nat) : sgn b u = 0 ↔ u = 0 := by unfold sgn; split <;> omega
theorem sgn_div (b : Bool) (u : Nat) : Int.tdiv (sgn b u) 10 = sgn b (u / 10) := by
  unfold sgn
  cases b with
  | true => simp only [if_true]; rw [Int.neg_tdiv, Int.tdiv_eq_ediv_of_nonneg (by omega)]; omega
  | false => simp only [Bool.false_eq_true, if_false]; rw [Int.tdiv_eq_ediv_of_nonneg (by omega)]; omega
theorem sgn_mod (b : Bool) (u : Nat) : Int.tmod (sgn b u) 10 = sgn b (u % 10) := by
  unfold sgn
  cases b with
  | true => simp only [if_true]; rw [Int.neg_tmod, Int.tmod_eq_emod_of_nonneg (by omega)]; omega
  | false => simp only [Bool.false_eq_true, if_false]; rw [Int.tmod_eq_emod_of_nonneg (by omega)]; omega
theorem fmt_loop (b x : Bool) (m : Nat) : ∀ (u : Nat) (s : List UInt8), u < 10 ^ m → u ≤ 9223372036854775808 → s.length + m ≤ 100 → Ev (fun k => spec_FormatInt.l0 k (sgn b u) x (mkB s)) (mkB ((if x = true then [45] else []) ++ (digs u ++ s))) := by
  have h0 : ∀ s : List UInt8, s.length ≤ 100 → Ev (fun k => spec_FormatInt.l0 k (sgn b 0) x (mkB s)) (mkB ((if x = true then [45] else []) ++ (digs 0 ++ s))) := by
    intro s hs
    refine Ev.step (f := fun _ => some (mkB ((if x = true then [45] else []) ++ (digs 0 ++ s)))) (fun k => ?_) (Ev.now _)
    rw [spec_FormatInt.l0, if_pos ((sgn_zero b 0).2 rfl), mkB_size]
    cases x with
    | true =>
      rw [if_pos rfl, if_pos (by omega), if_pos rfl, show (⟨#[45]⟩ : ByteArray) = mkB [45] from rfl, mkB_append]; rfl
    | false => rfl
  induction m with
  | zero => intro u s hu _ hs; obtain rfl : u = 0 := by simpa using hu
            exact h0 s (by omega)
  | succ m ih =>
    intro u s hu hu2 hs
    by_cases c : u = 0
    · subst c; exact h0 s (by omega)
    · rw [digs_step u (by omega)]
      have hr := ih (u / 10) (UInt8.ofNat (48 + u % 10) :: s) (by rw [Nat.pow_succ] at hu; omega) (by omega) (by simp; omega)
      have e1 : wrap64 (sgn b (u / 10)) = sgn b (u / 10) := by unfold sgn; cases b <;> simp <;> rw [w64 (by omega) (by omega)]
      have e3 : strOfNums [((48 + u % 10 : Nat) : Int)] = mkB [UInt8.ofNat (48 + u % 10)] := by rw [mkB_nums]; rfl
      have e2 : ∀ k, spec_FormatInt.l0 (k + 1) (sgn b u) x (mkB s) = spec_FormatInt.l0 k (sgn b (u / 10)) x (mkB (UInt8.ofNat (48 + u % 10) :: s)) := by
        intro k
        rw [spec_FormatInt.l0, if_neg (fun h => c ((sgn_zero b u).1 h)), sgn_mod, sgn_div, e1]
        by_cases c2 : sgn b (u % 10) < 0
        · have e4 : wrap64 (-(sgn b (u % 10))) = ((u % 10 : Nat) : Int) := by
            unfold sgn at c2 ⊢
            cases b with
            | true => simp only [if_true] at c2 ⊢; rw [w64 (by omega) (by omega)]; omega
            | false => simp only [Bool.false_eq_true, if_false] at c2; omega
          rw [if_pos c2, e4, fig_eq _ (by omega), Option.bind_some, Option.bind_some, e3, mkB_size, mkB_size, if_pos (by simp; omega), mkB_append]; rfl
        · have e4 : sgn b (u % 10) = ((u % 10 : Nat) : Int) := by
            unfold sgn at c2 ⊢
            cases b with
            | true => simp only [if_true] at c2 ⊢; omega
            | false => simp
          rw [if_neg c2, e4, fig_eq _ (by omega), Option.bind_some, Option.bind_some, e3, mkB_size, mkB_size, if_pos (by simp; omega), mkB_append]; rfl
      refine Ev.step e2 ?_
      rw [List.append_assoc]
      exact hr
theorem spec_fmt_ev (n : Int) (h0 : -9223372036854775808 ≤ n) (h1 : n ≤ 9223372036854775807) : Ev (fun k => spec_FormatInt.f k n) (mkB (Go.Lib.itoa n)) := by
  unfold spec_FormatInt.f
  by_cases c : n = 0
  · subst c
    simp only [if_true]
    refine ev_some ?_
    rw [Go.Lib.itoa, if_neg (by omega), Int.toNat_zero, Go.Lib.decDigits_one (by omega)]; rfl
  · simp only [if_neg c]
    have h := fmt_loop (decide (n < 0)) (decide (n < 0)) 19 n.natAbs [] (by omega) (by omega) (by simp)
    have e : sgn (decide (n < 0)) n.natAbs = n := by unfold sgn; by_cases d : n < 0 <;> simp [d] <;> omega
    rw [e] at h
    have e2 : (if decide (n < 0) = true then [45] else []) ++ (digs n.natAbs ++ []) = Go.Lib.itoa n := by
      unfold Go.Lib.itoa digs
      rw [if_neg (show ¬ n.natAbs = 0 by omega), List.append_nil]
      by_cases d : n < 0
      · simp [d]
      · simp only [d, decide_false, Bool.false_eq_true, if_false, List.nil_append]; congr 1; omega
    rw [e2] at h
    exact h
theorem impl_fmt (n : Int) (h0 : -9223372036854775808 ≤ n) (h1 : n ≤ 9223372036854775807) : impl_FormatInt.f n = some (mkB (Go.Lib.itoa n)) := by
  unfold impl_FormatInt.f strconv_Itoa.f
  rw [if_pos ⟨h0, h1⟩]; rfl
theorem dec_len (m : Nat) : ∀ u : Nat, u < 10 ^ (m + 1) → (Go.Lib.decDigits u).length ≤ m + 1 := by
  induction m with
  | zero => intro u hu; rw [Go.Lib.decDigits_one (by omega)]; simp
  | succ m ih =>
    intro u hu
    by_cases c : u < 10
    · rw [Go.Lib.decDigits_one c]; simp
    · have := ih (u / 10) (by rw [Nat.pow_succ] at hu; omega)
      rw [Go.Lib.decDigits, dif_neg c, List.length_append]
      simp; omega
theorem dig_val (d : Nat) (h : d < 10) : (UInt8.ofNat (48 + d)).toNat = 48 + d := by
  rw [UInt8.toNat_ofNat']; omega
theorem dec_mem (u : Nat) : ∀ c ∈ Go.Lib.decDigits u, 48 ≤ c.toNat ∧ c.toNat ≤ 57 := by
  induction u using Nat.strongRecOn with
  | _ u ih =>
    intro c hc
    by_cases h : u < 10
    · rw [Go.Lib.decDigits_one h, List.mem_singleton] at hc
      subst hc
      have := dig_val u h
      omega
    · rw [Go.Lib.decDigits, dif_neg h] at hc
      rcases List.mem_append.1 hc with hc | hc
      · exact ih (u / 10) (by omega) c hc
      · rw [List.mem_singleton] at hc
        subst hc
        have := dig_val (u % 10) (by omega)
        omega
theorem dec_ne (u : Nat) : Go.Lib.decDigits u ≠ [] := by
  by_cases h : u < 10
  · rw [Go.Lib.decDigits_one h]; simp
  · rw [Go.Lib.decDigits, dif_neg h]; simp
/-- The number that digits spell. -/
def spV : List UInt8 → Nat → Option Nat
  | [], a => some a
  | c :: l, a => if 48 ≤ c.toNat ∧ c.toNat ≤ 57 then spV l (10 * a + (c.toNat - 48)) else none
theorem spV_snoc (c : UInt8) (hc : 48 ≤ c.toNat ∧ c.toNat ≤ 57) : ∀ (l : List UInt8) (a m : Nat), spV l a = some m → spV (l ++ [c]) a = some (10 * m + (c.toNat - 48))
  | [], a, m, h => by
    obtain rfl := Option.some.inj h
    rw [List.nil_append, spV, if_pos hc]; rfl
  | x :: l, a, m, h => by
    rw [spV] at h
    rw [List.cons_append, spV]
    split at h
    · rename_i hx; rw [if_pos hx]; exact spV_snoc c hc l _ m h
    · cases h
theorem spV_dec (u : Nat) : spV (Go.Lib.decDigits u) 0 = some u := by
  induction u using Nat.strongRecOn with
  | _ u ih =>
    by_cases h : u < 10
    · have := dig_val u h
      rw [Go.Lib.decDigits_one h, spV, if_pos (by omega), spV, this]; congr 1; omega
    · have := dig_val (u % 10) (by omega)
      rw [Go.Lib.decDigits, dif_neg h, spV_snoc _ (by omega) _ _ _ (ih (u / 10) (by omega)), this]; congr 1; omega
theorem dec_inj {u v : Nat} (h : Go.Lib.decDigits u = Go.Lib.decDigits v) : u = v := by
  have h1 := spV_dec u
  rw [h, spV_dec v] at h1
  exact (Option.some.inj h1).symm
theorem pu_snoc (c : UInt8) (hc : 48 ≤ c.toNat ∧ c.toNat ≤ 57) : ∀ (l : List UInt8) (a m : Nat), Go.Lib.parseUint10 a l = .ok m → m < 1000000000000 → Go.Lib.parseUint10 a (l ++ [c]) = .ok (m * 10 + (c.toNat - 48))
  | [], a, m, h, hm => by
    simp only [Go.Lib.parseUint10] at h
    injection h with h
    subst h
    simp only [List.nil_append, Go.Lib.parseUint10, if_pos hc]
    rw [if_neg (by omega), if_neg (by omega)]
  | x :: l, a, m, h, hm => by
    simp only [List.cons_append, Go.Lib.parseUint10] at h ⊢
    split at h
    · rename_i hx
      rw [if_pos hx]
      split at h
      · cases h
      · rename_i h2
        rw [if_neg h2]
        split at h
        · cases h
        · rename_i h3
          rw [if_neg h3]
          exact pu_snoc c hc l _ m h hm
    · cases h
theorem pu_dec (u : Nat) (hu : u < 1000000000000) : Go.Lib.parseUint10 0 (Go.Lib.decDigits u) = .ok u := by
  induction u using Nat.strongRecOn with
  | _ u ih =>
    by_cases h : u < 10
    · have := dig_val u h
      rw [Go.Lib.decDigits_one h, Go.Lib.parseUint10, if_pos (by omega), if_neg (by omega), if_neg (by omega), Go.Lib.parseUint10, this]; congr 1; omega
    · have := dig_val (u % 10) (by omega)
      rw [Go.Lib.decDigits, dif_neg h, pu_snoc _ (by omega) _ _ _ (ih (u / 10) (by omega) (by omega)) (by omega), this]; congr 1; omega
theorem atoi_dec (u : Nat) (hu : u < 1000000000000) : Go.Lib.atoiAll (Go.Lib.decDigits u) = .ok (u : Int) := by
  have h1 := pu_dec u hu
  have h2 := dec_mem u
  have h3 := dec_ne u
  generalize Go.Lib.decDigits u = l at h1 h2 h3
  cases l with
  | nil => exact absurd rfl h3
  | cons c r =>
    have hc := h2 c (by simp)
    unfold Go.Lib.atoiAll
    simp only [show ¬ c.toNat = 43 by omega, show ¬ c.toNat = 45 by omega, or_self, if_false]
    unfold Go.Lib.parseMag
    rw [if_neg (by simp), h1]
    simp only [not_false_eq_true, true_and, false_and, if_false]
    rw [if_neg (by omega)]
theorem itoa_pos (n : Nat) : Go.Lib.itoa (n : Int) = Go.Lib.decDigits n := by unfold Go.Lib.itoa; rw [if_neg (by omega), Int.toNat_natCast]
theorem mkB_data (l : List UInt8) : (mkB l).data.toList = l := by simp [mkB]
theorem impl_pu (n : Nat) (h : n ≤ 1000000000) : impl_ParseUint.f (mkB (Go.Lib.decDigits n)) = some ((n : Int), true) := by
  have hl := dec_len 9 n (by omega)
  unfold impl_ParseUint.f impl_signed.f
  rw [if_pos (by rw [mkB_size]; omega), mkB_data, atoi_dec n (by omega)]
  simp only []
  rw [if_neg (by omega), if_neg (by omega), impl_fmt _ (by omega) (by omega), itoa_pos]
  simp only [Option.bind_some, if_true]
theorem impl_pu_not (s : ByteArray) (hs : s.size ≤ 140737488351232) (h : ∀ n : Nat, n ≤ 1000000000 → s ≠ mkB (Go.Lib.decDigits n)) : impl_ParseUint.f s = some (0, false) := by
  unfold impl_ParseUint.f impl_signed.f
  rw [if_pos hs]
  cases hA : Go.Lib.atoiAll s.data.toList with
  | «syntax» => rfl
  | range => rfl
  | ok v =>
    simp only []
    by_cases c1 : v < 0
    · rw [if_pos c1]; rfl
    · by_cases c2 : v > 1000000000
      · rw [if_neg c1, if_pos c2]; rfl
      · obtain ⟨n, rfl⟩ := Int.eq_ofNat_of_zero_le (show 0 ≤ v by omega)
        rw [if_neg c1, if_neg c2, impl_fmt _ (by omega) (by omega), itoa_pos, Option.bind_some, if_neg (fun e => h n (by omega) (toList_inj e).symm)]
        rfl
/-- How the reference ends, behind its digits. -/
def spE (s : ByteArray) : Option Nat → Int × Bool
  | none => (0, false)
  | some v => if v > 1000000000 then (0, false) else if (mkB (Go.Lib.decDigits v)).toList = s.toList then ((v : Int), true) else (0, false)
theorem bt_mk (l : List UInt8) (i : Nat) (h : i < l.length) : bt (mkB l) (i : Int) = (l[i].toNat : Int) := by
  rw [← rd_bytesOf]
  simp [rd, bytesOf, mkB, List.getD_eq_getElem?_getD, List.getElem?_eq_getElem h]
theorem spec_pu_loop (L : List UInt8) (hL : L.length ≤ 10) (d : Nat) : ∀ (i a : Nat), i + d = L.length → a < 10 ^ i → Ev (fun k => spec_ParseUint.l0 k (mkB L) (a : Int) (i : Int)) (spE (mkB L) (spV (L.drop i) a)) := by
  induction d with
  | zero =>
    intro i a hi ha
    have hp : (10 : Nat) ^ i ≤ 10 ^ 10 := Nat.pow_le_pow_right (by omega) (by omega)
    rw [List.drop_eq_nil_of_le (by omega), spV, spE]
    by_cases c : a > 1000000000
    · rw [if_pos c]
      exact Ev.step (f := fun _ => some (0, false)) (fun k => by rw [spec_ParseUint.l0, mkB_size, if_neg (by omega), if_pos (by omega)]) (Ev.now _)
    · rw [if_neg c]
      have h := spec_fmt_ev (a : Int) (by omega) (by omega)
      rw [Go.Lib.itoa, if_neg (by omega), Int.toNat_natCast] at h
      refine Ev.step (fun k => by rw [spec_ParseUint.l0, mkB_size, if_neg (by omega), if_neg (by omega)]) ?_
      refine ev_bind _ h ?_
      by_cases c2 : (mkB (Go.Lib.decDigits a)).toList = (mkB L).toList
      · simp only [if_pos c2]; exact Ev.now _
      · simp only [if_neg c2]; exact Ev.now _
  | succ d ih =>
    intro i a hi ha
    have hlt : i < L.length := by omega
    have hp : (10 : Nat) ^ i ≤ 10 ^ 9 := Nat.pow_le_pow_right (by omega) (by omega)
    have hb := bt_mk L i hlt
    have hc := L[i].toNat_lt
    rw [List.drop_eq_getElem_cons hlt, spV]
    by_cases c : 48 ≤ L[i].toNat ∧ L[i].toNat ≤ 57
    · rw [if_pos c]
      have e1 : wrap64 ((wrap64 ((wrap64 (10 * (a : Int))) + (wrap64 ((L[i].toNat : Nat) : Int)))) - 48) = ((10 * a + (L[i].toNat - 48) : Nat) : Int) := by
        rw [w64 (x := 10 * (a : Int)) (by omega) (by omega), w64 (x := ((L[i].toNat : Nat) : Int)) (by omega) (by omega), w64 (x := 10 * (a : Int) + _) (by omega) (by omega), w64 (by omega) (by omega)]
        omega
      have e2 : wrap64 ((i : Int) + 1) = ((i + 1 : Nat) : Int) := w64 (by omega) (by omega)
      refine Ev.step (fun k => by rw [spec_ParseUint.l0, mkB_size, if_pos (by omega), if_pos (by omega), hb, if_neg (by omega), if_neg (by omega), e1, e2]) ?_
      exact ih (i + 1) _ (by omega) (by rw [Nat.pow_succ]; omega)
    · rw [if_neg c, spE]
      by_cases c1 : ((L[i].toNat : Nat) : Int) < 48
      · exact Ev.step (f := fun _ => some (0, false)) (fun k => by rw [spec_ParseUint.l0, mkB_size, if_pos (by omega), if_pos (by omega), hb, if_pos c1]) (Ev.now _)
      · exact Ev.step (f := fun _ => some (0, false)) (fun k => by rw [spec_ParseUint.l0, mkB_size, if_pos (by omega), if_pos (by omega), hb, if_neg c1, if_pos (by omega)]) (Ev.now _)
theorem mk_of (s : ByteArray) : ∃ L, s = mkB L ∧ L.length = s.size := ⟨s.data.toList, by unfold mkB; rw [Array.toArray_toList], by show s.data.toList.length = s.data.size; exact Array.length_toList⟩
theorem spec_pu (n : Nat) (h : n ≤ 1000000000) : Ev (fun k => spec_ParseUint.f k (mkB (Go.Lib.decDigits n))) ((n : Int), true) := by
  have hl := dec_len 9 n (by omega)
  have := spec_pu_loop (Go.Lib.decDigits n) hl (Go.Lib.decDigits n).length 0 0 (by omega) (by decide)
  rw [List.drop_zero, spV_dec, spE, if_neg (by omega), if_pos rfl] at this
  unfold spec_ParseUint.f
  simp only [mkB_size, if_neg (show ¬ ((Go.Lib.decDigits n).length : Int) > 10 by omega)]
  exact this
theorem spec_pu_not (s : ByteArray) (h : ∀ n : Nat, n ≤ 1000000000 → s ≠ mkB (Go.Lib.decDigits n)) : Ev (fun k => spec_ParseUint.f k s) (0, false) := by
  obtain ⟨L, rfl, hl⟩ := mk_of s
  unfold spec_ParseUint.f
  by_cases c : ((mkB L).size : Int) > 10
  · simp only [if_pos c]; exact Ev.now _
  · simp only [if_neg c]
    have := spec_pu_loop L (by omega) L.length 0 0 (by omega) (by decide)
    have e : spE (mkB L) (spV (L.drop 0) 0) = (0, false) := by
      cases hv : spV (L.drop 0) 0 with
      | none => rfl
      | some v =>
        rw [spE]
        by_cases c1 : v > 1000000000
        · rw [if_pos c1]
        · rw [if_neg c1, if_neg (fun e => h v (by omega) (toList_inj e).symm)]
    rw [e] at this
    exact this
theorem FnExactParseUint : laws_FnExactParseUint.Pure := by
  intro s hs
  refine Ev.rounds ?_
  unfold laws_FnExactParseUint.f
  by_cases h : (s.size : Int) > 1048576
  · simp only [if_pos h]; exact Ev.now _
  · simp only [if_neg h]
    by_cases c : ∃ n : Nat, n ≤ 1000000000 ∧ s = mkB (Go.Lib.decDigits n)
    · obtain ⟨n, hn, rfl⟩ := c
      refine ev_bind _ (spec_pu n hn) ?_
      rw [impl_pu n hn]
      simp only [Option.bind_some, if_true, bne_self_eq_false, Bool.false_eq_true, if_false]
      exact Ev.now _
    · have hno : ∀ n : Nat, n ≤ 1000000000 → s ≠ mkB (Go.Lib.decDigits n) := fun n hn e => c ⟨n, hn, e⟩
      refine ev_bind _ (spec_pu_not s hno) ?_
      rw [impl_pu_not s hs hno]
      simp only [Option.bind_some, if_true, bne_self_eq_false, Bool.false_eq_true, if_false]
      exact Ev.now _

end Go.Proofs.YtnkaimdcdedekaaDoor.Pure
