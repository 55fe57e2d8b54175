/- For every slice of bytes the law FnNumbers returns true (its printed function does): just the numbers from 0 to MaxUint are read from their decimal text. -/
import Derived.Test.YtnkaimdcdedekaaDoorPFnNumbersx1
import Derived.Test.YtnkaimdcdedekaaDoorKit
namespace Go.Proofs.YtnkaimdcdedekaaDoor.Pure
open Go.RowKit Go.Proofs.YtnkaimdcdedekaaDoor.PFnNumbers Go.Proofs.YtnkaimdcdedekaaDoorW.PrintWords Go.Proofs.YtnkaimdcdedekaaDoorW.PrintLast Go.Proofs.YtnkaimdcdedekaaDoorW.PrintMore Go.Proofs.YtnkaimdcdedekaaDoor.Kit
set_option linter.unusedVariables false
set_option linter.unusedSimpArgs false

/-- A string of these bytes. -/
def mkB (l : List UInt8) : ByteArray := ⟨l.toArray⟩
theorem mkB_append (a b : List UInt8) : mkB a ++ mkB b = mkB (a ++ b) := by
  apply ByteArray.ext
  rw [ByteArray.data_append]
  simp [mkB]
theorem mkB_size (l : List UInt8) : (mkB l).size = l.length := by simp [mkB, ByteArray.size]
theorem mkB_nums (l : List Int) : strOfNums l = mkB (l.map fun n => UInt8.ofNat n.toNat) := by simp [mkB, strOfNums]
theorem mkB_list (l : List UInt8) : (mkB l).toList = l := by rw [ByteArray.toList_eq]; simp [mkB]
theorem impl_fmt (n : Int) (h0 : -9223372036854775808 ≤ n) (h1 : n ≤ 9223372036854775807) : impl_FormatInt.f n = some (mkB (Go.Lib.itoa n)) := by
  unfold impl_FormatInt.f strconv_Itoa.f
  rw [if_pos ⟨h0, h1⟩]; rfl
theorem dec_len (m : Nat) : ∀ u : Nat, u < 10 ^ (m + 1) → (Go.Lib.decDigits u).length ≤ m + 1 := by
  induction m with
  | zero => intro u hu; rw [Go.Lib.decDigits_one (by omega)]; simp
  | succ m ih =>
    intro u hu
    by_cases c : u < 10
    · rw [Go.Lib.decDigits_one c]; simp
    · have := ih (u / 10) (by rw [Nat.pow_succ] at hu; omega)
      rw [Go.Lib.decDigits, dif_neg c, List.length_append]
      simp; omega
theorem dig_val (d : Nat) (h : d < 10) : (UInt8.ofNat (48 + d)).toNat = 48 + d := by
  rw [UInt8.toNat_ofNat']; omega
theorem dec_mem (u : Nat) : ∀ c ∈ Go.Lib.decDigits u, 48 ≤ c.toNat ∧ c.toNat ≤ 57 := by
  induction u using Nat.strongRecOn with
  | _ u ih =>
    intro c hc
    by_cases h : u < 10
    · rw [Go.Lib.decDigits_one h, List.mem_singleton] at hc
      subst hc
      have := dig_val u h
      omega
    · rw [Go.Lib.decDigits, dif_neg h] at hc
      rcases List.mem_append.1 hc with hc | hc
      · exact ih (u / 10) (by omega) c hc
      · rw [List.mem_singleton] at hc
        subst hc
        have := dig_val (u % 10) (by omega)
        omega
theorem dec_ne (u : Nat) : Go.Lib.decDigits u ≠ [] := by
  by_cases h : u < 10
  · rw [Go.Lib.decDigits_one h]; simp
  · rw [Go.Lib.decDigits, dif_neg h]; simp
/-- The number that digits spell. -/
def spV : List UInt8 → Nat → Option Nat
  | [], a => some a
  | c :: l, a => if 48 ≤ c.toNat ∧ c.toNat ≤ 57 then spV l (10 * a + (c.toNat - 48)) else none
theorem spV_snoc (c : UInt8) (hc : 48 ≤ c.toNat ∧ c.toNat ≤ 57) : ∀ (l : List UInt8) (a m : Nat), spV l a = some m → spV (l ++ [c]) a = some (10 * m + (c.toNat - 48))
  | [], a, m, h => by
    obtain rfl := Option.some.inj h
    rw [List.nil_append, spV, if_pos hc]; rfl
  | x :: l, a, m, h => by
    rw [spV] at h
    rw [List.cons_append, spV]
    split at h
    · rename_i hx; rw [if_pos hx]; exact spV_snoc c hc l _ m h
    · cases h
theorem spV_dec (u : Nat) : spV (Go.Lib.decDigits u) 0 = some u := by
  induction u using Nat.strongRecOn with
  | _ u ih =>
    by_cases h : u < 10
    · have := dig_val u h
      rw [Go.Lib.decDigits_one h, spV, if_pos (by omega), spV, this]; congr 1; omega
    · have := dig_val (u % 10) (by omega)
      rw [Go.Lib.decDigits, dif_neg h, spV_snoc _ (by omega) _ _ _ (ih (u / 10) (by omega)), this]; congr 1; omega
theorem dec_inj {u v : Nat} (h : Go.Lib.decDigits u = Go.Lib.decDigits v) : u = v := by
  have h1 := spV_dec u
  rw [h, spV_dec v] at h1
  exact (Option.some.inj h1).symm
theorem pu_snoc (c : UInt8) (hc : 48 ≤ c.toNat ∧ c.toNat ≤ 57) : ∀ (l : List UInt8) (a m : Nat), Go.Lib.parseUint10 a l = .ok m → m < 1000000000000 → Go.Lib.parseUint10 a (l ++ [c]) = .ok (m * 10 + (c.toNat - 48))
  | [], a, m, h, hm => by
    simp only [Go.Lib.parseUint10] at h
    injection h with h
    subst h
    simp only [List.nil_append, Go.Lib.parseUint10, if_pos hc]
    rw [if_neg (by omega), if_neg (by omega)]
  | x :: l, a, m, h, hm => by
    simp only [List.cons_append, Go.Lib.parseUint10] at h ⊢
    split at h
    · rename_i hx
      rw [if_pos hx]
      split at h
      · cases h
      · rename_i h2
        rw [if_neg h2]
        split at h
        · cases h
        · rename_i h3
          rw [if_neg h3]
          exact pu_snoc c hc l _ m h hm
    · cases h
theorem pu_dec (u : Nat) (hu : u < 1000000000000) : Go.Lib.parseUint10 0 (Go.Lib.decDigits u) = .ok u := by
  induction u using Nat.strongRecOn with
  | _ u ih =>
    by_cases h : u < 10
    · have := dig_val u h
      rw [Go.Lib.decDigits_one h, Go.Lib.parseUint10, if_pos (by omega), if_neg (by omega), if_neg (by omega), Go.Lib.parseUint10, this]; congr 1; omega
    · have := dig_val (u % 10) (by omega)
      rw [Go.Lib.decDigits, dif_neg h, pu_snoc _ (by omega) _ _ _ (ih (u / 10) (by omega) (by omega)) (by omega), this]; congr 1; omega
theorem atoi_dec (u : Nat) (hu : u < 1000000000000) : Go.Lib.atoiAll (Go.Lib.decDigits u) = .ok (u : Int) := by
  have h1 := pu_dec u hu
  have h2 := dec_mem u
  have h3 := dec_ne u
  generalize Go.Lib.decDigits u = l at h1 h2 h3
  cases l with
  | nil => exact absurd rfl h3
  | cons c r =>
    have hc := h2 c (by simp)
    unfold Go.Lib.atoiAll
    simp only [show ¬ c.toNat = 43 by omega, show ¬ c.toNat = 45 by omega, or_self, if_false]
    unfold Go.Lib.parseMag
    rw [if_neg (by simp), h1]
    simp only [not_false_eq_true, true_and, false_and, if_false]
    rw [if_neg (by omega)]
theorem itoa_pos (n : Nat) : Go.Lib.itoa (n : Int) = Go.Lib.decDigits n := by unfold Go.Lib.itoa; rw [if_neg (by omega), Int.toNat_natCast]
theorem mkB_data (l : List UInt8) : (mkB l).data.toList = l := by simp [mkB]
theorem impl_pu (n : Nat) (h : n ≤ 1000000000) : impl_ParseUint.f (mkB (Go.Lib.decDigits n)) = some ((n : Int), true) := by
  have hl := dec_len 9 n (by omega)
  unfold impl_ParseUint.f impl_signed.f
  rw [if_pos (by rw [mkB_size]; omega), mkB_data, atoi_dec n (by omega)]
  simp only []
  rw [if_neg (by omega), if_neg (by omega), impl_fmt _ (by omega) (by omega), itoa_pos]
  simp only [Option.bind_some, if_true]
theorem impl_pu_not (s : ByteArray) (hs : s.size ≤ 140737488351232) (h : ∀ n : Nat, n ≤ 1000000000 → s ≠ mkB (Go.Lib.decDigits n)) : impl_ParseUint.f s = some (0, false) := by
  unfold impl_ParseUint.f impl_signed.f
  rw [if_pos hs]
  cases hA : Go.Lib.atoiAll s.data.toList with
  | «syntax» => rfl
  | range => rfl
  | ok v =>
    simp only []
    by_cases c1 : v < 0
    · rw [if_pos c1]; rfl
    · by_cases c2 : v > 1000000000
      · rw [if_neg c1, if_pos c2]; rfl
      · obtain ⟨n, rfl⟩ := Int.eq_ofNat_of_zero_le (show 0 ≤ v by omega)
        rw [if_neg c1, if_neg c2, impl_fmt _ (by omega) (by omega), itoa_pos, Option.bind_some, if_neg (fun e => h n (by omega) (toList_inj e).symm)]
        rfl
theorem byte_ok (b : List Int) (i h : Int) (hi : 0 ≤ i) (hb : b.length ≤ 140737488351232) :
    ∃ x i' h', spec_l01Byte.f b i h = some (x, i', h') ∧ 0 ≤ x ∧ x ≤ 255 ∧ 0 ≤ i' := by
  unfold spec_l01Byte.f
  by_cases h1 : i < (b.length : Int)
  · rw [if_pos h1, if_pos hi]
    refine ⟨_, _, _, rfl, (mask255 _).1, (mask255 _).2, ?_⟩
    rw [w64 (by omega) (by omega)]; omega
  · rw [if_neg h1]
    exact ⟨_, _, _, rfl, (mask255 _).1, (mask255 _).2, hi⟩
theorem below_ok (b : List Int) (i h n : Int) (hi : 0 ≤ i) (hb : b.length ≤ 140737488351232) :
    ∃ x i' h', spec_l01Below.f b i h n = some (x, i', h') ∧ (n ≤ 0 → x = 0) ∧ (0 < n → 0 ≤ x ∧ x < n) ∧ 0 ≤ i' := by
  unfold spec_l01Below.f
  by_cases h0 : n ≤ 0
  · rw [if_pos h0]
    exact ⟨_, _, _, rfl, fun _ => rfl, fun hn => by omega, hi⟩
  · rw [if_neg h0]
    by_cases h1 : n ≤ 256
    · rw [if_pos h1]
      obtain ⟨x, i', h', e, hx0, hx1, hi'⟩ := byte_ok b i h hi hb
      rw [e, Option.bind_some]
      simp only [if_neg (show ¬ n = 0 by omega)]
      have hm := Int.tmod_eq_emod_of_nonneg (b := n) hx0
      have := Int.emod_nonneg x (show n ≠ 0 by omega)
      have := Int.emod_lt_of_pos x (show 0 < n by omega)
      exact ⟨_, _, _, rfl, fun hn => by omega, fun _ => by rw [hm]; omega, hi'⟩
    · rw [if_neg h1]
      obtain ⟨x, i1, g1, e1, hx0, hx1, hi1⟩ := byte_ok b i h hi hb
      obtain ⟨y, i2, g2, e2, hy0, hy1, hi2⟩ := byte_ok b i1 g1 hi1 hb
      obtain ⟨z, i3, g3, e3, hz0, hz1, hi3⟩ := byte_ok b i2 g2 hi2 hb
      obtain ⟨v, i4, g4, e4, hv0, hv1, hi4⟩ := byte_ok b i3 g3 hi3 hb
      simp only [e1, e2, e3, e4, Option.bind_some, if_neg (show ¬ n = 0 by omega)]
      have w1 : wrap64 (x * 16777216) = x * 16777216 := w64 (by omega) (by omega)
      have w2 : wrap64 (y * 65536) = y * 65536 := w64 (by omega) (by omega)
      have w3 : wrap64 (z * 256) = z * 256 := w64 (by omega) (by omega)
      have w4 : wrap64 (x * 16777216 + y * 65536) = x * 16777216 + y * 65536 := w64 (by omega) (by omega)
      have w5 : wrap64 (x * 16777216 + y * 65536 + z * 256) = x * 16777216 + y * 65536 + z * 256 := w64 (by omega) (by omega)
      have w6 : wrap64 (x * 16777216 + y * 65536 + z * 256 + v) = x * 16777216 + y * 65536 + z * 256 + v := w64 (by omega) (by omega)
      rw [w1, w2, w3, w4, w5, w6]
      have hm := Int.tmod_eq_emod_of_nonneg (a := x * 16777216 + y * 65536 + z * 256 + v) (b := n) (by omega)
      have := Int.emod_nonneg (x * 16777216 + y * 65536 + z * 256 + v) (show n ≠ 0 by omega)
      have := Int.emod_lt_of_pos (x * 16777216 + y * 65536 + z * 256 + v) (show 0 < n by omega)
      exact ⟨_, _, _, rfl, fun hn => by omega, fun _ => by rw [hm]; omega, hi4⟩
theorem new_loop (b : List Int) (hb : b.length ≤ 140737488351232) (d : Nat) : ∀ (i : Nat) (h : Int), i + d = b.length → ∃ h', Ev (fun k => spec_l01New.l0 k b h i) (b, 0, h') := by
  induction d with
  | zero =>
    intro i h hi
    exact ⟨h, Ev.step (f := fun _ => some (b, 0, h)) (fun k => by rw [spec_l01New.l0, if_neg (by omega)]) (Ev.now _)⟩
  | succ d ih =>
    intro i h hi
    by_cases h4 : (i : Int) < 4000
    · obtain ⟨h', hev⟩ := ih (i + 1) (Go.bits .and .i64 (wrap64 ((wrap64 ((wrap64 (h * 131)) + (wrap64 (rd b i)))) + 7)) 1073741823) (by omega)
      refine ⟨h', Ev.step (fun k => ?_) hev⟩
      have e : wrap64 ((i : Int) + 1) = ((i + 1 : Nat) : Int) := w64 (by omega) (by omega)
      rw [spec_l01New.l0, if_pos (by omega), if_pos h4, if_pos (by omega), e]
    · exact ⟨h, Ev.step (f := fun _ => some (b, 0, h)) (fun k => by rw [spec_l01New.l0, if_pos (by omega), if_neg h4]) (Ev.now _)⟩
theorem new_ok (b : List Int) (hb : b.length ≤ 140737488351232) : ∃ h', Ev (fun k => spec_l01New.f k b) (b, 0, h') := by
  unfold spec_l01New.f
  exact new_loop b hb b.length 0 _ (by omega)
theorem once_ok (b : List Int) (i h n : Int) (hi : 0 ≤ i) (hb : b.length ≤ 140737488351232) :
    ∃ (x : Bool) (i' h' : Int), spec_l01Once.f b i h n = some (x, i', h') ∧ 0 ≤ i' := by
  unfold spec_l01Once.f
  obtain ⟨x, i1, h1, e1, _, _, hi1⟩ := below_ok b i h n hi hb
  rw [e1, Option.bind_some]
  exact ⟨_, _, _, rfl, hi1⟩
theorem pickInt_ok (b : List Int) (i h : Int) (l : List Int) (hl : 0 < l.length) (hi : 0 ≤ i) (hb : b.length ≤ 140737488351232) :
    ∃ x i' h', spec_l01PickInt.f b i h l = some (x, i', h') ∧ x ∈ l ∧ 0 ≤ i' := by
  unfold spec_l01PickInt.f
  obtain ⟨x, i1, h1, e1, _, hx, hi1⟩ := below_ok b i h l.length hi hb
  obtain ⟨h0, h2⟩ := hx (by omega)
  rw [e1, Option.bind_some]
  simp only [if_pos h0, if_pos h2]
  refine ⟨_, _, _, rfl, ?_, hi1⟩
  unfold rd
  rw [List.getD_eq_getElem?_getD, List.getElem?_eq_getElem (show x.toNat < l.length by omega)]
  exact List.getElem_mem _
theorem number_ok (b : List Int) (i h : Int) (hi : 0 ≤ i) (hb : b.length ≤ 140737488351232) :
    ∃ x i' h', spec_l01Number.f b i h = some (x, i', h') ∧ (-9223372036854775808 ≤ x ∧ x ≤ 9223372036854775807) ∧ 0 ≤ i' := by
  unfold spec_l01Number.f
  obtain ⟨x, i1, h1, e1, _, hx, hi1⟩ := below_ok b i h 4 hi hb
  rw [e1, Option.bind_some]
  by_cases c0 : x = 0
  · simp only [if_pos c0]
    obtain ⟨y, i2, h2, e2, hy, hi2⟩ := pickInt_ok b i1 h1 ([(-1), 0, 127, 128, 16383, 16384, 1000000000, 1000000001, 9223372036854775807, (-9223372036854775808)] : List Int) (by decide) hi1 hb
    rw [e2, Option.bind_some]
    refine ⟨_, _, _, rfl, ?_, hi2⟩
    simp only [List.mem_cons, List.not_mem_nil, or_false] at hy
    omega
  · simp only [if_neg c0]
    by_cases c1 : x = 1
    · simp only [if_pos c1]
      obtain ⟨y, i2, h2, e2, _, hy, hi2⟩ := below_ok b i1 h1 1000000000 hi1 hb
      rw [e2, Option.bind_some]
      have := hy (by omega)
      exact ⟨_, _, _, rfl, by simp only; omega, hi2⟩
    · simp only [if_neg c1]
      obtain ⟨y, i2, h2, e2, _, hy, hi2⟩ := below_ok b i1 h1 400 hi1 hb
      rw [e2, Option.bind_some]
      have := hy (by omega)
      exact ⟨_, _, _, rfl, by simp only; omega, hi2⟩
theorem draw_fmt_ok (b : List Int) (hb : b.length ≤ 140737488351232) : ∃ n, Ev (fun k => spec_DrawFormatInt.f k b) n ∧ -9223372036854775808 ≤ n ∧ n ≤ 9223372036854775807 := by
  unfold spec_DrawFormatInt.f
  obtain ⟨h', hn⟩ := new_ok b hb
  obtain ⟨q, i1, h1, e1, hi1⟩ := once_ok b 0 h' 3 (by omega) hb
  cases q with
  | true =>
    obtain ⟨x, i2, h2, e2, _, _, hi2⟩ := below_ok b i1 h1 1000000 hi1 hb
    obtain ⟨y, i3, h3, e3, _, _, hi3⟩ := below_ok b i2 h2 2000000 hi2 hb
    refine ⟨wrap64 (x * (wrap64 (y - 1000000))), ev_bind _ hn ?_, w64_lo _, by have := w64_hi (x * (wrap64 (y - 1000000))); omega⟩
    simp only [e1, e2, e3, Option.bind_some, if_true]
    exact Ev.now _
  | false =>
    obtain ⟨x, i2, h2, e2, hx, hi2⟩ := number_ok b i1 h1 hi1 hb
    refine ⟨x, ev_bind _ hn ?_, hx⟩
    simp only [e1, e2, Option.bind_some, if_neg (show ¬ (false = true) by decide)]
    exact Ev.now _
theorem itoa_len (n : Int) (h0 : -9223372036854775808 ≤ n) (h1 : n ≤ 9223372036854775807) : (Go.Lib.itoa n).length ≤ 30 := by
  unfold Go.Lib.itoa
  split
  · have := dec_len 19 n.natAbs (by omega); simp; omega
  · have := dec_len 19 n.toNat (by omega); omega
theorem itoa_ne (n : Int) : (mkB (Go.Lib.itoa n)).toList ≠ [] := by
  rw [mkB_list]
  unfold Go.Lib.itoa
  split
  · simp
  · exact dec_ne _
theorem FnNumbers : laws_FnNumbers.Pure := by
  intro b _ hb _
  refine Ev.rounds ?_
  unfold laws_FnNumbers.f laws_big.f
  simp only [Option.bind_some]
  by_cases h : (b.length : Int) > 1048576
  · have e : decide ((b.length : Int) > 1048576) = true := decide_eq_true h
    simp only [e, if_true]; exact Ev.now _
  · have e : decide ((b.length : Int) > 1048576) = false := decide_eq_false h
    simp only [e, if_neg (show ¬ (false = true) by decide)]
    obtain ⟨n, hd, h0, h1⟩ := draw_fmt_ok b (by omega)
    refine ev_bind _ hd ?_
    rw [impl_fmt n h0 h1]
    simp only [Option.bind_some, if_neg (itoa_ne n)]
    have hl := itoa_len n h0 h1
    by_cases c : n ≥ 0
    · obtain ⟨m, rfl⟩ := Int.eq_ofNat_of_zero_le c
      simp only [if_pos c]
      rw [itoa_pos] at hl ⊢
      by_cases c2 : (m : Int) ≤ 1000000000
      · rw [impl_pu m (by omega)]
        simp only [Option.bind_some, decide_eq_true c2, beq_self_eq_true, if_true, if_pos c2]
        exact Ev.now _
      · rw [impl_pu_not _ (by rw [mkB_size]; omega) (fun k hk e => by
          have e2 := congrArg (fun x : ByteArray => x.data.toList) e
          simp only [mkB_data] at e2
          have := dec_inj e2
          omega)]
        simp only [Option.bind_some, decide_eq_false c2, beq_self_eq_true, if_true, if_neg c2]
        exact Ev.now _
    · simp only [if_neg c]
      rw [impl_pu_not _ (by rw [mkB_size]; omega) (fun k hk e => by
          have e2 := congrArg (fun x : ByteArray => x.data.toList) e
          simp only [mkB_data] at e2
          rw [Go.Lib.itoa, if_pos (by omega)] at e2
          have := dec_mem k 45 (by rw [← e2]; simp)
          exact absurd this.1 (by decide))]
      simp only [Option.bind_some, beq_self_eq_true, if_true]
      exact Ev.now _

end Go.Proofs.YtnkaimdcdedekaaDoor.Pure
