/- For every slice of bytes the law FnClamped returns true (its printed function does): a clamped number is in the range, stays, and is the number itself where this is in the range. -/
import Derived.Test.YtkfolpcmehmmlaaPFnClampedx1
import Derived.Test.YtkfolpcmehmmlaaKit
namespace Go.Proofs.Ytkfolpcmehmmlaa.Pure
open Go.RowKit Go.Proofs.Ytkfolpcmehmmlaa.PFnClamped Go.Proofs.YtkfolpcmehmmlaaW.PrintWords Go.Proofs.YtkfolpcmehmmlaaW.PrintLast Go.Proofs.YtkfolpcmehmmlaaW.PrintMore Go.Proofs.Ytkfolpcmehmmlaa.Kit
set_option linter.unusedVariables false
set_option linter.unusedSimpArgs false

theorem byte_ok (b : List Int) (i h : Int) (hi : 0 ≤ i) (hb : b.length ≤ 140737488351232) :
    ∃ x i' h', spec_l01Byte.f b i h = some (x, i', h') ∧ 0 ≤ x ∧ x ≤ 255 ∧ 0 ≤ i' := by
  unfold spec_l01Byte.f
  by_cases h1 : i < (b.length : Int)
  · rw [if_pos h1, if_pos hi]
    refine ⟨_, _, _, rfl, (mask255 _).1, (mask255 _).2, ?_⟩
    rw [w64 (by omega) (by omega)]; omega
  · rw [if_neg h1]
    exact ⟨_, _, _, rfl, (mask255 _).1, (mask255 _).2, hi⟩
theorem below_ok (b : List Int) (i h n : Int) (hi : 0 ≤ i) (hb : b.length ≤ 140737488351232) :
    ∃ x i' h', spec_l01Below.f b i h n = some (x, i', h') ∧ (n ≤ 0 → x = 0) ∧ (0 < n → 0 ≤ x ∧ x < n) ∧ 0 ≤ i' := by
  unfold spec_l01Below.f
  by_cases h0 : n ≤ 0
  · rw [if_pos h0]
    exact ⟨_, _, _, rfl, fun _ => rfl, fun hn => by omega, hi⟩
  · rw [if_neg h0]
    by_cases h1 : n ≤ 256
    · rw [if_pos h1]
      obtain ⟨x, i', h', e, hx0, hx1, hi'⟩ := byte_ok b i h hi hb
      rw [e, Option.bind_some]
      simp only [if_neg (show ¬ n = 0 by omega)]
      have hm := Int.tmod_eq_emod_of_nonneg (b := n) hx0
      have := Int.emod_nonneg x (show n ≠ 0 by omega)
      have := Int.emod_lt_of_pos x (show 0 < n by omega)
      exact ⟨_, _, _, rfl, fun hn => by omega, fun _ => by rw [hm]; omega, hi'⟩
    · rw [if_neg h1]
      obtain ⟨x, i1, g1, e1, hx0, hx1, hi1⟩ := byte_ok b i h hi hb
      obtain ⟨y, i2, g2, e2, hy0, hy1, hi2⟩ := byte_ok b i1 g1 hi1 hb
      obtain ⟨z, i3, g3, e3, hz0, hz1, hi3⟩ := byte_ok b i2 g2 hi2 hb
      obtain ⟨v, i4, g4, e4, hv0, hv1, hi4⟩ := byte_ok b i3 g3 hi3 hb
      simp only [e1, e2, e3, e4, Option.bind_some, if_neg (show ¬ n = 0 by omega)]
      have w1 : wrap64 (x * 16777216) = x * 16777216 := w64 (by omega) (by omega)
      have w2 : wrap64 (y * 65536) = y * 65536 := w64 (by omega) (by omega)
      have w3 : wrap64 (z * 256) = z * 256 := w64 (by omega) (by omega)
      have w4 : wrap64 (x * 16777216 + y * 65536) = x * 16777216 + y * 65536 := w64 (by omega) (by omega)
      have w5 : wrap64 (x * 16777216 + y * 65536 + z * 256) = x * 16777216 + y * 65536 + z * 256 := w64 (by omega) (by omega)
      have w6 : wrap64 (x * 16777216 + y * 65536 + z * 256 + v) = x * 16777216 + y * 65536 + z * 256 + v := w64 (by omega) (by omega)
      rw [w1, w2, w3, w4, w5, w6]
      have hm := Int.tmod_eq_emod_of_nonneg (a := x * 16777216 + y * 65536 + z * 256 + v) (b := n) (by omega)
      have := Int.emod_nonneg (x * 16777216 + y * 65536 + z * 256 + v) (show n ≠ 0 by omega)
      have := Int.emod_lt_of_pos (x * 16777216 + y * 65536 + z * 256 + v) (show 0 < n by omega)
      exact ⟨_, _, _, rfl, fun hn => by omega, fun _ => by rw [hm]; omega, hi4⟩
theorem new_loop (b : List Int) (hb : b.length ≤ 140737488351232) (d : Nat) : ∀ (i : Nat) (h : Int), i + d = b.length → ∃ h', Ev (fun k => spec_l01New.l0 k b h i) (b, 0, h') := by
  induction d with
  | zero =>
    intro i h hi
    exact ⟨h, Ev.step (f := fun _ => some (b, 0, h)) (fun k => by rw [spec_l01New.l0, if_neg (by omega)]) (Ev.now _)⟩
  | succ d ih =>
    intro i h hi
    by_cases h4 : (i : Int) < 4000
    · obtain ⟨h', hev⟩ := ih (i + 1) (Go.bits .and .i64 (wrap64 ((wrap64 ((wrap64 (h * 131)) + (wrap64 (rd b i)))) + 7)) 1073741823) (by omega)
      refine ⟨h', Ev.step (fun k => ?_) hev⟩
      have e : wrap64 ((i : Int) + 1) = ((i + 1 : Nat) : Int) := w64 (by omega) (by omega)
      rw [spec_l01New.l0, if_pos (by omega), if_pos h4, if_pos (by omega), e]
    · exact ⟨h, Ev.step (f := fun _ => some (b, 0, h)) (fun k => by rw [spec_l01New.l0, if_pos (by omega), if_neg h4]) (Ev.now _)⟩
theorem new_ok (b : List Int) (hb : b.length ≤ 140737488351232) : ∃ h', Ev (fun k => spec_l01New.f k b) (b, 0, h') := by
  unfold spec_l01New.f
  exact new_loop b hb b.length 0 _ (by omega)
theorem once_ok (b : List Int) (i h n : Int) (hi : 0 ≤ i) (hb : b.length ≤ 140737488351232) :
    ∃ (x : Bool) (i' h' : Int), spec_l01Once.f b i h n = some (x, i', h') ∧ 0 ≤ i' := by
  unfold spec_l01Once.f
  obtain ⟨x, i1, h1, e1, _, _, hi1⟩ := below_ok b i h n hi hb
  rw [e1, Option.bind_some]
  exact ⟨_, _, _, rfl, hi1⟩
theorem pickInt_ok (b : List Int) (i h : Int) (l : List Int) (hl : 0 < l.length) (hi : 0 ≤ i) (hb : b.length ≤ 140737488351232) :
    ∃ x i' h', spec_l01PickInt.f b i h l = some (x, i', h') ∧ x ∈ l ∧ 0 ≤ i' := by
  unfold spec_l01PickInt.f
  obtain ⟨x, i1, h1, e1, _, hx, hi1⟩ := below_ok b i h l.length hi hb
  obtain ⟨h0, h2⟩ := hx (by omega)
  rw [e1, Option.bind_some]
  simp only [if_pos h0, if_pos h2]
  refine ⟨_, _, _, rfl, ?_, hi1⟩
  unfold rd
  rw [List.getD_eq_getElem?_getD, List.getElem?_eq_getElem (show x.toNat < l.length by omega)]
  exact List.getElem_mem _
theorem number_ok (b : List Int) (i h : Int) (hi : 0 ≤ i) (hb : b.length ≤ 140737488351232) :
    ∃ x i' h', spec_l01Number.f b i h = some (x, i', h') ∧ (-9223372036854775808 ≤ x ∧ x ≤ 9223372036854775807) ∧ 0 ≤ i' := by
  unfold spec_l01Number.f
  obtain ⟨x, i1, h1, e1, _, hx, hi1⟩ := below_ok b i h 4 hi hb
  rw [e1, Option.bind_some]
  by_cases c0 : x = 0
  · simp only [if_pos c0]
    obtain ⟨y, i2, h2, e2, hy, hi2⟩ := pickInt_ok b i1 h1 ([(-1), 0, 127, 128, 16383, 16384, 1000000000, 1000000001, 9223372036854775807, (-9223372036854775808)] : List Int) (by decide) hi1 hb
    rw [e2, Option.bind_some]
    refine ⟨_, _, _, rfl, ?_, hi2⟩
    simp only [List.mem_cons, List.not_mem_nil, or_false] at hy
    omega
  · simp only [if_neg c0]
    by_cases c1 : x = 1
    · simp only [if_pos c1]
      obtain ⟨y, i2, h2, e2, _, hy, hi2⟩ := below_ok b i1 h1 1000000000 hi1 hb
      rw [e2, Option.bind_some]
      have := hy (by omega)
      exact ⟨_, _, _, rfl, by simp only; omega, hi2⟩
    · simp only [if_neg c1]
      obtain ⟨y, i2, h2, e2, _, hy, hi2⟩ := below_ok b i1 h1 400 hi1 hb
      rw [e2, Option.bind_some]
      have := hy (by omega)
      exact ⟨_, _, _, rfl, by simp only; omega, hi2⟩
theorem drawClamp_ok (b : List Int) (hb : b.length ≤ 140737488351232) : ∃ r, Ev (fun k => spec_DrawClamp.f k b) r := by
  obtain ⟨h', hn⟩ := new_ok b hb
  unfold spec_DrawClamp.f
  obtain ⟨q, i1, h1, e1, hi1⟩ := once_ok b 0 h' 4 (by omega) hb
  cases q with
  | true =>
    obtain ⟨x, i2, h2, e2, _, hi2⟩ := number_ok b i1 h1 hi1 hb
    obtain ⟨y, i3, h3, e3, _, hi3⟩ := number_ok b i2 h2 hi2 hb
    obtain ⟨z, i4, h4, e4, _, hi4⟩ := number_ok b i3 h3 hi3 hb
    refine ⟨(x, y, z), ev_bind _ hn ?_⟩
    simp only [e1, e2, e3, e4, Option.bind_some, if_true]
    exact Ev.now _
  | false =>
    obtain ⟨x, i2, h2, e2, _, _, hi2⟩ := below_ok b i1 h1 40 hi1 hb
    obtain ⟨y, i3, h3, e3, _, _, hi3⟩ := below_ok b i2 h2 80 hi2 hb
    obtain ⟨z, i4, h4, e4, _, _, hi4⟩ := below_ok b i3 h3 30 hi3 hb
    refine ⟨(wrap64 (y - 40), wrap64 (x - 20), wrap64 ((wrap64 ((wrap64 (x - 20)) + z)) - 3)), ev_bind _ hn ?_⟩
    simp only [e1, e2, e3, e4, Option.bind_some, if_neg (show ¬ (false = true) by decide)]
    exact Ev.now _
theorem FnClamped : laws_FnClamped.Pure := by
  intro b _ hb _
  refine Ev.rounds ?_
  unfold laws_FnClamped.f laws_big.f
  simp only [Option.bind_some]
  by_cases h : (b.length : Int) > 1048576
  · have e : decide ((b.length : Int) > 1048576) = true := decide_eq_true h
    simp only [e, if_true]; exact Ev.now _
  · have e : decide ((b.length : Int) > 1048576) = false := decide_eq_false h
    simp only [e, if_neg (show ¬ (false = true) by decide)]
    obtain ⟨⟨n, a, c⟩, hr⟩ := drawClamp_ok b (by omega)
    refine ev_bind _ hr ?_
    refine ev_const ?_
    unfold impl_Clamp.f
    simp only [Option.bind_some]
    have h5 : mx 3 (mn 7 5) = 5 := by decide
    rw [h5]
    by_cases c1 : c < a
    · rw [if_pos c1, if_pos (by unfold mx mn; (repeat' split) <;> omega)]; rfl
    · rw [if_neg c1, if_pos (by unfold mx mn; (repeat' split) <;> omega), if_pos (by unfold mx mn; (repeat' split) <;> omega), if_pos (by unfold mx mn; (repeat' split) <;> omega)]
      by_cases c2 : n < a
      · rw [if_pos c2]; rfl
      · rw [if_neg c2]
        by_cases c3 : n > c
        · rw [if_pos c3]; rfl
        · rw [if_neg c3, if_pos (by unfold mx mn; (repeat' split) <;> omega)]; rfl

end Go.Proofs.Ytkfolpcmehmmlaa.Pure
