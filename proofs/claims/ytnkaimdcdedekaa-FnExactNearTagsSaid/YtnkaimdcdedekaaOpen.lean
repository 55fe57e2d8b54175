/- What a law's argument reads as, for slices of structs of two or three whole numbers: the list of its elements. The condition: the value is read by the row's own reading. -/
import Derived.Test.YtnkaimdcdedekaaWWords
import Derived.Test.YtnkaimdcdedekaaWMore
import Derived.Lib.SmallJoins
import Derived.Deep.Slices
import Derived.Deep.Fields
import Derived.ChangeSame
import Derived.ChangeArms
namespace Go.Proofs.Ytnkaimdcdedekaa.Open
open Go.RowKit Go.Proofs.YtnkaimdcdedekaaW.PrintWords Go.ChangeShapes Go.WideShapes Go.Deep Go.Joins
set_option linter.unusedVariables false
set_option linter.unusedSimpArgs false

theorem list_of {α : Type} (p : Nat → α → Prop) : ∀ n, (∀ i, i < n → ∃ x, p i x) → ∃ l : List α, l.length = n ∧ ∀ i x, l[i]? = some x → p i x
  | 0, _ => ⟨[], rfl, fun i x h => by simp at h⟩
  | n + 1, h => by
    obtain ⟨l, hl, hp⟩ := list_of p n (fun i hi => h i (by omega))
    obtain ⟨x, hx⟩ := h n (by omega)
    refine ⟨l ++ [x], by simp [hl], fun i y hy => ?_⟩
    rcases Nat.lt_or_ge i l.length with hi | hi
    · rw [List.getElem?_append_left hi] at hy
      exact hp i y hy
    · rw [List.getElem?_append_right hi] at hy
      have : i = n := by
        rcases Nat.lt_or_ge (i - l.length) 1 with h1 | h1
        · omega
        · rw [List.getElem?_eq_none (by simpa using h1)] at hy
          cases hy
      subst this
      rw [hl, Nat.sub_self] at hy
      simp at hy
      subst hy
      exact hx

section
variable {H : Type} {enc : TypeId × Value → H} {P : Program} {w : World} {base : Nat} {spare : Nat → Bool} {held : Bool}
theorem open_fields {t e : TypeId} {fs : Array Field} {fuel : Nat} {cs : List Value} {x : DataW H × List MemPlace} (ht : P.underlying t = some (.slice e)) (he : P.underlying e = some (.struct fs))
    (hone : oneCellFields P fs = true) (hC : P.cellsOf e = fs.size) (h : DataW.trod enc P w base spare held fuel t cs = some x) :
    cs = [.slice none 0 0] ∨
    ∃ (a : Addr) (len cap : Nat), cs = [.slice (some a) len cap] ∧ len ≤ cap ∧ cap ≤ maxLen ∧
      ∀ i, i < len → ∃ n : Nat, ∀ (j : Nat) (f : Field), fs[j]? = some f → ∃ (v : Value) (y : DataW H × List MemPlace), w.cell? (a.add (i * fs.size + j)) = some v ∧ DataW.trod enc P w base spare held n f.type [v] = some y := by
  rcases open_slice ht h with h0 | ⟨a, len, cap, m, n, D, Pl, hcs, hb, hl, hm, hmm, hx, hi⟩
  · exact .inl h0.1
  · refine .inr ⟨a, len, cap, hcs, hl, hm, fun i him => ?_⟩
    obtain ⟨cs', hc, ht'⟩ := hi i (by split at hmm <;> omega)
    rw [hC] at hc
    obtain ⟨ys, n', hn', hy, hlen, hyl, hf⟩ := DataW.trod_struct he ht'
    obtain ⟨_, hcl, hat⟩ := World.cells?_some hc
    refine ⟨n', fun j f hj => ?_⟩
    obtain ⟨ho, hk⟩ := hone_of hone j f hj
    have hjl : j < fs.size := (Array.getElem?_eq_some_iff.1 hj).1
    have hcell := hat j hjl
    have hv : cs'[j]? = some (cs'[j]'(by omega)) := List.getElem?_eq_getElem (by omega)
    have h1 := hf j f hj
    rw [ho, hk] at h1
    have hone' : (cs'.drop j).take 1 = [cs'[j]'(by omega)] := by
      rw [List.drop_eq_getElem_cons (by omega)]
      rfl
    rw [hone'] at h1
    have hys : ys[j]? = some (ys[j]'(by omega)) := List.getElem?_eq_getElem (by omega)
    refine ⟨_, _, ?_, h1.trans hys⟩
    rw [← Go.Deep.add_add, hcell, hv]

theorem rows3 {α : Type} (d : Kd α) (mk : Int → Int → Int → α) (hs : d.sz = 3) (hK : ∀ w a b c, d.K w (mk a b c) [.int .i64 a, .int .i64 b, .int .i64 c])
    {t e : TypeId} {f0 f1 f2 : Field} {fuel : Nat} {v : Value} {x : DataW H × List MemPlace} (ht : P.underlying t = some (.slice e)) (he : P.underlying e = some (.struct #[f0, f1, f2]))
    (hone : oneCellFields P #[f0, f1, f2] = true) (hC : P.cellsOf e = 3) (u0 : P.underlying f0.type = some (.int .i64)) (u1 : P.underlying f1.type = some (.int .i64)) (u2 : P.underlying f2.type = some (.int .i64))
    (h : DataW.trod enc P w base spare held fuel t [v] = some x) :
    ∃ (A : Option Addr) (c : Nat) (l : List α), v = .slice A l.length c ∧ l.length ≤ c ∧ d.C w A l.length l ∧ ∀ y ∈ l, ∃ a b c', y = mk a b c' ∧ (Lit.int .i64 a).wf = true ∧ (Lit.int .i64 b).wf = true ∧ (Lit.int .i64 c').wf = true := by
  rcases open_fields ht he hone (by rw [hC]; rfl) h with h0 | ⟨a, len, cap, hcs, hl, hm, hi⟩
  · refine ⟨none, 0, [], ?_, by simp, Kd.C_nil d w, fun y hy => by simp at hy⟩
    simpa using h0
  · obtain ⟨l, hll, hp⟩ := list_of (fun i (y : α) => ∃ p q r, y = mk p q r ∧ ((Lit.int .i64 p).wf = true ∧ (Lit.int .i64 q).wf = true ∧ (Lit.int .i64 r).wf = true) ∧ w.cell? (a.add (i * 3)) = some (.int .i64 p) ∧ w.cell? (a.add (i * 3 + 1)) = some (.int .i64 q) ∧ w.cell? (a.add (i * 3 + 2)) = some (.int .i64 r)) len (fun i hlt => by
      obtain ⟨n, hf⟩ := hi i hlt
      obtain ⟨v0, y0, c0, t0⟩ := hf 0 f0 rfl
      obtain ⟨v1, y1, c1, t1⟩ := hf 1 f1 rfl
      obtain ⟨v2, y2, c2, t2⟩ := hf 2 f2 rfl
      obtain ⟨p, hp, _, wp⟩ := DataW.trod_int u0 t0
      obtain ⟨q, hq, _, wq⟩ := DataW.trod_int u1 t1
      obtain ⟨r, hr, _, wr⟩ := DataW.trod_int u2 t2
      simp only [List.cons.injEq, and_true] at hp hq hr
      subst hp hq hr
      exact ⟨_, p, q, r, rfl, ⟨wp, wq, wr⟩, c0, c1, c2⟩)
    have hv : v = .slice (some a) len cap := by simpa using hcs
    refine ⟨some a, cap, l, by rw [hll]; exact hv, by omega, ⟨rfl, by simp only [maxLen] at hm; omega, fun _ => ⟨a, rfl, fun j y hy => ?_⟩⟩, fun y hy => ?_⟩
    · obtain ⟨p, q, r, rfl, _, c0, c1, c2⟩ := hp j y hy
      refine ⟨_, by rw [hs]; rfl, hK w p q r, fun i u hu => ?_⟩
      rw [hs]
      match i, hu with
      | 0, hu => simp at hu; subst hu; exact c0
      | 1, hu => simp at hu; subst hu; exact c1
      | 2, hu => simp at hu; subst hu; exact c2
      | i + 3, hu => simp at hu
    · obtain ⟨i, hi', rfl⟩ := List.mem_iff_getElem.1 hy
      obtain ⟨p, q, r, he', hw, _⟩ := hp i _ (List.getElem?_eq_getElem hi')
      exact ⟨p, q, r, he', hw.1, hw.2.1, hw.2.2⟩
theorem rows2 {α : Type} (d : Kd α) (mk : Int → Int → α) (hs : d.sz = 2) (hK : ∀ w a b, d.K w (mk a b) [.int .i64 a, .int .i64 b])
    {t e : TypeId} {f0 f1 : Field} {fuel : Nat} {v : Value} {x : DataW H × List MemPlace} (ht : P.underlying t = some (.slice e)) (he : P.underlying e = some (.struct #[f0, f1]))
    (hone : oneCellFields P #[f0, f1] = true) (hC : P.cellsOf e = 2) (u0 : P.underlying f0.type = some (.int .i64)) (u1 : P.underlying f1.type = some (.int .i64))
    (h : DataW.trod enc P w base spare held fuel t [v] = some x) :
    ∃ (A : Option Addr) (c : Nat) (l : List α), v = .slice A l.length c ∧ l.length ≤ c ∧ d.C w A l.length l ∧ ∀ y ∈ l, ∃ a b, y = mk a b ∧ (Lit.int .i64 a).wf = true ∧ (Lit.int .i64 b).wf = true := by
  rcases open_fields ht he hone (by rw [hC]; rfl) h with h0 | ⟨a, len, cap, hcs, hl, hm, hi⟩
  · refine ⟨none, 0, [], ?_, by simp, Kd.C_nil d w, fun y hy => by simp at hy⟩
    simpa using h0
  · obtain ⟨l, hll, hp⟩ := list_of (fun i (y : α) => ∃ p q, y = mk p q ∧ ((Lit.int .i64 p).wf = true ∧ (Lit.int .i64 q).wf = true) ∧ w.cell? (a.add (i * 2)) = some (.int .i64 p) ∧ w.cell? (a.add (i * 2 + 1)) = some (.int .i64 q)) len (fun i hlt => by
      obtain ⟨n, hf⟩ := hi i hlt
      obtain ⟨v0, y0, c0, t0⟩ := hf 0 f0 rfl
      obtain ⟨v1, y1, c1, t1⟩ := hf 1 f1 rfl
      obtain ⟨p, hp, _, wp⟩ := DataW.trod_int u0 t0
      obtain ⟨q, hq, _, wq⟩ := DataW.trod_int u1 t1
      simp only [List.cons.injEq, and_true] at hp hq
      subst hp hq
      exact ⟨_, p, q, rfl, ⟨wp, wq⟩, c0, c1⟩)
    have hv : v = .slice (some a) len cap := by simpa using hcs
    refine ⟨some a, cap, l, by rw [hll]; exact hv, by omega, ⟨rfl, by simp only [maxLen] at hm; omega, fun _ => ⟨a, rfl, fun j y hy => ?_⟩⟩, fun y hy => ?_⟩
    · obtain ⟨p, q, rfl, _, c0, c1⟩ := hp j y hy
      refine ⟨_, by rw [hs]; rfl, hK w p q, fun i u hu => ?_⟩
      rw [hs]
      match i, hu with
      | 0, hu => simp at hu; subst hu; exact c0
      | 1, hu => simp at hu; subst hu; exact c1
      | i + 2, hu => simp at hu
    · obtain ⟨i, hi', rfl⟩ := List.mem_iff_getElem.1 hy
      obtain ⟨p, q, he', hw, _⟩ := hp i _ (List.getElem?_eq_getElem hi')
      exact ⟨p, q, he', hw.1, hw.2⟩
/-- A slice of whole numbers, as the print's contracts have it. -/
theorem rows1 {t e : TypeId} {fuel : Nat} {v : Value} {x : DataW H × List MemPlace} (ht : P.underlying t = some (.slice e)) (he : P.underlying e = some (.int .i64)) (hc : P.cellsOf e = 1)
    (h : DataW.trod enc P w base spare held fuel t [v] = some x) :
    ∃ (A : Option Addr) (c : Nat) (l : List Int), v = .slice A l.length c ∧ l.length ≤ c ∧ (Kd.int .i64).C w A l.length l ∧ ∀ y ∈ l, (Lit.int .i64 y).wf = true := by
  rcases open_ints ht he hc h with ⟨hcs, _⟩ | ⟨a, len, cap, zs, hcs, _, hl, hm, hz, _, hcell, hwz⟩
  · refine ⟨none, 0, [], ?_, by simp, Kd.C_nil _ w, fun y hy => by simp at hy⟩
    simpa using hcs
  · have hv : v = .slice (some a) len cap := by simpa using hcs
    have hlen : (zs.take len).length = len := by
      rw [List.length_take, hz]
      split <;> omega
    have hle : len ≤ zs.length := by
      rw [hz]
      split <;> omega
    refine ⟨some a, cap, zs.take len, by rw [hlen]; exact hv, by omega, ⟨rfl, by rw [hlen]; simp only [maxLen] at hm; omega, fun _ => ⟨a, rfl, fun j y hy => ⟨[.int .i64 y], rfl, rfl, fun i u hu => ?_⟩⟩⟩, fun y hy => hwz y (List.mem_of_mem_take hy)⟩
    have hj : j < len := by
      rcases Nat.lt_or_ge j len with h | h
      · exact h
      · rw [List.getElem?_eq_none (by omega)] at hy
        cases hy
    have hzj : zs[j]? = some y := by rw [List.getElem?_take] at hy; simpa [hj] using hy
    match i, hu with
    | 0, hu =>
      simp at hu
      subst hu
      have := hcell j (by omega)
      rw [List.getD_eq_getElem?_getD, hzj] at this
      simpa [Kd.int, Kd.scalar] using this
    | i + 1, hu => simp at hu
end
end Go.Proofs.Ytnkaimdcdedekaa.Open
