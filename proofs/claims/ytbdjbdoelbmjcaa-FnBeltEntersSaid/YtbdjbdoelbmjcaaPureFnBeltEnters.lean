/- For every slice of bytes the law FnBeltEnters returns true (its printed function does): a bag enters just if there is room behind the last one; then it covers the first places. -/
import Derived.Test.YtbdjbdoelbmjcaaPFnBeltEntersx14
import Derived.Test.YtbdjbdoelbmjcaaKit
namespace Go.Proofs.Ytbdjbdoelbmjcaa.Pure
open Go.RowKit Go.Proofs.Ytbdjbdoelbmjcaa.PFnBeltEnters Go.Proofs.YtbdjbdoelbmjcaaW.PrintWords Go.Proofs.YtbdjbdoelbmjcaaW.PrintLast Go.Proofs.YtbdjbdoelbmjcaaW.PrintMore Go.Proofs.Ytbdjbdoelbmjcaa.Kit
set_option linter.unusedVariables false
set_option linter.unusedSimpArgs false

abbrev It := S53
theorem rd_item (l : List It) (i : Nat) (h : i < l.length) : rd_T53 l (i : Int) = l[i] := by
  simp [rd_T53, List.getD_eq_getElem?_getD, List.getElem?_eq_getElem h]
theorem drop_item (l : List It) (i : Nat) (h : i < l.length) : l.drop i = rd_T53 l (i : Int) :: l.drop (i + 1) := by
  rw [List.drop_eq_getElem_cons h, rd_item l i h]
theorem take_item (l : List It) (i : Nat) (h : i < l.length) : l.take (i + 1) = l.take i ++ [rd_T53 l (i : Int)] := by
  rw [rd_item l i h, List.take_succ_eq_append_getElem h]
/-- Items in order, behind a place and apart, their bags other than those met. -/
def okRun (G : Int) : Int → List It → List It → Bool
  | _, _, [] => true
  | most, seen, x :: l => decide (1 ≤ x.f0) && !(seen.any (fun y => y.f0 == x.f0)) && decide (1 ≤ x.f2 ∧ x.f2 ≤ 60 ∧ x.f2 ≤ x.f1 ∧ x.f1 ≤ most) && okRun G (x.f1 - x.f2 - G) (seen ++ [x]) l
def okB (L G : Int) (l : List It) : Bool := decide (1 ≤ L ∧ L ≤ 400 ∧ 0 ≤ G ∧ G ≤ 20 ∧ l.length ≤ 40) && okRun G L [] l
theorem okB_len {L G : Int} {l : List It} (h : okB L G l = true) : 1 ≤ L ∧ L ≤ 400 ∧ 0 ≤ G ∧ G ≤ 20 ∧ l.length ≤ 40 := by
  unfold okB at h
  simp only [Bool.and_eq_true, decide_eq_true_eq] at h
  exact h.1
theorem okB_run {L G : Int} {l : List It} (h : okB L G l = true) : okRun G L [] l = true := by
  unfold okB at h
  simp only [Bool.and_eq_true] at h
  exact h.2
theorem okRun_cons {G most : Int} {seen : List It} {x : It} {l : List It} (h : okRun G most seen (x :: l) = true) :
    1 ≤ x.f0 ∧ seen.any (fun y => y.f0 == x.f0) = false ∧ (1 ≤ x.f2 ∧ x.f2 ≤ 60 ∧ x.f2 ≤ x.f1 ∧ x.f1 ≤ most) ∧ okRun G (x.f1 - x.f2 - G) (seen ++ [x]) l = true := by
  simp only [okRun, Bool.and_eq_true, decide_eq_true_eq, Bool.not_eq_true'] at h
  exact ⟨h.1.1.1, h.1.1.2, h.1.2, h.2⟩
theorem impl_ok_loop (L G : Int) (H : Bool) (l : List It) (hG : 0 ≤ G ∧ G ≤ 20) (hl : l.length ≤ 40) (d : Nat) : ∀ (i : Nat) (most : Int), i + d = l.length → -100 ≤ most → most ≤ 400 →
    Ev (fun k => impl_BeltOk.l0 k most l (l.length : Int) i L G H l) (okRun G most (l.take i) (l.drop i)) := by
  induction d with
  | zero =>
    intro i most hi h0 h1
    rw [List.drop_eq_nil_of_le (by omega)]
    exact Ev.step (f := fun _ => some true) (fun k => by rw [impl_BeltOk.l0, if_neg (show ¬ (i : Int) < (l.length : Int) by omega)]) (ev_some rfl)
  | succ d ih =>
    intro i most hi h0 h1
    have hlt : i < l.length := by omega
    have e1 : wrap64 ((i : Int) + 1) = ((i + 1 : Nat) : Int) := w64 (by omega) (by omega)
    rw [drop_item l i hlt]
    generalize hx : rd_T53 l (i : Int) = x
    refine Ev.step (fun k => by rw [impl_BeltOk.l0, if_pos (show (i : Int) < (l.length : Int) by omega), if_pos (show (0 : Int) ≤ (i : Int) by omega), if_pos (show (i : Int) < (l.length : Int) by omega), if_pos (show (i : Int) ≤ (l.length : Int) by omega), hx]) ?_
    simp only [okRun, impl_isOn.f, Option.bind_some, Int.toNat_natCast]
    by_cases c1 : x.f0 < 1
    · simp only [if_pos c1]
      rw [decide_eq_false (show ¬ 1 ≤ x.f0 by omega)]
      exact ev_some (by simp)
    · simp only [if_neg c1]
      rw [decide_eq_true (show 1 ≤ x.f0 by omega)]
      cases c2 : (l.take i).any (fun y => y.f0 == x.f0) with
      | true => exact ev_some (by simp)
      | false =>
        simp only [if_neg (show ¬ (false = true) by decide)]
        by_cases c3 : 1 ≤ x.f2 ∧ x.f2 ≤ 60 ∧ x.f2 ≤ x.f1 ∧ x.f1 ≤ most
        · rw [decide_eq_true c3]
          simp only [if_neg (show ¬ x.f2 < 1 by omega), if_neg (show ¬ x.f2 > 60 by omega), if_neg (show ¬ x.f1 < x.f2 by omega), if_neg (show ¬ x.f1 > most by omega)]
          rw [w64 (x := x.f1 - x.f2) (by omega) (by omega), w64 (x := x.f1 - x.f2 - G) (by omega) (by omega), e1]
          have := ih (i + 1) (x.f1 - x.f2 - G) (by omega) (by omega) (by omega)
          rw [take_item l i hlt, hx] at this
          simpa using this
        · rw [decide_eq_false c3]
          have : (true && !false && false && okRun G (x.f1 - x.f2 - G) (l.take i ++ [x]) (l.drop (i + 1))) = false := by simp
          rw [this]
          by_cases d1 : x.f2 < 1
          · simp only [if_pos d1]; exact Ev.now _
          · by_cases d2 : x.f2 > 60
            · simp only [if_neg d1, if_pos d2]; exact Ev.now _
            · by_cases d3 : x.f1 < x.f2
              · simp only [if_neg d1, if_neg d2, if_pos d3]; exact Ev.now _
              · simp only [if_neg d1, if_neg d2, if_neg d3, if_pos (show x.f1 > most by omega)]; exact Ev.now _
theorem impl_ok_ev (L G : Int) (H : Bool) (l : List It) : Ev (fun k => impl_BeltOk.f k L G H l) (okB L G l) := by
  unfold impl_BeltOk.f
  have hf : ∀ L G H, Ev (fun k => impl_BeltOk.j0 k true L G H l) false := fun L G H => Ev.step (fun k => by rw [impl_BeltOk.j0, if_pos rfl]) (Ev.now _)
  have hb : ¬ (1 ≤ L ∧ L ≤ 400 ∧ 0 ≤ G ∧ G ≤ 20 ∧ l.length ≤ 40) → okB L G l = false := fun h => by unfold okB; rw [decide_eq_false h]; rfl
  by_cases c1 : L < 1
  · simp only [if_pos c1]; rw [hb (by omega)]; exact hf _ _ _
  · by_cases c2 : L > 400
    · simp only [if_neg c1, if_pos c2]; rw [hb (by omega)]; exact hf _ _ _
    · by_cases c3 : G < 0
      · simp only [if_neg c1, if_neg c2, if_pos c3]; rw [hb (by omega)]; exact hf _ _ _
      · by_cases c4 : G > 20
        · simp only [if_neg c1, if_neg c2, if_neg c3, if_pos c4]; rw [hb (by omega)]; exact hf _ _ _
        · simp only [if_neg c1, if_neg c2, if_neg c3, if_neg c4]
          by_cases c5 : (l.length : Int) > 40
          · rw [decide_eq_true c5, hb (by omega)]; exact hf _ _ _
          · rw [decide_eq_false c5]
            refine Ev.step (fun k => by rw [impl_BeltOk.j0, if_neg (by decide)]) ?_
            have := impl_ok_loop L G H l (by omega) (by omega) l.length 0 L (by omega) (by omega) (by omega)
            unfold okB
            rw [decide_eq_true (by omega)]
            simpa using this
theorem okRun_mem (G : Int) (hG : 0 ≤ G) : ∀ (l : List It) (most : Int) (s : List It), okRun G most s l = true → ∀ x ∈ l, 1 ≤ x.f0 ∧ 1 ≤ x.f2 ∧ x.f2 ≤ 60 ∧ x.f2 ≤ x.f1 ∧ x.f1 ≤ most
  | [], _, _, _, x, hx => by simp at hx
  | y :: l, most, s, h, x, hx => by
    obtain ⟨h1, h2, h3, h4⟩ := okRun_cons h
    rcases List.mem_cons.1 hx with rfl | hx
    · omega
    · have := okRun_mem G hG l _ _ h4 x hx
      omega
theorem okB_mem {L G : Int} {l : List It} (h : okB L G l = true) : ∀ x ∈ l, 1 ≤ x.f0 ∧ 1 ≤ x.f2 ∧ x.f2 ≤ 60 ∧ x.f2 ≤ x.f1 ∧ x.f1 ≤ L := by
  have h1 := okB_len h
  exact okRun_mem G (by omega) l L [] (okB_run h)
theorem rd_mem (l : List It) (i : Nat) (h : i < l.length) : rd_T53 l (i : Int) ∈ l := by
  rw [rd_item l i h]; exact List.getElem_mem _
/-- What FreeBehind returns. -/
def freeR (L G : Int) (l : List It) : Int := if okB L G l = true then (match l.getLast? with | none => L | some x => mx 0 (x.f1 - x.f2 - G)) else -1
theorem last_item (l : List It) (h : l ≠ []) : l.getLast? = some (rd_T53 l ((l.length - 1 : Nat) : Int)) := by
  have hl : 0 < l.length := List.length_pos_iff.2 h
  rw [List.getLast?_eq_getElem?, rd_item l (l.length - 1) (by omega), List.getElem?_eq_getElem (by omega)]
theorem impl_free_ev (L G : Int) (H : Bool) (l : List It) : Ev (fun k => impl_FreeBehind.f k L G H l) (freeR L G l) := by
  unfold impl_FreeBehind.f freeR
  refine ev_bind _ (impl_ok_ev L G H l) ?_
  cases h : okB L G l with
  | false => simp only [Bool.false_eq_true, if_false]; exact Ev.now _
  | true =>
    have h1 := okB_len h
    simp only [if_true]
    refine ev_const ?_
    cases l with
    | nil => simp
    | cons x t =>
      have hne : x :: t ≠ [] := by simp
      have hl : 0 < (x :: t).length := by simp
      have hm := okB_mem h _ (rd_mem (x :: t) ((x :: t).length - 1) (by omega))
      have e : wrap64 (((x :: t).length : Int) - 1) = (((x :: t).length - 1 : Nat) : Int) := by rw [w64 (by omega) (by omega)]; omega
      rw [last_item _ hne]
      generalize hw : x :: t = w at *
      rw [if_neg (by omega), e, if_pos (by omega), if_pos (by omega), w64 (x := _ - (rd_T53 w ((w.length - 1 : Nat) : Int)).f2) (by omega) (by omega), w64 (by omega) (by omega)]
/-- What Enter returns. -/
def enterR (L G : Int) (l : List It) (bag size : Int) : List It × Bool :=
  if okB L G l = true ∧ 1 ≤ bag ∧ 1 ≤ size ∧ size ≤ 60 ∧ l.length < 40 ∧ size ≤ freeR L G l ∧ l.any (fun y => y.f0 == bag) = false then (l ++ [⟨bag, size, size⟩], true) else (l, false)
theorem enterR_len (L G : Int) (l : List It) (bag size : Int) : (enterR L G l bag size).1.length ≤ l.length + 1 := by
  unfold enterR; split <;> simp
theorem copy_ev (L G : Int) (H : Bool) (l : List It) (hl : l.length ≤ 1048600) : impl_copyBelt.f L G H l = some (L, G, H, l) := by
  unfold impl_copyBelt.f slices_Clone.f
  rw [if_pos (by omega), Option.bind_some]
theorem impl_enter_ev (L G : Int) (H : Bool) (l : List It) (bag size : Int) (hl : l.length ≤ 1048600) : Ev (fun k => impl_Enter.f k L G H l bag size) (L, G, H, enterR L G l bag size) := by
  unfold impl_Enter.f
  simp only [copy_ev L G H l hl, Option.bind_some]
  refine ev_bind _ (impl_ok_ev L G H l) ?_
  have no : ¬ (okB L G l = true ∧ 1 ≤ bag ∧ 1 ≤ size ∧ size ≤ 60 ∧ l.length < 40 ∧ size ≤ freeR L G l ∧ l.any (fun y => y.f0 == bag) = false) → enterR L G l bag size = (l, false) := fun h => by unfold enterR; rw [if_neg h]
  cases h : okB L G l with
  | false =>
    rw [no (by rw [h]; simp)]
    simp only [Bool.false_eq_true, if_false]; exact Ev.now _
  | true =>
    simp only [if_true, impl_isOn.f, Option.bind_some]
    by_cases c1 : bag < 1
    · rw [no (by omega)]; simp only [if_pos c1]; exact Ev.now _
    · simp only [if_neg c1]
      cases c2 : l.any (fun y => y.f0 == bag) with
      | true => rw [no (by rw [c2]; simp)]; simp only [if_true]; exact Ev.now _
      | false =>
        simp only [if_neg (show ¬ (false = true) by decide)]
        by_cases c3 : size < 1
        · rw [no (by omega)]; simp only [if_pos c3]; exact Ev.now _
        · by_cases c4 : size > 60
          · rw [no (by omega)]; simp only [if_neg c3, if_pos c4]; exact Ev.now _
          · by_cases c5 : (l.length : Int) ≥ 40
            · rw [no (by omega)]; simp only [if_neg c3, if_neg c4, if_pos c5]; exact Ev.now _
            · simp only [if_neg c3, if_neg c4, if_neg c5]
              refine ev_bind _ (impl_free_ev L G H l) ?_
              by_cases c6 : size > freeR L G l
              · rw [no (by omega)]; simp only [if_pos c6]; exact Ev.now _
              · have hyes : enterR L G l bag size = (l ++ [⟨bag, size, size⟩], true) := by
                  unfold enterR; rw [if_pos (show (okB L G l = true ∧ 1 ≤ bag ∧ 1 ≤ size ∧ size ≤ 60 ∧ l.length < 40 ∧ size ≤ freeR L G l ∧ l.any (fun y => y.f0 == bag) = false) from ⟨h, by omega, by omega, by omega, by omega, by omega, c2⟩)]
                rw [hyes]
                simp only [if_neg c6, if_pos (show l.length < 5864062014805 by omega)]
                exact Ev.now _
theorem spec_in (x a b : Int) : spec_l01In.f x a b = some (decide (a ≤ x ∧ x ≤ b)) := by
  unfold spec_l01In.f
  by_cases h : x ≥ a
  · rw [if_pos h]; congr 1; simp; omega
  · rw [if_neg h]; congr 1; simp; omega
theorem spec_ok_inner (L G : Int) (H : Bool) (l : List It) (b f n : Int) (hl : l.length ≤ 40) (i : Nat) (hi : i < l.length) (R : Bool) (d : Nat) : ∀ (j : Nat), j + d = i →
    (((l.take i).drop j).any (fun y => y.f0 == b) = true → R = false) →
    (((l.take i).drop j).any (fun y => y.f0 == b) = false → Ev (fun k => if (i : Int) > 0 then (if 0 ≤ (wrap64 ((i : Int) - 1)) then (if (wrap64 ((i : Int) - 1)) < (l.length : Int) then (if f > (wrap64 ((wrap64 (((rd_T53 l (wrap64 ((i : Int) - 1))).f1) - ((rd_T53 l (wrap64 ((i : Int) - 1))).f2))) - G)) then (some false) else (spec_BeltOk.l0 k (wrap64 ((i : Int) + 1)) L G H l)) else (none)) else (none)) else (spec_BeltOk.l0 k (wrap64 ((i : Int) + 1)) L G H l)) R) →
    Ev (fun k => spec_BeltOk.l1 k (i : Int) (j : Int) L G H l b f n) R := by
  induction d with
  | zero =>
    intro j hj _ h
    have : j = i := by omega
    subst this
    refine Ev.step (fun k => by rw [spec_BeltOk.l1, if_neg (show ¬ (j : Int) < (j : Int) by omega)]) ?_
    exact h (by rw [List.drop_eq_nil_of_le (by simp; omega)]; rfl)
  | succ d ih =>
    intro j hj hd h
    have e1 : wrap64 ((j : Int) + 1) = ((j + 1 : Nat) : Int) := w64 (by omega) (by omega)
    have hjt : j < (l.take i).length := by simp; omega
    have hc : (l.take i).drop j = rd_T53 l (j : Int) :: (l.take i).drop (j + 1) := by
      rw [List.drop_eq_getElem_cons hjt, rd_item l j (by omega)]
      simp
    rw [hc, List.any_cons] at hd h
    refine Ev.step (fun k => by rw [spec_BeltOk.l1, if_pos (show (j : Int) < (i : Int) by omega), if_pos (show (0 : Int) ≤ (j : Int) by omega), if_pos (show (j : Int) < (l.length : Int) by omega), e1]) ?_
    by_cases c : (rd_T53 l (j : Int)).f0 = b
    · simp only [if_pos c]
      rw [hd (by simp [c])]
      exact Ev.now _
    · simp only [if_neg c]
      have hb : ((rd_T53 l (j : Int)).f0 == b) = false := by simp [c]
      rw [hb, Bool.false_or] at hd h
      exact ih (j + 1) (by omega) hd h
/-- What the place in front of item i leaves it. -/
def mostAt (L G : Int) (l : List It) (i : Nat) : Int := if i = 0 then L else (rd_T53 l ((i - 1 : Nat) : Int)).f1 - (rd_T53 l ((i - 1 : Nat) : Int)).f2 - G
theorem spec_ok_loop (L G : Int) (H : Bool) (l : List It) (hL : 1 ≤ L ∧ L ≤ 400) (hG : 0 ≤ G ∧ G ≤ 20) (hl : l.length ≤ 40) (d : Nat) : ∀ (i : Nat), i + d = l.length → -100 ≤ mostAt L G l i → mostAt L G l i ≤ L →
    (0 < i → (rd_T53 l ((i - 1 : Nat) : Int)).f1 ≤ 400 ∧ 1 ≤ (rd_T53 l ((i - 1 : Nat) : Int)).f2 ∧ (rd_T53 l ((i - 1 : Nat) : Int)).f2 ≤ 60 ∧ (rd_T53 l ((i - 1 : Nat) : Int)).f2 ≤ (rd_T53 l ((i - 1 : Nat) : Int)).f1) →
    Ev (fun k => spec_BeltOk.l0 k i L G H l) (okRun G (mostAt L G l i) (l.take i) (l.drop i)) := by
  induction d with
  | zero =>
    intro i hi h0 h1 _
    rw [List.drop_eq_nil_of_le (by omega)]
    exact Ev.step (f := fun _ => some true) (fun k => by rw [spec_BeltOk.l0, if_neg (show ¬ (i : Int) < (l.length : Int) by omega)]) (ev_some rfl)
  | succ d ih =>
    intro i hi h0 h1 hp
    have hlt : i < l.length := by omega
    have e1 : wrap64 ((i : Int) + 1) = ((i + 1 : Nat) : Int) := w64 (by omega) (by omega)
    rw [drop_item l i hlt]
    generalize hx : rd_T53 l (i : Int) = x
    have hfalse : ∀ b f n, Ev (fun k => spec_BeltOk.j2 k i true L G H l b f n) false := fun b f n => Ev.step (fun k => by rw [spec_BeltOk.j2, if_pos rfl]) (Ev.now _)
    refine Ev.step (fun k => by rw [spec_BeltOk.l0, if_pos (show (i : Int) < (l.length : Int) by omega), if_pos (show (0 : Int) ≤ (i : Int) by omega), hx]) ?_
    simp only [okRun, spec_in, Option.bind_some]
    by_cases c1 : x.f0 < 1
    · simp only [if_pos c1]
      rw [decide_eq_false (show ¬ 1 ≤ x.f0 by omega)]
      simp only [Bool.false_and]
      exact hfalse _ _ _
    · simp only [if_neg c1]
      rw [decide_eq_true (show 1 ≤ x.f0 by omega)]
      by_cases c2 : 1 ≤ x.f2 ∧ x.f2 ≤ 60
      · rw [decide_eq_true c2]
        simp only [if_true]
        by_cases c3 : x.f2 ≤ x.f1 ∧ x.f1 ≤ L
        · rw [decide_eq_true c3]
          simp only [Bool.not_true]
          refine Ev.step (fun k => by rw [spec_BeltOk.j2, if_neg (by decide)]) ?_
          refine spec_ok_inner L G H l x.f0 x.f1 x.f2 hl i hlt _ i 0 (by omega) ?_ ?_
          · intro h
            rw [List.drop_zero] at h
            rw [h]; simp
          · intro h
            rw [List.drop_zero] at h
            rw [h, e1]
            have hm : mostAt L G l (i + 1) = x.f1 - x.f2 - G := by
              unfold mostAt
              rw [if_neg (by omega), Nat.add_sub_cancel, hx]
            have hrest := ih (i + 1) (by omega) (by rw [hm]; omega) (by rw [hm]; omega) (fun _ => by rw [Nat.add_sub_cancel, hx]; omega)
            rw [hm, take_item l i hlt, hx] at hrest
            by_cases c4 : (i : Int) > 0
            · have e2 : wrap64 ((i : Int) - 1) = ((i - 1 : Nat) : Int) := by rw [w64 (by omega) (by omega)]; omega
              have hpr := hp (by omega)
              have hmi : mostAt L G l i = (rd_T53 l ((i - 1 : Nat) : Int)).f1 - (rd_T53 l ((i - 1 : Nat) : Int)).f2 - G := by
                unfold mostAt; rw [if_neg (by omega)]
              simp only [if_pos c4, e2, if_pos (show (0 : Int) ≤ ((i - 1 : Nat) : Int) by omega), if_pos (show ((i - 1 : Nat) : Int) < (l.length : Int) by omega)]
              rw [w64 (x := (rd_T53 l ((i - 1 : Nat) : Int)).f1 - (rd_T53 l ((i - 1 : Nat) : Int)).f2) (by omega) (by omega), w64 (by omega) (by omega), ← hmi]
              by_cases c5 : x.f1 > mostAt L G l i
              · simp only [if_pos c5]
                rw [decide_eq_false (show ¬ (1 ≤ x.f2 ∧ x.f2 ≤ 60 ∧ x.f2 ≤ x.f1 ∧ x.f1 ≤ mostAt L G l i) by omega)]
                exact ev_some (by simp)
              · simp only [if_neg c5]
                rw [decide_eq_true (show (1 ≤ x.f2 ∧ x.f2 ≤ 60 ∧ x.f2 ≤ x.f1 ∧ x.f1 ≤ mostAt L G l i) by omega)]
                simpa using hrest
            · have hmi : mostAt L G l i = L := by unfold mostAt; rw [if_pos (by omega)]
              simp only [if_neg c4]
              rw [hmi, decide_eq_true (show (1 ≤ x.f2 ∧ x.f2 ≤ 60 ∧ x.f2 ≤ x.f1 ∧ x.f1 ≤ L) by omega)]
              simpa using hrest
        · rw [decide_eq_false c3, decide_eq_false (show ¬ (1 ≤ x.f2 ∧ x.f2 ≤ 60 ∧ x.f2 ≤ x.f1 ∧ x.f1 ≤ mostAt L G l i) by omega)]
          simp only [Bool.not_false, Bool.and_false, Bool.false_and]
          exact hfalse _ _ _
      · rw [decide_eq_false c2, decide_eq_false (show ¬ (1 ≤ x.f2 ∧ x.f2 ≤ 60 ∧ x.f2 ≤ x.f1 ∧ x.f1 ≤ mostAt L G l i) by omega)]
        simp only [Bool.and_false, Bool.false_and, if_neg (show ¬ (false = true) by decide)]
        exact hfalse _ _ _
theorem spec_ok_ev (L G : Int) (H : Bool) (l : List It) : Ev (fun k => spec_BeltOk.f k L G H l) (okB L G l) := by
  unfold spec_BeltOk.f
  have hf : ∀ L G H, Ev (fun k => spec_BeltOk.j0 k true L G H l) false := fun L G H => Ev.step (fun k => by rw [spec_BeltOk.j0, if_pos rfl]) (Ev.now _)
  have hb : ¬ (1 ≤ L ∧ L ≤ 400 ∧ 0 ≤ G ∧ G ≤ 20 ∧ l.length ≤ 40) → okB L G l = false := fun h => by unfold okB; rw [decide_eq_false h]; rfl
  simp only [spec_in, Option.bind_some]
  by_cases c1 : 1 ≤ L ∧ L ≤ 400
  · rw [decide_eq_true c1]
    simp only [if_true]
    by_cases c2 : 0 ≤ G ∧ G ≤ 20
    · rw [decide_eq_true c2]
      simp only [if_true]
      by_cases c5 : (l.length : Int) > 40
      · rw [decide_eq_true c5, hb (by omega)]; exact hf _ _ _
      · rw [decide_eq_false c5]
        refine Ev.step (fun k => by rw [spec_BeltOk.j0, if_neg (by decide)]) ?_
        have hm : mostAt L G l 0 = L := rfl
        have := spec_ok_loop L G H l c1 c2 (by omega) l.length 0 (by omega) (by rw [hm]; omega) (by rw [hm]; omega) (fun h => by omega)
        unfold okB
        rw [decide_eq_true (by omega)]
        rw [hm] at this
        simpa using this
    · rw [decide_eq_false c2, hb (by omega)]
      simp only [if_neg (show ¬ (false = true) by decide)]
      exact hf _ _ _
  · rw [decide_eq_false c1, hb (by omega)]
    simp only [if_neg (show ¬ (false = true) by decide)]
    exact hf _ _ _

theorem spec_free_ev (L G : Int) (H : Bool) (l : List It) : Ev (fun k => spec_FreeBehind.f k L G H l) (freeR L G l) := by
  unfold spec_FreeBehind.f freeR
  refine ev_bind _ (spec_ok_ev L G H l) ?_
  cases h : okB L G l with
  | false => simp only [Bool.false_eq_true, if_false]; exact Ev.now _
  | true =>
    have h1 := okB_len h
    simp only [if_true]
    refine ev_const ?_
    cases l with
    | nil => simp
    | cons x t =>
      have hne : x :: t ≠ [] := by simp
      have hl : 0 < (x :: t).length := by simp
      have hm := okB_mem h _ (rd_mem (x :: t) ((x :: t).length - 1) (by omega))
      have e : wrap64 (((x :: t).length : Int) - 1) = (((x :: t).length - 1 : Nat) : Int) := by rw [w64 (by omega) (by omega)]; omega
      rw [last_item _ hne]
      generalize hw : x :: t = w at *
      rw [if_neg (by omega), e, if_pos (by omega), if_pos (by omega), w64 (x := _ - (rd_T53 w ((w.length - 1 : Nat) : Int)).f2) (by omega) (by omega), w64 (by omega) (by omega)]

theorem fresh_ev (L G : Int) (H : Bool) (l : List It) (hl : l.length ≤ 1048600) : spec_l02Fresh.f L G H l = some (L, G, H, l) := by
  unfold spec_l02Fresh.f
  simp only [Option.bind_some, List.nil_append, List.length_nil, Nat.zero_add, if_pos (show l.length < 5864062014805 by omega)]
theorem spec_enter_loop (L G : Int) (H : Bool) (bag size : Int) (l : List It) (hl : l.length ≤ 40) (d : Nat) : ∀ i : Nat, i + d = l.length →
    Ev (fun k => spec_Enter.l0 k bag size i L G H l) (L, G, H, if (l.drop i).any (fun y => y.f0 == bag) = true then (l, false) else (l ++ [⟨bag, size, size⟩], true)) := by
  induction d with
  | zero =>
    intro i hi
    rw [List.drop_eq_nil_of_le (by omega)]
    refine Ev.step (f := fun _ => some (L, G, H, l ++ [⟨bag, size, size⟩], true)) (fun k => ?_) (ev_some (by simp))
    rw [spec_Enter.l0, if_neg (show ¬ (i : Int) < (l.length : Int) by omega)]
    simp only [Option.bind_some, List.nil_append, List.length_nil, Nat.zero_add, if_pos (show l.length < 5864062014805 by omega)]
  | succ d ih =>
    intro i hi
    have hlt : i < l.length := by omega
    have e1 : wrap64 ((i : Int) + 1) = ((i + 1 : Nat) : Int) := w64 (by omega) (by omega)
    rw [drop_item l i hlt, List.any_cons]
    refine Ev.step (fun k => by rw [spec_Enter.l0, if_pos (show (i : Int) < (l.length : Int) by omega), if_pos (show (0 : Int) ≤ (i : Int) by omega), e1]) ?_
    by_cases c : (rd_T53 l (i : Int)).f0 = bag
    · have hb : ((rd_T53 l (i : Int)).f0 == bag) = true := by simp [c]
      simp only [if_pos c, hb, Bool.true_or, if_true]
      exact Ev.now _
    · have hb : ((rd_T53 l (i : Int)).f0 == bag) = false := by simp [c]
      simp only [if_neg c, hb, Bool.false_or]
      exact ih (i + 1) (by omega)
theorem spec_enter_ev (L G : Int) (H : Bool) (l : List It) (bag size : Int) (hl : l.length ≤ 1048600) : Ev (fun k => spec_Enter.f k L G H l bag size) (L, G, H, enterR L G l bag size) := by
  unfold spec_Enter.f
  simp only [fresh_ev L G H l hl, Option.bind_some]
  refine ev_bind _ (spec_ok_ev L G H l) ?_
  have no : ¬ (okB L G l = true ∧ 1 ≤ bag ∧ 1 ≤ size ∧ size ≤ 60 ∧ l.length < 40 ∧ size ≤ freeR L G l ∧ l.any (fun y => y.f0 == bag) = false) → enterR L G l bag size = (l, false) := fun h => by unfold enterR; rw [if_neg h]
  have hno : ∀ (a b c : Int) (d : Bool) (e : List It), Ev (fun k => spec_Enter.j0 k bag size true b c d e) (b, c, d, e, false) := fun a b c d e => Ev.step (fun k => by rw [spec_Enter.j0, if_pos rfl]) (Ev.now _)
  cases h : okB L G l with
  | false =>
    rw [no (by rw [h]; simp)]
    simp only [Bool.false_eq_true, if_false]; exact hno 0 _ _ _ _
  | true =>
    simp only [if_true, spec_in, Option.bind_some]
    by_cases c1 : bag < 1
    · rw [no (by omega)]; simp only [if_pos c1]; exact hno 0 _ _ _ _
    · simp only [if_neg c1]
      by_cases c3 : 1 ≤ size ∧ size ≤ 60
      · rw [decide_eq_true c3]
        simp only [if_true]
        by_cases c5 : (l.length : Int) ≥ 40
        · rw [no (by omega)]; simp only [if_pos c5]; exact hno 0 _ _ _ _
        · simp only [if_neg c5]
          refine ev_bind _ (spec_free_ev L G H l) ?_
          by_cases c6 : size > freeR L G l
          · rw [no (by omega), decide_eq_true c6]; exact hno 0 _ _ _ _
          · rw [decide_eq_false c6]
            refine Ev.step (fun k => by rw [spec_Enter.j0, if_neg (by decide)]) ?_
            have := spec_enter_loop L G H bag size l (by omega) l.length 0 (by omega)
            rw [List.drop_zero] at this
            cases c2 : l.any (fun y => y.f0 == bag) with
            | true => rw [no (by rw [c2]; simp)]; rw [c2] at this; simpa using this
            | false =>
              have hyes : enterR L G l bag size = (l ++ [⟨bag, size, size⟩], true) := by
                unfold enterR; rw [if_pos (show (okB L G l = true ∧ 1 ≤ bag ∧ 1 ≤ size ∧ size ≤ 60 ∧ l.length < 40 ∧ size ≤ freeR L G l ∧ l.any (fun y => y.f0 == bag) = false) from ⟨h, by omega, by omega, by omega, by omega, by omega, c2⟩)]
              rw [hyes]
              rw [c2] at this
              simpa using this
      · rw [no (by omega), decide_eq_false c3]
        simp only [if_neg (show ¬ (false = true) by decide)]
        exact hno 0 _ _ _ _
/-- One step of all items. -/
def stepGo (G : Int) : Int → List It → List It
  | _, [] => []
  | most, x :: l => if x.f1 < most then ⟨x.f0, x.f1 + 1, x.f2⟩ :: stepGo G (x.f1 + 1 - x.f2 - G) l else x :: stepGo G (x.f1 - x.f2 - G) l
/-- How many of them move. -/
def stepN (G : Int) : Int → List It → Nat
  | _, [] => 0
  | most, x :: l => if x.f1 < most then 1 + stepN G (x.f1 + 1 - x.f2 - G) l else stepN G (x.f1 - x.f2 - G) l
theorem stepGo_len (G : Int) : ∀ (l : List It) (most : Int), (stepGo G most l).length = l.length
  | [], _ => rfl
  | x :: l, most => by
    unfold stepGo
    split
    · simp [stepGo_len G l]
    · simp [stepGo_len G l]
theorem stepN_le (G : Int) : ∀ (l : List It) (most : Int), stepN G most l ≤ l.length
  | [], _ => Nat.le_refl _
  | x :: l, most => by
    unfold stepN
    split
    · have := stepN_le G l (x.f1 + 1 - x.f2 - G); simp; omega
    · have := stepN_le G l (x.f1 - x.f2 - G); simp; omega
theorem any_bag {s s' : List It} (h : s.map (·.f0) = s'.map (·.f0)) (b : Int) : s.any (fun y => y.f0 == b) = s'.any (fun y => y.f0 == b) := by
  have e : ∀ t : List It, t.any (fun y => y.f0 == b) = (t.map (·.f0)).any (fun y => y == b) := fun t => by rw [List.any_map]; rfl
  rw [e, e, h]
theorem okRun_seen (G : Int) : ∀ (l : List It) (most : Int) (s s' : List It), s.map (·.f0) = s'.map (·.f0) → okRun G most s l = okRun G most s' l
  | [], _, _, _, _ => rfl
  | x :: l, most, s, s', h => by
    unfold okRun
    rw [any_bag h, okRun_seen G l _ (s ++ [x]) (s' ++ [x]) (by simp [h])]
theorem okRun_step (G : Int) (hG : 0 ≤ G) : ∀ (l : List It) (m0 m1 : Int) (s s' : List It), okRun G m0 s l = true → m0 ≤ m1 → s.map (·.f0) = s'.map (·.f0) → okRun G m1 s' (stepGo G m1 l) = true
  | [], _, _, _, _, _, _, _ => rfl
  | x :: l, m0, m1, s, s', h, hm, hs => by
    obtain ⟨h1, h2, h3, h4⟩ := okRun_cons h
    rw [any_bag hs] at h2
    unfold stepGo
    split
    · rename_i hlt
      have := okRun_step G hG l (x.f1 - x.f2 - G) (x.f1 + 1 - x.f2 - G) (s ++ [x]) (s' ++ [⟨x.f0, x.f1 + 1, x.f2⟩]) h4 (by omega) (by simp [hs])
      unfold okRun
      simp only [Bool.and_eq_true, decide_eq_true_eq, Bool.not_eq_true']
      exact ⟨⟨⟨h1, h2⟩, by omega⟩, this⟩
    · rename_i hlt
      have := okRun_step G hG l (x.f1 - x.f2 - G) (x.f1 - x.f2 - G) (s ++ [x]) (s' ++ [x]) h4 (by omega) (by simp [hs])
      unfold okRun
      simp only [Bool.and_eq_true, decide_eq_true_eq, Bool.not_eq_true']
      exact ⟨⟨⟨h1, h2⟩, by omega⟩, this⟩
theorem okB_step {L G : Int} {l : List It} (h : okB L G l = true) : okB L G (stepGo G L l) = true := by
  have h1 := okB_len h
  have h2 := okB_run h
  unfold okB
  rw [decide_eq_true (by rw [stepGo_len]; exact h1), okRun_step G (by omega) l L L [] [] h2 (Int.le_refl _) rfl]
  rfl
def moveM (G L : Int) : Nat → List It → List It
  | 0, l => l
  | n + 1, l => moveM G L n (stepGo G L l)
theorem okB_move {L G : Int} : ∀ (n : Nat) {l : List It}, okB L G l = true → okB L G (moveM G L n l) = true
  | 0, _, h => h
  | n + 1, _, h => okB_move n (okB_step h)
theorem moveM_len (G L : Int) : ∀ (n : Nat) (l : List It), (moveM G L n l).length = l.length
  | 0, _ => rfl
  | n + 1, l => by unfold moveM; rw [moveM_len G L n, stepGo_len]
theorem rd_mid (a : List It) (x : It) (b : List It) : rd_T53 (a ++ x :: b) (a.length : Int) = x := by
  simp [rd_T53, List.getD_eq_getElem?_getD]
theorem rd_mid' (a : List It) (p x : It) (b : List It) : rd_T53 ((a ++ [p]) ++ x :: b) (a.length : Int) = p := by
  rw [List.append_assoc]
  exact rd_mid a p (x :: b)
theorem set_mid (a : List It) (x y : It) (b : List It) : (a ++ x :: b).set a.length y = (a ++ [y]) ++ b := by
  simp

/-- What stays when the first item may leave. -/
def leaveGo (L : Int) : List It → List It
  | [] => []
  | x :: t => if x.f1 < L then x :: t else t
def leaveBag (L : Int) : List It → Int
  | [] => 0
  | x :: _ => if x.f1 < L then 0 else x.f0
def leaveOk (L : Int) : List It → Bool
  | [] => false
  | x :: _ => !decide (x.f1 < L)
/-- One tick of a belt that is not held. -/
def tickGo (G L : Int) (l : List It) : List It := stepGo G L (leaveGo L l)
def runGo (G L : Int) : Nat → List It → List It
  | 0, l => l
  | n + 1, l => runGo G L n (tickGo G L l)
theorem okRun_mono (G : Int) : ∀ (l : List It) (m0 m1 : Int) (s s' : List It), okRun G m0 s l = true → m0 ≤ m1 → (∀ b, s.any (fun y => y.f0 == b) = false → s'.any (fun y => y.f0 == b) = false) → okRun G m1 s' l = true
  | [], _, _, _, _, _, _, _ => rfl
  | x :: l, m0, m1, s, s', h, hm, hs => by
    obtain ⟨h1, h2, h3, h4⟩ := okRun_cons h
    have := okRun_mono G l _ _ (s ++ [x]) (s' ++ [x]) h4 (Int.le_refl _) (fun b hb => by
      rw [List.any_append, Bool.or_eq_false_iff] at hb ⊢
      exact ⟨hs b hb.1, hb.2⟩)
    unfold okRun
    rw [hs _ h2, this, decide_eq_true h1, decide_eq_true (show 1 ≤ x.f2 ∧ x.f2 ≤ 60 ∧ x.f2 ≤ x.f1 ∧ x.f1 ≤ m1 by omega)]
    rfl
theorem leaveGo_len (L : Int) : ∀ l : List It, (leaveGo L l).length ≤ l.length
  | [] => Nat.le_refl _
  | x :: t => by rw [leaveGo]; split <;> simp
theorem okB_of {L G : Int} {l : List It} (h1 : 1 ≤ L ∧ L ≤ 400 ∧ 0 ≤ G ∧ G ≤ 20 ∧ l.length ≤ 40) (h2 : okRun G L [] l = true) : okB L G l = true := by
  unfold okB; rw [decide_eq_true h1, h2]; rfl
theorem okB_leave {L G : Int} {l : List It} (h : okB L G l = true) : okB L G (leaveGo L l) = true := by
  have a := okB_len h
  have b := okB_run h
  have c := leaveGo_len L l
  refine okB_of ⟨a.1, a.2.1, a.2.2.1, a.2.2.2.1, by omega⟩ ?_
  cases l with
  | nil => rfl
  | cons x t =>
    rw [leaveGo]
    split
    · exact b
    · obtain ⟨h1, h2, h3, h4⟩ := okRun_cons b
      exact okRun_mono G t _ _ _ _ h4 (by omega) (fun _ _ => rfl)
theorem okB_tick {L G : Int} {l : List It} (h : okB L G l = true) : okB L G (tickGo G L l) = true := okB_step (okB_leave h)
theorem step_free (G : Int) : ∀ (l : List It) (m0 m1 : Int) (s : List It), okRun G m0 s l = true → m0 < m1 → stepGo G m1 l = l.map (fun x => (⟨x.f0, x.f1 + 1, x.f2⟩ : It))
  | [], _, _, _, _, _ => rfl
  | x :: l, m0, m1, s, h, hm => by
    obtain ⟨h1, h2, h3, h4⟩ := okRun_cons h
    unfold stepGo
    rw [if_pos (show x.f1 < m1 by omega), step_free G l _ _ _ h4 (by omega)]
    rfl
theorem tick_mem {L G : Int} {l : List It} (h : okB L G l = true) {x : It} (hx : x ∈ l) (hl : x.f1 < L) : (⟨x.f0, x.f1 + 1, x.f2⟩ : It) ∈ tickGo G L l := by
  have a := okB_len h
  have b := okB_run h
  cases l with
  | nil => simp at hx
  | cons y t =>
    obtain ⟨h1, h2, h3, h4⟩ := okRun_cons b
    rw [tickGo, leaveGo]
    by_cases c : y.f1 < L
    · rw [if_pos c]
      have d : okRun G (L - 1) [] (y :: t) = true := by
        unfold okRun
        rw [h4, h2, decide_eq_true h1, decide_eq_true (show 1 ≤ y.f2 ∧ y.f2 ≤ 60 ∧ y.f2 ≤ y.f1 ∧ y.f1 ≤ L - 1 by omega)]
        rfl
      rw [step_free G _ _ L _ d (by omega)]
      exact List.mem_map.2 ⟨x, hx, rfl⟩
    · rw [if_neg c, step_free G _ _ L _ h4 (by omega)]
      rcases List.mem_cons.1 hx with rfl | hx
      · omega
      · exact List.mem_map.2 ⟨x, hx, rfl⟩
theorem run_mem {L G : Int} : ∀ (n : Nat) {l : List It}, okB L G l = true → ∀ {x : It}, x ∈ l → x.f1 + n ≤ L → (⟨x.f0, x.f1 + n, x.f2⟩ : It) ∈ runGo G L n l
  | 0, l, h, x, hx, hl => by
    have e : (⟨x.f0, x.f1 + ((0 : Nat) : Int), x.f2⟩ : It) = x := by simp
    rw [e]; exact hx
  | n + 1, l, h, x, hx, hl => by
    have := run_mem n (okB_tick h) (tick_mem h hx (by omega)) (by simp only []; omega)
    have e : (⟨x.f0, x.f1 + ((n + 1 : Nat) : Int), x.f2⟩ : It) = ⟨x.f0, x.f1 + 1 + (n : Int), x.f2⟩ := by simp; omega
    rw [e]; exact this
/-- What Leave returns. -/
def leaveR (L G : Int) (H : Bool) (l : List It) : List It × Int × Bool := if okB L G l = true ∧ H = false then (leaveGo L l, leaveBag L l, leaveOk L l) else (l, 0, false)
theorem leaveR_len (L G : Int) (H : Bool) (l : List It) : (leaveR L G H l).1.length ≤ l.length := by
  unfold leaveR
  split
  · exact leaveGo_len L l
  · exact Nat.le_refl _
theorem leaveR_no {L G : Int} {H : Bool} {l : List It} (h : ¬ (okB L G l = true ∧ H = false)) : leaveR L G H l = (l, 0, false) := by unfold leaveR; rw [if_neg h]
theorem leaveR_yes {L G : Int} {l : List It} (h : okB L G l = true) : leaveR L G false l = (leaveGo L l, leaveBag L l, leaveOk L l) := by unfold leaveR; rw [if_pos ⟨h, rfl⟩]


theorem impl_leaveR_ev (L G : Int) (H : Bool) (l : List It) (hl : l.length ≤ 1048600) : Ev (fun k => impl_Leave.f k L G H l) (L, G, H, leaveR L G H l) := by
  unfold impl_Leave.f
  simp only [copy_ev L G H l hl, Option.bind_some]
  refine ev_bind _ (impl_ok_ev L G H l) ?_
  cases h : okB L G l with
  | false => rw [leaveR_no (by rw [h]; simp)]; simp only [Bool.false_eq_true, if_false]; exact Ev.now _
  | true =>
    simp only [if_true]
    cases H with
    | true => rw [leaveR_no (by simp)]; simp only [if_true]; exact Ev.now _
    | false =>
      rw [leaveR_yes h]
      simp only [Bool.false_eq_true, if_false]
      cases l with
      | nil => simp only [List.length_nil]; exact Ev.now _
      | cons x t =>
        have e : rd_T53 (x :: t) 0 = x := rfl
        simp only [if_neg (show ¬ ((x :: t).length : Int) = 0 by rw [List.length_cons]; omega), if_pos (show (0 : Int) < ((x :: t).length : Int) by rw [List.length_cons]; omega), e, leaveGo, leaveBag, leaveOk]
        by_cases c : x.f1 < L
        · simp only [if_pos c, decide_eq_true c]; exact Ev.now _
        · simp only [if_neg c, decide_eq_false c, if_pos (show (1 : Int) ≤ ((x :: t).length : Int) by rw [List.length_cons]; omega)]
          exact Ev.now _
theorem spec_leaveR_ev (L G : Int) (H : Bool) (l : List It) (hl : l.length ≤ 1048600) : Ev (fun k => spec_Leave.f k L G H l) (L, G, H, leaveR L G H l) := by
  unfold spec_Leave.f
  simp only [fresh_ev L G H l hl, Option.bind_some]
  refine ev_bind _ (spec_ok_ev L G H l) ?_
  cases h : okB L G l with
  | false => rw [leaveR_no (by rw [h]; simp)]; simp only [Bool.false_eq_true, if_false]; exact Ev.now _
  | true =>
    simp only [if_true]
    cases H with
    | true => rw [leaveR_no (by simp)]; simp only [if_true]; exact Ev.now _
    | false =>
      rw [leaveR_yes h]
      simp only [Bool.false_eq_true, if_false]
      have a := okB_len h
      cases l with
      | nil => simp only [List.length_nil]; exact Ev.now _
      | cons x t =>
        have e : rd_T53 (x :: t) 0 = x := rfl
        simp only [if_neg (show ¬ ((x :: t).length : Int) = 0 by rw [List.length_cons]; omega), if_pos (show (0 : Int) < ((x :: t).length : Int) by rw [List.length_cons]; omega), e, leaveGo, leaveBag, leaveOk]
        by_cases c : x.f1 < L
        · simp only [if_pos c, decide_eq_true c]; exact Ev.now _
        · have a5 := a.2.2.2.2
          simp only [if_neg c, decide_eq_false c, if_pos (show (1 : Int) ≤ ((x :: t).length : Int) by rw [List.length_cons]; omega), Option.bind_some, List.drop_succ_cons, List.drop_zero, List.nil_append, List.length_nil, Nat.zero_add, if_pos (show t.length < 5864062014805 by simp at a5; omega)]
          exact Ev.now _
theorem impl_step_loop (L G : Int) (H : Bool) (hG : 0 ≤ G ∧ G ≤ 20) : ∀ (rest done : List It) (n most m0 : Int) (seen : List It), okRun G m0 seen rest = true → m0 ≤ most → most ≤ 400 → -100 ≤ m0 → 0 ≤ n → n ≤ (done.length : Int) → (done ++ rest).length ≤ 40 →
    Ev (fun k => impl_stepped.l0 k n most ((done ++ rest).length : Int) (done.length : Int) L G H (done ++ rest)) (n + (stepN G most rest : Int), done ++ stepGo G most rest)
  | [], done, n, most, m0, seen, _, _, _, _, _, _, _ => by
    refine Ev.step (fun k => by rw [impl_stepped.l0, if_neg (by simp)]) (ev_some ?_)
    simp [stepN, stepGo]
  | x :: rest, done, n, most, m0, seen, h, hm, h4, hl, hn0, hn1, hlen => by
    obtain ⟨h1, h2, h3, h5⟩ := okRun_cons h
    have hlt : (done.length : Int) < ((done ++ x :: rest).length : Int) := by simp; omega
    have hlen' : done.length ≤ 40 := by simp at hlen; omega
    have e1 : wrap64 ((done.length : Int) + 1) = ((done.length + 1 : Nat) : Int) := w64 (by omega) (by omega)
    refine Ev.step (fun k => by rw [impl_stepped.l0, if_pos hlt, if_pos (show (0 : Int) ≤ (done.length : Int) by omega), if_pos hlt, rd_mid]) ?_
    unfold stepGo stepN
    by_cases c : x.f1 < most
    · simp only [if_pos c, Option.bind_some, Int.toNat_natCast, set_mid]
      rw [w64 (x := x.f1 + 1) (by omega) (by omega)]
      have hr : rd_T53 ((done ++ [⟨x.f0, x.f1 + 1, x.f2⟩]) ++ rest) (done.length : Int) = ⟨x.f0, x.f1 + 1, x.f2⟩ := by rw [List.append_assoc]; exact rd_mid _ _ _
      rw [hr]
      simp only
      rw [w64 (x := x.f1 + 1 - x.f2) (by omega) (by omega), w64 (x := x.f1 + 1 - x.f2 - G) (by omega) (by omega), w64 (x := n + 1) (by omega) (by omega), e1]
      have := impl_step_loop L G H hG rest (done ++ [⟨x.f0, x.f1 + 1, x.f2⟩]) (n + 1) (x.f1 + 1 - x.f2 - G) (x.f1 - x.f2 - G) (seen ++ [x]) h5 (by omega) (by omega) (by omega) (by omega) (by simp only [List.length_append, List.length_cons, List.length_nil]; omega) (by simp only [List.length_append, List.length_cons, List.length_nil] at hlen ⊢; omega)
      have el : (((done ++ [(⟨x.f0, x.f1 + 1, x.f2⟩ : It)]) ++ rest).length : Int) = ((done ++ x :: rest).length : Int) := by simp
      have ed : ((done ++ [(⟨x.f0, x.f1 + 1, x.f2⟩ : It)]).length : Int) = ((done.length + 1 : Nat) : Int) := by simp
      rw [el, ed] at this
      have er : (n + 1 + (stepN G (x.f1 + 1 - x.f2 - G) rest : Int), (done ++ [(⟨x.f0, x.f1 + 1, x.f2⟩ : It)]) ++ stepGo G (x.f1 + 1 - x.f2 - G) rest) = (n + ((1 + stepN G (x.f1 + 1 - x.f2 - G) rest : Nat) : Int), done ++ ⟨x.f0, x.f1 + 1, x.f2⟩ :: stepGo G (x.f1 + 1 - x.f2 - G) rest) := by
        rw [List.append_assoc]
        simp
        omega
      rw [er] at this
      exact this
    · simp only [if_neg c]
      rw [w64 (x := x.f1 - x.f2) (by omega) (by omega), w64 (x := x.f1 - x.f2 - G) (by omega) (by omega), e1]
      have := impl_step_loop L G H hG rest (done ++ [x]) n (x.f1 - x.f2 - G) (x.f1 - x.f2 - G) (seen ++ [x]) h5 (by omega) (by omega) (by omega) (by omega) (by simp only [List.length_append, List.length_cons, List.length_nil]; omega) (by simp only [List.length_append, List.length_cons, List.length_nil] at hlen ⊢; omega)
      have ed : ((done ++ [x]).length : Int) = ((done.length + 1 : Nat) : Int) := by simp
      rw [ed, List.append_assoc, List.append_assoc] at this
      exact this
theorem impl_step_ev {L G : Int} (H : Bool) {l : List It} (h : okB L G l = true) : Ev (fun k => impl_stepped.f k L G H l) ((stepN G L l : Int), stepGo G L l) := by
  have h1 := okB_len h
  unfold impl_stepped.f
  have := impl_step_loop L G H (by omega) l [] 0 L L [] (okB_run h) (Int.le_refl _) (by omega) (by omega) (Int.le_refl _) (by simp) (by simpa using h1.2.2.2.2)
  simpa using this
theorem spec_step_loop (L G : Int) (H : Bool) (l0 : List It) (hG : 0 ≤ G ∧ G ≤ 20) : ∀ (rest done : List It) (most m0 : Int) (seen : List It), okRun G m0 seen rest = true → m0 ≤ most → most ≤ 400 → -100 ≤ m0 → (done ++ rest).length ≤ 40 →
    ((done = [] ∧ most = L) ∨ ∃ d p, done = d ++ [p] ∧ most = p.f1 - p.f2 - G ∧ p.f1 ≤ 400 ∧ 0 ≤ p.f2 ∧ p.f2 ≤ 60 ∧ 0 ≤ p.f1) →
    Ev (fun k => spec_l02Step.l0 k (done ++ rest) (done.length : Int) L G H l0) (L, G, H, done ++ stepGo G most rest)
  | [], done, most, m0, seen, _, _, _, _, _, _ => by
    refine Ev.step (fun k => by rw [spec_l02Step.l0, if_neg (by simp)]) (ev_some ?_)
    simp [stepGo]
  | x :: rest, done, most, m0, seen, h, hm, h4, hl, hlen, hp => by
    obtain ⟨h1, h2, h3, h5⟩ := okRun_cons h
    have hlt : (done.length : Int) < ((done ++ x :: rest).length : Int) := by simp; omega
    have hlen' : done.length ≤ 40 := by simp at hlen; omega
    have e1 : wrap64 ((done.length : Int) + 1) = ((done.length + 1 : Nat) : Int) := w64 (by omega) (by omega)
    have hyes : x.f1 < most → Ev (fun k => spec_l02Step.l0 k ((done ++ x :: rest).set done.length ⟨x.f0, wrap64 (x.f1 + 1), x.f2⟩) (wrap64 ((done.length : Int) + 1)) L G H l0) (L, G, H, done ++ stepGo G most (x :: rest)) := by
      intro c
      rw [set_mid, w64 (x := x.f1 + 1) (by omega) (by omega), e1]
      have := spec_step_loop L G H l0 hG rest (done ++ [⟨x.f0, x.f1 + 1, x.f2⟩]) (x.f1 + 1 - x.f2 - G) (x.f1 - x.f2 - G) (seen ++ [x]) h5 (by omega) (by omega) (by omega) (by simp at hlen ⊢; omega) (.inr ⟨done, _, rfl, rfl, by simp only; omega, by simp only; omega, by simp only; omega, by simp only; omega⟩)
      have ed : ((done ++ [(⟨x.f0, x.f1 + 1, x.f2⟩ : It)]).length : Int) = ((done.length + 1 : Nat) : Int) := by simp
      have er : (done ++ [(⟨x.f0, x.f1 + 1, x.f2⟩ : It)]) ++ stepGo G (x.f1 + 1 - x.f2 - G) rest = done ++ stepGo G most (x :: rest) := by
        rw [stepGo, if_pos c, List.append_assoc]; rfl
      rw [ed, er] at this
      exact this
    have hno : ¬ x.f1 < most → Ev (fun k => spec_l02Step.l0 k (done ++ x :: rest) (wrap64 ((done.length : Int) + 1)) L G H l0) (L, G, H, done ++ stepGo G most (x :: rest)) := by
      intro c
      rw [e1]
      have := spec_step_loop L G H l0 hG rest (done ++ [x]) (x.f1 - x.f2 - G) (x.f1 - x.f2 - G) (seen ++ [x]) h5 (by omega) (by omega) (by omega) (by simp at hlen ⊢; omega) (.inr ⟨done, _, rfl, rfl, by omega, by omega, by omega, by omega⟩)
      have ed : ((done ++ [x]).length : Int) = ((done.length + 1 : Nat) : Int) := by simp
      have er : (done ++ [x]) ++ stepGo G (x.f1 - x.f2 - G) rest = done ++ stepGo G most (x :: rest) := by
        rw [stepGo, if_neg c, List.append_assoc]; rfl
      have er2 : (done ++ [x]) ++ rest = done ++ x :: rest := by rw [List.append_assoc]; rfl
      rw [ed, er, er2] at this
      exact this
    rcases hp with ⟨rfl, rfl⟩ | ⟨d, p, rfl, rfl, b1, b2, b3, b4⟩
    · refine Ev.step (fun k => by rw [spec_l02Step.l0, if_pos hlt, if_neg (show ¬ (([] : List It).length : Int) > 0 by simp), if_pos (show (0 : Int) ≤ (([] : List It).length : Int) by simp), rd_mid]) ?_
      by_cases c : x.f1 < most
      · simp only [if_pos c]; exact hyes c
      · simp only [if_neg c]; exact hno c
    · have e2 : wrap64 (((d ++ [p]).length : Int) - 1) = (d.length : Int) := by rw [w64 (by omega) (by omega)]; simp
      refine Ev.step (fun k => by rw [spec_l02Step.l0, if_pos hlt, if_pos (show ((d ++ [p]).length : Int) > 0 by simp only [List.length_append, List.length_cons, List.length_nil]; omega), e2, if_pos (show (0 : Int) ≤ (d.length : Int) by omega), if_pos (by simp only [List.length_append, List.length_cons, List.length_nil]; omega), if_pos (show (0 : Int) ≤ ((d ++ [p]).length : Int) by omega), rd_mid, rd_mid', w64 (x := p.f1 - p.f2) (by omega) (by omega), w64 (x := p.f1 - p.f2 - G) (by omega) (by omega)]) ?_
      by_cases c : x.f1 < p.f1 - p.f2 - G
      · simp only [if_pos c]; exact hyes c
      · simp only [if_neg c]; exact hno c
theorem spec_step_ev {L G : Int} (H : Bool) {l : List It} (h : okB L G l = true) : Ev (fun k => spec_l02Step.f k L G H l) (L, G, H, stepGo G L l) := by
  have h1 := okB_len h
  unfold spec_l02Step.f
  simp only [Option.bind_some, List.nil_append, List.length_nil, Nat.zero_add, if_pos (show l.length < 5864062014805 by omega)]
  have := spec_step_loop L G H l (by omega) l [] L L [] (okB_run h) (Int.le_refl _) (by omega) (by omega) (by simpa using h1.2.2.2.2) (.inl ⟨rfl, rfl⟩)
  simpa using this



def eqCnt : List It → List It → Nat
  | x :: l, y :: m => (if y.f1 = x.f1 then 1 else 0) + eqCnt l m
  | _, _ => 0
theorem eqCnt_step (G : Int) : ∀ (l : List It) (most : Int), eqCnt l (stepGo G most l) + stepN G most l = l.length
  | [], _ => rfl
  | x :: l, most => by
    unfold stepGo stepN
    by_cases c : x.f1 < most
    · simp only [if_pos c, eqCnt, if_neg (show ¬ (x.f1 + 1 = x.f1) by omega)]
      have := eqCnt_step G l (x.f1 + 1 - x.f2 - G)
      simp only [List.length_cons]; omega
    · simp only [if_neg c, eqCnt, if_true]
      have := eqCnt_step G l (x.f1 - x.f2 - G)
      simp only [List.length_cons]; omega
theorem spec_back_loop (L G : Int) (H : Bool) (L' G' : Int) (H' : Bool) (l m : List It) (hl : l.length ≤ 40) (hm : m.length = l.length) (d : Nat) : ∀ (i : Nat) (n : Int), i + d = l.length → 0 ≤ n → n ≤ i →
    Ev (fun k => spec_Backlog.l0 k n i L G H l L' G' H' m) (n + (eqCnt (l.drop i) (m.drop i) : Int)) := by
  induction d with
  | zero =>
    intro i n hi _ _
    rw [List.drop_eq_nil_of_le (by omega)]
    exact Ev.step (f := fun _ => some n) (fun k => by rw [spec_Backlog.l0, if_neg (show ¬ (i : Int) < (l.length : Int) by omega)]) (ev_some (by simp [eqCnt]))
  | succ d ih =>
    intro i n hi h0 h1
    have hlt : i < l.length := by omega
    have e1 : wrap64 ((i : Int) + 1) = ((i + 1 : Nat) : Int) := w64 (by omega) (by omega)
    have e2 : wrap64 (n + 1) = n + 1 := w64 (by omega) (by omega)
    rw [drop_item l i hlt, drop_item m i (by omega), eqCnt]
    refine Ev.step (fun k => by rw [spec_Backlog.l0, if_pos (show (i : Int) < (l.length : Int) by omega), if_pos (show (0 : Int) ≤ (i : Int) by omega), if_pos (show (i : Int) < (m.length : Int) by omega), e1, e2]) ?_
    by_cases c : (rd_T53 m (i : Int)).f1 = (rd_T53 l (i : Int)).f1
    · simp only [if_pos c]
      have := ih (i + 1) (n + 1) (by omega) (by omega) (by omega)
      have e : n + ((1 + eqCnt (l.drop (i + 1)) (m.drop (i + 1)) : Nat) : Int) = n + 1 + (eqCnt (l.drop (i + 1)) (m.drop (i + 1)) : Int) := by omega
      rw [e]; exact this
    · simp only [if_neg c, Nat.zero_add]
      exact ih (i + 1) n (by omega) (by omega) (by omega)
/-- What Backlog returns. -/
def backR (L G : Int) (l : List It) : Int := if okB L G l = true then (l.length : Int) - (stepN G L l : Int) else -1
theorem spec_back_ev (L G : Int) (H : Bool) (l : List It) : Ev (fun k => spec_Backlog.f k L G H l) (backR L G l) := by
  unfold spec_Backlog.f backR
  refine ev_bind _ (spec_ok_ev L G H l) ?_
  cases h : okB L G l with
  | false => simp only [Bool.false_eq_true, if_false]; exact Ev.now _
  | true =>
    simp only [if_true]
    refine ev_bind _ (spec_step_ev H h) ?_
    have := spec_back_loop L G H L G H l (stepGo G L l) (okB_len h).2.2.2.2 (stepGo_len _ _ _) l.length 0 0 (by omega) (by omega) (by omega)
    have e := eqCnt_step G l L
    rw [List.drop_zero, List.drop_zero] at this
    have e2 : (0 : Int) + (eqCnt l (stepGo G L l) : Int) = (l.length : Int) - (stepN G L l : Int) := by omega
    rw [e2] at this
    exact this
theorem impl_back_ev (L G : Int) (H : Bool) (l : List It) : Ev (fun k => impl_Backlog.f k L G H l) (backR L G l) := by
  unfold impl_Backlog.f backR
  refine ev_bind _ (impl_ok_ev L G H l) ?_
  cases h : okB L G l with
  | false => simp only [Bool.false_eq_true, if_false]; exact Ev.now _
  | true =>
    have h1 := okB_len h
    have h2 := stepN_le G l L
    simp only [if_true, copy_ev L G H l (by omega), Option.bind_some]
    refine ev_bind _ (impl_step_ev H h) ?_
    exact ev_some (w64 (by omega) (by omega))
def coverGo (p : Int) : List It → Int
  | [] => 0
  | x :: l => if p ≤ x.f1 ∧ p > x.f1 - x.f2 then x.f0 else coverGo p l
/-- What CoverAt returns. -/
def coverR (L G : Int) (l : List It) (p : Int) : Int := if okB L G l = true then coverGo p l else 0
theorem impl_cover_loop (p : Int) (l : List It) (hl : l.length ≤ 40) (hb : ∀ x ∈ l, 1 ≤ x.f2 ∧ x.f2 ≤ 60 ∧ x.f2 ≤ x.f1 ∧ x.f1 ≤ 400) (d : Nat) : ∀ i : Nat, i + d = l.length →
    Ev (fun k => impl_CoverAt.l0 k p l (l.length : Int) i) (coverGo p (l.drop i)) := by
  induction d with
  | zero =>
    intro i hi
    rw [List.drop_eq_nil_of_le (by omega)]
    exact Ev.step (f := fun _ => some 0) (fun k => by rw [impl_CoverAt.l0, if_neg (show ¬ (i : Int) < (l.length : Int) by omega)]) (ev_some rfl)
  | succ d ih =>
    intro i hi
    have hlt : i < l.length := by omega
    have e1 : wrap64 ((i : Int) + 1) = ((i + 1 : Nat) : Int) := w64 (by omega) (by omega)
    have hx := hb _ (rd_mem l i hlt)
    have e2 : wrap64 ((rd_T53 l (i : Int)).f1 - (rd_T53 l (i : Int)).f2) = (rd_T53 l (i : Int)).f1 - (rd_T53 l (i : Int)).f2 := w64 (by omega) (by omega)
    rw [drop_item l i hlt, coverGo]
    refine Ev.step (fun k => by rw [impl_CoverAt.l0, if_pos (show (i : Int) < (l.length : Int) by omega), if_pos (show (0 : Int) ≤ (i : Int) by omega), if_pos (show (i : Int) < (l.length : Int) by omega), e1, e2]) ?_
    have hr := ih (i + 1) (by omega)
    by_cases c1 : p ≤ (rd_T53 l (i : Int)).f1
    · by_cases c2 : p > (rd_T53 l (i : Int)).f1 - (rd_T53 l (i : Int)).f2
      · simp only [if_pos c1, if_pos c2, and_self, if_true, c1, c2]; exact Ev.now _
      · rw [if_neg (by omega)]; simp only [if_pos c1, if_neg c2]; exact hr
    · rw [if_neg (by omega)]; simp only [if_neg c1]; exact hr
theorem okB_bounds {L G : Int} {l : List It} (h : okB L G l = true) : ∀ x ∈ l, 1 ≤ x.f2 ∧ x.f2 ≤ 60 ∧ x.f2 ≤ x.f1 ∧ x.f1 ≤ 400 := by
  intro x hx
  have h1 := okB_mem h x hx
  have h2 := okB_len h
  omega
theorem impl_cover_ev (L G : Int) (H : Bool) (l : List It) (p : Int) : Ev (fun k => impl_CoverAt.f k L G H l p) (coverR L G l p) := by
  unfold impl_CoverAt.f coverR
  refine ev_bind _ (impl_ok_ev L G H l) ?_
  cases h : okB L G l with
  | false => simp only [Bool.false_eq_true, if_false]; exact Ev.now _
  | true =>
    simp only [if_true]
    exact impl_cover_loop p l (okB_len h).2.2.2.2 (okB_bounds h) l.length 0 (by omega)
theorem byte_ok (b : List Int) (i h : Int) (hi : 0 ≤ i) (hb : b.length ≤ 140737488351232) :
    ∃ x i' h', spec_l01Byte.f b i h = some (x, i', h') ∧ 0 ≤ x ∧ x ≤ 255 ∧ 0 ≤ i' := by
  unfold spec_l01Byte.f
  by_cases h1 : i < (b.length : Int)
  · rw [if_pos h1, if_pos hi]
    refine ⟨_, _, _, rfl, (mask255 _).1, (mask255 _).2, ?_⟩
    rw [w64 (by omega) (by omega)]; omega
  · rw [if_neg h1]
    exact ⟨_, _, _, rfl, (mask255 _).1, (mask255 _).2, hi⟩
theorem below_ok (b : List Int) (i h n : Int) (hi : 0 ≤ i) (hb : b.length ≤ 140737488351232) :
    ∃ x i' h', spec_l01Below.f b i h n = some (x, i', h') ∧ (n ≤ 0 → x = 0) ∧ (0 < n → 0 ≤ x ∧ x < n) ∧ 0 ≤ i' := by
  unfold spec_l01Below.f
  by_cases h0 : n ≤ 0
  · rw [if_pos h0]
    exact ⟨_, _, _, rfl, fun _ => rfl, fun hn => by omega, hi⟩
  · rw [if_neg h0]
    by_cases h1 : n ≤ 256
    · rw [if_pos h1]
      obtain ⟨x, i', h', e, hx0, hx1, hi'⟩ := byte_ok b i h hi hb
      rw [e, Option.bind_some]
      simp only [if_neg (show ¬ n = 0 by omega)]
      have hm := Int.tmod_eq_emod_of_nonneg (b := n) hx0
      have := Int.emod_nonneg x (show n ≠ 0 by omega)
      have := Int.emod_lt_of_pos x (show 0 < n by omega)
      exact ⟨_, _, _, rfl, fun hn => by omega, fun _ => by rw [hm]; omega, hi'⟩
    · rw [if_neg h1]
      obtain ⟨x, i1, g1, e1, hx0, hx1, hi1⟩ := byte_ok b i h hi hb
      obtain ⟨y, i2, g2, e2, hy0, hy1, hi2⟩ := byte_ok b i1 g1 hi1 hb
      obtain ⟨z, i3, g3, e3, hz0, hz1, hi3⟩ := byte_ok b i2 g2 hi2 hb
      obtain ⟨v, i4, g4, e4, hv0, hv1, hi4⟩ := byte_ok b i3 g3 hi3 hb
      simp only [e1, e2, e3, e4, Option.bind_some, if_neg (show ¬ n = 0 by omega)]
      have w1 : wrap64 (x * 16777216) = x * 16777216 := w64 (by omega) (by omega)
      have w2 : wrap64 (y * 65536) = y * 65536 := w64 (by omega) (by omega)
      have w3 : wrap64 (z * 256) = z * 256 := w64 (by omega) (by omega)
      have w4 : wrap64 (x * 16777216 + y * 65536) = x * 16777216 + y * 65536 := w64 (by omega) (by omega)
      have w5 : wrap64 (x * 16777216 + y * 65536 + z * 256) = x * 16777216 + y * 65536 + z * 256 := w64 (by omega) (by omega)
      have w6 : wrap64 (x * 16777216 + y * 65536 + z * 256 + v) = x * 16777216 + y * 65536 + z * 256 + v := w64 (by omega) (by omega)
      rw [w1, w2, w3, w4, w5, w6]
      have hm := Int.tmod_eq_emod_of_nonneg (a := x * 16777216 + y * 65536 + z * 256 + v) (b := n) (by omega)
      have := Int.emod_nonneg (x * 16777216 + y * 65536 + z * 256 + v) (show n ≠ 0 by omega)
      have := Int.emod_lt_of_pos (x * 16777216 + y * 65536 + z * 256 + v) (show 0 < n by omega)
      exact ⟨_, _, _, rfl, fun hn => by omega, fun _ => by rw [hm]; omega, hi4⟩
theorem new_loop (b : List Int) (hb : b.length ≤ 140737488351232) (d : Nat) : ∀ (i : Nat) (h : Int), i + d = b.length → ∃ h', Ev (fun k => spec_l01New.l0 k b h i) (b, 0, h') := by
  induction d with
  | zero =>
    intro i h hi
    exact ⟨h, Ev.step (f := fun _ => some (b, 0, h)) (fun k => by rw [spec_l01New.l0, if_neg (by omega)]) (Ev.now _)⟩
  | succ d ih =>
    intro i h hi
    by_cases h4 : (i : Int) < 4000
    · obtain ⟨h', hev⟩ := ih (i + 1) (Go.bits .and .i64 (wrap64 ((wrap64 ((wrap64 (h * 131)) + (wrap64 (rd b i)))) + 7)) 1073741823) (by omega)
      refine ⟨h', Ev.step (fun k => ?_) hev⟩
      have e : wrap64 ((i : Int) + 1) = ((i + 1 : Nat) : Int) := w64 (by omega) (by omega)
      rw [spec_l01New.l0, if_pos (by omega), if_pos h4, if_pos (by omega), e]
    · exact ⟨h, Ev.step (f := fun _ => some (b, 0, h)) (fun k => by rw [spec_l01New.l0, if_pos (by omega), if_neg h4]) (Ev.now _)⟩
theorem new_ok (b : List Int) (hb : b.length ≤ 140737488351232) : ∃ h', Ev (fun k => spec_l01New.f k b) (b, 0, h') := by
  unfold spec_l01New.f
  exact new_loop b hb b.length 0 _ (by omega)
theorem once_ok (b : List Int) (i h n : Int) (hi : 0 ≤ i) (hb : b.length ≤ 140737488351232) :
    ∃ (x : Bool) (i' h' : Int), spec_l01Once.f b i h n = some (x, i', h') ∧ 0 ≤ i' := by
  unfold spec_l01Once.f
  obtain ⟨x, i1, h1, e1, _, _, hi1⟩ := below_ok b i h n hi hb
  rw [e1, Option.bind_some]
  exact ⟨_, _, _, rfl, hi1⟩
theorem pickInt_ok (b : List Int) (i h : Int) (l : List Int) (hl : 0 < l.length) (hi : 0 ≤ i) (hb : b.length ≤ 140737488351232) :
    ∃ x i' h', spec_l01PickInt.f b i h l = some (x, i', h') ∧ x ∈ l ∧ 0 ≤ i' := by
  unfold spec_l01PickInt.f
  obtain ⟨x, i1, h1, e1, _, hx, hi1⟩ := below_ok b i h l.length hi hb
  obtain ⟨h0, h2⟩ := hx (by omega)
  rw [e1, Option.bind_some]
  simp only [if_pos h0, if_pos h2]
  refine ⟨_, _, _, rfl, ?_, hi1⟩
  unfold rd
  rw [List.getD_eq_getElem?_getD, List.getElem?_eq_getElem (show x.toNat < l.length by omega)]
  exact List.getElem_mem _
theorem bags_belt_loop (b : List Int) (hb : b.length ≤ 140737488351232) (L G : Int) (H : Bool) : ∀ (n : Nat) (x4 i h : Int) (l : List It), 0 ≤ i → l.length + n ≤ 20 → (∀ y ∈ l, y.f0 < 5000) → ∃ l' i' h', Ev (fun k => spec_l02Belt.l0 k x4 (n : Int) b i h L G H l) (L, G, H, l', i', h') ∧ 0 ≤ i' ∧ l'.length ≤ 20 ∧ ∀ y ∈ l', y.f0 < 5000
  | 0, x4, i, h, l, hi, hl, hy => ⟨l, i, h, Ev.step (f := fun _ => some (L, G, H, l, i, h)) (fun k => by rw [spec_l02Belt.l0, if_neg (by omega)]) (Ev.now _), hi, by omega, hy⟩
  | n + 1, x4, i, h, l, hi, hl, hy => by
    have e1 : wrap64 (((n + 1 : Nat) : Int) - 1) = (n : Int) := by rw [w64 (by omega) (by omega)]; omega
    obtain ⟨x, i1, h1, e2, _, _, hi1⟩ := below_ok b i h 9 hi hb
    by_cases c : x4 < wrap64 (1 + x)
    · refine ⟨l, i1, h1, Ev.step (f := fun _ => some (L, G, H, l, i1, h1)) (fun k => by rw [spec_l02Belt.l0, if_pos (by omega), e2, Option.bind_some, if_pos c]) (Ev.now _), hi1, by omega, hy⟩
    · obtain ⟨y, i2, h2, e3, _, hy2, hi2⟩ := below_ok b i1 h1 9 hi1 hb
      obtain ⟨z, i3, h3, e4, _, hi3⟩ := pickInt_ok b i2 h2 [0, 0, 1, 2, 6] (by decide) hi2 hb
      have hy3 := hy2 (by omega)
      obtain ⟨l', i', h', e5, hi', hr⟩ := bags_belt_loop b hb L G H n (wrap64 ((wrap64 ((wrap64 (x4 - (wrap64 (1 + x)))) - G)) - z)) i3 h3 (l ++ [⟨wrap64 ((wrap64 ((wrap64 (10 * (l.length : Int))) + 1)) + y), x4, wrap64 (1 + x)⟩]) hi3 (by simp; omega) (fun q hq => by
        rcases List.mem_append.1 hq with hq | hq
        · exact hy q hq
        · rw [List.mem_singleton] at hq
          subst hq
          simp only []
          rw [w64 (x := 10 * (l.length : Int)) (by omega) (by omega), w64 (x := 10 * (l.length : Int) + 1) (by omega) (by omega), w64 (by omega) (by omega)]
          omega)
      exact ⟨l', i', h', Ev.step (fun k => by rw [spec_l02Belt.l0, if_pos (by omega), e2, Option.bind_some, if_neg c, e3, Option.bind_some, if_pos (show l.length < 5864062014805 by omega), e4, Option.bind_some, e1]) e5, hi', hr⟩
theorem bags_belt (b : List Int) (hb : b.length ≤ 140737488351232) (i h : Int) (hi : 0 ≤ i) : ∃ L G H l i' h', Ev (fun k => spec_l02Belt.f k b i h) (L, G, H, l, i', h') ∧ 0 ≤ i' ∧ l.length ≤ 20 ∧ ∀ y ∈ l, y.f0 < 5000 := by
  unfold spec_l02Belt.f
  obtain ⟨x, i1, h1, e1, _, hx, hi1⟩ := below_ok b i h 60 hi hb
  obtain ⟨y, i2, h2, e2, _, hi2⟩ := pickInt_ok b i1 h1 [0, 0, 1, 2, 5] (by decide) hi1 hb
  obtain ⟨z, i3, h3, e3, hi3⟩ := once_ok b i2 h2 4 hi2 hb
  obtain ⟨v, i4, h4, e4, _, hi4⟩ := pickInt_ok b i3 h3 [0, 0, 1, 3, 10] (by decide) hi3 hb
  obtain ⟨u, i5, h5, e5, _, hu, hi5⟩ := below_ok b i4 h4 7 hi4 hb
  have hu2 := hu (by omega)
  obtain ⟨n, rfl⟩ := Int.eq_ofNat_of_zero_le hu2.1
  obtain ⟨l, i', h', e6, hi', hr⟩ := bags_belt_loop b hb (wrap64 (5 + x)) y z n (wrap64 ((wrap64 (5 + x)) - v)) i5 h5 [] hi5 (by simp; omega) (by simp)
  refine ⟨wrap64 (5 + x), y, z, l, i', h', ?_, hi', hr⟩
  simp only [e1, e2, e3, e4, e5, Option.bind_some]
  exact e6
theorem bags_any_loop (b : List Int) (hb : b.length ≤ 140737488351232) : ∀ (n x5 : Nat) (i h : Int) (l : List It), 0 ≤ i → x5 + n = 41 → l.length = x5 → (∀ y ∈ l, y.f0 < 5000) → ∃ l' i' h', Ev (fun k => spec_l02Any.l0 k x5 b i h 400 0 false l) (400, 0, false, l', i', h') ∧ 0 ≤ i' ∧ l'.length ≤ 50 ∧ ∀ y ∈ l', y.f0 < 5000
  | n, x5, i, h, l, hi, hn, hl, hy => by
    obtain ⟨x, i1, h1, e1, _, hx, hi1⟩ := below_ok b i h 2 hi hb
    have hx2 := hx (by omega)
    have e2 : wrap64 (40 + x) = 40 + x := w64 (by omega) (by omega)
    by_cases c : (x5 : Int) < 40 + x
    · cases n with
      | zero => omega
      | succ n =>
        have e3 : wrap64 ((x5 : Int) + 1) = ((x5 + 1 : Nat) : Int) := w64 (by omega) (by omega)
        obtain ⟨l', i', h', e5, hi', hr⟩ := bags_any_loop b hb n (x5 + 1) i1 h1 (l ++ [⟨((x5 + 1 : Nat) : Int), wrap64 (400 - x5), 1⟩]) hi1 (by omega) (by simp [hl]) (fun q hq => by
          rcases List.mem_append.1 hq with hq | hq
          · exact hy q hq
          · rw [List.mem_singleton] at hq
            subst hq
            simp only []
            omega)
        exact ⟨l', i', h', Ev.step (fun k => by rw [spec_l02Any.l0, e1, Option.bind_some, e2, if_pos c, if_pos (show l.length < 5864062014805 by omega), e3]) e5, hi', hr⟩
    · exact ⟨l, i1, h1, Ev.step (f := fun _ => some (400, 0, false, l, i1, h1)) (fun k => by rw [spec_l02Any.l0, e1, Option.bind_some, e2, if_neg c]) (Ev.now _), hi1, by omega, hy⟩
theorem set_bags {l : List It} (h : ∀ y ∈ l, y.f0 < 5000) (j : Nat) (x : It) (hx : x.f0 < 5000) : ∀ y ∈ l.set j x, y.f0 < 5000 := fun y hy => by
  rcases List.mem_or_eq_of_mem_set hy with hy | hy
  · exact h y hy
  · rw [hy]; exact hx
theorem rd_bags {l : List It} (h : ∀ y ∈ l, y.f0 < 5000) (j : Int) : (rd_T53 l j).f0 < 5000 := by
  unfold rd_T53
  rw [List.getD_eq_getElem?_getD]
  cases e : l[j.toNat]? with
  | none => decide
  | some x => exact h x (List.mem_of_getElem? e)
theorem any_ok (b : List Int) (hb : b.length ≤ 140737488351232) (i h : Int) (hi : 0 ≤ i) : ∃ L G H l i' h', Ev (fun k => spec_l02Any.f k b i h) (L, G, H, l, i', h') ∧ 0 ≤ i' ∧ l.length ≤ 50 ∧ ∀ y ∈ l, y.f0 < 5000 := by
  unfold spec_l02Any.f
  obtain ⟨L, G, H, l, i1, h1, e1, hi1, hl, hy⟩ := bags_belt b hb i h hi
  obtain ⟨x, i2, h2, e2, _, _, hi2⟩ := below_ok b i1 h1 18 hi1 hb
  by_cases c0 : x = 0
  · obtain ⟨z, i3, h3, e3, _, hi3⟩ := pickInt_ok b i2 h2 [0, 400, 401, (-1)] (by decide) hi2 hb
    exact ⟨z, G, H, l, i3, h3, ev_bind _ e1 (by simp only [e2, e3, Option.bind_some, if_pos c0]; exact Ev.now _), hi3, by omega, hy⟩
  by_cases c1 : x = 1
  · obtain ⟨z, i3, h3, e3, _, hi3⟩ := pickInt_ok b i2 h2 [(-1), 20, 21] (by decide) hi2 hb
    exact ⟨L, z, H, l, i3, h3, ev_bind _ e1 (by simp only [e2, e3, Option.bind_some, if_neg c0, if_pos c1]; exact Ev.now _), hi3, by omega, hy⟩
  have e4 : wrap64 ((l.length : Int) - 1) = (l.length : Int) - 1 := w64 (by omega) (by omega)
  by_cases c2 : x = 2
  · by_cases d : (l.length : Int) > 1
    · refine ⟨L, G, H, _, i2, h2, ev_bind _ e1 (by simp only [e2, e4, Option.bind_some, if_neg c0, if_neg c1, if_pos c2, if_pos d, if_pos (show (0 : Int) < (l.length : Int) by omega), if_pos (show (0 : Int) ≤ (l.length : Int) - 1 by omega), if_pos (show (l.length : Int) - 1 < (l.length : Int) by omega)]; exact Ev.now _), hi2, by rw [List.length_set]; omega, set_bags hy ((l.length : Int) - 1).toNat ⟨(rd_T53 l 0).f0, (rd_T53 l ((l.length : Int) - 1)).f1, (rd_T53 l ((l.length : Int) - 1)).f2⟩ (rd_bags hy 0)⟩
    · exact ⟨L, G, H, l, i2, h2, ev_bind _ e1 (by simp only [e2, Option.bind_some, if_neg c0, if_neg c1, if_pos c2, if_neg d]; exact Ev.now _), hi2, by omega, hy⟩
  by_cases c3 : x = 3
  · by_cases d : (l.length : Int) > 0
    · obtain ⟨z, i3, h3, e3, _, hi3⟩ := pickInt_ok b i2 h2 [1, (-1), 9] (by decide) hi2 hb
      refine ⟨L, G, H, _, i3, h3, ev_bind _ e1 (by simp only [e2, e3, e4, Option.bind_some, if_neg c0, if_neg c1, if_neg c2, if_pos c3, if_pos d, if_pos (show (0 : Int) ≤ (l.length : Int) - 1 by omega), if_pos (show (l.length : Int) - 1 < (l.length : Int) by omega)]; exact Ev.now _), hi3, by rw [List.length_set]; omega, set_bags hy ((l.length : Int) - 1).toNat ⟨(rd_T53 l ((l.length : Int) - 1)).f0, wrap64 ((rd_T53 l ((l.length : Int) - 1)).f1 + z), (rd_T53 l ((l.length : Int) - 1)).f2⟩ (rd_bags hy ((l.length : Int) - 1))⟩
    · exact ⟨L, G, H, l, i2, h2, ev_bind _ e1 (by simp only [e2, Option.bind_some, if_neg c0, if_neg c1, if_neg c2, if_pos c3, if_neg d]; exact Ev.now _), hi2, by omega, hy⟩
  by_cases c4 : x = 4
  · by_cases d : (l.length : Int) > 0
    · obtain ⟨z, i3, h3, e3, _, hi3⟩ := pickInt_ok b i2 h2 [0, 61, 60, (-1)] (by decide) hi2 hb
      refine ⟨L, G, H, _, i3, h3, ev_bind _ e1 (by simp only [e2, e3, Option.bind_some, if_neg c0, if_neg c1, if_neg c2, if_neg c3, if_pos c4, if_pos d, if_pos (show (0 : Int) < (l.length : Int) by omega)]; exact Ev.now _), hi3, by rw [List.length_set]; omega, set_bags hy (0 : Int).toNat ⟨(rd_T53 l 0).f0, (rd_T53 l 0).f1, z⟩ (rd_bags hy 0)⟩
    · exact ⟨L, G, H, l, i2, h2, ev_bind _ e1 (by simp only [e2, Option.bind_some, if_neg c0, if_neg c1, if_neg c2, if_neg c3, if_pos c4, if_neg d]; exact Ev.now _), hi2, by omega, hy⟩
  by_cases c5 : x = 5
  · obtain ⟨l', i', h', e5, hi', hr⟩ := bags_any_loop b hb 41 0 i2 h2 [] hi2 (by omega) rfl (by simp)
    exact ⟨400, 0, false, l', i', h', ev_bind _ e1 (by simp only [e2, Option.bind_some, if_neg c0, if_neg c1, if_neg c2, if_neg c3, if_neg c4, if_pos c5]; exact e5), hi', hr⟩
  · exact ⟨L, G, H, l, i2, h2, ev_bind _ e1 (by simp only [e2, Option.bind_some, if_neg c0, if_neg c1, if_neg c2, if_neg c3, if_neg c4, if_neg c5]; exact Ev.now _), hi2, by omega, hy⟩
theorem same_items_loop (l : List It) (hl : l.length ≤ 1048600) (d : Nat) : ∀ i : Nat, i + d = l.length → Ev (fun k => laws_sameItems.l0 k l l i) true := by
  induction d with
  | zero =>
    intro i hi
    exact Ev.step (fun k => by rw [laws_sameItems.l0, if_neg (show ¬ (i : Int) < (l.length : Int) by omega)]) (Ev.now _)
  | succ d ih =>
    intro i hi
    have e1 : wrap64 ((i : Int) + 1) = ((i + 1 : Nat) : Int) := w64 (by omega) (by omega)
    refine Ev.step (fun k => by rw [laws_sameItems.l0, if_pos (show (i : Int) < (l.length : Int) by omega), if_pos (show (0 : Int) ≤ (i : Int) by omega), if_pos (show (i : Int) < (l.length : Int) by omega), if_neg (by simp), e1]) ?_
    exact ih (i + 1) (by omega)
theorem same_belt_ev (L G : Int) (H : Bool) (l : List It) (hl : l.length ≤ 1048600) : Ev (fun k => laws_sameBelt.f k L G H l L G H l) true := by
  unfold laws_sameBelt.f laws_sameItems.f
  simp only [if_true, beq_self_eq_true]
  exact ev_bind _ (same_items_loop l hl l.length 0 (by omega)) (Ev.now _)
theorem okRun_snoc (G : Int) (y : It) : ∀ (l : List It) (most : Int) (s : List It), okRun G most s l = true → 1 ≤ y.f0 → (s ++ l).any (fun z => z.f0 == y.f0) = false → 1 ≤ y.f2 → y.f2 ≤ 60 → y.f2 ≤ y.f1 → y.f1 ≤ (match l.getLast? with | none => most | some x => x.f1 - x.f2 - G) → okRun G most s (l ++ [y]) = true
  | [], most, s, _, h1, h2, h3, h4, h5, h6 => by
    rw [List.append_nil] at h2
    simp only [List.getLast?_nil] at h6
    simp only [List.nil_append, okRun, Bool.and_eq_true, decide_eq_true_eq, Bool.not_eq_true', and_true]
    exact ⟨⟨h1, h2⟩, h3, h4, h5, h6⟩
  | x :: l, most, s, h, h1, h2, h3, h4, h5, h6 => by
    obtain ⟨a1, a2, a3, a4⟩ := okRun_cons h
    have := okRun_snoc G y l (x.f1 - x.f2 - G) (s ++ [x]) a4 h1 (by simpa using h2) h3 h4 h5 (by
      cases l with
      | nil => simpa using h6
      | cons z t =>
        rw [List.getLast?_cons_cons] at h6
        cases e : (z :: t).getLast? with
        | none => simp at e
        | some w => rw [e] at h6; exact h6)
    rw [List.cons_append]
    simp only [okRun, Bool.and_eq_true, decide_eq_true_eq, Bool.not_eq_true']
    exact ⟨⟨⟨a1, a2⟩, a3⟩, this⟩
theorem okB_snoc {L G : Int} {l : List It} (h : okB L G l = true) (bag size : Int) (h1 : 1 ≤ bag) (h2 : l.any (fun z => z.f0 == bag) = false) (h3 : 1 ≤ size) (h4 : size ≤ 60) (h5 : l.length < 40) (h6 : size ≤ freeR L G l) : okB L G (l ++ [⟨bag, size, size⟩]) = true := by
  have a := okB_len h
  have b := okRun_snoc G ⟨bag, size, size⟩ l L [] (okB_run h) h1 (by simpa using h2) h3 h4 (Int.le_refl _) (by
    unfold freeR at h6
    rw [if_pos h] at h6
    cases c : l.getLast? with
    | none => rw [c] at h6; exact h6
    | some x =>
      rw [c] at h6
      simp only [mx] at h6 ⊢
      split at h6 <;> omega)
  unfold okB
  rw [b, decide_eq_true (by simp only [List.length_append, List.length_cons, List.length_nil]; omega)]
  rfl
theorem last_low (G : Int) (hG : 0 ≤ G) : ∀ (l : List It) (most : Int) (s : List It), okRun G most s l = true → ∀ x ∈ l, ∀ z, l.getLast? = some z → z.f1 - z.f2 ≤ x.f1 - x.f2
  | [], _, _, _, x, hx, _, _ => by simp at hx
  | y :: [], most, s, h, x, hx, z, hz => by
    simp at hx hz
    subst hx hz
    exact Int.le_refl _
  | y :: y2 :: t, most, s, h, x, hx, z, hz => by
    obtain ⟨_, _, h3, h4⟩ := okRun_cons h
    rw [List.getLast?_cons_cons] at hz
    obtain ⟨_, _, k3, _⟩ := okRun_cons h4
    have ih := last_low G hG (y2 :: t) _ _ h4
    rcases List.mem_cons.1 hx with rfl | hx
    · have := ih y2 (by simp) z hz
      omega
    · exact ih x hx z hz
theorem cover_far (p : Int) : ∀ (l : List It) (y : It), (∀ x ∈ l, p ≤ x.f1 - x.f2) → coverGo p (l ++ [y]) = coverGo p [y]
  | [], y, _ => rfl
  | x :: l, y, h => by
    have := h x (by simp)
    rw [List.cons_append, coverGo, if_neg (by omega)]
    exact cover_far p l y (fun z hz => h z (by simp [hz]))
theorem cover_off (p : Int) : ∀ (l : List It) (y : It), p > y.f1 → coverGo p (l ++ [y]) = coverGo p l
  | [], y, h => by simp only [List.nil_append, coverGo]; rw [if_neg (by omega)]
  | x :: l, y, h => by
    rw [List.cons_append, coverGo, coverGo, cover_off p l y h]
theorem free_far {L G : Int} {l : List It} (h : okB L G l = true) (size : Int) (h1 : 1 ≤ size) (hf : size ≤ freeR L G l) : ∀ x ∈ l, size ≤ x.f1 - x.f2 := by
  intro x hx
  have a := okB_len h
  unfold freeR at hf
  rw [if_pos h] at hf
  cases c : l.getLast? with
  | none => rw [List.getLast?_eq_none_iff] at c; rw [c] at hx; simp at hx
  | some z =>
    rw [c] at hf
    have := last_low G (by omega) l L [] (okB_run h) x hx z c
    simp only [mx] at hf
    split at hf <;> omega
theorem draw_enter_ok (b : List Int) (hb : b.length ≤ 140737488351232) : ∃ L G H l bag size, Ev (fun k => spec_DrawEnter.f k b) (L, G, H, l, bag, size) ∧ l.length ≤ 50 := by
  unfold spec_DrawEnter.f
  obtain ⟨h', hn⟩ := new_ok b hb
  obtain ⟨L, G, H, l, i1, h1, e1, hi1, hl, _⟩ := any_ok b hb 0 h' (by omega)
  obtain ⟨x, i2, h2, e2, _, hi2⟩ := pickInt_ok b i1 h1 [99, 99, 99, 0, 1, 5, 11] (by decide) hi1 hb
  obtain ⟨y, i3, h3, e3, _, hi3⟩ := pickInt_ok b i2 h2 [1, 2, 3, 5, 8, 20, 60, 61, 0] (by decide) hi2 hb
  exact ⟨L, G, H, l, x, y, ev_bind _ hn (ev_bind _ e1 (by simp only [e2, e3, Option.bind_some]; exact Ev.now _)), hl⟩
theorem FnBeltEnters : laws_FnBeltEnters.Pure := by
  intro b _ hb _
  refine Ev.rounds ?_
  unfold laws_FnBeltEnters.f laws_big.f
  simp only [Option.bind_some]
  by_cases h : (b.length : Int) > 1048576
  · have e : decide ((b.length : Int) > 1048576) = true := decide_eq_true h
    simp only [e, if_true]; exact Ev.now _
  · have e : decide ((b.length : Int) > 1048576) = false := decide_eq_false h
    simp only [e, if_neg (show ¬ (false = true) by decide)]
    obtain ⟨L, G, H, l, bag, size, hd, hl⟩ := draw_enter_ok b (by omega)
    refine ev_bind _ hd ?_
    have hen := enterR_len L G l bag size
    have hle := leaveR_len L G H l
    refine ev_bind _ (impl_enter_ev L G H l bag size (by omega)) ?_
    refine ev_bind _ (spec_enter_ev L G H l bag size (by omega)) ?_
    refine ev_bind _ (impl_leaveR_ev L G H l (by omega)) ?_
    refine ev_bind _ (spec_leaveR_ev L G H l (by omega)) ?_
    simp only [bne_self_eq_false, Bool.false_eq_true, if_false]
    refine ev_bind _ (same_belt_ev L G H _ (by omega)) ?_
    simp only [if_true]
    refine ev_bind _ (same_belt_ev L G H _ (by omega)) ?_
    simp only [if_true]
    refine ev_bind _ (impl_back_ev L G H l) ?_
    refine ev_bind _ (spec_back_ev L G H l) ?_
    simp only [if_true]
    refine ev_bind _ (impl_free_ev L G H l) ?_
    refine ev_bind _ (spec_free_ev L G H l) ?_
    rw [show (freeR L G l != freeR L G l) = false by simp]
    refine Ev.step (fun k => by rw [laws_FnBeltEnters.j0, if_neg (by decide)]) ?_
    by_cases c : okB L G l = true ∧ 1 ≤ bag ∧ 1 ≤ size ∧ size ≤ 60 ∧ l.length < 40 ∧ size ≤ freeR L G l ∧ l.any (fun y => y.f0 == bag) = false
    · have hE : enterR L G l bag size = (l ++ [⟨bag, size, size⟩], true) := by unfold enterR; rw [if_pos c]
      obtain ⟨h1, h2, h3, h4, h5, h6, h7⟩ := c
      have hok := okB_snoc h1 bag size h2 h7 h3 h4 h5 h6
      have hfar := free_far h1 size h3 h6
      have e1 : wrap64 (size + 1) = size + 1 := w64 (by omega) (by omega)
      have c1 : coverR L G (l ++ [⟨bag, size, size⟩]) 1 = bag := by
        unfold coverR
        rw [if_pos hok, cover_far 1 l _ (fun x hx => by have := hfar x hx; omega), coverGo, if_pos (by simp only; omega)]
      have c2 : coverR L G (l ++ [⟨bag, size, size⟩]) size = bag := by
        unfold coverR
        rw [if_pos hok, cover_far size l _ hfar, coverGo, if_pos (by simp only; omega)]
      have c3 : coverR L G (l ++ [⟨bag, size, size⟩]) (size + 1) = coverR L G l (size + 1) := by
        unfold coverR
        rw [if_pos hok, if_pos h1, cover_off (size + 1) l _ (by simp only; omega)]
      have c4 : coverR L G (l ++ [⟨bag, size, size⟩]) 0 = 0 := by
        unfold coverR
        rw [if_pos hok, cover_far 0 l _ (fun x hx => by have := hfar x hx; omega), coverGo, if_neg (by simp only; omega), coverGo]
      simp only [hE, if_true, e1]
      refine ev_bind _ (impl_ok_ev L G H _) ?_
      simp only [hok, if_true]
      refine ev_bind _ (impl_cover_ev L G H _ _) ?_
      simp only [c1, if_true]
      refine ev_bind _ (impl_cover_ev L G H _ _) ?_
      simp only [c2, if_true]
      refine ev_bind _ (impl_cover_ev L G H _ _) ?_
      refine ev_bind _ (impl_cover_ev L G H _ _) ?_
      simp only [c3, if_true]
      refine ev_bind _ (impl_cover_ev L G H _ _) ?_
      exact ev_some (by rw [c4]; rfl)
    · have hE : enterR L G l bag size = (l, false) := by unfold enterR; rw [if_neg c]
      simp only [hE, Bool.false_eq_true, if_false]
      exact ev_bind _ (same_belt_ev L G H _ (by omega)) (Ev.now _)

end Go.Proofs.Ytbdjbdoelbmjcaa.Pure
