/- For every belt, place, time and margin the law FnExactWindows returns true (its printed function does): program and reference tell the same windows, in new memory. -/
import Derived.Test.YtnnimbbffbfhoaaPFnExactWindowsx8
import Derived.Test.YtnnimbbffbfhoaaKit
namespace Go.Proofs.Ytnnimbbffbfhoaa.Pure
open Go.RowKit Go.Proofs.Ytnnimbbffbfhoaa.PFnExactWindows Go.Proofs.YtnnimbbffbfhoaaW.PrintWords Go.Proofs.YtnnimbbffbfhoaaW.PrintLast Go.Proofs.YtnnimbbffbfhoaaW.PrintMore Go.Proofs.Ytnnimbbffbfhoaa.Kit
set_option linter.unusedVariables false
set_option linter.unusedSimpArgs false

abbrev Expect := S47
theorem rd_Expect (l : List Expect) (i : Nat) (h : i < l.length) : rd_T47 l (i : Int) = l[i] := by
  simp [rd_T47, List.getD_eq_getElem?_getD, List.getElem?_eq_getElem h]
theorem drop_Expect (l : List Expect) (i : Nat) (h : i < l.length) : l.drop i = rd_T47 l (i : Int) :: l.drop (i + 1) := by
  rw [List.drop_eq_getElem_cons h, rd_Expect l i h]
theorem take_Expect (l : List Expect) (i : Nat) (h : i < l.length) : l.take (i + 1) = l.take i ++ [rd_T47 l (i : Int)] := by
  rw [rd_Expect l i h, List.take_succ_eq_append_getElem h]
abbrev It := S74
theorem rd_item (l : List It) (i : Nat) (h : i < l.length) : rd_T74 l (i : Int) = l[i] := by
  simp [rd_T74, List.getD_eq_getElem?_getD, List.getElem?_eq_getElem h]
theorem drop_item (l : List It) (i : Nat) (h : i < l.length) : l.drop i = rd_T74 l (i : Int) :: l.drop (i + 1) := by
  rw [List.drop_eq_getElem_cons h, rd_item l i h]
theorem take_item (l : List It) (i : Nat) (h : i < l.length) : l.take (i + 1) = l.take i ++ [rd_T74 l (i : Int)] := by
  rw [rd_item l i h, List.take_succ_eq_append_getElem h]
/-- Items in order, behind a place and apart, their bags other than those met. -/
def okRun (G : Int) : Int → List It → List It → Bool
  | _, _, [] => true
  | most, seen, x :: l => decide (1 ≤ x.f0) && !(seen.any (fun y => y.f0 == x.f0)) && decide (1 ≤ x.f2 ∧ x.f2 ≤ 60 ∧ x.f2 ≤ x.f1 ∧ x.f1 ≤ most) && okRun G (x.f1 - x.f2 - G) (seen ++ [x]) l
def okB (L G : Int) (l : List It) : Bool := decide (1 ≤ L ∧ L ≤ 400 ∧ 0 ≤ G ∧ G ≤ 20 ∧ l.length ≤ 40) && okRun G L [] l
theorem okB_len {L G : Int} {l : List It} (h : okB L G l = true) : 1 ≤ L ∧ L ≤ 400 ∧ 0 ≤ G ∧ G ≤ 20 ∧ l.length ≤ 40 := by
  unfold okB at h
  simp only [Bool.and_eq_true, decide_eq_true_eq] at h
  exact h.1
theorem okB_run {L G : Int} {l : List It} (h : okB L G l = true) : okRun G L [] l = true := by
  unfold okB at h
  simp only [Bool.and_eq_true] at h
  exact h.2
theorem okRun_cons {G most : Int} {seen : List It} {x : It} {l : List It} (h : okRun G most seen (x :: l) = true) :
    1 ≤ x.f0 ∧ seen.any (fun y => y.f0 == x.f0) = false ∧ (1 ≤ x.f2 ∧ x.f2 ≤ 60 ∧ x.f2 ≤ x.f1 ∧ x.f1 ≤ most) ∧ okRun G (x.f1 - x.f2 - G) (seen ++ [x]) l = true := by
  simp only [okRun, Bool.and_eq_true, decide_eq_true_eq, Bool.not_eq_true'] at h
  exact ⟨h.1.1.1, h.1.1.2, h.1.2, h.2⟩
theorem impl_ok_loop (L G : Int) (H : Bool) (l : List It) (hG : 0 ≤ G ∧ G ≤ 20) (hl : l.length ≤ 40) (d : Nat) : ∀ (i : Nat) (most : Int), i + d = l.length → -100 ≤ most → most ≤ 400 →
    Ev (fun k => impl_BeltOk.l0 k most l (l.length : Int) i L G H l) (okRun G most (l.take i) (l.drop i)) := by
  induction d with
  | zero =>
    intro i most hi h0 h1
    rw [List.drop_eq_nil_of_le (by omega)]
    exact Ev.step (f := fun _ => some true) (fun k => by rw [impl_BeltOk.l0, if_neg (show ¬ (i : Int) < (l.length : Int) by omega)]) (ev_some rfl)
  | succ d ih =>
    intro i most hi h0 h1
    have hlt : i < l.length := by omega
    have e1 : wrap64 ((i : Int) + 1) = ((i + 1 : Nat) : Int) := w64 (by omega) (by omega)
    rw [drop_item l i hlt]
    generalize hx : rd_T74 l (i : Int) = x
    refine Ev.step (fun k => by rw [impl_BeltOk.l0, if_pos (show (i : Int) < (l.length : Int) by omega), if_pos (show (0 : Int) ≤ (i : Int) by omega), if_pos (show (i : Int) < (l.length : Int) by omega), if_pos (show (i : Int) ≤ (l.length : Int) by omega), hx]) ?_
    simp only [okRun, impl_isOn.f, Option.bind_some, Int.toNat_natCast]
    by_cases c1 : x.f0 < 1
    · simp only [if_pos c1]
      rw [decide_eq_false (show ¬ 1 ≤ x.f0 by omega)]
      exact ev_some (by simp)
    · simp only [if_neg c1]
      rw [decide_eq_true (show 1 ≤ x.f0 by omega)]
      cases c2 : (l.take i).any (fun y => y.f0 == x.f0) with
      | true => exact ev_some (by simp)
      | false =>
        simp only [if_neg (show ¬ (false = true) by decide)]
        by_cases c3 : 1 ≤ x.f2 ∧ x.f2 ≤ 60 ∧ x.f2 ≤ x.f1 ∧ x.f1 ≤ most
        · rw [decide_eq_true c3]
          simp only [if_neg (show ¬ x.f2 < 1 by omega), if_neg (show ¬ x.f2 > 60 by omega), if_neg (show ¬ x.f1 < x.f2 by omega), if_neg (show ¬ x.f1 > most by omega)]
          rw [w64 (x := x.f1 - x.f2) (by omega) (by omega), w64 (x := x.f1 - x.f2 - G) (by omega) (by omega), e1]
          have := ih (i + 1) (x.f1 - x.f2 - G) (by omega) (by omega) (by omega)
          rw [take_item l i hlt, hx] at this
          simpa using this
        · rw [decide_eq_false c3]
          have : (true && !false && false && okRun G (x.f1 - x.f2 - G) (l.take i ++ [x]) (l.drop (i + 1))) = false := by simp
          rw [this]
          by_cases d1 : x.f2 < 1
          · simp only [if_pos d1]; exact Ev.now _
          · by_cases d2 : x.f2 > 60
            · simp only [if_neg d1, if_pos d2]; exact Ev.now _
            · by_cases d3 : x.f1 < x.f2
              · simp only [if_neg d1, if_neg d2, if_pos d3]; exact Ev.now _
              · simp only [if_neg d1, if_neg d2, if_neg d3, if_pos (show x.f1 > most by omega)]; exact Ev.now _
theorem impl_ok_ev (L G : Int) (H : Bool) (l : List It) : Ev (fun k => impl_BeltOk.f k L G H l) (okB L G l) := by
  unfold impl_BeltOk.f
  have hf : ∀ L G H, Ev (fun k => impl_BeltOk.j0 k true L G H l) false := fun L G H => Ev.step (fun k => by rw [impl_BeltOk.j0, if_pos rfl]) (Ev.now _)
  have hb : ¬ (1 ≤ L ∧ L ≤ 400 ∧ 0 ≤ G ∧ G ≤ 20 ∧ l.length ≤ 40) → okB L G l = false := fun h => by unfold okB; rw [decide_eq_false h]; rfl
  by_cases c1 : L < 1
  · simp only [if_pos c1]; rw [hb (by omega)]; exact hf _ _ _
  · by_cases c2 : L > 400
    · simp only [if_neg c1, if_pos c2]; rw [hb (by omega)]; exact hf _ _ _
    · by_cases c3 : G < 0
      · simp only [if_neg c1, if_neg c2, if_pos c3]; rw [hb (by omega)]; exact hf _ _ _
      · by_cases c4 : G > 20
        · simp only [if_neg c1, if_neg c2, if_neg c3, if_pos c4]; rw [hb (by omega)]; exact hf _ _ _
        · simp only [if_neg c1, if_neg c2, if_neg c3, if_neg c4]
          by_cases c5 : (l.length : Int) > 40
          · rw [decide_eq_true c5, hb (by omega)]; exact hf _ _ _
          · rw [decide_eq_false c5]
            refine Ev.step (fun k => by rw [impl_BeltOk.j0, if_neg (by decide)]) ?_
            have := impl_ok_loop L G H l (by omega) (by omega) l.length 0 L (by omega) (by omega) (by omega)
            unfold okB
            rw [decide_eq_true (by omega)]
            simpa using this
theorem spec_in (x a b : Int) : spec_l01In.f x a b = some (decide (a ≤ x ∧ x ≤ b)) := by
  unfold spec_l01In.f
  by_cases h : x ≥ a
  · rw [if_pos h]; congr 1; simp; omega
  · rw [if_neg h]; congr 1; simp; omega
theorem spec_ok_inner (L G : Int) (H : Bool) (l : List It) (b f n : Int) (hl : l.length ≤ 40) (i : Nat) (hi : i < l.length) (R : Bool) (d : Nat) : ∀ (j : Nat), j + d = i →
    (((l.take i).drop j).any (fun y => y.f0 == b) = true → R = false) →
    (((l.take i).drop j).any (fun y => y.f0 == b) = false → Ev (fun k => if (i : Int) > 0 then (if 0 ≤ (wrap64 ((i : Int) - 1)) then (if (wrap64 ((i : Int) - 1)) < (l.length : Int) then (if f > (wrap64 ((wrap64 (((rd_T74 l (wrap64 ((i : Int) - 1))).f1) - ((rd_T74 l (wrap64 ((i : Int) - 1))).f2))) - G)) then (some false) else (spec_BeltOk.l0 k (wrap64 ((i : Int) + 1)) L G H l)) else (none)) else (none)) else (spec_BeltOk.l0 k (wrap64 ((i : Int) + 1)) L G H l)) R) →
    Ev (fun k => spec_BeltOk.l1 k (i : Int) (j : Int) L G H l b f n) R := by
  induction d with
  | zero =>
    intro j hj _ h
    have : j = i := by omega
    subst this
    refine Ev.step (fun k => by rw [spec_BeltOk.l1, if_neg (show ¬ (j : Int) < (j : Int) by omega)]) ?_
    exact h (by rw [List.drop_eq_nil_of_le (by simp; omega)]; rfl)
  | succ d ih =>
    intro j hj hd h
    have e1 : wrap64 ((j : Int) + 1) = ((j + 1 : Nat) : Int) := w64 (by omega) (by omega)
    have hjt : j < (l.take i).length := by simp; omega
    have hc : (l.take i).drop j = rd_T74 l (j : Int) :: (l.take i).drop (j + 1) := by
      rw [List.drop_eq_getElem_cons hjt, rd_item l j (by omega)]
      simp
    rw [hc, List.any_cons] at hd h
    refine Ev.step (fun k => by rw [spec_BeltOk.l1, if_pos (show (j : Int) < (i : Int) by omega), if_pos (show (0 : Int) ≤ (j : Int) by omega), if_pos (show (j : Int) < (l.length : Int) by omega), e1]) ?_
    by_cases c : (rd_T74 l (j : Int)).f0 = b
    · simp only [if_pos c]
      rw [hd (by simp [c])]
      exact Ev.now _
    · simp only [if_neg c]
      have hb : ((rd_T74 l (j : Int)).f0 == b) = false := by simp [c]
      rw [hb, Bool.false_or] at hd h
      exact ih (j + 1) (by omega) hd h
/-- What the place in front of item i leaves it. -/
def mostAt (L G : Int) (l : List It) (i : Nat) : Int := if i = 0 then L else (rd_T74 l ((i - 1 : Nat) : Int)).f1 - (rd_T74 l ((i - 1 : Nat) : Int)).f2 - G
theorem spec_ok_loop (L G : Int) (H : Bool) (l : List It) (hL : 1 ≤ L ∧ L ≤ 400) (hG : 0 ≤ G ∧ G ≤ 20) (hl : l.length ≤ 40) (d : Nat) : ∀ (i : Nat), i + d = l.length → -100 ≤ mostAt L G l i → mostAt L G l i ≤ L →
    (0 < i → (rd_T74 l ((i - 1 : Nat) : Int)).f1 ≤ 400 ∧ 1 ≤ (rd_T74 l ((i - 1 : Nat) : Int)).f2 ∧ (rd_T74 l ((i - 1 : Nat) : Int)).f2 ≤ 60 ∧ (rd_T74 l ((i - 1 : Nat) : Int)).f2 ≤ (rd_T74 l ((i - 1 : Nat) : Int)).f1) →
    Ev (fun k => spec_BeltOk.l0 k i L G H l) (okRun G (mostAt L G l i) (l.take i) (l.drop i)) := by
  induction d with
  | zero =>
    intro i hi h0 h1 _
    rw [List.drop_eq_nil_of_le (by omega)]
    exact Ev.step (f := fun _ => some true) (fun k => by rw [spec_BeltOk.l0, if_neg (show ¬ (i : Int) < (l.length : Int) by omega)]) (ev_some rfl)
  | succ d ih =>
    intro i hi h0 h1 hp
    have hlt : i < l.length := by omega
    have e1 : wrap64 ((i : Int) + 1) = ((i + 1 : Nat) : Int) := w64 (by omega) (by omega)
    rw [drop_item l i hlt]
    generalize hx : rd_T74 l (i : Int) = x
    have hfalse : ∀ b f n, Ev (fun k => spec_BeltOk.j2 k i true L G H l b f n) false := fun b f n => Ev.step (fun k => by rw [spec_BeltOk.j2, if_pos rfl]) (Ev.now _)
    refine Ev.step (fun k => by rw [spec_BeltOk.l0, if_pos (show (i : Int) < (l.length : Int) by omega), if_pos (show (0 : Int) ≤ (i : Int) by omega), hx]) ?_
    simp only [okRun, spec_in, Option.bind_some]
    by_cases c1 : x.f0 < 1
    · simp only [if_pos c1]
      rw [decide_eq_false (show ¬ 1 ≤ x.f0 by omega)]
      simp only [Bool.false_and]
      exact hfalse _ _ _
    · simp only [if_neg c1]
      rw [decide_eq_true (show 1 ≤ x.f0 by omega)]
      by_cases c2 : 1 ≤ x.f2 ∧ x.f2 ≤ 60
      · rw [decide_eq_true c2]
        simp only [if_true]
        by_cases c3 : x.f2 ≤ x.f1 ∧ x.f1 ≤ L
        · rw [decide_eq_true c3]
          simp only [Bool.not_true]
          refine Ev.step (fun k => by rw [spec_BeltOk.j2, if_neg (by decide)]) ?_
          refine spec_ok_inner L G H l x.f0 x.f1 x.f2 hl i hlt _ i 0 (by omega) ?_ ?_
          · intro h
            rw [List.drop_zero] at h
            rw [h]; simp
          · intro h
            rw [List.drop_zero] at h
            rw [h, e1]
            have hm : mostAt L G l (i + 1) = x.f1 - x.f2 - G := by
              unfold mostAt
              rw [if_neg (by omega), Nat.add_sub_cancel, hx]
            have hrest := ih (i + 1) (by omega) (by rw [hm]; omega) (by rw [hm]; omega) (fun _ => by rw [Nat.add_sub_cancel, hx]; omega)
            rw [hm, take_item l i hlt, hx] at hrest
            by_cases c4 : (i : Int) > 0
            · have e2 : wrap64 ((i : Int) - 1) = ((i - 1 : Nat) : Int) := by rw [w64 (by omega) (by omega)]; omega
              have hpr := hp (by omega)
              have hmi : mostAt L G l i = (rd_T74 l ((i - 1 : Nat) : Int)).f1 - (rd_T74 l ((i - 1 : Nat) : Int)).f2 - G := by
                unfold mostAt; rw [if_neg (by omega)]
              simp only [if_pos c4, e2, if_pos (show (0 : Int) ≤ ((i - 1 : Nat) : Int) by omega), if_pos (show ((i - 1 : Nat) : Int) < (l.length : Int) by omega)]
              rw [w64 (x := (rd_T74 l ((i - 1 : Nat) : Int)).f1 - (rd_T74 l ((i - 1 : Nat) : Int)).f2) (by omega) (by omega), w64 (by omega) (by omega), ← hmi]
              by_cases c5 : x.f1 > mostAt L G l i
              · simp only [if_pos c5]
                rw [decide_eq_false (show ¬ (1 ≤ x.f2 ∧ x.f2 ≤ 60 ∧ x.f2 ≤ x.f1 ∧ x.f1 ≤ mostAt L G l i) by omega)]
                exact ev_some (by simp)
              · simp only [if_neg c5]
                rw [decide_eq_true (show (1 ≤ x.f2 ∧ x.f2 ≤ 60 ∧ x.f2 ≤ x.f1 ∧ x.f1 ≤ mostAt L G l i) by omega)]
                simpa using hrest
            · have hmi : mostAt L G l i = L := by unfold mostAt; rw [if_pos (by omega)]
              simp only [if_neg c4]
              rw [hmi, decide_eq_true (show (1 ≤ x.f2 ∧ x.f2 ≤ 60 ∧ x.f2 ≤ x.f1 ∧ x.f1 ≤ L) by omega)]
              simpa using hrest
        · rw [decide_eq_false c3, decide_eq_false (show ¬ (1 ≤ x.f2 ∧ x.f2 ≤ 60 ∧ x.f2 ≤ x.f1 ∧ x.f1 ≤ mostAt L G l i) by omega)]
          simp only [Bool.not_false, Bool.and_false, Bool.false_and]
          exact hfalse _ _ _
      · rw [decide_eq_false c2, decide_eq_false (show ¬ (1 ≤ x.f2 ∧ x.f2 ≤ 60 ∧ x.f2 ≤ x.f1 ∧ x.f1 ≤ mostAt L G l i) by omega)]
        simp only [Bool.and_false, Bool.false_and, if_neg (show ¬ (false = true) by decide)]
        exact hfalse _ _ _
theorem spec_ok_ev (L G : Int) (H : Bool) (l : List It) : Ev (fun k => spec_BeltOk.f k L G H l) (okB L G l) := by
  unfold spec_BeltOk.f
  have hf : ∀ L G H, Ev (fun k => spec_BeltOk.j0 k true L G H l) false := fun L G H => Ev.step (fun k => by rw [spec_BeltOk.j0, if_pos rfl]) (Ev.now _)
  have hb : ¬ (1 ≤ L ∧ L ≤ 400 ∧ 0 ≤ G ∧ G ≤ 20 ∧ l.length ≤ 40) → okB L G l = false := fun h => by unfold okB; rw [decide_eq_false h]; rfl
  simp only [spec_in, Option.bind_some]
  by_cases c1 : 1 ≤ L ∧ L ≤ 400
  · rw [decide_eq_true c1]
    simp only [if_true]
    by_cases c2 : 0 ≤ G ∧ G ≤ 20
    · rw [decide_eq_true c2]
      simp only [if_true]
      by_cases c5 : (l.length : Int) > 40
      · rw [decide_eq_true c5, hb (by omega)]; exact hf _ _ _
      · rw [decide_eq_false c5]
        refine Ev.step (fun k => by rw [spec_BeltOk.j0, if_neg (by decide)]) ?_
        have hm : mostAt L G l 0 = L := rfl
        have := spec_ok_loop L G H l c1 c2 (by omega) l.length 0 (by omega) (by rw [hm]; omega) (by rw [hm]; omega) (fun h => by omega)
        unfold okB
        rw [decide_eq_true (by omega)]
        rw [hm] at this
        simpa using this
    · rw [decide_eq_false c2, hb (by omega)]
      simp only [if_neg (show ¬ (false = true) by decide)]
      exact hf _ _ _
  · rw [decide_eq_false c1, hb (by omega)]
    simp only [if_neg (show ¬ (false = true) by decide)]
    exact hf _ _ _
theorem impl_tick (x : Int) : impl_isTick.f x = some (decide (0 ≤ x ∧ x ≤ 100000)) := by
  unfold impl_isTick.f
  by_cases h : x ≥ 0
  · rw [if_pos h]; congr 1; simp; omega
  · rw [if_neg h]; congr 1; simp; omega
theorem spec_Clamp_ev (n a b : Int) : Ev (fun k => spec_Clamp.f k n a b) (mx a (mn n b)) := by
  unfold spec_Clamp.f
  by_cases h : b < a
  · simp only [if_pos h]
    refine Ev.step (f := fun _ => some a) (fun k => by rw [spec_Clamp.j0]; simp) (ev_some ?_)
    unfold mx mn; (repeat' split) <;> omega
  · simp only [if_neg h]
    by_cases h2 : n < a
    · refine Ev.step (f := fun _ => some a) (fun k => by rw [spec_Clamp.j0]; simp [h2]) (ev_some ?_)
      unfold mx mn; (repeat' split) <;> omega
    · by_cases h3 : n > b
      · refine Ev.step (f := fun _ => some b) (fun k => by rw [spec_Clamp.j0]; simp [h2, h3]) (ev_some ?_)
        unfold mx mn; (repeat' split) <;> omega
      · refine Ev.step (f := fun _ => some n) (fun k => by rw [spec_Clamp.j0]; simp [h2, h3]) (ev_some ?_)
        unfold mx mn; (repeat' split) <;> omega
/-- The window of an item. -/
def winOf (at0 tick m : Int) (x : It) : Expect := ⟨x.f0, mx 0 (mn (wrap64 (wrap64 (wrap64 (tick + at0) - x.f1) - m)) 100000), mx 0 (mn (wrap64 (wrap64 (wrap64 (tick + at0) - x.f1) + m)) 100000)⟩
/-- The windows of the items that are before a place. -/
def winGo (at0 tick m : Int) : List It → List Expect
  | [] => []
  | x :: l => if x.f1 < at0 then winOf at0 tick m x :: winGo at0 tick m l else winGo at0 tick m l
def winR (L G : Int) (l : List It) (at0 tick m : Int) : List Expect × Bool := if (okB L G l = true ∧ 1 ≤ at0 ∧ at0 ≤ L ∧ 0 ≤ tick ∧ tick ≤ 100000 ∧ 0 ≤ m ∧ m ≤ 100000) ∧ (winGo at0 tick m l).length ≤ 6 then (winGo at0 tick m l, true) else ([], false)
theorem winGo_len (at0 tick m : Int) : ∀ l : List It, (winGo at0 tick m l).length ≤ l.length
  | [] => Nat.le_refl _
  | x :: l => by
    have := winGo_len at0 tick m l
    unfold winGo
    split <;> simp <;> omega
theorem winR_len (L G : Int) (l : List It) (at0 tick m : Int) : (winR L G l at0 tick m).1.length ≤ 6 := by
  unfold winR
  split
  · rename_i h; exact h.2
  · simp
/-- What both return at the end. -/
def winE (out : List Expect) : List Expect × Bool := if (out.length : Int) > 6 then ([], false) else (out, true)
theorem spec_win_loop (L G : Int) (H : Bool) (at0 tick m : Int) (l : List It) (hl : l.length ≤ 40) (d : Nat) : ∀ (i : Nat) (out : List Expect), i + d = l.length → out.length ≤ i → Ev (fun k => spec_Windows.l0 k at0 tick m out i L G H l) (winE (out ++ winGo at0 tick m (l.drop i))) := by
  induction d with
  | zero =>
    intro i out hi ho
    rw [List.drop_eq_nil_of_le (by omega), winGo, List.append_nil]
    refine Ev.step (f := fun _ => some (winE out)) (fun k => ?_) (Ev.now _)
    rw [spec_Windows.l0, if_neg (show ¬ (i : Int) < (l.length : Int) by omega), winE]
    split <;> rfl
  | succ d ih =>
    intro i out hi ho
    have hlt : i < l.length := by omega
    have e1 : wrap64 ((i : Int) + 1) = ((i + 1 : Nat) : Int) := w64 (by omega) (by omega)
    rw [drop_item l i hlt, winGo]
    refine Ev.step (fun k => by rw [spec_Windows.l0, if_pos (show (i : Int) < (l.length : Int) by omega), if_pos (show (0 : Int) ≤ (i : Int) by omega), e1]) ?_
    by_cases c : (rd_T74 l (i : Int)).f1 ≥ at0
    · rw [if_neg (show ¬ (rd_T74 l (i : Int)).f1 < at0 by omega)]
      simp only [if_pos c]
      exact ih (i + 1) out (by omega) (by omega)
    · rw [if_pos (show (rd_T74 l (i : Int)).f1 < at0 by omega)]
      simp only [if_neg c]
      refine ev_bind _ (spec_Clamp_ev _ 0 100000) ?_
      refine ev_bind _ (spec_Clamp_ev _ 0 100000) ?_
      simp only [if_pos (show out.length < 5864062014805 by omega)]
      have := ih (i + 1) (out ++ [winOf at0 tick m (rd_T74 l (i : Int))]) (by omega) (by simp; omega)
      rw [List.append_assoc] at this
      exact this
theorem impl_win_loop (at0 tick m : Int) (l : List It) (hl : l.length ≤ 40) (d : Nat) : ∀ (i : Nat) (out : List Expect), i + d = l.length → out.length ≤ i → Ev (fun k => impl_Windows.l0 k at0 tick m out l (l.length : Int) i) (winE (out ++ winGo at0 tick m (l.drop i))) := by
  induction d with
  | zero =>
    intro i out hi ho
    rw [List.drop_eq_nil_of_le (by omega), winGo, List.append_nil]
    refine Ev.step (f := fun _ => some (winE out)) (fun k => ?_) (Ev.now _)
    rw [impl_Windows.l0, if_neg (show ¬ (i : Int) < (l.length : Int) by omega), winE]
    split <;> rfl
  | succ d ih =>
    intro i out hi ho
    have hlt : i < l.length := by omega
    have e1 : wrap64 ((i : Int) + 1) = ((i + 1 : Nat) : Int) := w64 (by omega) (by omega)
    rw [drop_item l i hlt, winGo]
    refine Ev.step (fun k => by rw [impl_Windows.l0, if_pos (show (i : Int) < (l.length : Int) by omega), if_pos (show (0 : Int) ≤ (i : Int) by omega), if_pos (show (i : Int) < (l.length : Int) by omega), e1]) ?_
    by_cases c : (rd_T74 l (i : Int)).f1 < at0
    · simp only [if_pos c, impl_Clamp.f, Option.bind_some, if_pos (show out.length < 5864062014805 by omega)]
      have := ih (i + 1) (out ++ [winOf at0 tick m (rd_T74 l (i : Int))]) (by omega) (by simp; omega)
      rw [List.append_assoc] at this
      exact this
    · simp only [if_neg c]
      exact ih (i + 1) out (by omega) (by omega)
theorem winR_yes {L G : Int} {l : List It} {at0 tick m : Int} (h : okB L G l = true ∧ 1 ≤ at0 ∧ at0 ≤ L ∧ 0 ≤ tick ∧ tick ≤ 100000 ∧ 0 ≤ m ∧ m ≤ 100000) : winR L G l at0 tick m = winE (winGo at0 tick m l) := by
  unfold winR winE
  by_cases c : (winGo at0 tick m l).length ≤ 6
  · rw [if_pos ⟨h, c⟩, if_neg (by omega)]
  · rw [if_neg (fun q => c q.2), if_pos (by omega)]
theorem winR_no {L G : Int} {l : List It} {at0 tick m : Int} (h : ¬ (okB L G l = true ∧ 1 ≤ at0 ∧ at0 ≤ L ∧ 0 ≤ tick ∧ tick ≤ 100000 ∧ 0 ≤ m ∧ m ≤ 100000)) : winR L G l at0 tick m = ([], false) := by
  unfold winR; rw [if_neg (fun q => h q.1)]
theorem spec_win_ev (L G : Int) (H : Bool) (l : List It) (at0 tick m : Int) : Ev (fun k => spec_Windows.f k L G H l at0 tick m) (winR L G l at0 tick m) := by
  unfold spec_Windows.f
  simp only [Option.bind_some]
  have hno : Ev (fun k => spec_Windows.j0 k at0 tick m [] true L G H l) ([], false) := Ev.step (fun k => by rw [spec_Windows.j0, if_pos rfl]) (Ev.now _)
  refine ev_bind _ (spec_ok_ev L G H l) ?_
  cases h : okB L G l with
  | false => rw [winR_no (by rw [h]; simp)]; simp only [Bool.false_eq_true, if_false]; exact hno
  | true =>
    simp only [if_true, spec_in, Option.bind_some]
    by_cases c1 : 1 ≤ at0 ∧ at0 ≤ L
    · simp only [if_pos (decide_eq_true c1)]
      by_cases c2 : 0 ≤ tick ∧ tick ≤ 100000
      · simp only [if_pos (decide_eq_true c2)]
        by_cases c3 : 0 ≤ m ∧ m ≤ 100000
        · rw [winR_yes ⟨h, c1.1, c1.2, c2.1, c2.2, c3.1, c3.2⟩, decide_eq_true c3]
          refine Ev.step (fun k => by rw [spec_Windows.j0, if_neg (by decide)]) ?_
          simpa using spec_win_loop L G H at0 tick m l (okB_len h).2.2.2.2 l.length 0 [] (by omega) (by simp)
        · rw [winR_no (by omega), decide_eq_false c3]; exact hno
      · rw [winR_no (by omega), decide_eq_false c2]; simp only [Bool.false_eq_true, if_false]; exact hno
    · rw [winR_no (by omega), decide_eq_false c1]; simp only [Bool.false_eq_true, if_false]; exact hno
theorem impl_win_ev (L G : Int) (H : Bool) (l : List It) (at0 tick m : Int) : Ev (fun k => impl_Windows.f k L G H l at0 tick m) (winR L G l at0 tick m) := by
  unfold impl_Windows.f
  have hno : Ev (fun k => impl_Windows.j0 k at0 tick m true L G H l) ([], false) := Ev.step (fun k => by rw [impl_Windows.j0, if_pos rfl]) (Ev.now _)
  refine ev_bind _ (impl_ok_ev L G H l) ?_
  cases h : okB L G l with
  | false => rw [winR_no (by rw [h]; simp)]; simp only [Bool.false_eq_true, if_false]; exact hno
  | true =>
    simp only [if_true, impl_tick, Option.bind_some]
    by_cases c1 : at0 < 1
    · rw [winR_no (by omega)]; simp only [if_pos c1]; exact hno
    · by_cases c1' : at0 > L
      · rw [winR_no (by omega)]; simp only [if_neg c1, if_pos c1']; exact hno
      · simp only [if_neg c1, if_neg c1']
        by_cases c2 : 0 ≤ tick ∧ tick ≤ 100000
        · simp only [if_pos (decide_eq_true c2)]
          by_cases c3 : 0 ≤ m ∧ m ≤ 100000
          · rw [winR_yes ⟨h, by omega, by omega, c2.1, c2.2, c3.1, c3.2⟩, decide_eq_true c3]
            refine Ev.step (fun k => by rw [impl_Windows.j0, if_neg (by decide)]) ?_
            simpa using impl_win_loop at0 tick m l (okB_len h).2.2.2.2 l.length 0 [] (by omega) (by simp)
          · rw [winR_no (by omega), decide_eq_false c3]; exact hno
        · rw [winR_no (by omega), decide_eq_false c2]; simp only [Bool.false_eq_true, if_false]; exact hno
abbrev LIt := S129
def toM (x : LIt) : It := ⟨x.f0, x.f1, x.f2⟩
theorem to_items_loop (l : List LIt) (hl : l.length ≤ 1048576) (d : Nat) : ∀ (i : Nat) (m : List It), i + d = l.length → m.length = l.length → m.take i = (l.take i).map toM → Ev (fun k => laws_toItemS.l0 k l m i) (l.map toM) := by
  induction d with
  | zero =>
    intro i m hi hm h
    refine Ev.step (fun k => by rw [laws_toItemS.l0, if_neg (show ¬ (i : Int) < (l.length : Int) by omega)]) (ev_some ?_)
    rw [List.take_of_length_le (by omega), List.take_of_length_le (by omega)] at h
    exact h
  | succ d ih =>
    intro i m hi hm h
    have e1 : wrap64 ((i : Int) + 1) = ((i + 1 : Nat) : Int) := w64 (by omega) (by omega)
    have hlt : i < l.length := by omega
    have hr : rd_T129 l (i : Int) = l[i] := by simp [rd_T129, List.getD_eq_getElem?_getD, List.getElem?_eq_getElem hlt]
    refine Ev.step (fun k => by rw [laws_toItemS.l0, if_pos (show (i : Int) < (l.length : Int) by omega), if_pos (show (0 : Int) ≤ (i : Int) by omega), laws_toItem.f, Option.bind_some, if_pos (show (i : Int) < (m.length : Int) by omega), e1, hr, Int.toNat_natCast]) ?_
    refine ih (i + 1) _ (by omega) (by simp [hm]) ?_
    rw [List.take_succ_eq_append_getElem (by simp; omega), List.take_succ_eq_append_getElem hlt, List.map_append, ← h]
    rw [List.take_set, List.set_eq_of_length_le (by simp; omega)]
    simp [toM]
theorem to_items_ev (l : List LIt) (hl : l.length ≤ 1048576) : Ev (fun k => laws_toItemS.f k l) (l.map toM) := by
  unfold laws_toItemS.f
  simp only [if_pos (show (0 : Int) ≤ (l.length : Int) by omega), Int.toNat_natCast, if_pos (show l.length ≤ 11728124029610 by omega)]
  exact to_items_loop l hl l.length 0 _ (by omega) (by simp) rfl
theorem to_belt_ev (L G : Int) (H : Bool) (l : List LIt) (hl : l.length ≤ 1048576) : Ev (fun k => laws_toBelt.f k L G H l) (L, G, H, l.map toM) := by
  unfold laws_toBelt.f
  exact ev_bind _ (to_items_ev l hl) (Ev.now _)
theorem sz_belt (L G : Int) (H : Bool) (l : List LIt) (hl : l.length ≤ 9223372036854775807) : ∃ n, laws_szBelt.f L G H l 1048576 = some n ∧ (n < 0 ∨ l.length ≤ 1048576) := by
  unfold laws_szBelt.f laws_szItemS.f
  have e : wrap64 (1048576 - (l.length : Int)) = 1048576 - (l.length : Int) := w64 (by omega) (by omega)
  rw [e]
  by_cases h : 1048576 - (l.length : Int) < 0
  · rw [if_pos h, Option.bind_some, if_pos (by omega)]
    exact ⟨-1, rfl, .inl (by omega)⟩
  · rw [if_neg h, Option.bind_some, if_neg h]
    exact ⟨_, rfl, .inr (by omega)⟩
theorem eq_item (a b c : Int) : laws_eqItem.f a b c a b c = some true := by unfold laws_eqItem.f; simp
theorem eq_items_loop (l : List It) (hl : l.length ≤ 1048600) (d : Nat) : ∀ i : Nat, i + d = l.length → Ev (fun k => laws_eqItemS.l0 k l l i) true := by
  induction d with
  | zero =>
    intro i hi
    exact Ev.step (fun k => by rw [laws_eqItemS.l0, if_neg (show ¬ (i : Int) < (l.length : Int) by omega)]) (Ev.now _)
  | succ d ih =>
    intro i hi
    have e1 : wrap64 ((i : Int) + 1) = ((i + 1 : Nat) : Int) := w64 (by omega) (by omega)
    refine Ev.step (fun k => by rw [laws_eqItemS.l0, if_pos (show (i : Int) < (l.length : Int) by omega), if_pos (show (0 : Int) ≤ (i : Int) by omega), if_pos (show (i : Int) < (l.length : Int) by omega), eq_item, Option.bind_some, if_pos rfl, e1]) ?_
    exact ih (i + 1) (by omega)
theorem eq_items_ev (l : List It) (hl : l.length ≤ 1048600) : Ev (fun k => laws_eqItemS.f k l l) true := by
  unfold laws_eqItemS.f
  simp only [if_true]
  exact eq_items_loop l hl l.length 0 (by omega)
theorem eq_belt_ev (L G : Int) (H : Bool) (l : List It) (hl : l.length ≤ 1048600) : Ev (fun k => laws_eqBelt.f k L G H l L G H l) true := by
  unfold laws_eqBelt.f
  simp only [if_true, bne_self_eq_false, if_neg (show ¬ (false = true) by decide)]
  exact ev_bind _ (eq_items_ev l hl) (by simp only [if_true]; exact Ev.now _)
/-- Item j, marked from m on. -/
def mkI (m : Int) (j : Nat) : It := ⟨m + 3 * j, m + 3 * j + 1, m + 3 * j + 2⟩
theorem mark_items_loop (l : List It) (hl : l.length ≤ 1048600) (m : Int) (h0 : 0 ≤ m) (h1 : m ≤ 1000000000) (d : Nat) : ∀ i : Nat, i + d = l.length →
    Ev (fun k => laws_markItemS.l0 k ((List.range i).map (mkI m) ++ l.drop i) (m + 3 * i) i) (m + 3 * l.length, (List.range l.length).map (mkI m)) := by
  induction d with
  | zero =>
    intro i hi
    have : i = l.length := by omega
    subst this
    refine Ev.step (fun k => by rw [laws_markItemS.l0, if_neg (by simp)]) (ev_some ?_)
    simp
  | succ d ih =>
    intro i hi
    have hlen : ((List.range i).map (mkI m) ++ l.drop i).length = l.length := by simp; omega
    have e1 : wrap64 ((i : Int) + 1) = ((i + 1 : Nat) : Int) := w64 (by omega) (by omega)
    have a1 : wrap64 (m + 3 * (i : Int) + 1) = m + 3 * (i : Int) + 1 := w64 (by omega) (by omega)
    have a2 : wrap64 (m + 3 * (i : Int) + 1 + 1) = m + 3 * (i : Int) + 2 := by rw [w64 (by omega) (by omega)]; omega
    have a3 : wrap64 (m + 3 * (i : Int) + 2 + 1) = m + 3 * ((i + 1 : Nat) : Int) := by rw [w64 (by omega) (by omega)]; omega
    have hr : ∀ (y : It) (t : List It), i < t.length → rd_T74 (t.set i y) (i : Int) = y := by
      intro y t ht
      simp [rd_T74, List.getD_eq_getElem?_getD, ht]
    refine Ev.step (fun k => by rw [laws_markItemS.l0, if_pos (by rw [hlen]; omega), if_pos (show (0 : Int) ≤ (i : Int) by omega)]) ?_
    simp only [Option.bind_some, Int.toNat_natCast, a1, a2, a3, e1]
    rw [hr _ _ (by rw [hlen]; omega)]
    simp only [List.set_set]
    rw [hr _ _ (by rw [hlen]; omega)]
    have hm : (⟨m + 3 * (i : Int), m + 3 * (i : Int) + 1, m + 3 * (i : Int) + 2⟩ : It) = mkI m i := rfl
    rw [hm, set_mark (mkI m) l i (by omega)]
    exact ih (i + 1) (by omega)
theorem mark_items_ev (l : List It) (hl : l.length ≤ 1048600) (m : Int) (h0 : 0 ≤ m) (h1 : m ≤ 1000000000) : Ev (fun k => laws_markItemS.f k l m) (m + 3 * l.length, (List.range l.length).map (mkI m)) := by
  unfold laws_markItemS.f
  have := mark_items_loop l hl m h0 h1 l.length 0 (by omega)
  simpa using this
theorem mark_belt_ev (L G : Int) (H : Bool) (l : List It) (hl : l.length ≤ 1048600) (m : Int) (h0 : 0 ≤ m) (h1 : m ≤ 1000000000) : Ev (fun k => laws_markBelt.f k L G H l m) (m + 3 * l.length, (List.range l.length).map (mkI m)) := by
  unfold laws_markBelt.f
  exact ev_bind _ (mark_items_ev l hl m h0 h1) (Ev.now _)
theorem eq_Expect (a b c : Int) : laws_eqExpect.f a b c a b c = some true := by unfold laws_eqExpect.f; simp
theorem eq_ExpectS_loop (l : List Expect) (hl : l.length ≤ 1048600) (d : Nat) : ∀ i : Nat, i + d = l.length → Ev (fun k => laws_eqExpectS.l0 k l l i) true := by
  induction d with
  | zero =>
    intro i hi
    exact Ev.step (fun k => by rw [laws_eqExpectS.l0, if_neg (show ¬ (i : Int) < (l.length : Int) by omega)]) (Ev.now _)
  | succ d ih =>
    intro i hi
    have e1 : wrap64 ((i : Int) + 1) = ((i + 1 : Nat) : Int) := w64 (by omega) (by omega)
    refine Ev.step (fun k => by rw [laws_eqExpectS.l0, if_pos (show (i : Int) < (l.length : Int) by omega), if_pos (show (0 : Int) ≤ (i : Int) by omega), if_pos (show (i : Int) < (l.length : Int) by omega), eq_Expect, Option.bind_some, if_pos rfl, e1]) ?_
    exact ih (i + 1) (by omega)
theorem eq_ExpectS_ev (l : List Expect) (hl : l.length ≤ 1048600) : Ev (fun k => laws_eqExpectS.f k l l) true := by
  unfold laws_eqExpectS.f
  simp only [if_true]
  exact eq_ExpectS_loop l hl l.length 0 (by omega)
/-- Element j, marked from m on. -/
def mkExpect (m : Int) (j : Nat) : Expect := ⟨m + 3 * j, m + 3 * j + 1, m + 3 * j + 2⟩
theorem mark_ExpectS_loop (l : List Expect) (hl : l.length ≤ 1048600) (m : Int) (h0 : 0 ≤ m) (h1 : m ≤ 1000000000) (d : Nat) : ∀ i : Nat, i + d = l.length →
    Ev (fun k => laws_markExpectS.l0 k ((List.range i).map (mkExpect m) ++ l.drop i) (m + 3 * i) i) (m + 3 * l.length, (List.range l.length).map (mkExpect m)) := by
  induction d with
  | zero =>
    intro i hi
    have : i = l.length := by omega
    subst this
    refine Ev.step (fun k => by rw [laws_markExpectS.l0, if_neg (by simp)]) (ev_some ?_)
    simp
  | succ d ih =>
    intro i hi
    have hlen : ((List.range i).map (mkExpect m) ++ l.drop i).length = l.length := by simp; omega
    have e1 : wrap64 ((i : Int) + 1) = ((i + 1 : Nat) : Int) := w64 (by omega) (by omega)
    have a1 : wrap64 (m + 3 * (i : Int) + 1) = m + 3 * (i : Int) + 1 := by rw [w64 (by omega) (by omega)] <;> omega
    have a2 : wrap64 (m + 3 * (i : Int) + 1 + 1) = m + 3 * (i : Int) + 2 := by rw [w64 (by omega) (by omega)] <;> omega
    have a3 : wrap64 (m + 3 * (i : Int) + 2 + 1) = m + 3 * ((i + 1 : Nat) : Int) := by rw [w64 (by omega) (by omega)] <;> omega
    have hr : ∀ (y : Expect) (t : List Expect), i < t.length → rd_T47 (t.set i y) (i : Int) = y := by
      intro y t ht
      simp [rd_T47, List.getD_eq_getElem?_getD, ht]
    refine Ev.step (fun k => by rw [laws_markExpectS.l0, if_pos (by rw [hlen]; omega), if_pos (show (0 : Int) ≤ (i : Int) by omega)]) ?_
    simp only [Option.bind_some, Int.toNat_natCast, a1, a2, a3, e1]
    rw [hr _ _ (by rw [hlen]; omega)]
    simp only [List.set_set]
    rw [hr _ _ (by rw [hlen]; omega)]
    have hm : (⟨m + 3 * (i : Int), m + 3 * (i : Int) + 1, m + 3 * (i : Int) + 2⟩ : Expect) = mkExpect m i := rfl
    rw [hm, set_mark (mkExpect m) l i (by omega)]
    exact ih (i + 1) (by omega)
theorem mark_ExpectS_ev (l : List Expect) (hl : l.length ≤ 1048600) (m : Int) (h0 : 0 ≤ m) (h1 : m ≤ 1000000000) : Ev (fun k => laws_markExpectS.f k l m) (m + 3 * l.length, (List.range l.length).map (mkExpect m)) := by
  unfold laws_markExpectS.f
  have := mark_ExpectS_loop l hl m h0 h1 l.length 0 (by omega)
  simpa using this
theorem held_ExpectS_loop (n : Nat) (hl : n ≤ 1048600) (m : Int) (h0 : 0 ≤ m) (h1 : m ≤ 1000000000) (d : Nat) : ∀ i : Nat, i + d = n →
    Ev (fun k => laws_heldExpectS.l0 k ((List.range n).map (mkExpect m)) (m + 3 * i) i) (m + 3 * n) := by
  induction d with
  | zero =>
    intro i hi
    have : i = n := by omega
    subst this
    exact Ev.step (fun k => by rw [laws_heldExpectS.l0, if_neg (by simp)]) (Ev.now _)
  | succ d ih =>
    intro i hi
    have e1 : wrap64 ((i : Int) + 1) = ((i + 1 : Nat) : Int) := w64 (by omega) (by omega)
    have a1 : wrap64 (m + 3 * (i : Int) + 1) = m + 3 * (i : Int) + 1 := by rw [w64 (by omega) (by omega)] <;> omega
    have a2 : wrap64 (m + 3 * (i : Int) + 1 + 1) = m + 3 * (i : Int) + 2 := by rw [w64 (by omega) (by omega)] <;> omega
    have a3 : wrap64 (m + 3 * (i : Int) + 2 + 1) = m + 3 * ((i + 1 : Nat) : Int) := by rw [w64 (by omega) (by omega)] <;> omega
    have e3 : rd_T47 ((List.range n).map (mkExpect m)) (i : Int) = mkExpect m i := by
      unfold rd_T47
      rw [Int.toNat_natCast, List.getD_eq_getElem?_getD, List.getElem?_map, List.getElem?_range (by omega)]
      rfl
    refine Ev.step (fun k => by rw [laws_heldExpectS.l0, if_pos (by simp; omega), if_pos (show (0 : Int) ≤ (i : Int) by omega), e3]) ?_
    simp only [e1, a1, a2, a3, mkExpect, if_true]
    exact ih (i + 1) (by omega)
theorem held_ExpectS_ev (n : Nat) (hl : n ≤ 1048600) (m : Int) (h0 : 0 ≤ m) (h1 : m ≤ 1000000000) : Ev (fun k => laws_heldExpectS.f k ((List.range n).map (mkExpect m)) m) (m + 3 * n) := by
  unfold laws_heldExpectS.f
  have := held_ExpectS_loop n hl m h0 h1 n 0 (by omega)
  simpa using this
theorem FnExactWindows : laws_FnExactWindows.Pure := by
  intro L G H l at0 tick m _ _ hl _ _ _ _
  refine Ev.rounds ?_
  unfold laws_FnExactWindows.f
  obtain ⟨n, hn, hc⟩ := sz_belt L G H l hl
  simp only [hn, Option.bind_some]
  by_cases h : n < 0
  · simp only [if_pos h]; exact Ev.now _
  · have hl2 : l.length ≤ 1048576 := by omega
    have hm : (l.map toM).length ≤ 1048600 := by simp; omega
    have hr := winR_len L G (l.map toM) at0 tick m
    simp only [if_neg h]
    refine ev_bind _ (to_belt_ev L G H l hl2) ?_
    refine ev_bind _ (spec_win_ev L G H _ at0 tick m) ?_
    refine ev_bind _ (to_belt_ev L G H l hl2) ?_
    refine ev_bind _ (impl_win_ev L G H _ at0 tick m) ?_
    try dsimp only
    refine ev_bind _ (eq_ExpectS_ev _ (by omega)) ?_
    simp only [if_true, bne_self_eq_false]
    refine Ev.step (fun k => by rw [laws_FnExactWindows.j0, if_neg (by decide)]) ?_
    refine ev_bind _ (to_belt_ev L G H l hl2) ?_
    refine ev_bind _ (eq_belt_ev L G H _ hm) ?_
    simp only [if_true]
    refine ev_bind _ (mark_belt_ev L G H _ hm 1 (by omega) (by omega)) ?_
    simp only [if_neg (show ¬ ((1 : Int) + 3 * ((l.map toM).length : Int) < 0) by omega)]
    try dsimp only
    refine ev_bind _ (eq_ExpectS_ev _ (by omega)) ?_
    simp only [if_true, bne_self_eq_false]
    refine Ev.step (fun k => by rw [laws_FnExactWindows.j1, if_neg (by decide)]) ?_
    refine ev_bind _ (mark_ExpectS_ev _ (by omega) 1 (by omega) (by omega)) ?_
    refine ev_bind _ (held_ExpectS_ev _ (by omega) 1 (by omega) (by omega)) ?_
    simp only [if_neg (show ¬ ((1 : Int) + 3 * ((winR L G (l.map toM) at0 tick m).1.length : Int) < 0) by omega), if_true]
    refine ev_bind _ (to_belt_ev L G H l hl2) ?_
    refine ev_bind _ (impl_win_ev L G H _ at0 tick m) ?_
    try dsimp only
    refine ev_bind _ (eq_ExpectS_ev _ (by omega)) ?_
    simp only [if_true, bne_self_eq_false]
    refine Ev.step (fun k => by rw [laws_FnExactWindows.j2, if_neg (by decide)]) ?_
    refine ev_bind _ (held_ExpectS_ev _ (by omega) 1 (by omega) (by omega)) ?_
    simp only [if_neg (show ¬ ((1 : Int) + 3 * ((winR L G (l.map toM) at0 tick m).1.length : Int) < 0) by omega), if_true]
    exact Ev.now _

end Go.Proofs.Ytnnimbbffbfhoaa.Pure
