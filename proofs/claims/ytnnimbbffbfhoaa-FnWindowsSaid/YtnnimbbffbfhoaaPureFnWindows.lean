/- For every slice of bytes the law FnWindows returns true (its printed function does): each item of a drawn belt comes to a place at just the time that its window tells. -/
import Derived.Test.YtnnimbbffbfhoaaPFnWindowsx13
import Derived.Test.YtnnimbbffbfhoaaKit
namespace Go.Proofs.Ytnnimbbffbfhoaa.Pure
open Go.RowKit Go.Proofs.Ytnnimbbffbfhoaa.PFnWindows Go.Proofs.YtnnimbbffbfhoaaW.PrintWords Go.Proofs.YtnnimbbffbfhoaaW.PrintLast Go.Proofs.YtnnimbbffbfhoaaW.PrintMore Go.Proofs.Ytnnimbbffbfhoaa.Kit
set_option linter.unusedVariables false
set_option linter.unusedSimpArgs false

abbrev Expect := S47
theorem rd_Expect (l : List Expect) (i : Nat) (h : i < l.length) : rd_T47 l (i : Int) = l[i] := by
  simp [rd_T47, List.getD_eq_getElem?_getD, List.getElem?_eq_getElem h]
theorem drop_Expect (l : List Expect) (i : Nat) (h : i < l.length) : l.drop i = rd_T47 l (i : Int) :: l.drop (i + 1) := by
  rw [List.drop_eq_getElem_cons h, rd_Expect l i h]
theorem take_Expect (l : List Expect) (i : Nat) (h : i < l.length) : l.take (i + 1) = l.take i ++ [rd_T47 l (i : Int)] := by
  rw [rd_Expect l i h, List.take_succ_eq_append_getElem h]
abbrev It := S74
theorem rd_item (l : List It) (i : Nat) (h : i < l.length) : rd_T74 l (i : Int) = l[i] := by
  simp [rd_T74, List.getD_eq_getElem?_getD, List.getElem?_eq_getElem h]
theorem drop_item (l : List It) (i : Nat) (h : i < l.length) : l.drop i = rd_T74 l (i : Int) :: l.drop (i + 1) := by
  rw [List.drop_eq_getElem_cons h, rd_item l i h]
theorem take_item (l : List It) (i : Nat) (h : i < l.length) : l.take (i + 1) = l.take i ++ [rd_T74 l (i : Int)] := by
  rw [rd_item l i h, List.take_succ_eq_append_getElem h]
/-- Items in order, behind a place and apart, their bags other than those met. -/
def okRun (G : Int) : Int → List It → List It → Bool
  | _, _, [] => true
  | most, seen, x :: l => decide (1 ≤ x.f0) && !(seen.any (fun y => y.f0 == x.f0)) && decide (1 ≤ x.f2 ∧ x.f2 ≤ 60 ∧ x.f2 ≤ x.f1 ∧ x.f1 ≤ most) && okRun G (x.f1 - x.f2 - G) (seen ++ [x]) l
def okB (L G : Int) (l : List It) : Bool := decide (1 ≤ L ∧ L ≤ 400 ∧ 0 ≤ G ∧ G ≤ 20 ∧ l.length ≤ 40) && okRun G L [] l
theorem okB_len {L G : Int} {l : List It} (h : okB L G l = true) : 1 ≤ L ∧ L ≤ 400 ∧ 0 ≤ G ∧ G ≤ 20 ∧ l.length ≤ 40 := by
  unfold okB at h
  simp only [Bool.and_eq_true, decide_eq_true_eq] at h
  exact h.1
theorem okB_run {L G : Int} {l : List It} (h : okB L G l = true) : okRun G L [] l = true := by
  unfold okB at h
  simp only [Bool.and_eq_true] at h
  exact h.2
theorem okRun_cons {G most : Int} {seen : List It} {x : It} {l : List It} (h : okRun G most seen (x :: l) = true) :
    1 ≤ x.f0 ∧ seen.any (fun y => y.f0 == x.f0) = false ∧ (1 ≤ x.f2 ∧ x.f2 ≤ 60 ∧ x.f2 ≤ x.f1 ∧ x.f1 ≤ most) ∧ okRun G (x.f1 - x.f2 - G) (seen ++ [x]) l = true := by
  simp only [okRun, Bool.and_eq_true, decide_eq_true_eq, Bool.not_eq_true'] at h
  exact ⟨h.1.1.1, h.1.1.2, h.1.2, h.2⟩
theorem impl_ok_loop (L G : Int) (H : Bool) (l : List It) (hG : 0 ≤ G ∧ G ≤ 20) (hl : l.length ≤ 40) (d : Nat) : ∀ (i : Nat) (most : Int), i + d = l.length → -100 ≤ most → most ≤ 400 →
    Ev (fun k => impl_BeltOk.l0 k most l (l.length : Int) i L G H l) (okRun G most (l.take i) (l.drop i)) := by
  induction d with
  | zero =>
    intro i most hi h0 h1
    rw [List.drop_eq_nil_of_le (by omega)]
    exact Ev.step (f := fun _ => some true) (fun k => by rw [impl_BeltOk.l0, if_neg (show ¬ (i : Int) < (l.length : Int) by omega)]) (ev_some rfl)
  | succ d ih =>
    intro i most hi h0 h1
    have hlt : i < l.length := by omega
    have e1 : wrap64 ((i : Int) + 1) = ((i + 1 : Nat) : Int) := w64 (by omega) (by omega)
    rw [drop_item l i hlt]
    generalize hx : rd_T74 l (i : Int) = x
    refine Ev.step (fun k => by rw [impl_BeltOk.l0, if_pos (show (i : Int) < (l.length : Int) by omega), if_pos (show (0 : Int) ≤ (i : Int) by omega), if_pos (show (i : Int) < (l.length : Int) by omega), if_pos (show (i : Int) ≤ (l.length : Int) by omega), hx]) ?_
    simp only [okRun, impl_isOn.f, Option.bind_some, Int.toNat_natCast]
    by_cases c1 : x.f0 < 1
    · simp only [if_pos c1]
      rw [decide_eq_false (show ¬ 1 ≤ x.f0 by omega)]
      exact ev_some (by simp)
    · simp only [if_neg c1]
      rw [decide_eq_true (show 1 ≤ x.f0 by omega)]
      cases c2 : (l.take i).any (fun y => y.f0 == x.f0) with
      | true => exact ev_some (by simp)
      | false =>
        simp only [if_neg (show ¬ (false = true) by decide)]
        by_cases c3 : 1 ≤ x.f2 ∧ x.f2 ≤ 60 ∧ x.f2 ≤ x.f1 ∧ x.f1 ≤ most
        · rw [decide_eq_true c3]
          simp only [if_neg (show ¬ x.f2 < 1 by omega), if_neg (show ¬ x.f2 > 60 by omega), if_neg (show ¬ x.f1 < x.f2 by omega), if_neg (show ¬ x.f1 > most by omega)]
          rw [w64 (x := x.f1 - x.f2) (by omega) (by omega), w64 (x := x.f1 - x.f2 - G) (by omega) (by omega), e1]
          have := ih (i + 1) (x.f1 - x.f2 - G) (by omega) (by omega) (by omega)
          rw [take_item l i hlt, hx] at this
          simpa using this
        · rw [decide_eq_false c3]
          have : (true && !false && false && okRun G (x.f1 - x.f2 - G) (l.take i ++ [x]) (l.drop (i + 1))) = false := by simp
          rw [this]
          by_cases d1 : x.f2 < 1
          · simp only [if_pos d1]; exact Ev.now _
          · by_cases d2 : x.f2 > 60
            · simp only [if_neg d1, if_pos d2]; exact Ev.now _
            · by_cases d3 : x.f1 < x.f2
              · simp only [if_neg d1, if_neg d2, if_pos d3]; exact Ev.now _
              · simp only [if_neg d1, if_neg d2, if_neg d3, if_pos (show x.f1 > most by omega)]; exact Ev.now _
theorem impl_ok_ev (L G : Int) (H : Bool) (l : List It) : Ev (fun k => impl_BeltOk.f k L G H l) (okB L G l) := by
  unfold impl_BeltOk.f
  have hf : ∀ L G H, Ev (fun k => impl_BeltOk.j0 k true L G H l) false := fun L G H => Ev.step (fun k => by rw [impl_BeltOk.j0, if_pos rfl]) (Ev.now _)
  have hb : ¬ (1 ≤ L ∧ L ≤ 400 ∧ 0 ≤ G ∧ G ≤ 20 ∧ l.length ≤ 40) → okB L G l = false := fun h => by unfold okB; rw [decide_eq_false h]; rfl
  by_cases c1 : L < 1
  · simp only [if_pos c1]; rw [hb (by omega)]; exact hf _ _ _
  · by_cases c2 : L > 400
    · simp only [if_neg c1, if_pos c2]; rw [hb (by omega)]; exact hf _ _ _
    · by_cases c3 : G < 0
      · simp only [if_neg c1, if_neg c2, if_pos c3]; rw [hb (by omega)]; exact hf _ _ _
      · by_cases c4 : G > 20
        · simp only [if_neg c1, if_neg c2, if_neg c3, if_pos c4]; rw [hb (by omega)]; exact hf _ _ _
        · simp only [if_neg c1, if_neg c2, if_neg c3, if_neg c4]
          by_cases c5 : (l.length : Int) > 40
          · rw [decide_eq_true c5, hb (by omega)]; exact hf _ _ _
          · rw [decide_eq_false c5]
            refine Ev.step (fun k => by rw [impl_BeltOk.j0, if_neg (by decide)]) ?_
            have := impl_ok_loop L G H l (by omega) (by omega) l.length 0 L (by omega) (by omega) (by omega)
            unfold okB
            rw [decide_eq_true (by omega)]
            simpa using this
theorem spec_in (x a b : Int) : spec_l01In.f x a b = some (decide (a ≤ x ∧ x ≤ b)) := by
  unfold spec_l01In.f
  by_cases h : x ≥ a
  · rw [if_pos h]; congr 1; simp; omega
  · rw [if_neg h]; congr 1; simp; omega
theorem spec_ok_inner (L G : Int) (H : Bool) (l : List It) (b f n : Int) (hl : l.length ≤ 40) (i : Nat) (hi : i < l.length) (R : Bool) (d : Nat) : ∀ (j : Nat), j + d = i →
    (((l.take i).drop j).any (fun y => y.f0 == b) = true → R = false) →
    (((l.take i).drop j).any (fun y => y.f0 == b) = false → Ev (fun k => if (i : Int) > 0 then (if 0 ≤ (wrap64 ((i : Int) - 1)) then (if (wrap64 ((i : Int) - 1)) < (l.length : Int) then (if f > (wrap64 ((wrap64 (((rd_T74 l (wrap64 ((i : Int) - 1))).f1) - ((rd_T74 l (wrap64 ((i : Int) - 1))).f2))) - G)) then (some false) else (spec_BeltOk.l0 k (wrap64 ((i : Int) + 1)) L G H l)) else (none)) else (none)) else (spec_BeltOk.l0 k (wrap64 ((i : Int) + 1)) L G H l)) R) →
    Ev (fun k => spec_BeltOk.l1 k (i : Int) (j : Int) L G H l b f n) R := by
  induction d with
  | zero =>
    intro j hj _ h
    have : j = i := by omega
    subst this
    refine Ev.step (fun k => by rw [spec_BeltOk.l1, if_neg (show ¬ (j : Int) < (j : Int) by omega)]) ?_
    exact h (by rw [List.drop_eq_nil_of_le (by simp; omega)]; rfl)
  | succ d ih =>
    intro j hj hd h
    have e1 : wrap64 ((j : Int) + 1) = ((j + 1 : Nat) : Int) := w64 (by omega) (by omega)
    have hjt : j < (l.take i).length := by simp; omega
    have hc : (l.take i).drop j = rd_T74 l (j : Int) :: (l.take i).drop (j + 1) := by
      rw [List.drop_eq_getElem_cons hjt, rd_item l j (by omega)]
      simp
    rw [hc, List.any_cons] at hd h
    refine Ev.step (fun k => by rw [spec_BeltOk.l1, if_pos (show (j : Int) < (i : Int) by omega), if_pos (show (0 : Int) ≤ (j : Int) by omega), if_pos (show (j : Int) < (l.length : Int) by omega), e1]) ?_
    by_cases c : (rd_T74 l (j : Int)).f0 = b
    · simp only [if_pos c]
      rw [hd (by simp [c])]
      exact Ev.now _
    · simp only [if_neg c]
      have hb : ((rd_T74 l (j : Int)).f0 == b) = false := by simp [c]
      rw [hb, Bool.false_or] at hd h
      exact ih (j + 1) (by omega) hd h
/-- What the place in front of item i leaves it. -/
def mostAt (L G : Int) (l : List It) (i : Nat) : Int := if i = 0 then L else (rd_T74 l ((i - 1 : Nat) : Int)).f1 - (rd_T74 l ((i - 1 : Nat) : Int)).f2 - G
theorem spec_ok_loop (L G : Int) (H : Bool) (l : List It) (hL : 1 ≤ L ∧ L ≤ 400) (hG : 0 ≤ G ∧ G ≤ 20) (hl : l.length ≤ 40) (d : Nat) : ∀ (i : Nat), i + d = l.length → -100 ≤ mostAt L G l i → mostAt L G l i ≤ L →
    (0 < i → (rd_T74 l ((i - 1 : Nat) : Int)).f1 ≤ 400 ∧ 1 ≤ (rd_T74 l ((i - 1 : Nat) : Int)).f2 ∧ (rd_T74 l ((i - 1 : Nat) : Int)).f2 ≤ 60 ∧ (rd_T74 l ((i - 1 : Nat) : Int)).f2 ≤ (rd_T74 l ((i - 1 : Nat) : Int)).f1) →
    Ev (fun k => spec_BeltOk.l0 k i L G H l) (okRun G (mostAt L G l i) (l.take i) (l.drop i)) := by
  induction d with
  | zero =>
    intro i hi h0 h1 _
    rw [List.drop_eq_nil_of_le (by omega)]
    exact Ev.step (f := fun _ => some true) (fun k => by rw [spec_BeltOk.l0, if_neg (show ¬ (i : Int) < (l.length : Int) by omega)]) (ev_some rfl)
  | succ d ih =>
    intro i hi h0 h1 hp
    have hlt : i < l.length := by omega
    have e1 : wrap64 ((i : Int) + 1) = ((i + 1 : Nat) : Int) := w64 (by omega) (by omega)
    rw [drop_item l i hlt]
    generalize hx : rd_T74 l (i : Int) = x
    have hfalse : ∀ b f n, Ev (fun k => spec_BeltOk.j2 k i true L G H l b f n) false := fun b f n => Ev.step (fun k => by rw [spec_BeltOk.j2, if_pos rfl]) (Ev.now _)
    refine Ev.step (fun k => by rw [spec_BeltOk.l0, if_pos (show (i : Int) < (l.length : Int) by omega), if_pos (show (0 : Int) ≤ (i : Int) by omega), hx]) ?_
    simp only [okRun, spec_in, Option.bind_some]
    by_cases c1 : x.f0 < 1
    · simp only [if_pos c1]
      rw [decide_eq_false (show ¬ 1 ≤ x.f0 by omega)]
      simp only [Bool.false_and]
      exact hfalse _ _ _
    · simp only [if_neg c1]
      rw [decide_eq_true (show 1 ≤ x.f0 by omega)]
      by_cases c2 : 1 ≤ x.f2 ∧ x.f2 ≤ 60
      · rw [decide_eq_true c2]
        simp only [if_true]
        by_cases c3 : x.f2 ≤ x.f1 ∧ x.f1 ≤ L
        · rw [decide_eq_true c3]
          simp only [Bool.not_true]
          refine Ev.step (fun k => by rw [spec_BeltOk.j2, if_neg (by decide)]) ?_
          refine spec_ok_inner L G H l x.f0 x.f1 x.f2 hl i hlt _ i 0 (by omega) ?_ ?_
          · intro h
            rw [List.drop_zero] at h
            rw [h]; simp
          · intro h
            rw [List.drop_zero] at h
            rw [h, e1]
            have hm : mostAt L G l (i + 1) = x.f1 - x.f2 - G := by
              unfold mostAt
              rw [if_neg (by omega), Nat.add_sub_cancel, hx]
            have hrest := ih (i + 1) (by omega) (by rw [hm]; omega) (by rw [hm]; omega) (fun _ => by rw [Nat.add_sub_cancel, hx]; omega)
            rw [hm, take_item l i hlt, hx] at hrest
            by_cases c4 : (i : Int) > 0
            · have e2 : wrap64 ((i : Int) - 1) = ((i - 1 : Nat) : Int) := by rw [w64 (by omega) (by omega)]; omega
              have hpr := hp (by omega)
              have hmi : mostAt L G l i = (rd_T74 l ((i - 1 : Nat) : Int)).f1 - (rd_T74 l ((i - 1 : Nat) : Int)).f2 - G := by
                unfold mostAt; rw [if_neg (by omega)]
              simp only [if_pos c4, e2, if_pos (show (0 : Int) ≤ ((i - 1 : Nat) : Int) by omega), if_pos (show ((i - 1 : Nat) : Int) < (l.length : Int) by omega)]
              rw [w64 (x := (rd_T74 l ((i - 1 : Nat) : Int)).f1 - (rd_T74 l ((i - 1 : Nat) : Int)).f2) (by omega) (by omega), w64 (by omega) (by omega), ← hmi]
              by_cases c5 : x.f1 > mostAt L G l i
              · simp only [if_pos c5]
                rw [decide_eq_false (show ¬ (1 ≤ x.f2 ∧ x.f2 ≤ 60 ∧ x.f2 ≤ x.f1 ∧ x.f1 ≤ mostAt L G l i) by omega)]
                exact ev_some (by simp)
              · simp only [if_neg c5]
                rw [decide_eq_true (show (1 ≤ x.f2 ∧ x.f2 ≤ 60 ∧ x.f2 ≤ x.f1 ∧ x.f1 ≤ mostAt L G l i) by omega)]
                simpa using hrest
            · have hmi : mostAt L G l i = L := by unfold mostAt; rw [if_pos (by omega)]
              simp only [if_neg c4]
              rw [hmi, decide_eq_true (show (1 ≤ x.f2 ∧ x.f2 ≤ 60 ∧ x.f2 ≤ x.f1 ∧ x.f1 ≤ L) by omega)]
              simpa using hrest
        · rw [decide_eq_false c3, decide_eq_false (show ¬ (1 ≤ x.f2 ∧ x.f2 ≤ 60 ∧ x.f2 ≤ x.f1 ∧ x.f1 ≤ mostAt L G l i) by omega)]
          simp only [Bool.not_false, Bool.and_false, Bool.false_and]
          exact hfalse _ _ _
      · rw [decide_eq_false c2, decide_eq_false (show ¬ (1 ≤ x.f2 ∧ x.f2 ≤ 60 ∧ x.f2 ≤ x.f1 ∧ x.f1 ≤ mostAt L G l i) by omega)]
        simp only [Bool.and_false, Bool.false_and, if_neg (show ¬ (false = true) by decide)]
        exact hfalse _ _ _
theorem spec_ok_ev (L G : Int) (H : Bool) (l : List It) : Ev (fun k => spec_BeltOk.f k L G H l) (okB L G l) := by
  unfold spec_BeltOk.f
  have hf : ∀ L G H, Ev (fun k => spec_BeltOk.j0 k true L G H l) false := fun L G H => Ev.step (fun k => by rw [spec_BeltOk.j0, if_pos rfl]) (Ev.now _)
  have hb : ¬ (1 ≤ L ∧ L ≤ 400 ∧ 0 ≤ G ∧ G ≤ 20 ∧ l.length ≤ 40) → okB L G l = false := fun h => by unfold okB; rw [decide_eq_false h]; rfl
  simp only [spec_in, Option.bind_some]
  by_cases c1 : 1 ≤ L ∧ L ≤ 400
  · rw [decide_eq_true c1]
    simp only [if_true]
    by_cases c2 : 0 ≤ G ∧ G ≤ 20
    · rw [decide_eq_true c2]
      simp only [if_true]
      by_cases c5 : (l.length : Int) > 40
      · rw [decide_eq_true c5, hb (by omega)]; exact hf _ _ _
      · rw [decide_eq_false c5]
        refine Ev.step (fun k => by rw [spec_BeltOk.j0, if_neg (by decide)]) ?_
        have hm : mostAt L G l 0 = L := rfl
        have := spec_ok_loop L G H l c1 c2 (by omega) l.length 0 (by omega) (by rw [hm]; omega) (by rw [hm]; omega) (fun h => by omega)
        unfold okB
        rw [decide_eq_true (by omega)]
        rw [hm] at this
        simpa using this
    · rw [decide_eq_false c2, hb (by omega)]
      simp only [if_neg (show ¬ (false = true) by decide)]
      exact hf _ _ _
  · rw [decide_eq_false c1, hb (by omega)]
    simp only [if_neg (show ¬ (false = true) by decide)]
    exact hf _ _ _
theorem impl_tick (x : Int) : impl_isTick.f x = some (decide (0 ≤ x ∧ x ≤ 100000)) := by
  unfold impl_isTick.f
  by_cases h : x ≥ 0
  · rw [if_pos h]; congr 1; simp; omega
  · rw [if_neg h]; congr 1; simp; omega
theorem spec_Clamp_ev (n a b : Int) : Ev (fun k => spec_Clamp.f k n a b) (mx a (mn n b)) := by
  unfold spec_Clamp.f
  by_cases h : b < a
  · simp only [if_pos h]
    refine Ev.step (f := fun _ => some a) (fun k => by rw [spec_Clamp.j0]; simp) (ev_some ?_)
    unfold mx mn; (repeat' split) <;> omega
  · simp only [if_neg h]
    by_cases h2 : n < a
    · refine Ev.step (f := fun _ => some a) (fun k => by rw [spec_Clamp.j0]; simp [h2]) (ev_some ?_)
      unfold mx mn; (repeat' split) <;> omega
    · by_cases h3 : n > b
      · refine Ev.step (f := fun _ => some b) (fun k => by rw [spec_Clamp.j0]; simp [h2, h3]) (ev_some ?_)
        unfold mx mn; (repeat' split) <;> omega
      · refine Ev.step (f := fun _ => some n) (fun k => by rw [spec_Clamp.j0]; simp [h2, h3]) (ev_some ?_)
        unfold mx mn; (repeat' split) <;> omega
/-- The window of an item. -/
def winOf (at0 tick m : Int) (x : It) : Expect := ⟨x.f0, mx 0 (mn (wrap64 (wrap64 (wrap64 (tick + at0) - x.f1) - m)) 100000), mx 0 (mn (wrap64 (wrap64 (wrap64 (tick + at0) - x.f1) + m)) 100000)⟩
/-- The windows of the items that are before a place. -/
def winGo (at0 tick m : Int) : List It → List Expect
  | [] => []
  | x :: l => if x.f1 < at0 then winOf at0 tick m x :: winGo at0 tick m l else winGo at0 tick m l
def winR (L G : Int) (l : List It) (at0 tick m : Int) : List Expect × Bool := if (okB L G l = true ∧ 1 ≤ at0 ∧ at0 ≤ L ∧ 0 ≤ tick ∧ tick ≤ 100000 ∧ 0 ≤ m ∧ m ≤ 100000) ∧ (winGo at0 tick m l).length ≤ 6 then (winGo at0 tick m l, true) else ([], false)
theorem winGo_len (at0 tick m : Int) : ∀ l : List It, (winGo at0 tick m l).length ≤ l.length
  | [] => Nat.le_refl _
  | x :: l => by
    have := winGo_len at0 tick m l
    unfold winGo
    split <;> simp <;> omega
theorem winR_len (L G : Int) (l : List It) (at0 tick m : Int) : (winR L G l at0 tick m).1.length ≤ 6 := by
  unfold winR
  split
  · rename_i h; exact h.2
  · simp
/-- What both return at the end. -/
def winE (out : List Expect) : List Expect × Bool := if (out.length : Int) > 6 then ([], false) else (out, true)
theorem spec_win_loop (L G : Int) (H : Bool) (at0 tick m : Int) (l : List It) (hl : l.length ≤ 40) (d : Nat) : ∀ (i : Nat) (out : List Expect), i + d = l.length → out.length ≤ i → Ev (fun k => spec_Windows.l0 k at0 tick m out i L G H l) (winE (out ++ winGo at0 tick m (l.drop i))) := by
  induction d with
  | zero =>
    intro i out hi ho
    rw [List.drop_eq_nil_of_le (by omega), winGo, List.append_nil]
    refine Ev.step (f := fun _ => some (winE out)) (fun k => ?_) (Ev.now _)
    rw [spec_Windows.l0, if_neg (show ¬ (i : Int) < (l.length : Int) by omega), winE]
    split <;> rfl
  | succ d ih =>
    intro i out hi ho
    have hlt : i < l.length := by omega
    have e1 : wrap64 ((i : Int) + 1) = ((i + 1 : Nat) : Int) := w64 (by omega) (by omega)
    rw [drop_item l i hlt, winGo]
    refine Ev.step (fun k => by rw [spec_Windows.l0, if_pos (show (i : Int) < (l.length : Int) by omega), if_pos (show (0 : Int) ≤ (i : Int) by omega), e1]) ?_
    by_cases c : (rd_T74 l (i : Int)).f1 ≥ at0
    · rw [if_neg (show ¬ (rd_T74 l (i : Int)).f1 < at0 by omega)]
      simp only [if_pos c]
      exact ih (i + 1) out (by omega) (by omega)
    · rw [if_pos (show (rd_T74 l (i : Int)).f1 < at0 by omega)]
      simp only [if_neg c]
      refine ev_bind _ (spec_Clamp_ev _ 0 100000) ?_
      refine ev_bind _ (spec_Clamp_ev _ 0 100000) ?_
      simp only [if_pos (show out.length < 5864062014805 by omega)]
      have := ih (i + 1) (out ++ [winOf at0 tick m (rd_T74 l (i : Int))]) (by omega) (by simp; omega)
      rw [List.append_assoc] at this
      exact this
theorem impl_win_loop (at0 tick m : Int) (l : List It) (hl : l.length ≤ 40) (d : Nat) : ∀ (i : Nat) (out : List Expect), i + d = l.length → out.length ≤ i → Ev (fun k => impl_Windows.l0 k at0 tick m out l (l.length : Int) i) (winE (out ++ winGo at0 tick m (l.drop i))) := by
  induction d with
  | zero =>
    intro i out hi ho
    rw [List.drop_eq_nil_of_le (by omega), winGo, List.append_nil]
    refine Ev.step (f := fun _ => some (winE out)) (fun k => ?_) (Ev.now _)
    rw [impl_Windows.l0, if_neg (show ¬ (i : Int) < (l.length : Int) by omega), winE]
    split <;> rfl
  | succ d ih =>
    intro i out hi ho
    have hlt : i < l.length := by omega
    have e1 : wrap64 ((i : Int) + 1) = ((i + 1 : Nat) : Int) := w64 (by omega) (by omega)
    rw [drop_item l i hlt, winGo]
    refine Ev.step (fun k => by rw [impl_Windows.l0, if_pos (show (i : Int) < (l.length : Int) by omega), if_pos (show (0 : Int) ≤ (i : Int) by omega), if_pos (show (i : Int) < (l.length : Int) by omega), e1]) ?_
    by_cases c : (rd_T74 l (i : Int)).f1 < at0
    · simp only [if_pos c, impl_Clamp.f, Option.bind_some, if_pos (show out.length < 5864062014805 by omega)]
      have := ih (i + 1) (out ++ [winOf at0 tick m (rd_T74 l (i : Int))]) (by omega) (by simp; omega)
      rw [List.append_assoc] at this
      exact this
    · simp only [if_neg c]
      exact ih (i + 1) out (by omega) (by omega)
theorem winR_yes {L G : Int} {l : List It} {at0 tick m : Int} (h : okB L G l = true ∧ 1 ≤ at0 ∧ at0 ≤ L ∧ 0 ≤ tick ∧ tick ≤ 100000 ∧ 0 ≤ m ∧ m ≤ 100000) : winR L G l at0 tick m = winE (winGo at0 tick m l) := by
  unfold winR winE
  by_cases c : (winGo at0 tick m l).length ≤ 6
  · rw [if_pos ⟨h, c⟩, if_neg (by omega)]
  · rw [if_neg (fun q => c q.2), if_pos (by omega)]
theorem winR_no {L G : Int} {l : List It} {at0 tick m : Int} (h : ¬ (okB L G l = true ∧ 1 ≤ at0 ∧ at0 ≤ L ∧ 0 ≤ tick ∧ tick ≤ 100000 ∧ 0 ≤ m ∧ m ≤ 100000)) : winR L G l at0 tick m = ([], false) := by
  unfold winR; rw [if_neg (fun q => h q.1)]
theorem spec_win_ev (L G : Int) (H : Bool) (l : List It) (at0 tick m : Int) : Ev (fun k => spec_Windows.f k L G H l at0 tick m) (winR L G l at0 tick m) := by
  unfold spec_Windows.f
  simp only [Option.bind_some]
  have hno : Ev (fun k => spec_Windows.j0 k at0 tick m [] true L G H l) ([], false) := Ev.step (fun k => by rw [spec_Windows.j0, if_pos rfl]) (Ev.now _)
  refine ev_bind _ (spec_ok_ev L G H l) ?_
  cases h : okB L G l with
  | false => rw [winR_no (by rw [h]; simp)]; simp only [Bool.false_eq_true, if_false]; exact hno
  | true =>
    simp only [if_true, spec_in, Option.bind_some]
    by_cases c1 : 1 ≤ at0 ∧ at0 ≤ L
    · simp only [if_pos (decide_eq_true c1)]
      by_cases c2 : 0 ≤ tick ∧ tick ≤ 100000
      · simp only [if_pos (decide_eq_true c2)]
        by_cases c3 : 0 ≤ m ∧ m ≤ 100000
        · rw [winR_yes ⟨h, c1.1, c1.2, c2.1, c2.2, c3.1, c3.2⟩, decide_eq_true c3]
          refine Ev.step (fun k => by rw [spec_Windows.j0, if_neg (by decide)]) ?_
          simpa using spec_win_loop L G H at0 tick m l (okB_len h).2.2.2.2 l.length 0 [] (by omega) (by simp)
        · rw [winR_no (by omega), decide_eq_false c3]; exact hno
      · rw [winR_no (by omega), decide_eq_false c2]; simp only [Bool.false_eq_true, if_false]; exact hno
    · rw [winR_no (by omega), decide_eq_false c1]; simp only [Bool.false_eq_true, if_false]; exact hno
theorem impl_win_ev (L G : Int) (H : Bool) (l : List It) (at0 tick m : Int) : Ev (fun k => impl_Windows.f k L G H l at0 tick m) (winR L G l at0 tick m) := by
  unfold impl_Windows.f
  have hno : Ev (fun k => impl_Windows.j0 k at0 tick m true L G H l) ([], false) := Ev.step (fun k => by rw [impl_Windows.j0, if_pos rfl]) (Ev.now _)
  refine ev_bind _ (impl_ok_ev L G H l) ?_
  cases h : okB L G l with
  | false => rw [winR_no (by rw [h]; simp)]; simp only [Bool.false_eq_true, if_false]; exact hno
  | true =>
    simp only [if_true, impl_tick, Option.bind_some]
    by_cases c1 : at0 < 1
    · rw [winR_no (by omega)]; simp only [if_pos c1]; exact hno
    · by_cases c1' : at0 > L
      · rw [winR_no (by omega)]; simp only [if_neg c1, if_pos c1']; exact hno
      · simp only [if_neg c1, if_neg c1']
        by_cases c2 : 0 ≤ tick ∧ tick ≤ 100000
        · simp only [if_pos (decide_eq_true c2)]
          by_cases c3 : 0 ≤ m ∧ m ≤ 100000
          · rw [winR_yes ⟨h, by omega, by omega, c2.1, c2.2, c3.1, c3.2⟩, decide_eq_true c3]
            refine Ev.step (fun k => by rw [impl_Windows.j0, if_neg (by decide)]) ?_
            simpa using impl_win_loop at0 tick m l (okB_len h).2.2.2.2 l.length 0 [] (by omega) (by simp)
          · rw [winR_no (by omega), decide_eq_false c3]; exact hno
        · rw [winR_no (by omega), decide_eq_false c2]; simp only [Bool.false_eq_true, if_false]; exact hno
/-- One step of all items. -/
def stepGo (G : Int) : Int → List It → List It
  | _, [] => []
  | most, x :: l => if x.f1 < most then ⟨x.f0, x.f1 + 1, x.f2⟩ :: stepGo G (x.f1 + 1 - x.f2 - G) l else x :: stepGo G (x.f1 - x.f2 - G) l
/-- How many of them move. -/
def stepN (G : Int) : Int → List It → Nat
  | _, [] => 0
  | most, x :: l => if x.f1 < most then 1 + stepN G (x.f1 + 1 - x.f2 - G) l else stepN G (x.f1 - x.f2 - G) l
theorem stepGo_len (G : Int) : ∀ (l : List It) (most : Int), (stepGo G most l).length = l.length
  | [], _ => rfl
  | x :: l, most => by
    unfold stepGo
    split
    · simp [stepGo_len G l]
    · simp [stepGo_len G l]
theorem stepN_le (G : Int) : ∀ (l : List It) (most : Int), stepN G most l ≤ l.length
  | [], _ => Nat.le_refl _
  | x :: l, most => by
    unfold stepN
    split
    · have := stepN_le G l (x.f1 + 1 - x.f2 - G); simp; omega
    · have := stepN_le G l (x.f1 - x.f2 - G); simp; omega
theorem any_bag {s s' : List It} (h : s.map (·.f0) = s'.map (·.f0)) (b : Int) : s.any (fun y => y.f0 == b) = s'.any (fun y => y.f0 == b) := by
  have e : ∀ t : List It, t.any (fun y => y.f0 == b) = (t.map (·.f0)).any (fun y => y == b) := fun t => by rw [List.any_map]; rfl
  rw [e, e, h]
theorem okRun_seen (G : Int) : ∀ (l : List It) (most : Int) (s s' : List It), s.map (·.f0) = s'.map (·.f0) → okRun G most s l = okRun G most s' l
  | [], _, _, _, _ => rfl
  | x :: l, most, s, s', h => by
    unfold okRun
    rw [any_bag h, okRun_seen G l _ (s ++ [x]) (s' ++ [x]) (by simp [h])]
theorem okRun_step (G : Int) (hG : 0 ≤ G) : ∀ (l : List It) (m0 m1 : Int) (s s' : List It), okRun G m0 s l = true → m0 ≤ m1 → s.map (·.f0) = s'.map (·.f0) → okRun G m1 s' (stepGo G m1 l) = true
  | [], _, _, _, _, _, _, _ => rfl
  | x :: l, m0, m1, s, s', h, hm, hs => by
    obtain ⟨h1, h2, h3, h4⟩ := okRun_cons h
    rw [any_bag hs] at h2
    unfold stepGo
    split
    · rename_i hlt
      have := okRun_step G hG l (x.f1 - x.f2 - G) (x.f1 + 1 - x.f2 - G) (s ++ [x]) (s' ++ [⟨x.f0, x.f1 + 1, x.f2⟩]) h4 (by omega) (by simp [hs])
      unfold okRun
      simp only [Bool.and_eq_true, decide_eq_true_eq, Bool.not_eq_true']
      exact ⟨⟨⟨h1, h2⟩, by omega⟩, this⟩
    · rename_i hlt
      have := okRun_step G hG l (x.f1 - x.f2 - G) (x.f1 - x.f2 - G) (s ++ [x]) (s' ++ [x]) h4 (by omega) (by simp [hs])
      unfold okRun
      simp only [Bool.and_eq_true, decide_eq_true_eq, Bool.not_eq_true']
      exact ⟨⟨⟨h1, h2⟩, by omega⟩, this⟩
theorem okB_step {L G : Int} {l : List It} (h : okB L G l = true) : okB L G (stepGo G L l) = true := by
  have h1 := okB_len h
  have h2 := okB_run h
  unfold okB
  rw [decide_eq_true (by rw [stepGo_len]; exact h1), okRun_step G (by omega) l L L [] [] h2 (Int.le_refl _) rfl]
  rfl
def moveM (G L : Int) : Nat → List It → List It
  | 0, l => l
  | n + 1, l => moveM G L n (stepGo G L l)
theorem okB_move {L G : Int} : ∀ (n : Nat) {l : List It}, okB L G l = true → okB L G (moveM G L n l) = true
  | 0, _, h => h
  | n + 1, _, h => okB_move n (okB_step h)
theorem moveM_len (G L : Int) : ∀ (n : Nat) (l : List It), (moveM G L n l).length = l.length
  | 0, _ => rfl
  | n + 1, l => by unfold moveM; rw [moveM_len G L n, stepGo_len]
theorem rd_mid (a : List It) (x : It) (b : List It) : rd_T74 (a ++ x :: b) (a.length : Int) = x := by
  simp [rd_T74, List.getD_eq_getElem?_getD]
theorem rd_mid' (a : List It) (p x : It) (b : List It) : rd_T74 ((a ++ [p]) ++ x :: b) (a.length : Int) = p := by
  rw [List.append_assoc]
  exact rd_mid a p (x :: b)
theorem set_mid (a : List It) (x y : It) (b : List It) : (a ++ x :: b).set a.length y = (a ++ [y]) ++ b := by
  simp
theorem okRun_mem (G : Int) (hG : 0 ≤ G) : ∀ (l : List It) (most : Int) (s : List It), okRun G most s l = true → ∀ x ∈ l, 1 ≤ x.f0 ∧ 1 ≤ x.f2 ∧ x.f2 ≤ 60 ∧ x.f2 ≤ x.f1 ∧ x.f1 ≤ most
  | [], _, _, _, x, hx => by simp at hx
  | y :: l, most, s, h, x, hx => by
    obtain ⟨h1, h2, h3, h4⟩ := okRun_cons h
    rcases List.mem_cons.1 hx with rfl | hx
    · omega
    · have := okRun_mem G hG l _ _ h4 x hx
      omega
theorem okB_mem {L G : Int} {l : List It} (h : okB L G l = true) : ∀ x ∈ l, 1 ≤ x.f0 ∧ 1 ≤ x.f2 ∧ x.f2 ≤ 60 ∧ x.f2 ≤ x.f1 ∧ x.f1 ≤ L := by
  have h1 := okB_len h
  exact okRun_mem G (by omega) l L [] (okB_run h)
theorem rd_mem (l : List It) (i : Nat) (h : i < l.length) : rd_T74 l (i : Int) ∈ l := by
  rw [rd_item l i h]; exact List.getElem_mem _
/-- What stays when the first item may leave. -/
def leaveGo (L : Int) : List It → List It
  | [] => []
  | x :: t => if x.f1 < L then x :: t else t
def leaveBag (L : Int) : List It → Int
  | [] => 0
  | x :: _ => if x.f1 < L then 0 else x.f0
def leaveOk (L : Int) : List It → Bool
  | [] => false
  | x :: _ => !decide (x.f1 < L)
/-- One tick of a belt that is not held. -/
def tickGo (G L : Int) (l : List It) : List It := stepGo G L (leaveGo L l)
def runGo (G L : Int) : Nat → List It → List It
  | 0, l => l
  | n + 1, l => runGo G L n (tickGo G L l)
theorem okRun_mono (G : Int) : ∀ (l : List It) (m0 m1 : Int) (s s' : List It), okRun G m0 s l = true → m0 ≤ m1 → (∀ b, s.any (fun y => y.f0 == b) = false → s'.any (fun y => y.f0 == b) = false) → okRun G m1 s' l = true
  | [], _, _, _, _, _, _, _ => rfl
  | x :: l, m0, m1, s, s', h, hm, hs => by
    obtain ⟨h1, h2, h3, h4⟩ := okRun_cons h
    have := okRun_mono G l _ _ (s ++ [x]) (s' ++ [x]) h4 (Int.le_refl _) (fun b hb => by
      rw [List.any_append, Bool.or_eq_false_iff] at hb ⊢
      exact ⟨hs b hb.1, hb.2⟩)
    unfold okRun
    rw [hs _ h2, this, decide_eq_true h1, decide_eq_true (show 1 ≤ x.f2 ∧ x.f2 ≤ 60 ∧ x.f2 ≤ x.f1 ∧ x.f1 ≤ m1 by omega)]
    rfl
theorem leaveGo_len (L : Int) : ∀ l : List It, (leaveGo L l).length ≤ l.length
  | [] => Nat.le_refl _
  | x :: t => by rw [leaveGo]; split <;> simp
theorem okB_of {L G : Int} {l : List It} (h1 : 1 ≤ L ∧ L ≤ 400 ∧ 0 ≤ G ∧ G ≤ 20 ∧ l.length ≤ 40) (h2 : okRun G L [] l = true) : okB L G l = true := by
  unfold okB; rw [decide_eq_true h1, h2]; rfl
theorem okB_leave {L G : Int} {l : List It} (h : okB L G l = true) : okB L G (leaveGo L l) = true := by
  have a := okB_len h
  have b := okB_run h
  have c := leaveGo_len L l
  refine okB_of ⟨a.1, a.2.1, a.2.2.1, a.2.2.2.1, by omega⟩ ?_
  cases l with
  | nil => rfl
  | cons x t =>
    rw [leaveGo]
    split
    · exact b
    · obtain ⟨h1, h2, h3, h4⟩ := okRun_cons b
      exact okRun_mono G t _ _ _ _ h4 (by omega) (fun _ _ => rfl)
theorem okB_tick {L G : Int} {l : List It} (h : okB L G l = true) : okB L G (tickGo G L l) = true := okB_step (okB_leave h)
theorem step_free (G : Int) : ∀ (l : List It) (m0 m1 : Int) (s : List It), okRun G m0 s l = true → m0 < m1 → stepGo G m1 l = l.map (fun x => (⟨x.f0, x.f1 + 1, x.f2⟩ : It))
  | [], _, _, _, _, _ => rfl
  | x :: l, m0, m1, s, h, hm => by
    obtain ⟨h1, h2, h3, h4⟩ := okRun_cons h
    unfold stepGo
    rw [if_pos (show x.f1 < m1 by omega), step_free G l _ _ _ h4 (by omega)]
    rfl
theorem tick_mem {L G : Int} {l : List It} (h : okB L G l = true) {x : It} (hx : x ∈ l) (hl : x.f1 < L) : (⟨x.f0, x.f1 + 1, x.f2⟩ : It) ∈ tickGo G L l := by
  have a := okB_len h
  have b := okB_run h
  cases l with
  | nil => simp at hx
  | cons y t =>
    obtain ⟨h1, h2, h3, h4⟩ := okRun_cons b
    rw [tickGo, leaveGo]
    by_cases c : y.f1 < L
    · rw [if_pos c]
      have d : okRun G (L - 1) [] (y :: t) = true := by
        unfold okRun
        rw [h4, h2, decide_eq_true h1, decide_eq_true (show 1 ≤ y.f2 ∧ y.f2 ≤ 60 ∧ y.f2 ≤ y.f1 ∧ y.f1 ≤ L - 1 by omega)]
        rfl
      rw [step_free G _ _ L _ d (by omega)]
      exact List.mem_map.2 ⟨x, hx, rfl⟩
    · rw [if_neg c, step_free G _ _ L _ h4 (by omega)]
      rcases List.mem_cons.1 hx with rfl | hx
      · omega
      · exact List.mem_map.2 ⟨x, hx, rfl⟩
theorem run_mem {L G : Int} : ∀ (n : Nat) {l : List It}, okB L G l = true → ∀ {x : It}, x ∈ l → x.f1 + n ≤ L → (⟨x.f0, x.f1 + n, x.f2⟩ : It) ∈ runGo G L n l
  | 0, l, h, x, hx, hl => by
    have e : (⟨x.f0, x.f1 + ((0 : Nat) : Int), x.f2⟩ : It) = x := by simp
    rw [e]; exact hx
  | n + 1, l, h, x, hx, hl => by
    have := run_mem n (okB_tick h) (tick_mem h hx (by omega)) (by simp only []; omega)
    have e : (⟨x.f0, x.f1 + ((n + 1 : Nat) : Int), x.f2⟩ : It) = ⟨x.f0, x.f1 + 1 + (n : Int), x.f2⟩ := by simp; omega
    rw [e]; exact this

theorem fresh_ev (L G : Int) (H : Bool) (l : List It) (hl : l.length ≤ 1048600) : spec_l02Fresh.f L G H l = some (L, G, H, l) := by
  unfold spec_l02Fresh.f
  simp only [Option.bind_some, List.nil_append, List.length_nil, Nat.zero_add, if_pos (show l.length < 5864062014805 by omega)]
theorem spec_step_loop (L G : Int) (H : Bool) (l0 : List It) (hG : 0 ≤ G ∧ G ≤ 20) : ∀ (rest done : List It) (most m0 : Int) (seen : List It), okRun G m0 seen rest = true → m0 ≤ most → most ≤ 400 → -100 ≤ m0 → (done ++ rest).length ≤ 40 →
    ((done = [] ∧ most = L) ∨ ∃ d p, done = d ++ [p] ∧ most = p.f1 - p.f2 - G ∧ p.f1 ≤ 400 ∧ 0 ≤ p.f2 ∧ p.f2 ≤ 60 ∧ 0 ≤ p.f1) →
    Ev (fun k => spec_l02Step.l0 k (done ++ rest) (done.length : Int) L G H l0) (L, G, H, done ++ stepGo G most rest)
  | [], done, most, m0, seen, _, _, _, _, _, _ => by
    refine Ev.step (fun k => by rw [spec_l02Step.l0, if_neg (by simp)]) (ev_some ?_)
    simp [stepGo]
  | x :: rest, done, most, m0, seen, h, hm, h4, hl, hlen, hp => by
    obtain ⟨h1, h2, h3, h5⟩ := okRun_cons h
    have hlt : (done.length : Int) < ((done ++ x :: rest).length : Int) := by simp; omega
    have hlen' : done.length ≤ 40 := by simp at hlen; omega
    have e1 : wrap64 ((done.length : Int) + 1) = ((done.length + 1 : Nat) : Int) := w64 (by omega) (by omega)
    have hyes : x.f1 < most → Ev (fun k => spec_l02Step.l0 k ((done ++ x :: rest).set done.length ⟨x.f0, wrap64 (x.f1 + 1), x.f2⟩) (wrap64 ((done.length : Int) + 1)) L G H l0) (L, G, H, done ++ stepGo G most (x :: rest)) := by
      intro c
      rw [set_mid, w64 (x := x.f1 + 1) (by omega) (by omega), e1]
      have := spec_step_loop L G H l0 hG rest (done ++ [⟨x.f0, x.f1 + 1, x.f2⟩]) (x.f1 + 1 - x.f2 - G) (x.f1 - x.f2 - G) (seen ++ [x]) h5 (by omega) (by omega) (by omega) (by simp at hlen ⊢; omega) (.inr ⟨done, _, rfl, rfl, by simp only; omega, by simp only; omega, by simp only; omega, by simp only; omega⟩)
      have ed : ((done ++ [(⟨x.f0, x.f1 + 1, x.f2⟩ : It)]).length : Int) = ((done.length + 1 : Nat) : Int) := by simp
      have er : (done ++ [(⟨x.f0, x.f1 + 1, x.f2⟩ : It)]) ++ stepGo G (x.f1 + 1 - x.f2 - G) rest = done ++ stepGo G most (x :: rest) := by
        rw [stepGo, if_pos c, List.append_assoc]; rfl
      rw [ed, er] at this
      exact this
    have hno : ¬ x.f1 < most → Ev (fun k => spec_l02Step.l0 k (done ++ x :: rest) (wrap64 ((done.length : Int) + 1)) L G H l0) (L, G, H, done ++ stepGo G most (x :: rest)) := by
      intro c
      rw [e1]
      have := spec_step_loop L G H l0 hG rest (done ++ [x]) (x.f1 - x.f2 - G) (x.f1 - x.f2 - G) (seen ++ [x]) h5 (by omega) (by omega) (by omega) (by simp at hlen ⊢; omega) (.inr ⟨done, _, rfl, rfl, by omega, by omega, by omega, by omega⟩)
      have ed : ((done ++ [x]).length : Int) = ((done.length + 1 : Nat) : Int) := by simp
      have er : (done ++ [x]) ++ stepGo G (x.f1 - x.f2 - G) rest = done ++ stepGo G most (x :: rest) := by
        rw [stepGo, if_neg c, List.append_assoc]; rfl
      have er2 : (done ++ [x]) ++ rest = done ++ x :: rest := by rw [List.append_assoc]; rfl
      rw [ed, er, er2] at this
      exact this
    rcases hp with ⟨rfl, rfl⟩ | ⟨d, p, rfl, rfl, b1, b2, b3, b4⟩
    · refine Ev.step (fun k => by rw [spec_l02Step.l0, if_pos hlt, if_neg (show ¬ (([] : List It).length : Int) > 0 by simp), if_pos (show (0 : Int) ≤ (([] : List It).length : Int) by simp), rd_mid]) ?_
      by_cases c : x.f1 < most
      · simp only [if_pos c]; exact hyes c
      · simp only [if_neg c]; exact hno c
    · have e2 : wrap64 (((d ++ [p]).length : Int) - 1) = (d.length : Int) := by rw [w64 (by omega) (by omega)]; simp
      refine Ev.step (fun k => by rw [spec_l02Step.l0, if_pos hlt, if_pos (show ((d ++ [p]).length : Int) > 0 by simp only [List.length_append, List.length_cons, List.length_nil]; omega), e2, if_pos (show (0 : Int) ≤ (d.length : Int) by omega), if_pos (by simp only [List.length_append, List.length_cons, List.length_nil]; omega), if_pos (show (0 : Int) ≤ ((d ++ [p]).length : Int) by omega), rd_mid, rd_mid', w64 (x := p.f1 - p.f2) (by omega) (by omega), w64 (x := p.f1 - p.f2 - G) (by omega) (by omega)]) ?_
      by_cases c : x.f1 < p.f1 - p.f2 - G
      · simp only [if_pos c]; exact hyes c
      · simp only [if_neg c]; exact hno c
theorem spec_step_ev {L G : Int} (H : Bool) {l : List It} (h : okB L G l = true) : Ev (fun k => spec_l02Step.f k L G H l) (L, G, H, stepGo G L l) := by
  have h1 := okB_len h
  unfold spec_l02Step.f
  simp only [Option.bind_some, List.nil_append, List.length_nil, Nat.zero_add, if_pos (show l.length < 5864062014805 by omega)]
  have := spec_step_loop L G H l (by omega) l [] L L [] (okB_run h) (Int.le_refl _) (by omega) (by omega) (by simpa using h1.2.2.2.2) (.inl ⟨rfl, rfl⟩)
  simpa using this
theorem spec_leave_ev {L G : Int} {l : List It} (h : okB L G l = true) : Ev (fun k => spec_Leave.f k L G false l) (L, G, false, leaveGo L l, leaveBag L l, leaveOk L l) := by
  have a := okB_len h
  unfold spec_Leave.f
  simp only [fresh_ev L G false l (by omega), Option.bind_some]
  refine ev_bind _ (spec_ok_ev L G false l) ?_
  simp only [h, if_true, Bool.false_eq_true, if_false]
  cases l with
  | nil => simp only [List.length_nil]; exact Ev.now _
  | cons x t =>
    have e : rd_T74 (x :: t) 0 = x := rfl
    simp only [if_neg (show ¬ ((x :: t).length : Int) = 0 by rw [List.length_cons]; omega), if_pos (show (0 : Int) < ((x :: t).length : Int) by rw [List.length_cons]; omega), e, leaveGo, leaveBag, leaveOk]
    by_cases c : x.f1 < L
    · simp only [if_pos c, decide_eq_true c]; exact Ev.now _
    · have a5 := a.2.2.2.2
      simp only [if_neg c, decide_eq_false c, if_pos (show (1 : Int) ≤ ((x :: t).length : Int) by rw [List.length_cons]; omega), Option.bind_some, List.drop_succ_cons, List.drop_zero, List.nil_append, List.length_nil, Nat.zero_add, if_pos (show t.length < 5864062014805 by simp at a5; omega)]
      exact Ev.now _
theorem spec_run_loop {L G : Int} (N : Nat) (hN : N ≤ 2000) : ∀ (n i : Nat) (l : List It) (o : List S116), i + n = N → okB L G l = true → o.length ≤ i → ∃ o', Ev (fun k => spec_Run.l0 k (N : Int) o i L G false l) (L, G, false, runGo G L n l, o')
  | 0, i, l, o, hi, h, ho => ⟨o, Ev.step (f := fun _ => some (L, G, false, l, o)) (fun k => by rw [spec_Run.l0, if_neg (by omega)]) (Ev.now _)⟩
  | n + 1, i, l, o, hi, h, ho => by
    have e1 : wrap64 ((i : Int) + 1) = ((i + 1 : Nat) : Int) := w64 (by omega) (by omega)
    have hle := okB_leave h
    cases c : leaveOk L l with
    | true =>
      obtain ⟨o', ho'⟩ := spec_run_loop N hN n (i + 1) (tickGo G L l) (o ++ [⟨leaveBag L l, (i : Int)⟩]) (by omega) (okB_tick h) (by simp; omega)
      refine ⟨o', Ev.step (fun k => by rw [spec_Run.l0, if_pos (show (i : Int) < (N : Int) by omega), e1]) ?_⟩
      refine ev_bind _ (spec_leave_ev h) ?_
      simp only [c, if_true, if_pos (show o.length < 8796093022208 by omega)]
      refine ev_bind _ (spec_step_ev false hle) ?_
      exact ho'
    | false =>
      obtain ⟨o', ho'⟩ := spec_run_loop N hN n (i + 1) (tickGo G L l) o (by omega) (okB_tick h) (by omega)
      refine ⟨o', Ev.step (fun k => by rw [spec_Run.l0, if_pos (show (i : Int) < (N : Int) by omega), e1]) ?_⟩
      refine ev_bind _ (spec_leave_ev h) ?_
      simp only [c, if_neg (show ¬ (false = true) by decide)]
      refine ev_bind _ (spec_step_ev false hle) ?_
      exact ho'
theorem spec_run_ok {L G : Int} {l : List It} (h : okB L G l = true) (s : Int) (n : Nat) (hs : s = n) (hn : n ≤ 2000) : ∃ o', Ev (fun k => spec_Run.f k L G false l s) (L, G, false, runGo G L n l, o') := by
  subst hs
  have a := okB_len h
  obtain ⟨o', ho⟩ := spec_run_loop (L := L) (G := G) n hn n 0 l [] (by omega) h (by simp)
  refine ⟨o', ?_⟩
  unfold spec_Run.f
  simp only [fresh_ev L G false l (by omega), Option.bind_some]
  refine ev_bind _ (spec_ok_ev L G false l) ?_
  simp only [h, if_true, spec_in, Option.bind_some]
  rw [decide_eq_true (show (0 : Int) ≤ (n : Int) ∧ (n : Int) ≤ 2000 by omega)]
  refine Ev.step (fun k => by rw [spec_Run.j0, if_neg (by decide)]) ?_
  exact ho
theorem byte_ok (b : List Int) (i h : Int) (hi : 0 ≤ i) (hb : b.length ≤ 140737488351232) :
    ∃ x i' h', spec_l01Byte.f b i h = some (x, i', h') ∧ 0 ≤ x ∧ x ≤ 255 ∧ 0 ≤ i' := by
  unfold spec_l01Byte.f
  by_cases h1 : i < (b.length : Int)
  · rw [if_pos h1, if_pos hi]
    refine ⟨_, _, _, rfl, (mask255 _).1, (mask255 _).2, ?_⟩
    rw [w64 (by omega) (by omega)]; omega
  · rw [if_neg h1]
    exact ⟨_, _, _, rfl, (mask255 _).1, (mask255 _).2, hi⟩
theorem below_ok (b : List Int) (i h n : Int) (hi : 0 ≤ i) (hb : b.length ≤ 140737488351232) :
    ∃ x i' h', spec_l01Below.f b i h n = some (x, i', h') ∧ (n ≤ 0 → x = 0) ∧ (0 < n → 0 ≤ x ∧ x < n) ∧ 0 ≤ i' := by
  unfold spec_l01Below.f
  by_cases h0 : n ≤ 0
  · rw [if_pos h0]
    exact ⟨_, _, _, rfl, fun _ => rfl, fun hn => by omega, hi⟩
  · rw [if_neg h0]
    by_cases h1 : n ≤ 256
    · rw [if_pos h1]
      obtain ⟨x, i', h', e, hx0, hx1, hi'⟩ := byte_ok b i h hi hb
      rw [e, Option.bind_some]
      simp only [if_neg (show ¬ n = 0 by omega)]
      have hm := Int.tmod_eq_emod_of_nonneg (b := n) hx0
      have := Int.emod_nonneg x (show n ≠ 0 by omega)
      have := Int.emod_lt_of_pos x (show 0 < n by omega)
      exact ⟨_, _, _, rfl, fun hn => by omega, fun _ => by rw [hm]; omega, hi'⟩
    · rw [if_neg h1]
      obtain ⟨x, i1, g1, e1, hx0, hx1, hi1⟩ := byte_ok b i h hi hb
      obtain ⟨y, i2, g2, e2, hy0, hy1, hi2⟩ := byte_ok b i1 g1 hi1 hb
      obtain ⟨z, i3, g3, e3, hz0, hz1, hi3⟩ := byte_ok b i2 g2 hi2 hb
      obtain ⟨v, i4, g4, e4, hv0, hv1, hi4⟩ := byte_ok b i3 g3 hi3 hb
      simp only [e1, e2, e3, e4, Option.bind_some, if_neg (show ¬ n = 0 by omega)]
      have w1 : wrap64 (x * 16777216) = x * 16777216 := w64 (by omega) (by omega)
      have w2 : wrap64 (y * 65536) = y * 65536 := w64 (by omega) (by omega)
      have w3 : wrap64 (z * 256) = z * 256 := w64 (by omega) (by omega)
      have w4 : wrap64 (x * 16777216 + y * 65536) = x * 16777216 + y * 65536 := w64 (by omega) (by omega)
      have w5 : wrap64 (x * 16777216 + y * 65536 + z * 256) = x * 16777216 + y * 65536 + z * 256 := w64 (by omega) (by omega)
      have w6 : wrap64 (x * 16777216 + y * 65536 + z * 256 + v) = x * 16777216 + y * 65536 + z * 256 + v := w64 (by omega) (by omega)
      rw [w1, w2, w3, w4, w5, w6]
      have hm := Int.tmod_eq_emod_of_nonneg (a := x * 16777216 + y * 65536 + z * 256 + v) (b := n) (by omega)
      have := Int.emod_nonneg (x * 16777216 + y * 65536 + z * 256 + v) (show n ≠ 0 by omega)
      have := Int.emod_lt_of_pos (x * 16777216 + y * 65536 + z * 256 + v) (show 0 < n by omega)
      exact ⟨_, _, _, rfl, fun hn => by omega, fun _ => by rw [hm]; omega, hi4⟩
theorem new_loop (b : List Int) (hb : b.length ≤ 140737488351232) (d : Nat) : ∀ (i : Nat) (h : Int), i + d = b.length → ∃ h', Ev (fun k => spec_l01New.l0 k b h i) (b, 0, h') := by
  induction d with
  | zero =>
    intro i h hi
    exact ⟨h, Ev.step (f := fun _ => some (b, 0, h)) (fun k => by rw [spec_l01New.l0, if_neg (by omega)]) (Ev.now _)⟩
  | succ d ih =>
    intro i h hi
    by_cases h4 : (i : Int) < 4000
    · obtain ⟨h', hev⟩ := ih (i + 1) (Go.bits .and .i64 (wrap64 ((wrap64 ((wrap64 (h * 131)) + (wrap64 (rd b i)))) + 7)) 1073741823) (by omega)
      refine ⟨h', Ev.step (fun k => ?_) hev⟩
      have e : wrap64 ((i : Int) + 1) = ((i + 1 : Nat) : Int) := w64 (by omega) (by omega)
      rw [spec_l01New.l0, if_pos (by omega), if_pos h4, if_pos (by omega), e]
    · exact ⟨h, Ev.step (f := fun _ => some (b, 0, h)) (fun k => by rw [spec_l01New.l0, if_pos (by omega), if_neg h4]) (Ev.now _)⟩
theorem new_ok (b : List Int) (hb : b.length ≤ 140737488351232) : ∃ h', Ev (fun k => spec_l01New.f k b) (b, 0, h') := by
  unfold spec_l01New.f
  exact new_loop b hb b.length 0 _ (by omega)
theorem once_ok (b : List Int) (i h n : Int) (hi : 0 ≤ i) (hb : b.length ≤ 140737488351232) :
    ∃ (x : Bool) (i' h' : Int), spec_l01Once.f b i h n = some (x, i', h') ∧ 0 ≤ i' := by
  unfold spec_l01Once.f
  obtain ⟨x, i1, h1, e1, _, _, hi1⟩ := below_ok b i h n hi hb
  rw [e1, Option.bind_some]
  exact ⟨_, _, _, rfl, hi1⟩
theorem pickInt_ok (b : List Int) (i h : Int) (l : List Int) (hl : 0 < l.length) (hi : 0 ≤ i) (hb : b.length ≤ 140737488351232) :
    ∃ x i' h', spec_l01PickInt.f b i h l = some (x, i', h') ∧ x ∈ l ∧ 0 ≤ i' := by
  unfold spec_l01PickInt.f
  obtain ⟨x, i1, h1, e1, _, hx, hi1⟩ := below_ok b i h l.length hi hb
  obtain ⟨h0, h2⟩ := hx (by omega)
  rw [e1, Option.bind_some]
  simp only [if_pos h0, if_pos h2]
  refine ⟨_, _, _, rfl, ?_, hi1⟩
  unfold rd
  rw [List.getD_eq_getElem?_getD, List.getElem?_eq_getElem (show x.toNat < l.length by omega)]
  exact List.getElem_mem _
theorem draw_belt_loop (b : List Int) (hb : b.length ≤ 140737488351232) (L G : Int) (H : Bool) : ∀ (n : Nat) (x4 i h : Int) (l : List It), 0 ≤ i → l.length + n ≤ 100 → ∃ l' i' h', Ev (fun k => spec_l02Belt.l0 k x4 (n : Int) b i h L G H l) (L, G, H, l', i', h') ∧ 0 ≤ i'
  | 0, x4, i, h, l, hi, hl => ⟨l, i, h, Ev.step (f := fun _ => some (L, G, H, l, i, h)) (fun k => by rw [spec_l02Belt.l0, if_neg (by omega)]) (Ev.now _), hi⟩
  | n + 1, x4, i, h, l, hi, hl => by
    have e1 : wrap64 (((n + 1 : Nat) : Int) - 1) = (n : Int) := by rw [w64 (by omega) (by omega)]; omega
    obtain ⟨x, i1, h1, e2, _, _, hi1⟩ := below_ok b i h 9 hi hb
    by_cases c : x4 < wrap64 (1 + x)
    · refine ⟨l, i1, h1, Ev.step (f := fun _ => some (L, G, H, l, i1, h1)) (fun k => by rw [spec_l02Belt.l0, if_pos (by omega), e2, Option.bind_some, if_pos c]) (Ev.now _), hi1⟩
    · obtain ⟨y, i2, h2, e3, _, _, hi2⟩ := below_ok b i1 h1 9 hi1 hb
      obtain ⟨z, i3, h3, e4, _, hi3⟩ := pickInt_ok b i2 h2 [0, 0, 1, 2, 6] (by decide) hi2 hb
      obtain ⟨l', i', h', e5, hi'⟩ := draw_belt_loop b hb L G H n (wrap64 ((wrap64 ((wrap64 (x4 - (wrap64 (1 + x)))) - G)) - z)) i3 h3 (l ++ [⟨wrap64 ((wrap64 ((wrap64 (10 * (l.length : Int))) + 1)) + y), x4, wrap64 (1 + x)⟩]) hi3 (by simp; omega)
      exact ⟨l', i', h', Ev.step (fun k => by rw [spec_l02Belt.l0, if_pos (by omega), e2, Option.bind_some, if_neg c, e3, Option.bind_some, if_pos (show l.length < 5864062014805 by omega), e4, Option.bind_some, e1]) e5, hi'⟩
theorem l02Belt_ok (b : List Int) (hb : b.length ≤ 140737488351232) (i h : Int) (hi : 0 ≤ i) : ∃ L G H l i' h', Ev (fun k => spec_l02Belt.f k b i h) (L, G, H, l, i', h') ∧ 5 ≤ L ∧ L ≤ 64 ∧ 0 ≤ i' := by
  unfold spec_l02Belt.f
  obtain ⟨x, i1, h1, e1, _, hx, hi1⟩ := below_ok b i h 60 hi hb
  obtain ⟨y, i2, h2, e2, _, hi2⟩ := pickInt_ok b i1 h1 [0, 0, 1, 2, 5] (by decide) hi1 hb
  obtain ⟨z, i3, h3, e3, hi3⟩ := once_ok b i2 h2 4 hi2 hb
  obtain ⟨v, i4, h4, e4, _, hi4⟩ := pickInt_ok b i3 h3 [0, 0, 1, 3, 10] (by decide) hi3 hb
  obtain ⟨u, i5, h5, e5, _, hu, hi5⟩ := below_ok b i4 h4 7 hi4 hb
  have hx2 := hx (by omega)
  have hu2 := hu (by omega)
  obtain ⟨n, rfl⟩ := Int.eq_ofNat_of_zero_le hu2.1
  obtain ⟨l, i', h', e6, hi'⟩ := draw_belt_loop b hb (wrap64 (5 + x)) y z n (wrap64 ((wrap64 (5 + x)) - v)) i5 h5 [] hi5 (by simp; omega)
  have e7 : wrap64 (5 + x) = 5 + x := w64 (by omega) (by omega)
  refine ⟨wrap64 (5 + x), y, z, l, i', h', ?_, by rw [e7]; omega, by rw [e7]; omega, hi'⟩
  simp only [e1, e2, e3, e4, e5, Option.bind_some]
  exact e6
theorem draw_belt_ok (b : List Int) (hb : b.length ≤ 140737488351232) : ∃ L G H l, Ev (fun k => spec_DrawBelt.f k b) (L, G, H, l) ∧ 5 ≤ L ∧ L ≤ 64 := by
  unfold spec_DrawBelt.f
  obtain ⟨h', hn⟩ := new_ok b hb
  obtain ⟨L, G, H, l, i', h2, e, h5, h6, _⟩ := l02Belt_ok b hb 0 h' (by omega)
  exact ⟨L, G, H, l, ev_bind _ hn (ev_bind _ e (Ev.now _)), h5, h6⟩
theorem rd_int (l : List Int) (i : Nat) (h : i < l.length) : rd l (i : Int) = l[i] := by
  simp [rd, List.getD_eq_getElem?_getD, List.getElem?_eq_getElem h]
theorem drop_int (l : List Int) (i : Nat) (h : i < l.length) : l.drop i = rd l (i : Int) :: l.drop (i + 1) := by
  rw [List.drop_eq_getElem_cons h, rd_int l i h]

theorem draw_places_loop (b : List Int) (hb : b.length ≤ 140737488351232) : ∀ (n i : Nat) (l : List Int) (p h : Int), i + n = 12 → l.length = i → (∀ x ∈ l, 0 ≤ x ∧ x < 10000) → 0 ≤ p → ∃ r, Ev (fun k => spec_DrawPlaces.l0 k l i b p h) r ∧ r.length = 12 ∧ ∀ x ∈ r, 0 ≤ x ∧ x < 10000
  | 0, i, l, p, h, hi, hl, hx, hp => ⟨l, Ev.step (f := fun _ => some l) (fun k => by rw [spec_DrawPlaces.l0, if_neg (by omega)]) (Ev.now _), by omega, hx⟩
  | n + 1, i, l, p, h, hi, hl, hx, hp => by
    have e1 : wrap64 ((i : Int) + 1) = ((i + 1 : Nat) : Int) := w64 (by omega) (by omega)
    obtain ⟨x, p1, h1, e2, _, hx1, hp1⟩ := below_ok b p h 10000 hp hb
    have hx2 := hx1 (by omega)
    obtain ⟨r, e3, h4, h5⟩ := draw_places_loop b hb n (i + 1) (l ++ [x]) p1 h1 (by omega) (by simp [hl]) (fun y hy => by
      rcases List.mem_append.1 hy with h | h
      · exact hx y h
      · simp at h; omega) hp1
    exact ⟨r, Ev.step (fun k => by rw [spec_DrawPlaces.l0, if_pos (by omega), e2, Option.bind_some, if_pos (show l.length < 17592186044416 by omega), e1]) e3, h4, h5⟩
theorem draw_places_ok (b : List Int) (hb : b.length ≤ 140737488351232) : ∃ r, Ev (fun k => spec_DrawPlaces.f k b) r ∧ r.length = 12 ∧ ∀ x ∈ r, 0 ≤ x ∧ x < 10000 := by
  unfold spec_DrawPlaces.f
  obtain ⟨h', hn⟩ := new_ok b hb
  obtain ⟨r, e, h1, h2⟩ := draw_places_loop b hb 12 0 [] 0 h' (by omega) rfl (by simp) (by omega)
  exact ⟨r, ev_bind _ hn e, h1, h2⟩
/-- Windows that are valid, their bags other than those met. -/
def exRun : List Expect → List Expect → Bool
  | _, [] => true
  | seen, x :: l => decide (1 ≤ x.f0 ∧ 0 ≤ x.f1 ∧ x.f1 ≤ x.f2 ∧ x.f2 ≤ 100000) && !(seen.any (fun y => y.f0 == x.f0)) && exRun (seen ++ [x]) l
def exB (l : List Expect) : Bool := decide (l.length ≤ 6) && exRun [] l
theorem ex_go : ∀ (l s : List Expect), impl_ExpectOk.go s l = exRun s l
  | [], s => rfl
  | x :: l, s => by
    unfold impl_ExpectOk.go exRun
    by_cases c : x.f0 < 1 ∨ x.f1 < 0 ∨ x.f2 < x.f1 ∨ x.f2 > 100000 ∨ s.any (fun y => y.f0 == x.f0) = true
    · rw [if_pos c]
      cases e : s.any (fun y => y.f0 == x.f0) with
      | true => simp
      | false =>
        rw [e] at c
        rw [decide_eq_false (show ¬ (1 ≤ x.f0 ∧ 0 ≤ x.f1 ∧ x.f1 ≤ x.f2 ∧ x.f2 ≤ 100000) by simp at c; omega)]
        simp
    · rw [if_neg c]
      have e : s.any (fun y => y.f0 == x.f0) = false := by
        cases e : s.any (fun y => y.f0 == x.f0) with
        | true => exact absurd (.inr (.inr (.inr (.inr e)))) c
        | false => rfl
      rw [e, decide_eq_true (show 1 ≤ x.f0 ∧ 0 ≤ x.f1 ∧ x.f1 ≤ x.f2 ∧ x.f2 ≤ 100000 by omega), ex_go l]
      simp
theorem impl_ex (l : List Expect) : impl_ExpectOk.f l = some (exB l) := by
  unfold impl_ExpectOk.f exB
  rw [ex_go, Bool.and_comm]
  congr 2
  simp; omega
theorem same_exp_loop (l : List Expect) (hl : l.length ≤ 1048600) (d : Nat) : ∀ i : Nat, i + d = l.length → Ev (fun k => laws_sameExpects.l0 k l l i) true := by
  induction d with
  | zero =>
    intro i hi
    exact Ev.step (fun k => by rw [laws_sameExpects.l0, if_neg (show ¬ (i : Int) < (l.length : Int) by omega)]) (Ev.now _)
  | succ d ih =>
    intro i hi
    have e1 : wrap64 ((i : Int) + 1) = ((i + 1 : Nat) : Int) := w64 (by omega) (by omega)
    refine Ev.step (fun k => by rw [laws_sameExpects.l0, if_pos (show (i : Int) < (l.length : Int) by omega), if_pos (show (0 : Int) ≤ (i : Int) by omega), if_pos (show (i : Int) < (l.length : Int) by omega), if_neg (by simp), e1]) ?_
    exact ih (i + 1) (by omega)
theorem same_exp_ev (l : List Expect) (hl : l.length ≤ 1048600) : Ev (fun k => laws_sameExpects.f k l l) true := by
  unfold laws_sameExpects.f
  simp only [if_true]
  exact same_exp_loop l hl l.length 0 (by omega)
theorem winGo_eq (at0 tick m : Int) : ∀ l : List It, winGo at0 tick m l = (l.filter (fun x => decide (x.f1 < at0))).map (winOf at0 tick m)
  | [] => rfl
  | x :: l => by
    unfold winGo
    by_cases c : x.f1 < at0
    · rw [if_pos c, List.filter_cons_of_pos (by simp [c]), List.map_cons, winGo_eq at0 tick m l]
    · rw [if_neg c, List.filter_cons_of_neg (by simp [c]), winGo_eq at0 tick m l]
/-- The search for a bag at a place. -/
theorem win_seek (at0 tick : Int) (x7 x11 : List Expect) (i : Nat) (hi : i < x7.length) (L G : Int) (H : Bool) (l : List It) (La Ga : Int) (Ha : Bool) (m : List It) (hm : m.length ≤ 40) (hw : Ev (fun k => if 0 ≤ (i : Int) then (if (i : Int) < (x11.length : Int) then (if (i : Int) < (x7.length : Int) then (if (rd_T47 x11 i).f1 = mx 0 (wrap64 ((rd_T47 x7 i).f1 - 7)) then (if (rd_T47 x11 i).f2 = wrap64 ((rd_T47 x7 i).f2 + 7) then (if (rd_T47 x11 i).f0 = (rd_T47 x7 i).f0 then laws_FnWindows.l0 k at0 tick x7 x11 (wrap64 ((i : Int) + 1)) L G H l else some false) else some false) else some false) else none) else none) else none) true) (d : Nat) : ∀ (j : Nat) (f : Bool), j + d = m.length → (f = true ∨ ∃ y ∈ m.drop j, y.f0 = (rd_T47 x7 (i : Int)).f0 ∧ y.f1 = at0) → Ev (fun k => laws_FnWindows.l1 k at0 tick x7 x11 i f j L G H l La Ga Ha m) true := by
  induction d with
  | zero =>
    intro j f hj h
    rw [List.drop_eq_nil_of_le (by omega)] at h
    have hf : f = true := by
      rcases h with h | ⟨y, hy, _⟩
      · exact h
      · simp at hy
    subst hf
    exact Ev.step (fun k => by rw [laws_FnWindows.l1, if_neg (show ¬ (j : Int) < (m.length : Int) by omega), if_pos rfl]) hw
  | succ d ih =>
    intro j f hj h
    have hlt : j < m.length := by omega
    have e1 : wrap64 ((j : Int) + 1) = ((j + 1 : Nat) : Int) := w64 (by omega) (by omega)
    cases f with
    | true => exact Ev.step (fun k => by rw [laws_FnWindows.l1, if_pos (show (j : Int) < (m.length : Int) by omega), if_pos rfl, e1]) (ih (j + 1) true (by omega) (.inl rfl))
    | false =>
      refine Ev.step (fun k => by rw [laws_FnWindows.l1, if_pos (show (j : Int) < (m.length : Int) by omega), if_neg (by decide), if_pos (show (0 : Int) ≤ (j : Int) by omega), if_pos (show (0 : Int) ≤ (i : Int) by omega), if_pos (show (i : Int) < (x7.length : Int) by omega), e1]) ?_
      have h2 := h.resolve_left (by decide)
      rw [drop_item m j hlt] at h2
      obtain ⟨y, hy, hy0, hy1⟩ := h2
      by_cases c : (rd_T74 m (j : Int)).f0 = (rd_T47 x7 (i : Int)).f0
      · simp only [if_pos c]
        refine ih (j + 1) _ (by omega) ?_
        rcases List.mem_cons.1 hy with rfl | hy
        · exact .inl (by simp [hy1])
        · exact .inr ⟨y, hy, hy0, hy1⟩
      · simp only [if_neg c]
        refine ih (j + 1) _ (by omega) (.inr ?_)
        rcases List.mem_cons.1 hy with rfl | hy
        · exact absurd hy0 c
        · exact ⟨y, hy, hy0, hy1⟩
theorem win_vals (at0 tick : Int) (x : It) (ha : 1 ≤ at0 ∧ at0 ≤ 64) (ht : 0 ≤ tick ∧ tick < 1000) (hx : 1 ≤ x.f1 ∧ x.f1 < at0) :
    winOf at0 tick 0 x = ⟨x.f0, tick + at0 - x.f1, tick + at0 - x.f1⟩ ∧ winOf at0 tick 7 x = ⟨x.f0, mx 0 (tick + at0 - x.f1 - 7), tick + at0 - x.f1 + 7⟩ := by
  have e1 : wrap64 (tick + at0) = tick + at0 := w64 (by omega) (by omega)
  have e2 : wrap64 (tick + at0 - x.f1) = tick + at0 - x.f1 := w64 (by omega) (by omega)
  have q : ∀ z : Int, 0 ≤ z → z ≤ 100000 → mx 0 (mn z 100000) = z := fun z h0 h1 => by unfold mx mn; (repeat' split) <;> omega
  have q2 : ∀ z : Int, z ≤ 100000 → mx 0 (mn z 100000) = mx 0 z := fun z h1 => by unfold mx mn; (repeat' split) <;> omega
  unfold winOf
  rw [e1, e2]
  refine ⟨?_, ?_⟩
  · rw [w64 (x := tick + at0 - x.f1 - 0) (by omega) (by omega), w64 (x := tick + at0 - x.f1 + 0) (by omega) (by omega), q _ (by omega) (by omega), q _ (by omega) (by omega)]
    simp
  · rw [w64 (x := tick + at0 - x.f1 - 7) (by omega) (by omega), w64 (x := tick + at0 - x.f1 + 7) (by omega) (by omega), q2 _ (by omega), q _ (by omega) (by omega)]
theorem win_exRun (G at0 tick : Int) (hG : 0 ≤ G) (ha : 1 ≤ at0 ∧ at0 ≤ 64) (ht : 0 ≤ tick ∧ tick < 1000) : ∀ (l : List It) (most : Int) (s : List It) (s' : List Expect), okRun G most s l = true → (∀ b, s.any (fun y => y.f0 == b) = false → s'.any (fun y => y.f0 == b) = false) → exRun s' (winGo at0 tick 0 l) = true
  | [], _, _, _, _, _ => rfl
  | x :: l, most, s, s', h, hs => by
    obtain ⟨h1, h2, h3, h4⟩ := okRun_cons h
    unfold winGo
    by_cases c : x.f1 < at0
    · rw [if_pos c, (win_vals at0 tick x ha ht ⟨by omega, c⟩).1]
      unfold exRun
      have := win_exRun G at0 tick hG ha ht l _ _ (s' ++ [⟨x.f0, tick + at0 - x.f1, tick + at0 - x.f1⟩]) h4 (fun b hb => by
        rw [List.any_append, Bool.or_eq_false_iff] at hb ⊢
        refine ⟨hs b hb.1, ?_⟩
        have := hb.2
        simpa using this)
      rw [this, hs _ h2, decide_eq_true (show 1 ≤ x.f0 ∧ 0 ≤ tick + at0 - x.f1 ∧ tick + at0 - x.f1 ≤ tick + at0 - x.f1 ∧ tick + at0 - x.f1 ≤ 100000 by omega)]
      rfl
    · rw [if_neg c]
      exact win_exRun G at0 tick hG ha ht l _ _ s' h4 (fun b hb => by
        rw [List.any_append, Bool.or_eq_false_iff] at hb
        exact hs b hb.1)
theorem run_len (G L : Int) : ∀ (n : Nat) (l : List It), (runGo G L n l).length ≤ l.length
  | 0, l => Nat.le_refl _
  | n + 1, l => by
    have h1 := run_len G L n (tickGo G L l)
    have h2 := leaveGo_len L l
    have h3 : (tickGo G L l).length = (leaveGo L l).length := stepGo_len _ _ _
    unfold runGo; omega
theorem win_loop {L G : Int} (at0 tick : Int) (hL : L ≤ 64) (ha : 1 ≤ at0 ∧ at0 ≤ L) (ht : 0 ≤ tick ∧ tick < 1000) {l : List It} (h : okB L G l = true) (h6 : (winGo at0 tick 0 l).length ≤ 6) (d : Nat) : ∀ i : Nat, i + d = (winGo at0 tick 0 l).length → Ev (fun k => laws_FnWindows.l0 k at0 tick (winGo at0 tick 0 l) (winGo at0 tick 7 l) i L G false l) true := by
  have hl := okB_len h
  induction d with
  | zero =>
    intro i hi
    refine Ev.step (fun k => by rw [laws_FnWindows.l0, if_neg (show ¬ (i : Int) < ((winGo at0 tick 0 l).length : Int) by omega), impl_ex, Option.bind_some]) (ev_some ?_)
    unfold exB
    rw [decide_eq_true h6, win_exRun G at0 tick (by omega) (by omega) ht l L [] [] (okB_run h) (fun _ _ => rfl)]
    rfl
  | succ d ih =>
    intro i hi
    have hlt : i < (winGo at0 tick 0 l).length := by omega
    have e1 : wrap64 ((i : Int) + 1) = ((i + 1 : Nat) : Int) := w64 (by omega) (by omega)
    have hf : i < (l.filter (fun x => decide (x.f1 < at0))).length := by rw [winGo_eq, List.length_map] at hlt; exact hlt
    have hlen7 : (winGo at0 tick 7 l).length = (winGo at0 tick 0 l).length := by rw [winGo_eq, winGo_eq, List.length_map, List.length_map]
    have r0 : rd_T47 (winGo at0 tick 0 l) (i : Int) = winOf at0 tick 0 ((l.filter (fun x => decide (x.f1 < at0)))[i]) := by
      rw [rd_Expect _ i hlt]; simp only [winGo_eq, List.getElem_map]
    have r7 : rd_T47 (winGo at0 tick 7 l) (i : Int) = winOf at0 tick 7 ((l.filter (fun x => decide (x.f1 < at0)))[i]) := by
      rw [rd_Expect _ i (by omega)]; simp only [winGo_eq, List.getElem_map]
    have hmem : (l.filter (fun x => decide (x.f1 < at0)))[i] ∈ l.filter (fun x => decide (x.f1 < at0)) := List.getElem_mem _
    generalize (l.filter (fun x => decide (x.f1 < at0)))[i] = x at r0 r7 hmem
    rw [List.mem_filter, decide_eq_true_eq] at hmem
    have hx := okB_mem h x hmem.1
    obtain ⟨v0, v7⟩ := win_vals at0 tick x (by omega) ht ⟨by omega, hmem.2⟩
    rw [v0] at r0
    rw [v7] at r7
    obtain ⟨n, hn⟩ := Int.eq_ofNat_of_zero_le (show 0 ≤ at0 - x.f1 by omega)
    have e2 : wrap64 ((rd_T47 (winGo at0 tick 0 l) (i : Int)).f1 - tick) = (n : Int) := by rw [r0, w64 (by simp only []; omega) (by simp only []; omega)]; simp only []; omega
    obtain ⟨o', ho⟩ := spec_run_ok h (n : Int) n rfl (by omega)
    refine Ev.step (fun k => by rw [laws_FnWindows.l0, if_pos (show (i : Int) < ((winGo at0 tick 0 l).length : Int) by omega), if_pos (show (0 : Int) ≤ (i : Int) by omega), e2]) ?_
    refine ev_bind _ ho ?_
    have hm := run_len G L n l
    have hin := run_mem n h hmem.1 (by omega)
    refine win_seek at0 tick _ _ i hlt L G false l L G false (runGo G L n l) (by omega) ?_ (runGo G L n l).length 0 false (by omega) (.inr ⟨_, by rw [List.drop_zero]; exact hin, by rw [r0], by simp only []; omega⟩)
    rw [r0, r7, e1]
    simp only [if_pos (show (0 : Int) ≤ (i : Int) by omega), if_pos (show (i : Int) < ((winGo at0 tick 7 l).length : Int) by omega), if_pos (show (i : Int) < ((winGo at0 tick 0 l).length : Int) by omega)]
    rw [w64 (x := tick + at0 - x.f1 - 7) (by omega) (by omega), w64 (x := tick + at0 - x.f1 + 7) (by omega) (by omega)]
    simp only [if_true]
    exact ih (i + 1) (by omega)
theorem FnWindows : laws_FnWindows.Pure := by
  intro b _ hb _
  refine Ev.rounds ?_
  unfold laws_FnWindows.f laws_big.f
  simp only [Option.bind_some]
  by_cases h : (b.length : Int) > 1048576
  · have e : decide ((b.length : Int) > 1048576) = true := decide_eq_true h
    simp only [e, if_true]; exact Ev.now _
  · have e : decide ((b.length : Int) > 1048576) = false := decide_eq_false h
    simp only [e, if_neg (show ¬ (false = true) by decide)]
    obtain ⟨L, G, H, l, hd, hL5, hL⟩ := draw_belt_ok b (by omega)
    obtain ⟨r, hp, hr, hr2⟩ := draw_places_ok b (by omega)
    refine ev_bind _ hd ?_
    refine ev_bind _ hp ?_
    have p0 := hr2 (rd r 0) (by rw [show (0 : Int) = ((0 : Nat) : Int) from rfl, rd_int r 0 (by omega)]; exact List.getElem_mem _)
    have p1 := hr2 (rd r 1) (by rw [show (1 : Int) = ((1 : Nat) : Int) from rfl, rd_int r 1 (by omega)]; exact List.getElem_mem _)
    have t0 := Int.tmod_eq_emod_of_nonneg (b := L) p0.1
    have t1 := Int.tmod_eq_emod_of_nonneg (b := 1000) p1.1
    have m0 := Int.emod_nonneg (rd r 0) (show L ≠ 0 by omega)
    have m1 := Int.emod_lt_of_pos (rd r 0) (show 0 < L by omega)
    have m2 := Int.emod_nonneg (rd r 1) (show (1000 : Int) ≠ 0 by omega)
    have m3 := Int.emod_lt_of_pos (rd r 1) (show (0 : Int) < 1000 by omega)
    simp only [if_pos (show (0 : Int) < (r.length : Int) by omega), if_pos (show (1 : Int) < (r.length : Int) by omega), if_neg (show ¬ L = 0 by omega)]
    rw [t0, t1, w64 (x := 1 + rd r 0 % L) (by omega) (by omega)]
    have ha : 1 ≤ 1 + rd r 0 % L ∧ 1 + rd r 0 % L ≤ L := by omega
    have ht : 0 ≤ rd r 1 % 1000 ∧ rd r 1 % 1000 < 1000 := by omega
    generalize 1 + rd r 0 % L = at0 at ha
    generalize rd r 1 % 1000 = tick at ht
    refine ev_bind _ (impl_win_ev L G false l at0 tick 0) ?_
    refine ev_bind _ (spec_win_ev L G false l at0 tick 0) ?_
    refine ev_bind _ (impl_win_ev L G false l at0 tick 7) ?_
    have hlen7 : (winGo at0 tick 7 l).length = (winGo at0 tick 0 l).length := by rw [winGo_eq, winGo_eq, List.length_map, List.length_map]
    by_cases hv : okB L G l = true ∧ (winGo at0 tick 0 l).length ≤ 6
    · have w0 : winR L G l at0 tick 0 = (winGo at0 tick 0 l, true) := by unfold winR; rw [if_pos ⟨⟨hv.1, ha.1, ha.2, ht.1, by omega, by omega, by omega⟩, hv.2⟩]
      have w7 : winR L G l at0 tick 7 = (winGo at0 tick 7 l, true) := by unfold winR; rw [if_pos ⟨⟨hv.1, ha.1, ha.2, ht.1, by omega, by omega, by omega⟩, by omega⟩]
      rw [w0, w7]
      simp only [bne_self_eq_false, if_neg (show ¬ (false = true) by decide), if_pos (show ((winGo at0 tick 7 l).length : Int) = ((winGo at0 tick 0 l).length : Int) by omega)]
      refine ev_bind _ (same_exp_ev _ (by omega)) ?_
      refine Ev.step (fun k => by rw [laws_FnWindows.j0, if_neg (by decide)]) ?_
      exact win_loop at0 tick hL ha ht hv.1 hv.2 (winGo at0 tick 0 l).length 0 (by omega)
    · have w0 : winR L G l at0 tick 0 = ([], false) := by unfold winR; rw [if_neg (fun q => hv ⟨q.1.1, q.2⟩)]
      have w7 : winR L G l at0 tick 7 = ([], false) := by unfold winR; rw [if_neg (fun q => hv ⟨q.1.1, by omega⟩)]
      rw [w0, w7]
      simp only [bne_self_eq_false, if_neg (show ¬ (false = true) by decide), if_true]
      refine ev_bind _ (same_exp_ev [] (by simp)) ?_
      refine Ev.step (fun k => by rw [laws_FnWindows.j0, if_neg (by decide)]) ?_
      refine Ev.step (fun k => by rw [laws_FnWindows.l0, if_neg (by simp), impl_ex, Option.bind_some]) ?_
      exact ev_some rfl

end Go.Proofs.Ytnnimbbffbfhoaa.Pure
