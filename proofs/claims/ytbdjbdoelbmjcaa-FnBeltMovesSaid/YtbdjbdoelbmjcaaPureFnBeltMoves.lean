/- For every belt and two numbers of steps the law FnBeltMoves returns true (its printed function does): the moves add up, and each item goes as far as it can. -/
import Derived.Test.YtbdjbdoelbmjcaaPFnBeltMovesx7
import Derived.Test.YtbdjbdoelbmjcaaKit
namespace Go.Proofs.Ytbdjbdoelbmjcaa.Pure
open Go.RowKit Go.Proofs.Ytbdjbdoelbmjcaa.PFnBeltMoves Go.Proofs.YtbdjbdoelbmjcaaW.PrintWords Go.Proofs.YtbdjbdoelbmjcaaW.PrintLast Go.Proofs.YtbdjbdoelbmjcaaW.PrintMore Go.Proofs.Ytbdjbdoelbmjcaa.Kit
set_option linter.unusedVariables false
set_option linter.unusedSimpArgs false

abbrev It := S53
theorem rd_item (l : List It) (i : Nat) (h : i < l.length) : rd_T53 l (i : Int) = l[i] := by
  simp [rd_T53, List.getD_eq_getElem?_getD, List.getElem?_eq_getElem h]
theorem drop_item (l : List It) (i : Nat) (h : i < l.length) : l.drop i = rd_T53 l (i : Int) :: l.drop (i + 1) := by
  rw [List.drop_eq_getElem_cons h, rd_item l i h]
theorem take_item (l : List It) (i : Nat) (h : i < l.length) : l.take (i + 1) = l.take i ++ [rd_T53 l (i : Int)] := by
  rw [rd_item l i h, List.take_succ_eq_append_getElem h]
/-- Items in order, behind a place and apart, their bags other than those met. -/
def okRun (G : Int) : Int → List It → List It → Bool
  | _, _, [] => true
  | most, seen, x :: l => decide (1 ≤ x.f0) && !(seen.any (fun y => y.f0 == x.f0)) && decide (1 ≤ x.f2 ∧ x.f2 ≤ 60 ∧ x.f2 ≤ x.f1 ∧ x.f1 ≤ most) && okRun G (x.f1 - x.f2 - G) (seen ++ [x]) l
def okB (L G : Int) (l : List It) : Bool := decide (1 ≤ L ∧ L ≤ 400 ∧ 0 ≤ G ∧ G ≤ 20 ∧ l.length ≤ 40) && okRun G L [] l
theorem okB_len {L G : Int} {l : List It} (h : okB L G l = true) : 1 ≤ L ∧ L ≤ 400 ∧ 0 ≤ G ∧ G ≤ 20 ∧ l.length ≤ 40 := by
  unfold okB at h
  simp only [Bool.and_eq_true, decide_eq_true_eq] at h
  exact h.1
theorem okB_run {L G : Int} {l : List It} (h : okB L G l = true) : okRun G L [] l = true := by
  unfold okB at h
  simp only [Bool.and_eq_true] at h
  exact h.2
theorem okRun_cons {G most : Int} {seen : List It} {x : It} {l : List It} (h : okRun G most seen (x :: l) = true) :
    1 ≤ x.f0 ∧ seen.any (fun y => y.f0 == x.f0) = false ∧ (1 ≤ x.f2 ∧ x.f2 ≤ 60 ∧ x.f2 ≤ x.f1 ∧ x.f1 ≤ most) ∧ okRun G (x.f1 - x.f2 - G) (seen ++ [x]) l = true := by
  simp only [okRun, Bool.and_eq_true, decide_eq_true_eq, Bool.not_eq_true'] at h
  exact ⟨h.1.1.1, h.1.1.2, h.1.2, h.2⟩
/-- One step of all items. -/
def stepGo (G : Int) : Int → List It → List It
  | _, [] => []
  | most, x :: l => if x.f1 < most then ⟨x.f0, x.f1 + 1, x.f2⟩ :: stepGo G (x.f1 + 1 - x.f2 - G) l else x :: stepGo G (x.f1 - x.f2 - G) l
/-- How many of them move. -/
def stepN (G : Int) : Int → List It → Nat
  | _, [] => 0
  | most, x :: l => if x.f1 < most then 1 + stepN G (x.f1 + 1 - x.f2 - G) l else stepN G (x.f1 - x.f2 - G) l
theorem stepGo_len (G : Int) : ∀ (l : List It) (most : Int), (stepGo G most l).length = l.length
  | [], _ => rfl
  | x :: l, most => by
    unfold stepGo
    split
    · simp [stepGo_len G l]
    · simp [stepGo_len G l]
theorem stepN_le (G : Int) : ∀ (l : List It) (most : Int), stepN G most l ≤ l.length
  | [], _ => Nat.le_refl _
  | x :: l, most => by
    unfold stepN
    split
    · have := stepN_le G l (x.f1 + 1 - x.f2 - G); simp; omega
    · have := stepN_le G l (x.f1 - x.f2 - G); simp; omega
theorem any_bag {s s' : List It} (h : s.map (·.f0) = s'.map (·.f0)) (b : Int) : s.any (fun y => y.f0 == b) = s'.any (fun y => y.f0 == b) := by
  have e : ∀ t : List It, t.any (fun y => y.f0 == b) = (t.map (·.f0)).any (fun y => y == b) := fun t => by rw [List.any_map]; rfl
  rw [e, e, h]
theorem okRun_seen (G : Int) : ∀ (l : List It) (most : Int) (s s' : List It), s.map (·.f0) = s'.map (·.f0) → okRun G most s l = okRun G most s' l
  | [], _, _, _, _ => rfl
  | x :: l, most, s, s', h => by
    unfold okRun
    rw [any_bag h, okRun_seen G l _ (s ++ [x]) (s' ++ [x]) (by simp [h])]
theorem okRun_step (G : Int) (hG : 0 ≤ G) : ∀ (l : List It) (m0 m1 : Int) (s s' : List It), okRun G m0 s l = true → m0 ≤ m1 → s.map (·.f0) = s'.map (·.f0) → okRun G m1 s' (stepGo G m1 l) = true
  | [], _, _, _, _, _, _, _ => rfl
  | x :: l, m0, m1, s, s', h, hm, hs => by
    obtain ⟨h1, h2, h3, h4⟩ := okRun_cons h
    rw [any_bag hs] at h2
    unfold stepGo
    split
    · rename_i hlt
      have := okRun_step G hG l (x.f1 - x.f2 - G) (x.f1 + 1 - x.f2 - G) (s ++ [x]) (s' ++ [⟨x.f0, x.f1 + 1, x.f2⟩]) h4 (by omega) (by simp [hs])
      unfold okRun
      simp only [Bool.and_eq_true, decide_eq_true_eq, Bool.not_eq_true']
      exact ⟨⟨⟨h1, h2⟩, by omega⟩, this⟩
    · rename_i hlt
      have := okRun_step G hG l (x.f1 - x.f2 - G) (x.f1 - x.f2 - G) (s ++ [x]) (s' ++ [x]) h4 (by omega) (by simp [hs])
      unfold okRun
      simp only [Bool.and_eq_true, decide_eq_true_eq, Bool.not_eq_true']
      exact ⟨⟨⟨h1, h2⟩, by omega⟩, this⟩
theorem okB_step {L G : Int} {l : List It} (h : okB L G l = true) : okB L G (stepGo G L l) = true := by
  have h1 := okB_len h
  have h2 := okB_run h
  unfold okB
  rw [decide_eq_true (by rw [stepGo_len]; exact h1), okRun_step G (by omega) l L L [] [] h2 (Int.le_refl _) rfl]
  rfl
def moveM (G L : Int) : Nat → List It → List It
  | 0, l => l
  | n + 1, l => moveM G L n (stepGo G L l)
theorem okB_move {L G : Int} : ∀ (n : Nat) {l : List It}, okB L G l = true → okB L G (moveM G L n l) = true
  | 0, _, h => h
  | n + 1, _, h => okB_move n (okB_step h)
theorem moveM_len (G L : Int) : ∀ (n : Nat) (l : List It), (moveM G L n l).length = l.length
  | 0, _ => rfl
  | n + 1, l => by unfold moveM; rw [moveM_len G L n, stepGo_len]
theorem rd_mid (a : List It) (x : It) (b : List It) : rd_T53 (a ++ x :: b) (a.length : Int) = x := by
  simp [rd_T53, List.getD_eq_getElem?_getD]
theorem rd_mid' (a : List It) (p x : It) (b : List It) : rd_T53 ((a ++ [p]) ++ x :: b) (a.length : Int) = p := by
  rw [List.append_assoc]
  exact rd_mid a p (x :: b)
theorem set_mid (a : List It) (x y : It) (b : List It) : (a ++ x :: b).set a.length y = (a ++ [y]) ++ b := by
  simp
theorem impl_step_loop (L G : Int) (H : Bool) (hG : 0 ≤ G ∧ G ≤ 20) : ∀ (rest done : List It) (n most m0 : Int) (seen : List It), okRun G m0 seen rest = true → m0 ≤ most → most ≤ 400 → -100 ≤ m0 → 0 ≤ n → n ≤ (done.length : Int) → (done ++ rest).length ≤ 40 →
    Ev (fun k => impl_stepped.l0 k n most ((done ++ rest).length : Int) (done.length : Int) L G H (done ++ rest)) (n + (stepN G most rest : Int), done ++ stepGo G most rest)
  | [], done, n, most, m0, seen, _, _, _, _, _, _, _ => by
    refine Ev.step (fun k => by rw [impl_stepped.l0, if_neg (by simp)]) (ev_some ?_)
    simp [stepN, stepGo]
  | x :: rest, done, n, most, m0, seen, h, hm, h4, hl, hn0, hn1, hlen => by
    obtain ⟨h1, h2, h3, h5⟩ := okRun_cons h
    have hlt : (done.length : Int) < ((done ++ x :: rest).length : Int) := by simp; omega
    have hlen' : done.length ≤ 40 := by simp at hlen; omega
    have e1 : wrap64 ((done.length : Int) + 1) = ((done.length + 1 : Nat) : Int) := w64 (by omega) (by omega)
    refine Ev.step (fun k => by rw [impl_stepped.l0, if_pos hlt, if_pos (show (0 : Int) ≤ (done.length : Int) by omega), if_pos hlt, rd_mid]) ?_
    unfold stepGo stepN
    by_cases c : x.f1 < most
    · simp only [if_pos c, Option.bind_some, Int.toNat_natCast, set_mid]
      rw [w64 (x := x.f1 + 1) (by omega) (by omega)]
      have hr : rd_T53 ((done ++ [⟨x.f0, x.f1 + 1, x.f2⟩]) ++ rest) (done.length : Int) = ⟨x.f0, x.f1 + 1, x.f2⟩ := by rw [List.append_assoc]; exact rd_mid _ _ _
      rw [hr]
      simp only
      rw [w64 (x := x.f1 + 1 - x.f2) (by omega) (by omega), w64 (x := x.f1 + 1 - x.f2 - G) (by omega) (by omega), w64 (x := n + 1) (by omega) (by omega), e1]
      have := impl_step_loop L G H hG rest (done ++ [⟨x.f0, x.f1 + 1, x.f2⟩]) (n + 1) (x.f1 + 1 - x.f2 - G) (x.f1 - x.f2 - G) (seen ++ [x]) h5 (by omega) (by omega) (by omega) (by omega) (by simp only [List.length_append, List.length_cons, List.length_nil]; omega) (by simp only [List.length_append, List.length_cons, List.length_nil] at hlen ⊢; omega)
      have el : (((done ++ [(⟨x.f0, x.f1 + 1, x.f2⟩ : It)]) ++ rest).length : Int) = ((done ++ x :: rest).length : Int) := by simp
      have ed : ((done ++ [(⟨x.f0, x.f1 + 1, x.f2⟩ : It)]).length : Int) = ((done.length + 1 : Nat) : Int) := by simp
      rw [el, ed] at this
      have er : (n + 1 + (stepN G (x.f1 + 1 - x.f2 - G) rest : Int), (done ++ [(⟨x.f0, x.f1 + 1, x.f2⟩ : It)]) ++ stepGo G (x.f1 + 1 - x.f2 - G) rest) = (n + ((1 + stepN G (x.f1 + 1 - x.f2 - G) rest : Nat) : Int), done ++ ⟨x.f0, x.f1 + 1, x.f2⟩ :: stepGo G (x.f1 + 1 - x.f2 - G) rest) := by
        rw [List.append_assoc]
        simp
        omega
      rw [er] at this
      exact this
    · simp only [if_neg c]
      rw [w64 (x := x.f1 - x.f2) (by omega) (by omega), w64 (x := x.f1 - x.f2 - G) (by omega) (by omega), e1]
      have := impl_step_loop L G H hG rest (done ++ [x]) n (x.f1 - x.f2 - G) (x.f1 - x.f2 - G) (seen ++ [x]) h5 (by omega) (by omega) (by omega) (by omega) (by simp only [List.length_append, List.length_cons, List.length_nil]; omega) (by simp only [List.length_append, List.length_cons, List.length_nil] at hlen ⊢; omega)
      have ed : ((done ++ [x]).length : Int) = ((done.length + 1 : Nat) : Int) := by simp
      rw [ed, List.append_assoc, List.append_assoc] at this
      exact this
theorem impl_step_ev {L G : Int} (H : Bool) {l : List It} (h : okB L G l = true) : Ev (fun k => impl_stepped.f k L G H l) ((stepN G L l : Int), stepGo G L l) := by
  have h1 := okB_len h
  unfold impl_stepped.f
  have := impl_step_loop L G H (by omega) l [] 0 L L [] (okB_run h) (Int.le_refl _) (by omega) (by omega) (Int.le_refl _) (by simp) (by simpa using h1.2.2.2.2)
  simpa using this
theorem impl_ok_loop (L G : Int) (H : Bool) (l : List It) (hG : 0 ≤ G ∧ G ≤ 20) (hl : l.length ≤ 40) (d : Nat) : ∀ (i : Nat) (most : Int), i + d = l.length → -100 ≤ most → most ≤ 400 →
    Ev (fun k => impl_BeltOk.l0 k most l (l.length : Int) i L G H l) (okRun G most (l.take i) (l.drop i)) := by
  induction d with
  | zero =>
    intro i most hi h0 h1
    rw [List.drop_eq_nil_of_le (by omega)]
    exact Ev.step (f := fun _ => some true) (fun k => by rw [impl_BeltOk.l0, if_neg (show ¬ (i : Int) < (l.length : Int) by omega)]) (ev_some rfl)
  | succ d ih =>
    intro i most hi h0 h1
    have hlt : i < l.length := by omega
    have e1 : wrap64 ((i : Int) + 1) = ((i + 1 : Nat) : Int) := w64 (by omega) (by omega)
    rw [drop_item l i hlt]
    generalize hx : rd_T53 l (i : Int) = x
    refine Ev.step (fun k => by rw [impl_BeltOk.l0, if_pos (show (i : Int) < (l.length : Int) by omega), if_pos (show (0 : Int) ≤ (i : Int) by omega), if_pos (show (i : Int) < (l.length : Int) by omega), if_pos (show (i : Int) ≤ (l.length : Int) by omega), hx]) ?_
    simp only [okRun, impl_isOn.f, Option.bind_some, Int.toNat_natCast]
    by_cases c1 : x.f0 < 1
    · simp only [if_pos c1]
      rw [decide_eq_false (show ¬ 1 ≤ x.f0 by omega)]
      exact ev_some (by simp)
    · simp only [if_neg c1]
      rw [decide_eq_true (show 1 ≤ x.f0 by omega)]
      cases c2 : (l.take i).any (fun y => y.f0 == x.f0) with
      | true => exact ev_some (by simp)
      | false =>
        simp only [if_neg (show ¬ (false = true) by decide)]
        by_cases c3 : 1 ≤ x.f2 ∧ x.f2 ≤ 60 ∧ x.f2 ≤ x.f1 ∧ x.f1 ≤ most
        · rw [decide_eq_true c3]
          simp only [if_neg (show ¬ x.f2 < 1 by omega), if_neg (show ¬ x.f2 > 60 by omega), if_neg (show ¬ x.f1 < x.f2 by omega), if_neg (show ¬ x.f1 > most by omega)]
          rw [w64 (x := x.f1 - x.f2) (by omega) (by omega), w64 (x := x.f1 - x.f2 - G) (by omega) (by omega), e1]
          have := ih (i + 1) (x.f1 - x.f2 - G) (by omega) (by omega) (by omega)
          rw [take_item l i hlt, hx] at this
          simpa using this
        · rw [decide_eq_false c3]
          have : (true && !false && false && okRun G (x.f1 - x.f2 - G) (l.take i ++ [x]) (l.drop (i + 1))) = false := by simp
          rw [this]
          by_cases d1 : x.f2 < 1
          · simp only [if_pos d1]; exact Ev.now _
          · by_cases d2 : x.f2 > 60
            · simp only [if_neg d1, if_pos d2]; exact Ev.now _
            · by_cases d3 : x.f1 < x.f2
              · simp only [if_neg d1, if_neg d2, if_pos d3]; exact Ev.now _
              · simp only [if_neg d1, if_neg d2, if_neg d3, if_pos (show x.f1 > most by omega)]; exact Ev.now _
theorem impl_ok_ev (L G : Int) (H : Bool) (l : List It) : Ev (fun k => impl_BeltOk.f k L G H l) (okB L G l) := by
  unfold impl_BeltOk.f
  have hf : ∀ L G H, Ev (fun k => impl_BeltOk.j0 k true L G H l) false := fun L G H => Ev.step (fun k => by rw [impl_BeltOk.j0, if_pos rfl]) (Ev.now _)
  have hb : ¬ (1 ≤ L ∧ L ≤ 400 ∧ 0 ≤ G ∧ G ≤ 20 ∧ l.length ≤ 40) → okB L G l = false := fun h => by unfold okB; rw [decide_eq_false h]; rfl
  by_cases c1 : L < 1
  · simp only [if_pos c1]; rw [hb (by omega)]; exact hf _ _ _
  · by_cases c2 : L > 400
    · simp only [if_neg c1, if_pos c2]; rw [hb (by omega)]; exact hf _ _ _
    · by_cases c3 : G < 0
      · simp only [if_neg c1, if_neg c2, if_pos c3]; rw [hb (by omega)]; exact hf _ _ _
      · by_cases c4 : G > 20
        · simp only [if_neg c1, if_neg c2, if_neg c3, if_pos c4]; rw [hb (by omega)]; exact hf _ _ _
        · simp only [if_neg c1, if_neg c2, if_neg c3, if_neg c4]
          by_cases c5 : (l.length : Int) > 40
          · rw [decide_eq_true c5, hb (by omega)]; exact hf _ _ _
          · rw [decide_eq_false c5]
            refine Ev.step (fun k => by rw [impl_BeltOk.j0, if_neg (by decide)]) ?_
            have := impl_ok_loop L G H l (by omega) (by omega) l.length 0 L (by omega) (by omega) (by omega)
            unfold okB
            rw [decide_eq_true (by omega)]
            simpa using this
theorem copy_ev (L G : Int) (H : Bool) (l : List It) (hl : l.length ≤ 1048600) : impl_copyBelt.f L G H l = some (L, G, H, l) := by
  unfold impl_copyBelt.f slices_Clone.f
  rw [if_pos (by omega), Option.bind_some]
/-- What Move returns. -/
def moveR (L G : Int) (l : List It) (s : Int) : List It := if okB L G l = true ∧ 0 ≤ s ∧ s ≤ 2000 then moveM G L s.toNat l else l
theorem moveR_len (L G : Int) (l : List It) (s : Int) : (moveR L G l s).length = l.length := by
  unfold moveR; split
  · exact moveM_len _ _ _ _
  · rfl
theorem impl_move_loop (L G : Int) (H : Bool) : ∀ (n : Nat) (l : List It), n ≤ 5000 → okB L G l = true → Ev (fun k => impl_Move.l0 k (n : Int) L G H l) (L, G, H, moveM G L n l)
  | 0, l, _, h => Ev.step (f := fun _ => some (L, G, H, l)) (fun k => by rw [impl_Move.l0, if_neg (by omega)]) (Ev.now _)
  | n + 1, l, hn, h => by
    have e1 : wrap64 (((n + 1 : Nat) : Int) - 1) = (n : Int) := by rw [w64 (by omega) (by omega)]; omega
    refine Ev.step (fun k => by rw [impl_Move.l0, if_pos (show ((n + 1 : Nat) : Int) > 0 by omega), e1]) ?_
    refine ev_bind _ (impl_step_ev H h) ?_
    exact impl_move_loop L G H n (stepGo G L l) (by omega) (okB_step h)
theorem steps_eq (s : Int) : impl_isSteps.f s = some (decide (0 ≤ s ∧ s ≤ 2000)) := by
  unfold impl_isSteps.f
  by_cases h : s ≥ 0
  · rw [if_pos h]; congr 1; simp; omega
  · rw [if_neg h]; congr 1; simp; omega
theorem impl_move_ev (L G : Int) (H : Bool) (l : List It) (s : Int) (hl : l.length ≤ 1048600) : Ev (fun k => impl_Move.f k L G H l s) (L, G, H, moveR L G l s) := by
  unfold impl_Move.f moveR
  simp only [copy_ev L G H l hl, Option.bind_some]
  refine ev_bind _ (impl_ok_ev L G H l) ?_
  cases h : okB L G l with
  | false =>
    simp only [if_neg (show ¬ (false = true) by decide), false_and, if_false, Bool.false_eq_true]
    exact Ev.step (fun k => by rw [impl_Move.j0, if_pos rfl]) (Ev.now _)
  | true =>
    simp only [if_true, steps_eq, Option.bind_some, true_and]
    by_cases c : 0 ≤ s ∧ s ≤ 2000
    · rw [decide_eq_true c, if_pos c]
      refine Ev.step (fun k => by rw [impl_Move.j0, if_neg (by decide)]) ?_
      have := impl_move_loop L G H s.toNat l (by omega) h
      rw [Int.toNat_of_nonneg c.1] at this
      exact this
    · rw [decide_eq_false c, if_neg c]
      exact Ev.step (fun k => by rw [impl_Move.j0, if_pos (show (!false) = true from rfl)]) (Ev.now _)
theorem spec_in (x a b : Int) : spec_l01In.f x a b = some (decide (a ≤ x ∧ x ≤ b)) := by
  unfold spec_l01In.f
  by_cases h : x ≥ a
  · rw [if_pos h]; congr 1; simp; omega
  · rw [if_neg h]; congr 1; simp; omega
theorem spec_ok_inner (L G : Int) (H : Bool) (l : List It) (b f n : Int) (hl : l.length ≤ 40) (i : Nat) (hi : i < l.length) (R : Bool) (d : Nat) : ∀ (j : Nat), j + d = i →
    (((l.take i).drop j).any (fun y => y.f0 == b) = true → R = false) →
    (((l.take i).drop j).any (fun y => y.f0 == b) = false → Ev (fun k => if (i : Int) > 0 then (if 0 ≤ (wrap64 ((i : Int) - 1)) then (if (wrap64 ((i : Int) - 1)) < (l.length : Int) then (if f > (wrap64 ((wrap64 (((rd_T53 l (wrap64 ((i : Int) - 1))).f1) - ((rd_T53 l (wrap64 ((i : Int) - 1))).f2))) - G)) then (some false) else (spec_BeltOk.l0 k (wrap64 ((i : Int) + 1)) L G H l)) else (none)) else (none)) else (spec_BeltOk.l0 k (wrap64 ((i : Int) + 1)) L G H l)) R) →
    Ev (fun k => spec_BeltOk.l1 k (i : Int) (j : Int) L G H l b f n) R := by
  induction d with
  | zero =>
    intro j hj _ h
    have : j = i := by omega
    subst this
    refine Ev.step (fun k => by rw [spec_BeltOk.l1, if_neg (show ¬ (j : Int) < (j : Int) by omega)]) ?_
    exact h (by rw [List.drop_eq_nil_of_le (by simp; omega)]; rfl)
  | succ d ih =>
    intro j hj hd h
    have e1 : wrap64 ((j : Int) + 1) = ((j + 1 : Nat) : Int) := w64 (by omega) (by omega)
    have hjt : j < (l.take i).length := by simp; omega
    have hc : (l.take i).drop j = rd_T53 l (j : Int) :: (l.take i).drop (j + 1) := by
      rw [List.drop_eq_getElem_cons hjt, rd_item l j (by omega)]
      simp
    rw [hc, List.any_cons] at hd h
    refine Ev.step (fun k => by rw [spec_BeltOk.l1, if_pos (show (j : Int) < (i : Int) by omega), if_pos (show (0 : Int) ≤ (j : Int) by omega), if_pos (show (j : Int) < (l.length : Int) by omega), e1]) ?_
    by_cases c : (rd_T53 l (j : Int)).f0 = b
    · simp only [if_pos c]
      rw [hd (by simp [c])]
      exact Ev.now _
    · simp only [if_neg c]
      have hb : ((rd_T53 l (j : Int)).f0 == b) = false := by simp [c]
      rw [hb, Bool.false_or] at hd h
      exact ih (j + 1) (by omega) hd h
/-- What the place in front of item i leaves it. -/
def mostAt (L G : Int) (l : List It) (i : Nat) : Int := if i = 0 then L else (rd_T53 l ((i - 1 : Nat) : Int)).f1 - (rd_T53 l ((i - 1 : Nat) : Int)).f2 - G
theorem spec_ok_loop (L G : Int) (H : Bool) (l : List It) (hL : 1 ≤ L ∧ L ≤ 400) (hG : 0 ≤ G ∧ G ≤ 20) (hl : l.length ≤ 40) (d : Nat) : ∀ (i : Nat), i + d = l.length → -100 ≤ mostAt L G l i → mostAt L G l i ≤ L →
    (0 < i → (rd_T53 l ((i - 1 : Nat) : Int)).f1 ≤ 400 ∧ 1 ≤ (rd_T53 l ((i - 1 : Nat) : Int)).f2 ∧ (rd_T53 l ((i - 1 : Nat) : Int)).f2 ≤ 60 ∧ (rd_T53 l ((i - 1 : Nat) : Int)).f2 ≤ (rd_T53 l ((i - 1 : Nat) : Int)).f1) →
    Ev (fun k => spec_BeltOk.l0 k i L G H l) (okRun G (mostAt L G l i) (l.take i) (l.drop i)) := by
  induction d with
  | zero =>
    intro i hi h0 h1 _
    rw [List.drop_eq_nil_of_le (by omega)]
    exact Ev.step (f := fun _ => some true) (fun k => by rw [spec_BeltOk.l0, if_neg (show ¬ (i : Int) < (l.length : Int) by omega)]) (ev_some rfl)
  | succ d ih =>
    intro i hi h0 h1 hp
    have hlt : i < l.length := by omega
    have e1 : wrap64 ((i : Int) + 1) = ((i + 1 : Nat) : Int) := w64 (by omega) (by omega)
    rw [drop_item l i hlt]
    generalize hx : rd_T53 l (i : Int) = x
    have hfalse : ∀ b f n, Ev (fun k => spec_BeltOk.j2 k i true L G H l b f n) false := fun b f n => Ev.step (fun k => by rw [spec_BeltOk.j2, if_pos rfl]) (Ev.now _)
    refine Ev.step (fun k => by rw [spec_BeltOk.l0, if_pos (show (i : Int) < (l.length : Int) by omega), if_pos (show (0 : Int) ≤ (i : Int) by omega), hx]) ?_
    simp only [okRun, spec_in, Option.bind_some]
    by_cases c1 : x.f0 < 1
    · simp only [if_pos c1]
      rw [decide_eq_false (show ¬ 1 ≤ x.f0 by omega)]
      simp only [Bool.false_and]
      exact hfalse _ _ _
    · simp only [if_neg c1]
      rw [decide_eq_true (show 1 ≤ x.f0 by omega)]
      by_cases c2 : 1 ≤ x.f2 ∧ x.f2 ≤ 60
      · rw [decide_eq_true c2]
        simp only [if_true]
        by_cases c3 : x.f2 ≤ x.f1 ∧ x.f1 ≤ L
        · rw [decide_eq_true c3]
          simp only [Bool.not_true]
          refine Ev.step (fun k => by rw [spec_BeltOk.j2, if_neg (by decide)]) ?_
          refine spec_ok_inner L G H l x.f0 x.f1 x.f2 hl i hlt _ i 0 (by omega) ?_ ?_
          · intro h
            rw [List.drop_zero] at h
            rw [h]; simp
          · intro h
            rw [List.drop_zero] at h
            rw [h, e1]
            have hm : mostAt L G l (i + 1) = x.f1 - x.f2 - G := by
              unfold mostAt
              rw [if_neg (by omega), Nat.add_sub_cancel, hx]
            have hrest := ih (i + 1) (by omega) (by rw [hm]; omega) (by rw [hm]; omega) (fun _ => by rw [Nat.add_sub_cancel, hx]; omega)
            rw [hm, take_item l i hlt, hx] at hrest
            by_cases c4 : (i : Int) > 0
            · have e2 : wrap64 ((i : Int) - 1) = ((i - 1 : Nat) : Int) := by rw [w64 (by omega) (by omega)]; omega
              have hpr := hp (by omega)
              have hmi : mostAt L G l i = (rd_T53 l ((i - 1 : Nat) : Int)).f1 - (rd_T53 l ((i - 1 : Nat) : Int)).f2 - G := by
                unfold mostAt; rw [if_neg (by omega)]
              simp only [if_pos c4, e2, if_pos (show (0 : Int) ≤ ((i - 1 : Nat) : Int) by omega), if_pos (show ((i - 1 : Nat) : Int) < (l.length : Int) by omega)]
              rw [w64 (x := (rd_T53 l ((i - 1 : Nat) : Int)).f1 - (rd_T53 l ((i - 1 : Nat) : Int)).f2) (by omega) (by omega), w64 (by omega) (by omega), ← hmi]
              by_cases c5 : x.f1 > mostAt L G l i
              · simp only [if_pos c5]
                rw [decide_eq_false (show ¬ (1 ≤ x.f2 ∧ x.f2 ≤ 60 ∧ x.f2 ≤ x.f1 ∧ x.f1 ≤ mostAt L G l i) by omega)]
                exact ev_some (by simp)
              · simp only [if_neg c5]
                rw [decide_eq_true (show (1 ≤ x.f2 ∧ x.f2 ≤ 60 ∧ x.f2 ≤ x.f1 ∧ x.f1 ≤ mostAt L G l i) by omega)]
                simpa using hrest
            · have hmi : mostAt L G l i = L := by unfold mostAt; rw [if_pos (by omega)]
              simp only [if_neg c4]
              rw [hmi, decide_eq_true (show (1 ≤ x.f2 ∧ x.f2 ≤ 60 ∧ x.f2 ≤ x.f1 ∧ x.f1 ≤ L) by omega)]
              simpa using hrest
        · rw [decide_eq_false c3, decide_eq_false (show ¬ (1 ≤ x.f2 ∧ x.f2 ≤ 60 ∧ x.f2 ≤ x.f1 ∧ x.f1 ≤ mostAt L G l i) by omega)]
          simp only [Bool.not_false, Bool.and_false, Bool.false_and]
          exact hfalse _ _ _
      · rw [decide_eq_false c2, decide_eq_false (show ¬ (1 ≤ x.f2 ∧ x.f2 ≤ 60 ∧ x.f2 ≤ x.f1 ∧ x.f1 ≤ mostAt L G l i) by omega)]
        simp only [Bool.and_false, Bool.false_and, if_neg (show ¬ (false = true) by decide)]
        exact hfalse _ _ _
theorem spec_ok_ev (L G : Int) (H : Bool) (l : List It) : Ev (fun k => spec_BeltOk.f k L G H l) (okB L G l) := by
  unfold spec_BeltOk.f
  have hf : ∀ L G H, Ev (fun k => spec_BeltOk.j0 k true L G H l) false := fun L G H => Ev.step (fun k => by rw [spec_BeltOk.j0, if_pos rfl]) (Ev.now _)
  have hb : ¬ (1 ≤ L ∧ L ≤ 400 ∧ 0 ≤ G ∧ G ≤ 20 ∧ l.length ≤ 40) → okB L G l = false := fun h => by unfold okB; rw [decide_eq_false h]; rfl
  simp only [spec_in, Option.bind_some]
  by_cases c1 : 1 ≤ L ∧ L ≤ 400
  · rw [decide_eq_true c1]
    simp only [if_true]
    by_cases c2 : 0 ≤ G ∧ G ≤ 20
    · rw [decide_eq_true c2]
      simp only [if_true]
      by_cases c5 : (l.length : Int) > 40
      · rw [decide_eq_true c5, hb (by omega)]; exact hf _ _ _
      · rw [decide_eq_false c5]
        refine Ev.step (fun k => by rw [spec_BeltOk.j0, if_neg (by decide)]) ?_
        have hm : mostAt L G l 0 = L := rfl
        have := spec_ok_loop L G H l c1 c2 (by omega) l.length 0 (by omega) (by rw [hm]; omega) (by rw [hm]; omega) (fun h => by omega)
        unfold okB
        rw [decide_eq_true (by omega)]
        rw [hm] at this
        simpa using this
    · rw [decide_eq_false c2, hb (by omega)]
      simp only [if_neg (show ¬ (false = true) by decide)]
      exact hf _ _ _
  · rw [decide_eq_false c1, hb (by omega)]
    simp only [if_neg (show ¬ (false = true) by decide)]
    exact hf _ _ _
theorem okRun_mem (G : Int) (hG : 0 ≤ G) : ∀ (l : List It) (most : Int) (s : List It), okRun G most s l = true → ∀ x ∈ l, 1 ≤ x.f0 ∧ 1 ≤ x.f2 ∧ x.f2 ≤ 60 ∧ x.f2 ≤ x.f1 ∧ x.f1 ≤ most
  | [], _, _, _, x, hx => by simp at hx
  | y :: l, most, s, h, x, hx => by
    obtain ⟨h1, h2, h3, h4⟩ := okRun_cons h
    rcases List.mem_cons.1 hx with rfl | hx
    · omega
    · have := okRun_mem G hG l _ _ h4 x hx
      omega
theorem okB_mem {L G : Int} {l : List It} (h : okB L G l = true) : ∀ x ∈ l, 1 ≤ x.f0 ∧ 1 ≤ x.f2 ∧ x.f2 ≤ 60 ∧ x.f2 ≤ x.f1 ∧ x.f1 ≤ L := by
  have h1 := okB_len h
  exact okRun_mem G (by omega) l L [] (okB_run h)
theorem rd_mem (l : List It) (i : Nat) (h : i < l.length) : rd_T53 l (i : Int) ∈ l := by
  rw [rd_item l i h]; exact List.getElem_mem _
/-- What FreeBehind returns. -/
def freeR (L G : Int) (l : List It) : Int := if okB L G l = true then (match l.getLast? with | none => L | some x => mx 0 (x.f1 - x.f2 - G)) else -1
theorem last_item (l : List It) (h : l ≠ []) : l.getLast? = some (rd_T53 l ((l.length - 1 : Nat) : Int)) := by
  have hl : 0 < l.length := List.length_pos_iff.2 h
  rw [List.getLast?_eq_getElem?, rd_item l (l.length - 1) (by omega), List.getElem?_eq_getElem (by omega)]
theorem impl_free_ev (L G : Int) (H : Bool) (l : List It) : Ev (fun k => impl_FreeBehind.f k L G H l) (freeR L G l) := by
  unfold impl_FreeBehind.f freeR
  refine ev_bind _ (impl_ok_ev L G H l) ?_
  cases h : okB L G l with
  | false => simp only [Bool.false_eq_true, if_false]; exact Ev.now _
  | true =>
    have h1 := okB_len h
    simp only [if_true]
    refine ev_const ?_
    cases l with
    | nil => simp
    | cons x t =>
      have hne : x :: t ≠ [] := by simp
      have hl : 0 < (x :: t).length := by simp
      have hm := okB_mem h _ (rd_mem (x :: t) ((x :: t).length - 1) (by omega))
      have e : wrap64 (((x :: t).length : Int) - 1) = (((x :: t).length - 1 : Nat) : Int) := by rw [w64 (by omega) (by omega)]; omega
      rw [last_item _ hne]
      generalize hw : x :: t = w at *
      rw [if_neg (by omega), e, if_pos (by omega), if_pos (by omega), w64 (x := _ - (rd_T53 w ((w.length - 1 : Nat) : Int)).f2) (by omega) (by omega), w64 (by omega) (by omega)]
/-- Where n steps bring the items: each as far as it can. -/
def goN (G : Int) (n : Nat) : Int → List It → List It
  | _, [] => []
  | most, x :: l => ⟨x.f0, min (x.f1 + n) most, x.f2⟩ :: goN G n (min (x.f1 + n) most - x.f2 - G) l
theorem goN_zero (G : Int) : ∀ (l : List It) (most : Int) (s : List It), okRun G most s l = true → goN G 0 most l = l
  | [], _, _, _ => rfl
  | x :: l, most, s, h => by
    obtain ⟨_, _, h3, h4⟩ := okRun_cons h
    have e : min (x.f1 + ((0 : Nat) : Int)) most = x.f1 := by omega
    unfold goN; rw [e, goN_zero G l _ _ h4]
theorem step_goN (G : Int) (n : Nat) : ∀ (l : List It) (m0 m1 : Int), m0 ≤ m1 → m1 ≤ m0 + 1 → stepGo G m1 (goN G n m0 l) = goN G (n + 1) m1 l
  | [], _, _, _, _ => rfl
  | x :: l, m0, m1, h0, h1 => by
    unfold goN stepGo
    by_cases c : min (x.f1 + (n : Int)) m0 < m1
    · have e : min (x.f1 + (n : Int)) m0 + 1 = min (x.f1 + ((n + 1 : Nat) : Int)) m1 := by omega
      simp only [if_pos c]
      rw [step_goN G n l _ (min (x.f1 + (n : Int)) m0 + 1 - x.f2 - G) (by omega) (by omega), e]
    · have e : min (x.f1 + (n : Int)) m0 = min (x.f1 + ((n + 1 : Nat) : Int)) m1 := by omega
      simp only [if_neg c]
      rw [step_goN G n l _ (min (x.f1 + (n : Int)) m0 - x.f2 - G) (by omega) (by omega), e]
theorem move_goN (G L : Int) : ∀ (n k : Nat) (l : List It), moveM G L n (goN G k L l) = goN G (k + n) L l
  | 0, k, l => rfl
  | n + 1, k, l => by
    rw [moveM, step_goN G k l L L (Int.le_refl _) (by omega), move_goN G L n (k + 1) l]
    rw [show k + 1 + n = k + (n + 1) by omega]
theorem move_eq {L G : Int} {l : List It} (h : okB L G l = true) (n : Nat) : moveM G L n l = goN G n L l := by
  have := move_goN G L n 0 l
  rw [goN_zero G l L [] (okB_run h), Nat.zero_add] at this
  exact this
theorem stepGo_bags (G : Int) : ∀ (l : List It) (most : Int), (stepGo G most l).map (·.f0) = l.map (·.f0)
  | [], _ => rfl
  | x :: l, most => by
    unfold stepGo
    split <;> simp [stepGo_bags G l]
theorem moveM_bags (G L : Int) : ∀ (n : Nat) (l : List It), (moveM G L n l).map (·.f0) = l.map (·.f0)
  | 0, _ => rfl
  | n + 1, l => by unfold moveM; rw [moveM_bags G L n, stepGo_bags]

theorem moveM_add (G L : Int) : ∀ (a b : Nat) (l : List It), moveM G L b (moveM G L a l) = moveM G L (a + b) l
  | 0, b, l => by rw [moveM, Nat.zero_add]
  | a + 1, b, l => by
    rw [moveM, moveM_add G L a b, show a + 1 + b = (a + b) + 1 by omega, moveM]
/-- Where the last of them leaves the next one. -/
def goEnd (G : Int) (n : Nat) : Int → List It → Int
  | most, [] => most
  | most, x :: l => goEnd G n (min (x.f1 + n) most - x.f2 - G) l
theorem goEnd_last (G : Int) (n : Nat) : ∀ (l : List It) (most : Int), (match (goN G n most l).getLast? with | none => most | some x => x.f1 - x.f2 - G) = goEnd G n most l
  | [], _ => rfl
  | x :: l, most => by
    have := goEnd_last G n l (min (x.f1 + n) most - x.f2 - G)
    rw [goEnd, ← this, goN]
    cases l with
    | nil => rfl
    | cons y t =>
      rw [goN, List.getLast?_cons_cons]
      cases e : ((⟨y.f0, min (y.f1 + n) (min (x.f1 + n) most - x.f2 - G), y.f2⟩ : It) :: goN G n (min (y.f1 + n) (min (x.f1 + n) most - x.f2 - G) - y.f2 - G) t).getLast? with
      | none => simp at e
      | some w => rfl
theorem move_ok_n {L G : Int} {l : List It} (h : okB L G l = true) (s : Int) (n : Nat) (hs : s = (n : Int)) (hn : n ≤ 2000) : moveR L G l s = moveM G L n l := by
  subst hs
  unfold moveR
  rw [if_pos ⟨h, by omega, by omega⟩, Int.toNat_natCast]
theorem same_items_loop (l : List It) (hl : l.length ≤ 1048600) (d : Nat) : ∀ i : Nat, i + d = l.length → Ev (fun k => laws_sameItems.l0 k l l i) true := by
  induction d with
  | zero =>
    intro i hi
    exact Ev.step (fun k => by rw [laws_sameItems.l0, if_neg (show ¬ (i : Int) < (l.length : Int) by omega)]) (Ev.now _)
  | succ d ih =>
    intro i hi
    have e1 : wrap64 ((i : Int) + 1) = ((i + 1 : Nat) : Int) := w64 (by omega) (by omega)
    refine Ev.step (fun k => by rw [laws_sameItems.l0, if_pos (show (i : Int) < (l.length : Int) by omega), if_pos (show (0 : Int) ≤ (i : Int) by omega), if_pos (show (i : Int) < (l.length : Int) by omega), if_neg (by simp), e1]) ?_
    exact ih (i + 1) (by omega)
theorem same_belt_ev (L G : Int) (H : Bool) (l : List It) (hl : l.length ≤ 1048600) : Ev (fun k => laws_sameBelt.f k L G H l L G H l) true := by
  unfold laws_sameBelt.f laws_sameItems.f
  simp only [if_true, beq_self_eq_true]
  exact ev_bind _ (same_items_loop l hl l.length 0 (by omega)) (Ev.now _)
theorem belt_moves_loop (L G : Int) (H : Bool) (n : Nat) (hn : n ≤ 2000) (hG : 0 ≤ G ∧ G ≤ 20) (ha hb : Int) (hc : Bool) (l l1 : List It) (hl : l.length ≤ 40) (hfin : ∀ v, (if l.length = 0 then L else mx 0 v) = (if l.length = 0 then L else mx 0 v) → v = goEnd G n L l → Ev (fun k => impl_FreeBehind.f k ha hb hc l1) (if l.length = 0 then L else mx 0 v)) : ∀ (r a a' : List It) (most m0 : Int) (s : List It), okRun G m0 s r = true → m0 ≤ most → most ≤ 400 → l = a ++ r → l1 = a' ++ goN G n most r → a.length = a'.length → goEnd G n most r = goEnd G n L l →
    Ev (fun k => laws_FnBeltMoves.l0 k n most (a.length : Int) L G H l ha hb hc l1) true
  | [], a, a', most, m0, s, _, _, _, e, e1, e2, e3 => by
    refine Ev.step (fun k => by rw [laws_FnBeltMoves.l0, if_neg (show ¬ (a.length : Int) < (l.length : Int) by rw [e]; simp)]) ?_
    have h := hfin most rfl e3
    by_cases c : l.length = 0
    · rw [if_pos c] at h
      simp only [if_pos (show (l.length : Int) = 0 by omega)]
      exact ev_bind _ h (ev_some (by simp))
    · rw [if_neg c] at h
      simp only [if_neg (show ¬ (l.length : Int) = 0 by omega)]
      exact ev_bind _ h (ev_some (by simp))
  | x :: r, a, a', most, m0, s, h, h0, h1, e, e1, e2, e3 => by
    obtain ⟨_, _, h3, h4⟩ := okRun_cons h
    have hr : rd_T53 l (a.length : Int) = x := by rw [e]; exact rd_mid a x r
    have hr1 : rd_T53 l1 (a.length : Int) = ⟨x.f0, min (x.f1 + n) most, x.f2⟩ := by rw [e1, e2, goN]; exact rd_mid a' _ _
    have hal : a.length + r.length + 1 = l.length := by rw [e]; simp; omega
    have hal1 : a.length < l1.length := by rw [e1, e2, goN]; simp
    have q1 : wrap64 (x.f1 + (n : Int)) = x.f1 + n := w64 (by omega) (by omega)
    have q2 : mn (x.f1 + (n : Int)) most = min (x.f1 + n) most := by unfold mn; split <;> omega
    have q3 : wrap64 (wrap64 (min (x.f1 + (n : Int)) most - x.f2) - G) = min (x.f1 + n) most - x.f2 - G := by rw [w64 (x := _ - x.f2) (by omega) (by omega), w64 (by omega) (by omega)]
    have q4 : wrap64 ((a.length : Int) + 1) = ((a ++ [x]).length : Int) := by rw [w64 (by omega) (by omega)]; simp
    refine Ev.step (fun k => by rw [laws_FnBeltMoves.l0, if_pos (show (a.length : Int) < (l.length : Int) by omega), if_pos (show (0 : Int) ≤ (a.length : Int) by omega), if_pos (show (a.length : Int) < (l1.length : Int) by omega), hr, hr1, q1, q2, if_pos rfl, if_pos rfl, if_pos rfl, q3, q4]) ?_
    refine belt_moves_loop L G H n hn hG ha hb hc l l1 hl hfin r (a ++ [x]) (a' ++ [⟨x.f0, min (x.f1 + n) most, x.f2⟩]) _ _ (s ++ [x]) h4 (by omega) (by omega) (by rw [e]; simp) (by rw [e1, goN]; simp) (by simp [e2]) ?_
    rw [← e3, goEnd]
theorem FnBeltMoves : laws_FnBeltMoves.Pure := by
  intro L G H l a b _ _ _ _ wa wb
  refine Ev.rounds ?_
  unfold laws_FnBeltMoves.f
  have ha := wf64 wa
  have hb := wf64 wb
  have hno : ∀ L' G' H' l', Ev (fun k => laws_FnBeltMoves.j0 k a b true L' G' H' l') true := fun _ _ _ _ => Ev.step (fun k => by rw [laws_FnBeltMoves.j0, if_pos rfl]) (Ev.now _)
  refine ev_bind _ (spec_ok_ev L G H l) ?_
  cases h : okB L G l with
  | false => simp only [Bool.false_eq_true, if_false]; exact hno _ _ _ _
  | true =>
    simp only [if_true]
    by_cases c1 : a < 0
    · simp only [if_pos c1]; exact hno _ _ _ _
    · by_cases c2 : a > 2000
      · simp only [if_neg c1, if_pos c2]; exact hno _ _ _ _
      · by_cases c3 : b < 0
        · simp only [if_neg c1, if_neg c2, if_pos c3]; exact hno _ _ _ _
        · simp only [if_neg c1, if_neg c2, if_neg c3]
          rw [w64 (x := 2000 - a) (by omega) (by omega)]
          by_cases c4 : b > 2000 - a
          · rw [decide_eq_true c4]; exact hno _ _ _ _
          · rw [decide_eq_false c4]
            obtain ⟨n, rfl⟩ := Int.eq_ofNat_of_zero_le (show 0 ≤ a by omega)
            obtain ⟨m, rfl⟩ := Int.eq_ofNat_of_zero_le (show 0 ≤ b by omega)
            have hlen := okB_len h
            have h1 := okB_move (G := G) (L := L) n h
            have hlen1 := okB_len h1
            refine Ev.step (fun k => by rw [laws_FnBeltMoves.j0, if_neg (by decide)]) ?_
            have m1 := impl_move_ev L G H l n (by omega)
            rw [move_ok_n h n n rfl (by omega)] at m1
            refine ev_bind _ m1 ?_
            refine ev_bind _ (impl_ok_ev L G H l) ?_
            simp only [h, if_true]
            refine ev_bind _ (impl_ok_ev L G H _) ?_
            simp only [h1, if_true]
            have m2 := impl_move_ev L G H (moveM G L n l) m (by omega)
            rw [move_ok_n h1 m m rfl (by omega), moveM_add] at m2
            refine ev_bind _ m2 ?_
            rw [w64 (x := (n : Int) + (m : Int)) (by omega) (by omega)]
            have m3 := impl_move_ev L G H l ((n : Int) + (m : Int)) (by omega)
            rw [move_ok_n h ((n : Int) + (m : Int)) (n + m) (by omega) (by omega)] at m3
            refine ev_bind _ m3 ?_
            refine ev_bind _ (same_belt_ev L G H _ (by rw [moveM_len]; omega)) ?_
            simp only [if_true]
            have m4 := impl_move_ev L G H l 0 (by omega)
            rw [move_ok_n h 0 0 rfl (by omega), moveM] at m4
            refine ev_bind _ m4 ?_
            dsimp only
            refine ev_bind _ (same_belt_ev L G H _ (by omega)) ?_
            simp only [if_true, if_pos (show ((moveM G L n l).length : Int) = (l.length : Int) by rw [moveM_len]), bne_self_eq_false]
            refine Ev.step (fun k => by rw [laws_FnBeltMoves.j1, if_neg (by decide)]) ?_
            refine belt_moves_loop L G H n (by omega) (by omega) L G H l (moveM G L n l) (by omega) ?_ l [] [] L L [] (okB_run h) (Int.le_refl _) (by omega) rfl ?_ rfl rfl
            · intro v _ hv
              have f := impl_free_ev L G H (moveM G L n l)
              have e : freeR L G (moveM G L n l) = if l.length = 0 then L else mx 0 v := by
                have g := goEnd_last G n l L
                unfold freeR
                rw [if_pos h1]
                rw [move_eq h] at *
                cases l with
                | nil => rfl
                | cons x t =>
                  rw [if_neg (by simp), hv, ← g]
                  cases e : (goN G n L (x :: t)).getLast? with
                  | none => simp [goN] at e
                  | some w => rfl
              rw [e] at f
              exact f
            · rw [List.nil_append]; exact move_eq h n

end Go.Proofs.Ytbdjbdoelbmjcaa.Pure
