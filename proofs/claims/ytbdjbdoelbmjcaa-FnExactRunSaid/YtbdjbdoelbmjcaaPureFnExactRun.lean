/- For every belt and number of steps the law FnExactRun returns true (its printed function does): program and reference let the same bags leave at the same steps, in new memory. -/
import Derived.Test.YtbdjbdoelbmjcaaPFnExactRunx12
import Derived.Test.YtbdjbdoelbmjcaaKit
namespace Go.Proofs.Ytbdjbdoelbmjcaa.Pure
open Go.RowKit Go.Proofs.Ytbdjbdoelbmjcaa.PFnExactRun Go.Proofs.YtbdjbdoelbmjcaaW.PrintWords Go.Proofs.YtbdjbdoelbmjcaaW.PrintLast Go.Proofs.YtbdjbdoelbmjcaaW.PrintMore Go.Proofs.Ytbdjbdoelbmjcaa.Kit
set_option linter.unusedVariables false
set_option linter.unusedSimpArgs false

abbrev It := S53
theorem rd_item (l : List It) (i : Nat) (h : i < l.length) : rd_T53 l (i : Int) = l[i] := by
  simp [rd_T53, List.getD_eq_getElem?_getD, List.getElem?_eq_getElem h]
theorem drop_item (l : List It) (i : Nat) (h : i < l.length) : l.drop i = rd_T53 l (i : Int) :: l.drop (i + 1) := by
  rw [List.drop_eq_getElem_cons h, rd_item l i h]
theorem take_item (l : List It) (i : Nat) (h : i < l.length) : l.take (i + 1) = l.take i ++ [rd_T53 l (i : Int)] := by
  rw [rd_item l i h, List.take_succ_eq_append_getElem h]
/-- Items in order, behind a place and apart, their bags other than those met. -/
def okRun (G : Int) : Int → List It → List It → Bool
  | _, _, [] => true
  | most, seen, x :: l => decide (1 ≤ x.f0) && !(seen.any (fun y => y.f0 == x.f0)) && decide (1 ≤ x.f2 ∧ x.f2 ≤ 60 ∧ x.f2 ≤ x.f1 ∧ x.f1 ≤ most) && okRun G (x.f1 - x.f2 - G) (seen ++ [x]) l
def okB (L G : Int) (l : List It) : Bool := decide (1 ≤ L ∧ L ≤ 400 ∧ 0 ≤ G ∧ G ≤ 20 ∧ l.length ≤ 40) && okRun G L [] l
theorem okB_len {L G : Int} {l : List It} (h : okB L G l = true) : 1 ≤ L ∧ L ≤ 400 ∧ 0 ≤ G ∧ G ≤ 20 ∧ l.length ≤ 40 := by
  unfold okB at h
  simp only [Bool.and_eq_true, decide_eq_true_eq] at h
  exact h.1
theorem okB_run {L G : Int} {l : List It} (h : okB L G l = true) : okRun G L [] l = true := by
  unfold okB at h
  simp only [Bool.and_eq_true] at h
  exact h.2
theorem okRun_cons {G most : Int} {seen : List It} {x : It} {l : List It} (h : okRun G most seen (x :: l) = true) :
    1 ≤ x.f0 ∧ seen.any (fun y => y.f0 == x.f0) = false ∧ (1 ≤ x.f2 ∧ x.f2 ≤ 60 ∧ x.f2 ≤ x.f1 ∧ x.f1 ≤ most) ∧ okRun G (x.f1 - x.f2 - G) (seen ++ [x]) l = true := by
  simp only [okRun, Bool.and_eq_true, decide_eq_true_eq, Bool.not_eq_true'] at h
  exact ⟨h.1.1.1, h.1.1.2, h.1.2, h.2⟩
/-- One step of all items. -/
def stepGo (G : Int) : Int → List It → List It
  | _, [] => []
  | most, x :: l => if x.f1 < most then ⟨x.f0, x.f1 + 1, x.f2⟩ :: stepGo G (x.f1 + 1 - x.f2 - G) l else x :: stepGo G (x.f1 - x.f2 - G) l
/-- How many of them move. -/
def stepN (G : Int) : Int → List It → Nat
  | _, [] => 0
  | most, x :: l => if x.f1 < most then 1 + stepN G (x.f1 + 1 - x.f2 - G) l else stepN G (x.f1 - x.f2 - G) l
theorem stepGo_len (G : Int) : ∀ (l : List It) (most : Int), (stepGo G most l).length = l.length
  | [], _ => rfl
  | x :: l, most => by
    unfold stepGo
    split
    · simp [stepGo_len G l]
    · simp [stepGo_len G l]
theorem stepN_le (G : Int) : ∀ (l : List It) (most : Int), stepN G most l ≤ l.length
  | [], _ => Nat.le_refl _
  | x :: l, most => by
    unfold stepN
    split
    · have := stepN_le G l (x.f1 + 1 - x.f2 - G); simp; omega
    · have := stepN_le G l (x.f1 - x.f2 - G); simp; omega
theorem any_bag {s s' : List It} (h : s.map (·.f0) = s'.map (·.f0)) (b : Int) : s.any (fun y => y.f0 == b) = s'.any (fun y => y.f0 == b) := by
  have e : ∀ t : List It, t.any (fun y => y.f0 == b) = (t.map (·.f0)).any (fun y => y == b) := fun t => by rw [List.any_map]; rfl
  rw [e, e, h]
theorem okRun_seen (G : Int) : ∀ (l : List It) (most : Int) (s s' : List It), s.map (·.f0) = s'.map (·.f0) → okRun G most s l = okRun G most s' l
  | [], _, _, _, _ => rfl
  | x :: l, most, s, s', h => by
    unfold okRun
    rw [any_bag h, okRun_seen G l _ (s ++ [x]) (s' ++ [x]) (by simp [h])]
theorem okRun_step (G : Int) (hG : 0 ≤ G) : ∀ (l : List It) (m0 m1 : Int) (s s' : List It), okRun G m0 s l = true → m0 ≤ m1 → s.map (·.f0) = s'.map (·.f0) → okRun G m1 s' (stepGo G m1 l) = true
  | [], _, _, _, _, _, _, _ => rfl
  | x :: l, m0, m1, s, s', h, hm, hs => by
    obtain ⟨h1, h2, h3, h4⟩ := okRun_cons h
    rw [any_bag hs] at h2
    unfold stepGo
    split
    · rename_i hlt
      have := okRun_step G hG l (x.f1 - x.f2 - G) (x.f1 + 1 - x.f2 - G) (s ++ [x]) (s' ++ [⟨x.f0, x.f1 + 1, x.f2⟩]) h4 (by omega) (by simp [hs])
      unfold okRun
      simp only [Bool.and_eq_true, decide_eq_true_eq, Bool.not_eq_true']
      exact ⟨⟨⟨h1, h2⟩, by omega⟩, this⟩
    · rename_i hlt
      have := okRun_step G hG l (x.f1 - x.f2 - G) (x.f1 - x.f2 - G) (s ++ [x]) (s' ++ [x]) h4 (by omega) (by simp [hs])
      unfold okRun
      simp only [Bool.and_eq_true, decide_eq_true_eq, Bool.not_eq_true']
      exact ⟨⟨⟨h1, h2⟩, by omega⟩, this⟩
theorem okB_step {L G : Int} {l : List It} (h : okB L G l = true) : okB L G (stepGo G L l) = true := by
  have h1 := okB_len h
  have h2 := okB_run h
  unfold okB
  rw [decide_eq_true (by rw [stepGo_len]; exact h1), okRun_step G (by omega) l L L [] [] h2 (Int.le_refl _) rfl]
  rfl
def moveM (G L : Int) : Nat → List It → List It
  | 0, l => l
  | n + 1, l => moveM G L n (stepGo G L l)
theorem okB_move {L G : Int} : ∀ (n : Nat) {l : List It}, okB L G l = true → okB L G (moveM G L n l) = true
  | 0, _, h => h
  | n + 1, _, h => okB_move n (okB_step h)
theorem moveM_len (G L : Int) : ∀ (n : Nat) (l : List It), (moveM G L n l).length = l.length
  | 0, _ => rfl
  | n + 1, l => by unfold moveM; rw [moveM_len G L n, stepGo_len]
theorem rd_mid (a : List It) (x : It) (b : List It) : rd_T53 (a ++ x :: b) (a.length : Int) = x := by
  simp [rd_T53, List.getD_eq_getElem?_getD]
theorem rd_mid' (a : List It) (p x : It) (b : List It) : rd_T53 ((a ++ [p]) ++ x :: b) (a.length : Int) = p := by
  rw [List.append_assoc]
  exact rd_mid a p (x :: b)
theorem set_mid (a : List It) (x y : It) (b : List It) : (a ++ x :: b).set a.length y = (a ++ [y]) ++ b := by
  simp
theorem okRun_mem (G : Int) (hG : 0 ≤ G) : ∀ (l : List It) (most : Int) (s : List It), okRun G most s l = true → ∀ x ∈ l, 1 ≤ x.f0 ∧ 1 ≤ x.f2 ∧ x.f2 ≤ 60 ∧ x.f2 ≤ x.f1 ∧ x.f1 ≤ most
  | [], _, _, _, x, hx => by simp at hx
  | y :: l, most, s, h, x, hx => by
    obtain ⟨h1, h2, h3, h4⟩ := okRun_cons h
    rcases List.mem_cons.1 hx with rfl | hx
    · omega
    · have := okRun_mem G hG l _ _ h4 x hx
      omega
theorem okB_mem {L G : Int} {l : List It} (h : okB L G l = true) : ∀ x ∈ l, 1 ≤ x.f0 ∧ 1 ≤ x.f2 ∧ x.f2 ≤ 60 ∧ x.f2 ≤ x.f1 ∧ x.f1 ≤ L := by
  have h1 := okB_len h
  exact okRun_mem G (by omega) l L [] (okB_run h)
theorem rd_mem (l : List It) (i : Nat) (h : i < l.length) : rd_T53 l (i : Int) ∈ l := by
  rw [rd_item l i h]; exact List.getElem_mem _
/-- What stays when the first item may leave. -/
def leaveGo (L : Int) : List It → List It
  | [] => []
  | x :: t => if x.f1 < L then x :: t else t
def leaveBag (L : Int) : List It → Int
  | [] => 0
  | x :: _ => if x.f1 < L then 0 else x.f0
def leaveOk (L : Int) : List It → Bool
  | [] => false
  | x :: _ => !decide (x.f1 < L)
/-- One tick of a belt that is not held. -/
def tickGo (G L : Int) (l : List It) : List It := stepGo G L (leaveGo L l)
def runGo (G L : Int) : Nat → List It → List It
  | 0, l => l
  | n + 1, l => runGo G L n (tickGo G L l)
theorem okRun_mono (G : Int) : ∀ (l : List It) (m0 m1 : Int) (s s' : List It), okRun G m0 s l = true → m0 ≤ m1 → (∀ b, s.any (fun y => y.f0 == b) = false → s'.any (fun y => y.f0 == b) = false) → okRun G m1 s' l = true
  | [], _, _, _, _, _, _, _ => rfl
  | x :: l, m0, m1, s, s', h, hm, hs => by
    obtain ⟨h1, h2, h3, h4⟩ := okRun_cons h
    have := okRun_mono G l _ _ (s ++ [x]) (s' ++ [x]) h4 (Int.le_refl _) (fun b hb => by
      rw [List.any_append, Bool.or_eq_false_iff] at hb ⊢
      exact ⟨hs b hb.1, hb.2⟩)
    unfold okRun
    rw [hs _ h2, this, decide_eq_true h1, decide_eq_true (show 1 ≤ x.f2 ∧ x.f2 ≤ 60 ∧ x.f2 ≤ x.f1 ∧ x.f1 ≤ m1 by omega)]
    rfl
theorem leaveGo_len (L : Int) : ∀ l : List It, (leaveGo L l).length ≤ l.length
  | [] => Nat.le_refl _
  | x :: t => by rw [leaveGo]; split <;> simp
theorem okB_of {L G : Int} {l : List It} (h1 : 1 ≤ L ∧ L ≤ 400 ∧ 0 ≤ G ∧ G ≤ 20 ∧ l.length ≤ 40) (h2 : okRun G L [] l = true) : okB L G l = true := by
  unfold okB; rw [decide_eq_true h1, h2]; rfl
theorem okB_leave {L G : Int} {l : List It} (h : okB L G l = true) : okB L G (leaveGo L l) = true := by
  have a := okB_len h
  have b := okB_run h
  have c := leaveGo_len L l
  refine okB_of ⟨a.1, a.2.1, a.2.2.1, a.2.2.2.1, by omega⟩ ?_
  cases l with
  | nil => rfl
  | cons x t =>
    rw [leaveGo]
    split
    · exact b
    · obtain ⟨h1, h2, h3, h4⟩ := okRun_cons b
      exact okRun_mono G t _ _ _ _ h4 (by omega) (fun _ _ => rfl)
theorem okB_tick {L G : Int} {l : List It} (h : okB L G l = true) : okB L G (tickGo G L l) = true := okB_step (okB_leave h)
theorem step_free (G : Int) : ∀ (l : List It) (m0 m1 : Int) (s : List It), okRun G m0 s l = true → m0 < m1 → stepGo G m1 l = l.map (fun x => (⟨x.f0, x.f1 + 1, x.f2⟩ : It))
  | [], _, _, _, _, _ => rfl
  | x :: l, m0, m1, s, h, hm => by
    obtain ⟨h1, h2, h3, h4⟩ := okRun_cons h
    unfold stepGo
    rw [if_pos (show x.f1 < m1 by omega), step_free G l _ _ _ h4 (by omega)]
    rfl
theorem tick_mem {L G : Int} {l : List It} (h : okB L G l = true) {x : It} (hx : x ∈ l) (hl : x.f1 < L) : (⟨x.f0, x.f1 + 1, x.f2⟩ : It) ∈ tickGo G L l := by
  have a := okB_len h
  have b := okB_run h
  cases l with
  | nil => simp at hx
  | cons y t =>
    obtain ⟨h1, h2, h3, h4⟩ := okRun_cons b
    rw [tickGo, leaveGo]
    by_cases c : y.f1 < L
    · rw [if_pos c]
      have d : okRun G (L - 1) [] (y :: t) = true := by
        unfold okRun
        rw [h4, h2, decide_eq_true h1, decide_eq_true (show 1 ≤ y.f2 ∧ y.f2 ≤ 60 ∧ y.f2 ≤ y.f1 ∧ y.f1 ≤ L - 1 by omega)]
        rfl
      rw [step_free G _ _ L _ d (by omega)]
      exact List.mem_map.2 ⟨x, hx, rfl⟩
    · rw [if_neg c, step_free G _ _ L _ h4 (by omega)]
      rcases List.mem_cons.1 hx with rfl | hx
      · omega
      · exact List.mem_map.2 ⟨x, hx, rfl⟩
theorem run_mem {L G : Int} : ∀ (n : Nat) {l : List It}, okB L G l = true → ∀ {x : It}, x ∈ l → x.f1 + n ≤ L → (⟨x.f0, x.f1 + n, x.f2⟩ : It) ∈ runGo G L n l
  | 0, l, h, x, hx, hl => by
    have e : (⟨x.f0, x.f1 + ((0 : Nat) : Int), x.f2⟩ : It) = x := by simp
    rw [e]; exact hx
  | n + 1, l, h, x, hx, hl => by
    have := run_mem n (okB_tick h) (tick_mem h hx (by omega)) (by simp only []; omega)
    have e : (⟨x.f0, x.f1 + ((n + 1 : Nat) : Int), x.f2⟩ : It) = ⟨x.f0, x.f1 + 1 + (n : Int), x.f2⟩ := by simp; omega
    rw [e]; exact this
/-- What Leave returns. -/
def leaveR (L G : Int) (H : Bool) (l : List It) : List It × Int × Bool := if okB L G l = true ∧ H = false then (leaveGo L l, leaveBag L l, leaveOk L l) else (l, 0, false)
theorem leaveR_len (L G : Int) (H : Bool) (l : List It) : (leaveR L G H l).1.length ≤ l.length := by
  unfold leaveR
  split
  · exact leaveGo_len L l
  · exact Nat.le_refl _
theorem leaveR_no {L G : Int} {H : Bool} {l : List It} (h : ¬ (okB L G l = true ∧ H = false)) : leaveR L G H l = (l, 0, false) := by unfold leaveR; rw [if_neg h]
theorem leaveR_yes {L G : Int} {l : List It} (h : okB L G l = true) : leaveR L G false l = (leaveGo L l, leaveBag L l, leaveOk L l) := by unfold leaveR; rw [if_pos ⟨h, rfl⟩]
abbrev Ex := S56
/-- The belt after n ticks, and who has left when. -/
def runH (G L : Int) (H : Bool) : Nat → List It → List It
  | 0, l => l
  | n + 1, l => runH G L H n (stepGo G L (leaveR L G H l).1)
def exH (G L : Int) (H : Bool) : Nat → Int → List It → List Ex
  | 0, _, _ => []
  | n + 1, i, l => (if (leaveR L G H l).2.2 = true then [(⟨(leaveR L G H l).2.1, i⟩ : Ex)] else []) ++ exH G L H n (i + 1) (stepGo G L (leaveR L G H l).1)
/-- What Run returns. -/
def runR (L G : Int) (H : Bool) (l : List It) (s : Int) : List It × List Ex := if okB L G l = true ∧ 0 ≤ s ∧ s ≤ 2000 then (runH G L H s.toNat l, exH G L H s.toNat 0 l) else (l, [])
theorem leaveR_ok {L G : Int} {H : Bool} {l : List It} (h : okB L G l = true) : okB L G (leaveR L G H l).1 = true := by
  unfold leaveR
  split
  · exact okB_leave h
  · exact h
theorem leaveR_count (L G : Int) (H : Bool) (l : List It) : (leaveR L G H l).1.length + (if (leaveR L G H l).2.2 = true then 1 else 0) = l.length := by
  unfold leaveR
  split
  · cases l with
    | nil => rfl
    | cons x t =>
      by_cases c : x.f1 < L
      · simp [leaveGo, leaveOk, c]
      · simp [leaveGo, leaveOk, c]
  · simp
theorem runH_ok {L G : Int} {H : Bool} : ∀ (n : Nat) {l : List It}, okB L G l = true → okB L G (runH G L H n l) = true
  | 0, _, h => h
  | n + 1, _, h => runH_ok n (okB_step (leaveR_ok h))
theorem runH_count (G L : Int) (H : Bool) : ∀ (n : Nat) (i : Int) (l : List It), (runH G L H n l).length + (exH G L H n i l).length = l.length
  | 0, i, l => rfl
  | n + 1, i, l => by
    have h1 := runH_count G L H n (i + 1) (stepGo G L (leaveR L G H l).1)
    have h2 := leaveR_count L G H l
    rw [stepGo_len] at h1
    rw [runH, exH, List.length_append]
    split at h2 <;> rename_i c
    · rw [if_pos c]; simp only [List.length_cons, List.length_nil]; omega
    · rw [if_neg c]; simp only [List.length_nil]; omega
theorem runR_len1 (L G : Int) (H : Bool) (l : List It) (s : Int) : (runR L G H l s).1.length ≤ l.length ∧ (runR L G H l s).2.length ≤ l.length := by
  unfold runR
  split
  · have := runH_count G L H s.toNat 0 l; simp only []; omega
  · simp
theorem spec_in (x a b : Int) : spec_l01In.f x a b = some (decide (a ≤ x ∧ x ≤ b)) := by
  unfold spec_l01In.f
  by_cases h : x ≥ a
  · rw [if_pos h]; congr 1; simp; omega
  · rw [if_neg h]; congr 1; simp; omega
theorem spec_ok_inner (L G : Int) (H : Bool) (l : List It) (b f n : Int) (hl : l.length ≤ 40) (i : Nat) (hi : i < l.length) (R : Bool) (d : Nat) : ∀ (j : Nat), j + d = i →
    (((l.take i).drop j).any (fun y => y.f0 == b) = true → R = false) →
    (((l.take i).drop j).any (fun y => y.f0 == b) = false → Ev (fun k => if (i : Int) > 0 then (if 0 ≤ (wrap64 ((i : Int) - 1)) then (if (wrap64 ((i : Int) - 1)) < (l.length : Int) then (if f > (wrap64 ((wrap64 (((rd_T53 l (wrap64 ((i : Int) - 1))).f1) - ((rd_T53 l (wrap64 ((i : Int) - 1))).f2))) - G)) then (some false) else (spec_BeltOk.l0 k (wrap64 ((i : Int) + 1)) L G H l)) else (none)) else (none)) else (spec_BeltOk.l0 k (wrap64 ((i : Int) + 1)) L G H l)) R) →
    Ev (fun k => spec_BeltOk.l1 k (i : Int) (j : Int) L G H l b f n) R := by
  induction d with
  | zero =>
    intro j hj _ h
    have : j = i := by omega
    subst this
    refine Ev.step (fun k => by rw [spec_BeltOk.l1, if_neg (show ¬ (j : Int) < (j : Int) by omega)]) ?_
    exact h (by rw [List.drop_eq_nil_of_le (by simp; omega)]; rfl)
  | succ d ih =>
    intro j hj hd h
    have e1 : wrap64 ((j : Int) + 1) = ((j + 1 : Nat) : Int) := w64 (by omega) (by omega)
    have hjt : j < (l.take i).length := by simp; omega
    have hc : (l.take i).drop j = rd_T53 l (j : Int) :: (l.take i).drop (j + 1) := by
      rw [List.drop_eq_getElem_cons hjt, rd_item l j (by omega)]
      simp
    rw [hc, List.any_cons] at hd h
    refine Ev.step (fun k => by rw [spec_BeltOk.l1, if_pos (show (j : Int) < (i : Int) by omega), if_pos (show (0 : Int) ≤ (j : Int) by omega), if_pos (show (j : Int) < (l.length : Int) by omega), e1]) ?_
    by_cases c : (rd_T53 l (j : Int)).f0 = b
    · simp only [if_pos c]
      rw [hd (by simp [c])]
      exact Ev.now _
    · simp only [if_neg c]
      have hb : ((rd_T53 l (j : Int)).f0 == b) = false := by simp [c]
      rw [hb, Bool.false_or] at hd h
      exact ih (j + 1) (by omega) hd h
/-- What the place in front of item i leaves it. -/
def mostAt (L G : Int) (l : List It) (i : Nat) : Int := if i = 0 then L else (rd_T53 l ((i - 1 : Nat) : Int)).f1 - (rd_T53 l ((i - 1 : Nat) : Int)).f2 - G
theorem spec_ok_loop (L G : Int) (H : Bool) (l : List It) (hL : 1 ≤ L ∧ L ≤ 400) (hG : 0 ≤ G ∧ G ≤ 20) (hl : l.length ≤ 40) (d : Nat) : ∀ (i : Nat), i + d = l.length → -100 ≤ mostAt L G l i → mostAt L G l i ≤ L →
    (0 < i → (rd_T53 l ((i - 1 : Nat) : Int)).f1 ≤ 400 ∧ 1 ≤ (rd_T53 l ((i - 1 : Nat) : Int)).f2 ∧ (rd_T53 l ((i - 1 : Nat) : Int)).f2 ≤ 60 ∧ (rd_T53 l ((i - 1 : Nat) : Int)).f2 ≤ (rd_T53 l ((i - 1 : Nat) : Int)).f1) →
    Ev (fun k => spec_BeltOk.l0 k i L G H l) (okRun G (mostAt L G l i) (l.take i) (l.drop i)) := by
  induction d with
  | zero =>
    intro i hi h0 h1 _
    rw [List.drop_eq_nil_of_le (by omega)]
    exact Ev.step (f := fun _ => some true) (fun k => by rw [spec_BeltOk.l0, if_neg (show ¬ (i : Int) < (l.length : Int) by omega)]) (ev_some rfl)
  | succ d ih =>
    intro i hi h0 h1 hp
    have hlt : i < l.length := by omega
    have e1 : wrap64 ((i : Int) + 1) = ((i + 1 : Nat) : Int) := w64 (by omega) (by omega)
    rw [drop_item l i hlt]
    generalize hx : rd_T53 l (i : Int) = x
    have hfalse : ∀ b f n, Ev (fun k => spec_BeltOk.j2 k i true L G H l b f n) false := fun b f n => Ev.step (fun k => by rw [spec_BeltOk.j2, if_pos rfl]) (Ev.now _)
    refine Ev.step (fun k => by rw [spec_BeltOk.l0, if_pos (show (i : Int) < (l.length : Int) by omega), if_pos (show (0 : Int) ≤ (i : Int) by omega), hx]) ?_
    simp only [okRun, spec_in, Option.bind_some]
    by_cases c1 : x.f0 < 1
    · simp only [if_pos c1]
      rw [decide_eq_false (show ¬ 1 ≤ x.f0 by omega)]
      simp only [Bool.false_and]
      exact hfalse _ _ _
    · simp only [if_neg c1]
      rw [decide_eq_true (show 1 ≤ x.f0 by omega)]
      by_cases c2 : 1 ≤ x.f2 ∧ x.f2 ≤ 60
      · rw [decide_eq_true c2]
        simp only [if_true]
        by_cases c3 : x.f2 ≤ x.f1 ∧ x.f1 ≤ L
        · rw [decide_eq_true c3]
          simp only [Bool.not_true]
          refine Ev.step (fun k => by rw [spec_BeltOk.j2, if_neg (by decide)]) ?_
          refine spec_ok_inner L G H l x.f0 x.f1 x.f2 hl i hlt _ i 0 (by omega) ?_ ?_
          · intro h
            rw [List.drop_zero] at h
            rw [h]; simp
          · intro h
            rw [List.drop_zero] at h
            rw [h, e1]
            have hm : mostAt L G l (i + 1) = x.f1 - x.f2 - G := by
              unfold mostAt
              rw [if_neg (by omega), Nat.add_sub_cancel, hx]
            have hrest := ih (i + 1) (by omega) (by rw [hm]; omega) (by rw [hm]; omega) (fun _ => by rw [Nat.add_sub_cancel, hx]; omega)
            rw [hm, take_item l i hlt, hx] at hrest
            by_cases c4 : (i : Int) > 0
            · have e2 : wrap64 ((i : Int) - 1) = ((i - 1 : Nat) : Int) := by rw [w64 (by omega) (by omega)]; omega
              have hpr := hp (by omega)
              have hmi : mostAt L G l i = (rd_T53 l ((i - 1 : Nat) : Int)).f1 - (rd_T53 l ((i - 1 : Nat) : Int)).f2 - G := by
                unfold mostAt; rw [if_neg (by omega)]
              simp only [if_pos c4, e2, if_pos (show (0 : Int) ≤ ((i - 1 : Nat) : Int) by omega), if_pos (show ((i - 1 : Nat) : Int) < (l.length : Int) by omega)]
              rw [w64 (x := (rd_T53 l ((i - 1 : Nat) : Int)).f1 - (rd_T53 l ((i - 1 : Nat) : Int)).f2) (by omega) (by omega), w64 (by omega) (by omega), ← hmi]
              by_cases c5 : x.f1 > mostAt L G l i
              · simp only [if_pos c5]
                rw [decide_eq_false (show ¬ (1 ≤ x.f2 ∧ x.f2 ≤ 60 ∧ x.f2 ≤ x.f1 ∧ x.f1 ≤ mostAt L G l i) by omega)]
                exact ev_some (by simp)
              · simp only [if_neg c5]
                rw [decide_eq_true (show (1 ≤ x.f2 ∧ x.f2 ≤ 60 ∧ x.f2 ≤ x.f1 ∧ x.f1 ≤ mostAt L G l i) by omega)]
                simpa using hrest
            · have hmi : mostAt L G l i = L := by unfold mostAt; rw [if_pos (by omega)]
              simp only [if_neg c4]
              rw [hmi, decide_eq_true (show (1 ≤ x.f2 ∧ x.f2 ≤ 60 ∧ x.f2 ≤ x.f1 ∧ x.f1 ≤ L) by omega)]
              simpa using hrest
        · rw [decide_eq_false c3, decide_eq_false (show ¬ (1 ≤ x.f2 ∧ x.f2 ≤ 60 ∧ x.f2 ≤ x.f1 ∧ x.f1 ≤ mostAt L G l i) by omega)]
          simp only [Bool.not_false, Bool.and_false, Bool.false_and]
          exact hfalse _ _ _
      · rw [decide_eq_false c2, decide_eq_false (show ¬ (1 ≤ x.f2 ∧ x.f2 ≤ 60 ∧ x.f2 ≤ x.f1 ∧ x.f1 ≤ mostAt L G l i) by omega)]
        simp only [Bool.and_false, Bool.false_and, if_neg (show ¬ (false = true) by decide)]
        exact hfalse _ _ _
theorem spec_ok_ev (L G : Int) (H : Bool) (l : List It) : Ev (fun k => spec_BeltOk.f k L G H l) (okB L G l) := by
  unfold spec_BeltOk.f
  have hf : ∀ L G H, Ev (fun k => spec_BeltOk.j0 k true L G H l) false := fun L G H => Ev.step (fun k => by rw [spec_BeltOk.j0, if_pos rfl]) (Ev.now _)
  have hb : ¬ (1 ≤ L ∧ L ≤ 400 ∧ 0 ≤ G ∧ G ≤ 20 ∧ l.length ≤ 40) → okB L G l = false := fun h => by unfold okB; rw [decide_eq_false h]; rfl
  simp only [spec_in, Option.bind_some]
  by_cases c1 : 1 ≤ L ∧ L ≤ 400
  · rw [decide_eq_true c1]
    simp only [if_true]
    by_cases c2 : 0 ≤ G ∧ G ≤ 20
    · rw [decide_eq_true c2]
      simp only [if_true]
      by_cases c5 : (l.length : Int) > 40
      · rw [decide_eq_true c5, hb (by omega)]; exact hf _ _ _
      · rw [decide_eq_false c5]
        refine Ev.step (fun k => by rw [spec_BeltOk.j0, if_neg (by decide)]) ?_
        have hm : mostAt L G l 0 = L := rfl
        have := spec_ok_loop L G H l c1 c2 (by omega) l.length 0 (by omega) (by rw [hm]; omega) (by rw [hm]; omega) (fun h => by omega)
        unfold okB
        rw [decide_eq_true (by omega)]
        rw [hm] at this
        simpa using this
    · rw [decide_eq_false c2, hb (by omega)]
      simp only [if_neg (show ¬ (false = true) by decide)]
      exact hf _ _ _
  · rw [decide_eq_false c1, hb (by omega)]
    simp only [if_neg (show ¬ (false = true) by decide)]
    exact hf _ _ _
theorem fresh_ev (L G : Int) (H : Bool) (l : List It) (hl : l.length ≤ 1048600) : spec_l02Fresh.f L G H l = some (L, G, H, l) := by
  unfold spec_l02Fresh.f
  simp only [Option.bind_some, List.nil_append, List.length_nil, Nat.zero_add, if_pos (show l.length < 5864062014805 by omega)]
theorem spec_leaveR_ev (L G : Int) (H : Bool) (l : List It) (hl : l.length ≤ 1048600) : Ev (fun k => spec_Leave.f k L G H l) (L, G, H, leaveR L G H l) := by
  unfold spec_Leave.f
  simp only [fresh_ev L G H l hl, Option.bind_some]
  refine ev_bind _ (spec_ok_ev L G H l) ?_
  cases h : okB L G l with
  | false => rw [leaveR_no (by rw [h]; simp)]; simp only [Bool.false_eq_true, if_false]; exact Ev.now _
  | true =>
    simp only [if_true]
    cases H with
    | true => rw [leaveR_no (by simp)]; simp only [if_true]; exact Ev.now _
    | false =>
      rw [leaveR_yes h]
      simp only [Bool.false_eq_true, if_false]
      have a := okB_len h
      cases l with
      | nil => simp only [List.length_nil]; exact Ev.now _
      | cons x t =>
        have e : rd_T53 (x :: t) 0 = x := rfl
        simp only [if_neg (show ¬ ((x :: t).length : Int) = 0 by rw [List.length_cons]; omega), if_pos (show (0 : Int) < ((x :: t).length : Int) by rw [List.length_cons]; omega), e, leaveGo, leaveBag, leaveOk]
        by_cases c : x.f1 < L
        · simp only [if_pos c, decide_eq_true c]; exact Ev.now _
        · have a5 := a.2.2.2.2
          simp only [if_neg c, decide_eq_false c, if_pos (show (1 : Int) ≤ ((x :: t).length : Int) by rw [List.length_cons]; omega), Option.bind_some, List.drop_succ_cons, List.drop_zero, List.nil_append, List.length_nil, Nat.zero_add, if_pos (show t.length < 5864062014805 by simp at a5; omega)]
          exact Ev.now _
theorem spec_step_loop (L G : Int) (H : Bool) (l0 : List It) (hG : 0 ≤ G ∧ G ≤ 20) : ∀ (rest done : List It) (most m0 : Int) (seen : List It), okRun G m0 seen rest = true → m0 ≤ most → most ≤ 400 → -100 ≤ m0 → (done ++ rest).length ≤ 40 →
    ((done = [] ∧ most = L) ∨ ∃ d p, done = d ++ [p] ∧ most = p.f1 - p.f2 - G ∧ p.f1 ≤ 400 ∧ 0 ≤ p.f2 ∧ p.f2 ≤ 60 ∧ 0 ≤ p.f1) →
    Ev (fun k => spec_l02Step.l0 k (done ++ rest) (done.length : Int) L G H l0) (L, G, H, done ++ stepGo G most rest)
  | [], done, most, m0, seen, _, _, _, _, _, _ => by
    refine Ev.step (fun k => by rw [spec_l02Step.l0, if_neg (by simp)]) (ev_some ?_)
    simp [stepGo]
  | x :: rest, done, most, m0, seen, h, hm, h4, hl, hlen, hp => by
    obtain ⟨h1, h2, h3, h5⟩ := okRun_cons h
    have hlt : (done.length : Int) < ((done ++ x :: rest).length : Int) := by simp; omega
    have hlen' : done.length ≤ 40 := by simp at hlen; omega
    have e1 : wrap64 ((done.length : Int) + 1) = ((done.length + 1 : Nat) : Int) := w64 (by omega) (by omega)
    have hyes : x.f1 < most → Ev (fun k => spec_l02Step.l0 k ((done ++ x :: rest).set done.length ⟨x.f0, wrap64 (x.f1 + 1), x.f2⟩) (wrap64 ((done.length : Int) + 1)) L G H l0) (L, G, H, done ++ stepGo G most (x :: rest)) := by
      intro c
      rw [set_mid, w64 (x := x.f1 + 1) (by omega) (by omega), e1]
      have := spec_step_loop L G H l0 hG rest (done ++ [⟨x.f0, x.f1 + 1, x.f2⟩]) (x.f1 + 1 - x.f2 - G) (x.f1 - x.f2 - G) (seen ++ [x]) h5 (by omega) (by omega) (by omega) (by simp at hlen ⊢; omega) (.inr ⟨done, _, rfl, rfl, by simp only; omega, by simp only; omega, by simp only; omega, by simp only; omega⟩)
      have ed : ((done ++ [(⟨x.f0, x.f1 + 1, x.f2⟩ : It)]).length : Int) = ((done.length + 1 : Nat) : Int) := by simp
      have er : (done ++ [(⟨x.f0, x.f1 + 1, x.f2⟩ : It)]) ++ stepGo G (x.f1 + 1 - x.f2 - G) rest = done ++ stepGo G most (x :: rest) := by
        rw [stepGo, if_pos c, List.append_assoc]; rfl
      rw [ed, er] at this
      exact this
    have hno : ¬ x.f1 < most → Ev (fun k => spec_l02Step.l0 k (done ++ x :: rest) (wrap64 ((done.length : Int) + 1)) L G H l0) (L, G, H, done ++ stepGo G most (x :: rest)) := by
      intro c
      rw [e1]
      have := spec_step_loop L G H l0 hG rest (done ++ [x]) (x.f1 - x.f2 - G) (x.f1 - x.f2 - G) (seen ++ [x]) h5 (by omega) (by omega) (by omega) (by simp at hlen ⊢; omega) (.inr ⟨done, _, rfl, rfl, by omega, by omega, by omega, by omega⟩)
      have ed : ((done ++ [x]).length : Int) = ((done.length + 1 : Nat) : Int) := by simp
      have er : (done ++ [x]) ++ stepGo G (x.f1 - x.f2 - G) rest = done ++ stepGo G most (x :: rest) := by
        rw [stepGo, if_neg c, List.append_assoc]; rfl
      have er2 : (done ++ [x]) ++ rest = done ++ x :: rest := by rw [List.append_assoc]; rfl
      rw [ed, er, er2] at this
      exact this
    rcases hp with ⟨rfl, rfl⟩ | ⟨d, p, rfl, rfl, b1, b2, b3, b4⟩
    · refine Ev.step (fun k => by rw [spec_l02Step.l0, if_pos hlt, if_neg (show ¬ (([] : List It).length : Int) > 0 by simp), if_pos (show (0 : Int) ≤ (([] : List It).length : Int) by simp), rd_mid]) ?_
      by_cases c : x.f1 < most
      · simp only [if_pos c]; exact hyes c
      · simp only [if_neg c]; exact hno c
    · have e2 : wrap64 (((d ++ [p]).length : Int) - 1) = (d.length : Int) := by rw [w64 (by omega) (by omega)]; simp
      refine Ev.step (fun k => by rw [spec_l02Step.l0, if_pos hlt, if_pos (show ((d ++ [p]).length : Int) > 0 by simp only [List.length_append, List.length_cons, List.length_nil]; omega), e2, if_pos (show (0 : Int) ≤ (d.length : Int) by omega), if_pos (by simp only [List.length_append, List.length_cons, List.length_nil]; omega), if_pos (show (0 : Int) ≤ ((d ++ [p]).length : Int) by omega), rd_mid, rd_mid', w64 (x := p.f1 - p.f2) (by omega) (by omega), w64 (x := p.f1 - p.f2 - G) (by omega) (by omega)]) ?_
      by_cases c : x.f1 < p.f1 - p.f2 - G
      · simp only [if_pos c]; exact hyes c
      · simp only [if_neg c]; exact hno c
theorem spec_step_ev {L G : Int} (H : Bool) {l : List It} (h : okB L G l = true) : Ev (fun k => spec_l02Step.f k L G H l) (L, G, H, stepGo G L l) := by
  have h1 := okB_len h
  unfold spec_l02Step.f
  simp only [Option.bind_some, List.nil_append, List.length_nil, Nat.zero_add, if_pos (show l.length < 5864062014805 by omega)]
  have := spec_step_loop L G H l (by omega) l [] L L [] (okB_run h) (Int.le_refl _) (by omega) (by omega) (by simpa using h1.2.2.2.2) (.inl ⟨rfl, rfl⟩)
  simpa using this

theorem spec_runR_loop {L G : Int} (H : Bool) (N : Nat) (hN : N ≤ 2000) : ∀ (n i : Nat) (l : List It) (o : List Ex), i + n = N → okB L G l = true → o.length ≤ i → Ev (fun k => spec_Run.l0 k (N : Int) o i L G H l) (L, G, H, runH G L H n l, o ++ exH G L H n i l)
  | 0, i, l, o, hi, h, ho => Ev.step (f := fun _ => some (L, G, H, l, o)) (fun k => by rw [spec_Run.l0, if_neg (by omega)]) (ev_some (by simp [runH, exH]))
  | n + 1, i, l, o, hi, h, ho => by
    have e1 : wrap64 ((i : Int) + 1) = ((i + 1 : Nat) : Int) := w64 (by omega) (by omega)
    have hle := leaveR_ok (H := H) h
    have hl := okB_len h
    refine Ev.step (fun k => by rw [spec_Run.l0, if_pos (show (i : Int) < (N : Int) by omega), e1]) ?_
    refine ev_bind _ (spec_leaveR_ev L G H l (by omega)) ?_
    rw [runH, exH]
    cases c : (leaveR L G H l).2.2 with
    | true =>
      simp only [if_true, if_pos (show o.length < 8796093022208 by omega)]
      refine ev_bind _ (spec_step_ev H hle) ?_
      have := spec_runR_loop H N hN n (i + 1) (stepGo G L (leaveR L G H l).1) (o ++ [⟨(leaveR L G H l).2.1, (i : Int)⟩]) (by omega) (okB_step hle) (by simp; omega)
      rw [List.append_assoc] at this
      exact this
    | false =>
      simp only [Bool.false_eq_true, if_false, List.nil_append]
      refine ev_bind _ (spec_step_ev H hle) ?_
      exact spec_runR_loop H N hN n (i + 1) (stepGo G L (leaveR L G H l).1) o (by omega) (okB_step hle) (by omega)
theorem spec_runR_ev (L G : Int) (H : Bool) (l : List It) (s : Int) (hl : l.length ≤ 1048600) : Ev (fun k => spec_Run.f k L G H l s) (L, G, H, runR L G H l s) := by
  unfold spec_Run.f runR
  simp only [fresh_ev L G H l hl, Option.bind_some]
  have hno : Ev (fun k => spec_Run.j0 k s [] true L G H l) (L, G, H, l, []) := Ev.step (fun k => by rw [spec_Run.j0, if_pos rfl]) (Ev.now _)
  refine ev_bind _ (spec_ok_ev L G H l) ?_
  cases h : okB L G l with
  | false => simp only [Bool.false_eq_true, if_false, false_and]; exact hno
  | true =>
    simp only [if_true, true_and, spec_in, Option.bind_some]
    by_cases c : 0 ≤ s ∧ s ≤ 2000
    · rw [decide_eq_true c, if_pos c]
      refine Ev.step (fun k => by rw [spec_Run.j0, if_neg (by decide)]) ?_
      have := spec_runR_loop (L := L) (G := G) H s.toNat (by omega) s.toNat 0 l [] (by omega) h (by simp)
      rw [Int.toNat_of_nonneg c.1] at this
      simpa using this
    · rw [decide_eq_false c, if_neg c]; exact hno
theorem impl_ok_loop (L G : Int) (H : Bool) (l : List It) (hG : 0 ≤ G ∧ G ≤ 20) (hl : l.length ≤ 40) (d : Nat) : ∀ (i : Nat) (most : Int), i + d = l.length → -100 ≤ most → most ≤ 400 →
    Ev (fun k => impl_BeltOk.l0 k most l (l.length : Int) i L G H l) (okRun G most (l.take i) (l.drop i)) := by
  induction d with
  | zero =>
    intro i most hi h0 h1
    rw [List.drop_eq_nil_of_le (by omega)]
    exact Ev.step (f := fun _ => some true) (fun k => by rw [impl_BeltOk.l0, if_neg (show ¬ (i : Int) < (l.length : Int) by omega)]) (ev_some rfl)
  | succ d ih =>
    intro i most hi h0 h1
    have hlt : i < l.length := by omega
    have e1 : wrap64 ((i : Int) + 1) = ((i + 1 : Nat) : Int) := w64 (by omega) (by omega)
    rw [drop_item l i hlt]
    generalize hx : rd_T53 l (i : Int) = x
    refine Ev.step (fun k => by rw [impl_BeltOk.l0, if_pos (show (i : Int) < (l.length : Int) by omega), if_pos (show (0 : Int) ≤ (i : Int) by omega), if_pos (show (i : Int) < (l.length : Int) by omega), if_pos (show (i : Int) ≤ (l.length : Int) by omega), hx]) ?_
    simp only [okRun, impl_isOn.f, Option.bind_some, Int.toNat_natCast]
    by_cases c1 : x.f0 < 1
    · simp only [if_pos c1]
      rw [decide_eq_false (show ¬ 1 ≤ x.f0 by omega)]
      exact ev_some (by simp)
    · simp only [if_neg c1]
      rw [decide_eq_true (show 1 ≤ x.f0 by omega)]
      cases c2 : (l.take i).any (fun y => y.f0 == x.f0) with
      | true => exact ev_some (by simp)
      | false =>
        simp only [if_neg (show ¬ (false = true) by decide)]
        by_cases c3 : 1 ≤ x.f2 ∧ x.f2 ≤ 60 ∧ x.f2 ≤ x.f1 ∧ x.f1 ≤ most
        · rw [decide_eq_true c3]
          simp only [if_neg (show ¬ x.f2 < 1 by omega), if_neg (show ¬ x.f2 > 60 by omega), if_neg (show ¬ x.f1 < x.f2 by omega), if_neg (show ¬ x.f1 > most by omega)]
          rw [w64 (x := x.f1 - x.f2) (by omega) (by omega), w64 (x := x.f1 - x.f2 - G) (by omega) (by omega), e1]
          have := ih (i + 1) (x.f1 - x.f2 - G) (by omega) (by omega) (by omega)
          rw [take_item l i hlt, hx] at this
          simpa using this
        · rw [decide_eq_false c3]
          have : (true && !false && false && okRun G (x.f1 - x.f2 - G) (l.take i ++ [x]) (l.drop (i + 1))) = false := by simp
          rw [this]
          by_cases d1 : x.f2 < 1
          · simp only [if_pos d1]; exact Ev.now _
          · by_cases d2 : x.f2 > 60
            · simp only [if_neg d1, if_pos d2]; exact Ev.now _
            · by_cases d3 : x.f1 < x.f2
              · simp only [if_neg d1, if_neg d2, if_pos d3]; exact Ev.now _
              · simp only [if_neg d1, if_neg d2, if_neg d3, if_pos (show x.f1 > most by omega)]; exact Ev.now _
theorem impl_ok_ev (L G : Int) (H : Bool) (l : List It) : Ev (fun k => impl_BeltOk.f k L G H l) (okB L G l) := by
  unfold impl_BeltOk.f
  have hf : ∀ L G H, Ev (fun k => impl_BeltOk.j0 k true L G H l) false := fun L G H => Ev.step (fun k => by rw [impl_BeltOk.j0, if_pos rfl]) (Ev.now _)
  have hb : ¬ (1 ≤ L ∧ L ≤ 400 ∧ 0 ≤ G ∧ G ≤ 20 ∧ l.length ≤ 40) → okB L G l = false := fun h => by unfold okB; rw [decide_eq_false h]; rfl
  by_cases c1 : L < 1
  · simp only [if_pos c1]; rw [hb (by omega)]; exact hf _ _ _
  · by_cases c2 : L > 400
    · simp only [if_neg c1, if_pos c2]; rw [hb (by omega)]; exact hf _ _ _
    · by_cases c3 : G < 0
      · simp only [if_neg c1, if_neg c2, if_pos c3]; rw [hb (by omega)]; exact hf _ _ _
      · by_cases c4 : G > 20
        · simp only [if_neg c1, if_neg c2, if_neg c3, if_pos c4]; rw [hb (by omega)]; exact hf _ _ _
        · simp only [if_neg c1, if_neg c2, if_neg c3, if_neg c4]
          by_cases c5 : (l.length : Int) > 40
          · rw [decide_eq_true c5, hb (by omega)]; exact hf _ _ _
          · rw [decide_eq_false c5]
            refine Ev.step (fun k => by rw [impl_BeltOk.j0, if_neg (by decide)]) ?_
            have := impl_ok_loop L G H l (by omega) (by omega) l.length 0 L (by omega) (by omega) (by omega)
            unfold okB
            rw [decide_eq_true (by omega)]
            simpa using this
theorem copy_ev (L G : Int) (H : Bool) (l : List It) (hl : l.length ≤ 1048600) : impl_copyBelt.f L G H l = some (L, G, H, l) := by
  unfold impl_copyBelt.f slices_Clone.f
  rw [if_pos (by omega), Option.bind_some]
theorem impl_leaveR_ev (L G : Int) (H : Bool) (l : List It) (hl : l.length ≤ 1048600) : Ev (fun k => impl_Leave.f k L G H l) (L, G, H, leaveR L G H l) := by
  unfold impl_Leave.f
  simp only [copy_ev L G H l hl, Option.bind_some]
  refine ev_bind _ (impl_ok_ev L G H l) ?_
  cases h : okB L G l with
  | false => rw [leaveR_no (by rw [h]; simp)]; simp only [Bool.false_eq_true, if_false]; exact Ev.now _
  | true =>
    simp only [if_true]
    cases H with
    | true => rw [leaveR_no (by simp)]; simp only [if_true]; exact Ev.now _
    | false =>
      rw [leaveR_yes h]
      simp only [Bool.false_eq_true, if_false]
      cases l with
      | nil => simp only [List.length_nil]; exact Ev.now _
      | cons x t =>
        have e : rd_T53 (x :: t) 0 = x := rfl
        simp only [if_neg (show ¬ ((x :: t).length : Int) = 0 by rw [List.length_cons]; omega), if_pos (show (0 : Int) < ((x :: t).length : Int) by rw [List.length_cons]; omega), e, leaveGo, leaveBag, leaveOk]
        by_cases c : x.f1 < L
        · simp only [if_pos c, decide_eq_true c]; exact Ev.now _
        · simp only [if_neg c, decide_eq_false c, if_pos (show (1 : Int) ≤ ((x :: t).length : Int) by rw [List.length_cons]; omega)]
          exact Ev.now _
theorem impl_step_loop (L G : Int) (H : Bool) (hG : 0 ≤ G ∧ G ≤ 20) : ∀ (rest done : List It) (n most m0 : Int) (seen : List It), okRun G m0 seen rest = true → m0 ≤ most → most ≤ 400 → -100 ≤ m0 → 0 ≤ n → n ≤ (done.length : Int) → (done ++ rest).length ≤ 40 →
    Ev (fun k => impl_stepped.l0 k n most ((done ++ rest).length : Int) (done.length : Int) L G H (done ++ rest)) (n + (stepN G most rest : Int), done ++ stepGo G most rest)
  | [], done, n, most, m0, seen, _, _, _, _, _, _, _ => by
    refine Ev.step (fun k => by rw [impl_stepped.l0, if_neg (by simp)]) (ev_some ?_)
    simp [stepN, stepGo]
  | x :: rest, done, n, most, m0, seen, h, hm, h4, hl, hn0, hn1, hlen => by
    obtain ⟨h1, h2, h3, h5⟩ := okRun_cons h
    have hlt : (done.length : Int) < ((done ++ x :: rest).length : Int) := by simp; omega
    have hlen' : done.length ≤ 40 := by simp at hlen; omega
    have e1 : wrap64 ((done.length : Int) + 1) = ((done.length + 1 : Nat) : Int) := w64 (by omega) (by omega)
    refine Ev.step (fun k => by rw [impl_stepped.l0, if_pos hlt, if_pos (show (0 : Int) ≤ (done.length : Int) by omega), if_pos hlt, rd_mid]) ?_
    unfold stepGo stepN
    by_cases c : x.f1 < most
    · simp only [if_pos c, Option.bind_some, Int.toNat_natCast, set_mid]
      rw [w64 (x := x.f1 + 1) (by omega) (by omega)]
      have hr : rd_T53 ((done ++ [⟨x.f0, x.f1 + 1, x.f2⟩]) ++ rest) (done.length : Int) = ⟨x.f0, x.f1 + 1, x.f2⟩ := by rw [List.append_assoc]; exact rd_mid _ _ _
      rw [hr]
      simp only
      rw [w64 (x := x.f1 + 1 - x.f2) (by omega) (by omega), w64 (x := x.f1 + 1 - x.f2 - G) (by omega) (by omega), w64 (x := n + 1) (by omega) (by omega), e1]
      have := impl_step_loop L G H hG rest (done ++ [⟨x.f0, x.f1 + 1, x.f2⟩]) (n + 1) (x.f1 + 1 - x.f2 - G) (x.f1 - x.f2 - G) (seen ++ [x]) h5 (by omega) (by omega) (by omega) (by omega) (by simp only [List.length_append, List.length_cons, List.length_nil]; omega) (by simp only [List.length_append, List.length_cons, List.length_nil] at hlen ⊢; omega)
      have el : (((done ++ [(⟨x.f0, x.f1 + 1, x.f2⟩ : It)]) ++ rest).length : Int) = ((done ++ x :: rest).length : Int) := by simp
      have ed : ((done ++ [(⟨x.f0, x.f1 + 1, x.f2⟩ : It)]).length : Int) = ((done.length + 1 : Nat) : Int) := by simp
      rw [el, ed] at this
      have er : (n + 1 + (stepN G (x.f1 + 1 - x.f2 - G) rest : Int), (done ++ [(⟨x.f0, x.f1 + 1, x.f2⟩ : It)]) ++ stepGo G (x.f1 + 1 - x.f2 - G) rest) = (n + ((1 + stepN G (x.f1 + 1 - x.f2 - G) rest : Nat) : Int), done ++ ⟨x.f0, x.f1 + 1, x.f2⟩ :: stepGo G (x.f1 + 1 - x.f2 - G) rest) := by
        rw [List.append_assoc]
        simp
        omega
      rw [er] at this
      exact this
    · simp only [if_neg c]
      rw [w64 (x := x.f1 - x.f2) (by omega) (by omega), w64 (x := x.f1 - x.f2 - G) (by omega) (by omega), e1]
      have := impl_step_loop L G H hG rest (done ++ [x]) n (x.f1 - x.f2 - G) (x.f1 - x.f2 - G) (seen ++ [x]) h5 (by omega) (by omega) (by omega) (by omega) (by simp only [List.length_append, List.length_cons, List.length_nil]; omega) (by simp only [List.length_append, List.length_cons, List.length_nil] at hlen ⊢; omega)
      have ed : ((done ++ [x]).length : Int) = ((done.length + 1 : Nat) : Int) := by simp
      rw [ed, List.append_assoc, List.append_assoc] at this
      exact this
theorem impl_step_ev {L G : Int} (H : Bool) {l : List It} (h : okB L G l = true) : Ev (fun k => impl_stepped.f k L G H l) ((stepN G L l : Int), stepGo G L l) := by
  have h1 := okB_len h
  unfold impl_stepped.f
  have := impl_step_loop L G H (by omega) l [] 0 L L [] (okB_run h) (Int.le_refl _) (by omega) (by omega) (Int.le_refl _) (by simp) (by simpa using h1.2.2.2.2)
  simpa using this
theorem steps_eq (s : Int) : impl_isSteps.f s = some (decide (0 ≤ s ∧ s ≤ 2000)) := by
  unfold impl_isSteps.f
  by_cases h : s ≥ 0
  · rw [if_pos h]; congr 1; simp; omega
  · rw [if_neg h]; congr 1; simp; omega
theorem leaveR_same {L G : Int} {H : Bool} {l : List It} (h : (leaveR L G H l).2.2 = false) : (leaveR L G H l).1 = l := by
  have := leaveR_count L G H l
  unfold leaveR at h this ⊢
  split
  · rename_i c
    rw [if_pos c] at h
    cases l with
    | nil => rfl
    | cons x t =>
      simp only [leaveOk, leaveGo] at h ⊢
      rw [if_pos (by simpa using h)]
  · rfl
theorem impl_runR_loop {L G : Int} (H : Bool) (N : Nat) (hN : N ≤ 2000) : ∀ (n i : Nat) (l : List It) (o : List Ex), i + n = N → okB L G l = true → o.length ≤ i → Ev (fun k => impl_Run.l0 k (N : Int) o i L G H l) (L, G, H, runH G L H n l, o ++ exH G L H n i l)
  | 0, i, l, o, hi, h, ho => Ev.step (f := fun _ => some (L, G, H, l, o)) (fun k => by rw [impl_Run.l0, if_neg (by omega)]) (ev_some (by simp [runH, exH]))
  | n + 1, i, l, o, hi, h, ho => by
    have e1 : wrap64 ((i : Int) + 1) = ((i + 1 : Nat) : Int) := w64 (by omega) (by omega)
    have hle := leaveR_ok (H := H) h
    have hl := okB_len h
    refine Ev.step (fun k => by rw [impl_Run.l0, if_pos (show (i : Int) < (N : Int) by omega), e1]) ?_
    refine ev_bind _ (impl_leaveR_ev L G H l (by omega)) ?_
    rw [runH, exH]
    cases c : (leaveR L G H l).2.2 with
    | true =>
      simp only [if_true, if_pos (show o.length < 8796093022208 by omega)]
      refine ev_bind _ (impl_step_ev H hle) ?_
      have := impl_runR_loop H N hN n (i + 1) (stepGo G L (leaveR L G H l).1) (o ++ [⟨(leaveR L G H l).2.1, (i : Int)⟩]) (by omega) (okB_step hle) (by simp; omega)
      rw [List.append_assoc] at this
      exact this
    | false =>
      simp only [Bool.false_eq_true, if_false, List.nil_append]
      rw [leaveR_same c]
      refine ev_bind _ (impl_step_ev H h) ?_
      exact impl_runR_loop H N hN n (i + 1) (stepGo G L l) o (by omega) (okB_step h) (by omega)
theorem impl_runR_ev (L G : Int) (H : Bool) (l : List It) (s : Int) (hl : l.length ≤ 1048600) : Ev (fun k => impl_Run.f k L G H l s) (L, G, H, runR L G H l s) := by
  unfold impl_Run.f runR
  simp only [copy_ev L G H l hl, Option.bind_some]
  have hno : Ev (fun k => impl_Run.j0 k s true L G H l) (L, G, H, l, []) := Ev.step (fun k => by rw [impl_Run.j0, if_pos rfl]) (Ev.now _)
  refine ev_bind _ (impl_ok_ev L G H l) ?_
  cases h : okB L G l with
  | false => simp only [Bool.false_eq_true, if_false, false_and]; exact hno
  | true =>
    simp only [if_true, true_and, steps_eq, Option.bind_some]
    by_cases c : 0 ≤ s ∧ s ≤ 2000
    · rw [decide_eq_true c, if_pos c]
      refine Ev.step (fun k => by rw [impl_Run.j0, if_neg (by decide)]) ?_
      have := impl_runR_loop (L := L) (G := G) H s.toNat (by omega) s.toNat 0 l [] (by omega) h (by simp)
      rw [Int.toNat_of_nonneg c.1] at this
      simpa using this
    · rw [decide_eq_false c, if_neg c]; exact hno
abbrev LIt := S78
def toM (x : LIt) : It := ⟨x.f0, x.f1, x.f2⟩
theorem to_items_loop (l : List LIt) (hl : l.length ≤ 1048576) (d : Nat) : ∀ (i : Nat) (m : List It), i + d = l.length → m.length = l.length → m.take i = (l.take i).map toM → Ev (fun k => laws_toItemS.l0 k l m i) (l.map toM) := by
  induction d with
  | zero =>
    intro i m hi hm h
    refine Ev.step (fun k => by rw [laws_toItemS.l0, if_neg (show ¬ (i : Int) < (l.length : Int) by omega)]) (ev_some ?_)
    rw [List.take_of_length_le (by omega), List.take_of_length_le (by omega)] at h
    exact h
  | succ d ih =>
    intro i m hi hm h
    have e1 : wrap64 ((i : Int) + 1) = ((i + 1 : Nat) : Int) := w64 (by omega) (by omega)
    have hlt : i < l.length := by omega
    have hr : rd_T78 l (i : Int) = l[i] := by simp [rd_T78, List.getD_eq_getElem?_getD, List.getElem?_eq_getElem hlt]
    refine Ev.step (fun k => by rw [laws_toItemS.l0, if_pos (show (i : Int) < (l.length : Int) by omega), if_pos (show (0 : Int) ≤ (i : Int) by omega), laws_toItem.f, Option.bind_some, if_pos (show (i : Int) < (m.length : Int) by omega), e1, hr, Int.toNat_natCast]) ?_
    refine ih (i + 1) _ (by omega) (by simp [hm]) ?_
    rw [List.take_succ_eq_append_getElem (by simp; omega), List.take_succ_eq_append_getElem hlt, List.map_append, ← h]
    rw [List.take_set, List.set_eq_of_length_le (by simp; omega)]
    simp [toM]
theorem to_items_ev (l : List LIt) (hl : l.length ≤ 1048576) : Ev (fun k => laws_toItemS.f k l) (l.map toM) := by
  unfold laws_toItemS.f
  simp only [if_pos (show (0 : Int) ≤ (l.length : Int) by omega), Int.toNat_natCast, if_pos (show l.length ≤ 11728124029610 by omega)]
  exact to_items_loop l hl l.length 0 _ (by omega) (by simp) rfl
theorem to_belt_ev (L G : Int) (H : Bool) (l : List LIt) (hl : l.length ≤ 1048576) : Ev (fun k => laws_toBelt.f k L G H l) (L, G, H, l.map toM) := by
  unfold laws_toBelt.f
  exact ev_bind _ (to_items_ev l hl) (Ev.now _)
theorem sz_belt (L G : Int) (H : Bool) (l : List LIt) (hl : l.length ≤ 9223372036854775807) : ∃ n, laws_szBelt.f L G H l 1048576 = some n ∧ (n < 0 ∨ l.length ≤ 1048576) := by
  unfold laws_szBelt.f laws_szItemS.f
  have e : wrap64 (1048576 - (l.length : Int)) = 1048576 - (l.length : Int) := w64 (by omega) (by omega)
  rw [e]
  by_cases h : 1048576 - (l.length : Int) < 0
  · rw [if_pos h, Option.bind_some, if_pos (by omega)]
    exact ⟨-1, rfl, .inl (by omega)⟩
  · rw [if_neg h, Option.bind_some, if_neg h]
    exact ⟨_, rfl, .inr (by omega)⟩
theorem eq_item (a b c : Int) : laws_eqItem.f a b c a b c = some true := by unfold laws_eqItem.f; simp
theorem eq_items_loop (l : List It) (hl : l.length ≤ 1048600) (d : Nat) : ∀ i : Nat, i + d = l.length → Ev (fun k => laws_eqItemS.l0 k l l i) true := by
  induction d with
  | zero =>
    intro i hi
    exact Ev.step (fun k => by rw [laws_eqItemS.l0, if_neg (show ¬ (i : Int) < (l.length : Int) by omega)]) (Ev.now _)
  | succ d ih =>
    intro i hi
    have e1 : wrap64 ((i : Int) + 1) = ((i + 1 : Nat) : Int) := w64 (by omega) (by omega)
    refine Ev.step (fun k => by rw [laws_eqItemS.l0, if_pos (show (i : Int) < (l.length : Int) by omega), if_pos (show (0 : Int) ≤ (i : Int) by omega), if_pos (show (i : Int) < (l.length : Int) by omega), eq_item, Option.bind_some, if_pos rfl, e1]) ?_
    exact ih (i + 1) (by omega)
theorem eq_items_ev (l : List It) (hl : l.length ≤ 1048600) : Ev (fun k => laws_eqItemS.f k l l) true := by
  unfold laws_eqItemS.f
  simp only [if_true]
  exact eq_items_loop l hl l.length 0 (by omega)
theorem eq_belt_ev (L G : Int) (H : Bool) (l : List It) (hl : l.length ≤ 1048600) : Ev (fun k => laws_eqBelt.f k L G H l L G H l) true := by
  unfold laws_eqBelt.f
  simp only [if_true, bne_self_eq_false, if_neg (show ¬ (false = true) by decide)]
  exact ev_bind _ (eq_items_ev l hl) (by simp only [if_true]; exact Ev.now _)
/-- Item j, marked from m on. -/
def mkI (m : Int) (j : Nat) : It := ⟨m + 3 * j, m + 3 * j + 1, m + 3 * j + 2⟩
theorem mark_items_loop (l : List It) (hl : l.length ≤ 1048600) (m : Int) (h0 : 0 ≤ m) (h1 : m ≤ 1000000000) (d : Nat) : ∀ i : Nat, i + d = l.length →
    Ev (fun k => laws_markItemS.l0 k ((List.range i).map (mkI m) ++ l.drop i) (m + 3 * i) i) (m + 3 * l.length, (List.range l.length).map (mkI m)) := by
  induction d with
  | zero =>
    intro i hi
    have : i = l.length := by omega
    subst this
    refine Ev.step (fun k => by rw [laws_markItemS.l0, if_neg (by simp)]) (ev_some ?_)
    simp
  | succ d ih =>
    intro i hi
    have hlen : ((List.range i).map (mkI m) ++ l.drop i).length = l.length := by simp; omega
    have e1 : wrap64 ((i : Int) + 1) = ((i + 1 : Nat) : Int) := w64 (by omega) (by omega)
    have a1 : wrap64 (m + 3 * (i : Int) + 1) = m + 3 * (i : Int) + 1 := w64 (by omega) (by omega)
    have a2 : wrap64 (m + 3 * (i : Int) + 1 + 1) = m + 3 * (i : Int) + 2 := by rw [w64 (by omega) (by omega)]; omega
    have a3 : wrap64 (m + 3 * (i : Int) + 2 + 1) = m + 3 * ((i + 1 : Nat) : Int) := by rw [w64 (by omega) (by omega)]; omega
    have hr : ∀ (y : It) (t : List It), i < t.length → rd_T53 (t.set i y) (i : Int) = y := by
      intro y t ht
      simp [rd_T53, List.getD_eq_getElem?_getD, ht]
    refine Ev.step (fun k => by rw [laws_markItemS.l0, if_pos (by rw [hlen]; omega), if_pos (show (0 : Int) ≤ (i : Int) by omega)]) ?_
    simp only [Option.bind_some, Int.toNat_natCast, a1, a2, a3, e1]
    rw [hr _ _ (by rw [hlen]; omega)]
    simp only [List.set_set]
    rw [hr _ _ (by rw [hlen]; omega)]
    have hm : (⟨m + 3 * (i : Int), m + 3 * (i : Int) + 1, m + 3 * (i : Int) + 2⟩ : It) = mkI m i := rfl
    rw [hm, set_mark (mkI m) l i (by omega)]
    exact ih (i + 1) (by omega)
theorem mark_items_ev (l : List It) (hl : l.length ≤ 1048600) (m : Int) (h0 : 0 ≤ m) (h1 : m ≤ 1000000000) : Ev (fun k => laws_markItemS.f k l m) (m + 3 * l.length, (List.range l.length).map (mkI m)) := by
  unfold laws_markItemS.f
  have := mark_items_loop l hl m h0 h1 l.length 0 (by omega)
  simpa using this
theorem mark_belt_ev (L G : Int) (H : Bool) (l : List It) (hl : l.length ≤ 1048600) (m : Int) (h0 : 0 ≤ m) (h1 : m ≤ 1000000000) : Ev (fun k => laws_markBelt.f k L G H l m) (m + 3 * l.length, (List.range l.length).map (mkI m)) := by
  unfold laws_markBelt.f
  exact ev_bind _ (mark_items_ev l hl m h0 h1) (Ev.now _)
theorem held_items_loop (n : Nat) (hl : n ≤ 1048600) (m : Int) (h0 : 0 ≤ m) (h1 : m ≤ 1000000000) (d : Nat) : ∀ i : Nat, i + d = n →
    Ev (fun k => laws_heldItemS.l0 k ((List.range n).map (mkI m)) (m + 3 * i) i) (m + 3 * n) := by
  induction d with
  | zero =>
    intro i hi
    have : i = n := by omega
    subst this
    exact Ev.step (fun k => by rw [laws_heldItemS.l0, if_neg (by simp)]) (Ev.now _)
  | succ d ih =>
    intro i hi
    have e1 : wrap64 ((i : Int) + 1) = ((i + 1 : Nat) : Int) := w64 (by omega) (by omega)
    have a1 : wrap64 (m + 3 * (i : Int) + 1) = m + 3 * (i : Int) + 1 := w64 (by omega) (by omega)
    have a2 : wrap64 (m + 3 * (i : Int) + 1 + 1) = m + 3 * (i : Int) + 2 := by rw [w64 (by omega) (by omega)]; omega
    have a3 : wrap64 (m + 3 * (i : Int) + 2 + 1) = m + 3 * ((i + 1 : Nat) : Int) := by rw [w64 (by omega) (by omega)]; omega
    have e3 : rd_T53 ((List.range n).map (mkI m)) (i : Int) = mkI m i := by
      unfold rd_T53
      rw [Int.toNat_natCast, List.getD_eq_getElem?_getD, List.getElem?_map, List.getElem?_range (by omega)]
      rfl
    refine Ev.step (fun k => by rw [laws_heldItemS.l0, if_pos (by simp; omega), if_pos (show (0 : Int) ≤ (i : Int) by omega), e3]) ?_
    simp only [e1, a1, a2, a3, mkI, if_true]
    exact ih (i + 1) (by omega)
theorem held_items_ev (n : Nat) (hl : n ≤ 1048600) (m : Int) (h0 : 0 ≤ m) (h1 : m ≤ 1000000000) : Ev (fun k => laws_heldItemS.f k ((List.range n).map (mkI m)) m) (m + 3 * n) := by
  unfold laws_heldItemS.f
  have := held_items_loop n hl m h0 h1 n 0 (by omega)
  simpa using this
theorem held_belt_ev (L G : Int) (H : Bool) (n : Nat) (hl : n ≤ 1048600) (m : Int) (h0 : 0 ≤ m) (h1 : m ≤ 1000000000) : Ev (fun k => laws_heldBelt.f k L G H ((List.range n).map (mkI m)) m) (m + 3 * n) := by
  unfold laws_heldBelt.f
  refine ev_bind _ (held_items_ev n hl m h0 h1) ?_
  simp only [if_neg (show ¬ (m + 3 * (n : Int) < 0) by omega)]
  exact Ev.now _
abbrev Exit := S56
theorem rd_Exit (l : List Exit) (i : Nat) (h : i < l.length) : rd_T56 l (i : Int) = l[i] := by
  simp [rd_T56, List.getD_eq_getElem?_getD, List.getElem?_eq_getElem h]
theorem drop_Exit (l : List Exit) (i : Nat) (h : i < l.length) : l.drop i = rd_T56 l (i : Int) :: l.drop (i + 1) := by
  rw [List.drop_eq_getElem_cons h, rd_Exit l i h]
theorem take_Exit (l : List Exit) (i : Nat) (h : i < l.length) : l.take (i + 1) = l.take i ++ [rd_T56 l (i : Int)] := by
  rw [rd_Exit l i h, List.take_succ_eq_append_getElem h]
theorem eq_Exit (a b : Int) : laws_eqExit.f a b a b = some true := by unfold laws_eqExit.f; simp
theorem eq_ExitS_loop (l : List Exit) (hl : l.length ≤ 1048600) (d : Nat) : ∀ i : Nat, i + d = l.length → Ev (fun k => laws_eqExitS.l0 k l l i) true := by
  induction d with
  | zero =>
    intro i hi
    exact Ev.step (fun k => by rw [laws_eqExitS.l0, if_neg (show ¬ (i : Int) < (l.length : Int) by omega)]) (Ev.now _)
  | succ d ih =>
    intro i hi
    have e1 : wrap64 ((i : Int) + 1) = ((i + 1 : Nat) : Int) := w64 (by omega) (by omega)
    refine Ev.step (fun k => by rw [laws_eqExitS.l0, if_pos (show (i : Int) < (l.length : Int) by omega), if_pos (show (0 : Int) ≤ (i : Int) by omega), if_pos (show (i : Int) < (l.length : Int) by omega), eq_Exit, Option.bind_some, if_pos rfl, e1]) ?_
    exact ih (i + 1) (by omega)
theorem eq_ExitS_ev (l : List Exit) (hl : l.length ≤ 1048600) : Ev (fun k => laws_eqExitS.f k l l) true := by
  unfold laws_eqExitS.f
  simp only [if_true]
  exact eq_ExitS_loop l hl l.length 0 (by omega)
/-- Element j, marked from m on. -/
def mkExit (m : Int) (j : Nat) : Exit := ⟨m + 2 * j, m + 2 * j + 1⟩
theorem mark_ExitS_loop (l : List Exit) (hl : l.length ≤ 1048600) (m : Int) (h0 : 0 ≤ m) (h1 : m ≤ 1000000000) (d : Nat) : ∀ i : Nat, i + d = l.length →
    Ev (fun k => laws_markExitS.l0 k ((List.range i).map (mkExit m) ++ l.drop i) (m + 2 * i) i) (m + 2 * l.length, (List.range l.length).map (mkExit m)) := by
  induction d with
  | zero =>
    intro i hi
    have : i = l.length := by omega
    subst this
    refine Ev.step (fun k => by rw [laws_markExitS.l0, if_neg (by simp)]) (ev_some ?_)
    simp
  | succ d ih =>
    intro i hi
    have hlen : ((List.range i).map (mkExit m) ++ l.drop i).length = l.length := by simp; omega
    have e1 : wrap64 ((i : Int) + 1) = ((i + 1 : Nat) : Int) := w64 (by omega) (by omega)
    have a1 : wrap64 (m + 2 * (i : Int) + 1) = m + 2 * (i : Int) + 1 := by rw [w64 (by omega) (by omega)] <;> omega
    have a2 : wrap64 (m + 2 * (i : Int) + 1 + 1) = m + 2 * ((i + 1 : Nat) : Int) := by rw [w64 (by omega) (by omega)] <;> omega
    have hr : ∀ (y : Exit) (t : List Exit), i < t.length → rd_T56 (t.set i y) (i : Int) = y := by
      intro y t ht
      simp [rd_T56, List.getD_eq_getElem?_getD, ht]
    refine Ev.step (fun k => by rw [laws_markExitS.l0, if_pos (by rw [hlen]; omega), if_pos (show (0 : Int) ≤ (i : Int) by omega)]) ?_
    simp only [Option.bind_some, Int.toNat_natCast, a1, a2, e1]
    rw [hr _ _ (by rw [hlen]; omega)]
    simp only [List.set_set]
    have hm : (⟨m + 2 * (i : Int), m + 2 * (i : Int) + 1⟩ : Exit) = mkExit m i := rfl
    rw [hm, set_mark (mkExit m) l i (by omega)]
    exact ih (i + 1) (by omega)
theorem mark_ExitS_ev (l : List Exit) (hl : l.length ≤ 1048600) (m : Int) (h0 : 0 ≤ m) (h1 : m ≤ 1000000000) : Ev (fun k => laws_markExitS.f k l m) (m + 2 * l.length, (List.range l.length).map (mkExit m)) := by
  unfold laws_markExitS.f
  have := mark_ExitS_loop l hl m h0 h1 l.length 0 (by omega)
  simpa using this
theorem held_ExitS_loop (n : Nat) (hl : n ≤ 1048600) (m : Int) (h0 : 0 ≤ m) (h1 : m ≤ 1000000000) (d : Nat) : ∀ i : Nat, i + d = n →
    Ev (fun k => laws_heldExitS.l0 k ((List.range n).map (mkExit m)) (m + 2 * i) i) (m + 2 * n) := by
  induction d with
  | zero =>
    intro i hi
    have : i = n := by omega
    subst this
    exact Ev.step (fun k => by rw [laws_heldExitS.l0, if_neg (by simp)]) (Ev.now _)
  | succ d ih =>
    intro i hi
    have e1 : wrap64 ((i : Int) + 1) = ((i + 1 : Nat) : Int) := w64 (by omega) (by omega)
    have a1 : wrap64 (m + 2 * (i : Int) + 1) = m + 2 * (i : Int) + 1 := by rw [w64 (by omega) (by omega)] <;> omega
    have a2 : wrap64 (m + 2 * (i : Int) + 1 + 1) = m + 2 * ((i + 1 : Nat) : Int) := by rw [w64 (by omega) (by omega)] <;> omega
    have e3 : rd_T56 ((List.range n).map (mkExit m)) (i : Int) = mkExit m i := by
      unfold rd_T56
      rw [Int.toNat_natCast, List.getD_eq_getElem?_getD, List.getElem?_map, List.getElem?_range (by omega)]
      rfl
    refine Ev.step (fun k => by rw [laws_heldExitS.l0, if_pos (by simp; omega), if_pos (show (0 : Int) ≤ (i : Int) by omega), e3]) ?_
    simp only [e1, a1, a2, mkExit, if_true]
    exact ih (i + 1) (by omega)
theorem held_ExitS_ev (n : Nat) (hl : n ≤ 1048600) (m : Int) (h0 : 0 ≤ m) (h1 : m ≤ 1000000000) : Ev (fun k => laws_heldExitS.f k ((List.range n).map (mkExit m)) m) (m + 2 * n) := by
  unfold laws_heldExitS.f
  have := held_ExitS_loop n hl m h0 h1 n 0 (by omega)
  simpa using this
theorem FnExactRun : laws_FnExactRun.Pure := by
  intro L G H l s _ _ hl _ _
  refine Ev.rounds ?_
  unfold laws_FnExactRun.f
  obtain ⟨n, hn, hc⟩ := sz_belt L G H l hl
  simp only [hn, Option.bind_some]
  by_cases h : n < 0
  · simp only [if_pos h]; exact Ev.now _
  · have hl2 : l.length ≤ 1048576 := by omega
    have hm : (l.map toM).length ≤ 1048600 := by simp; omega
    have hq := runR_len1 L G H (l.map toM) s
    have hr : (runR L G H (l.map toM) s).1.length ≤ 1048600 := by omega
    have hx : (runR L G H (l.map toM) s).2.length ≤ 1048600 := by omega
    simp only [if_neg h]
    refine ev_bind _ (to_belt_ev L G H l hl2) ?_
    refine ev_bind _ (spec_runR_ev L G H _ s hm) ?_
    refine ev_bind _ (to_belt_ev L G H l hl2) ?_
    refine ev_bind _ (impl_runR_ev L G H _ s hm) ?_
    try dsimp only
    refine ev_bind _ (eq_belt_ev L G H _ hr) ?_
    simp only [if_true]
    refine ev_bind _ (eq_ExitS_ev _ hx) ?_
    refine Ev.step (fun k => by rw [laws_FnExactRun.j0, if_neg (by decide)]) ?_
    refine ev_bind _ (to_belt_ev L G H l hl2) ?_
    refine ev_bind _ (eq_belt_ev L G H _ hm) ?_
    simp only [if_true]
    refine ev_bind _ (mark_belt_ev L G H _ hm 1 (by omega) (by omega)) ?_
    simp only [if_neg (show ¬ ((1 : Int) + 3 * ((l.map toM).length : Int) < 0) by omega)]
    refine ev_bind _ (eq_belt_ev L G H _ hr) ?_
    simp only [if_true]
    refine ev_bind _ (eq_ExitS_ev _ hx) ?_
    refine Ev.step (fun k => by rw [laws_FnExactRun.j1, if_neg (by decide)]) ?_
    refine ev_bind _ (mark_belt_ev L G H _ hr 1 (by omega) (by omega)) ?_
    refine ev_bind _ (mark_ExitS_ev _ hx _ (by omega) (by omega)) ?_
    refine ev_bind _ (held_belt_ev L G H _ hr 1 (by omega) (by omega)) ?_
    simp only [if_neg (show ¬ ((1 : Int) + 3 * ((runR L G H (l.map toM) s).1.length : Int) < 0) by omega)]
    refine ev_bind _ (held_ExitS_ev _ hx _ (by omega) (by omega)) ?_
    simp only [if_neg (show ¬ ((1 : Int) + 3 * ((runR L G H (l.map toM) s).1.length : Int) + 2 * ((runR L G H (l.map toM) s).2.length : Int) < 0) by omega), if_true]
    refine ev_bind _ (to_belt_ev L G H l hl2) ?_
    refine ev_bind _ (impl_runR_ev L G H _ s hm) ?_
    try dsimp only
    refine ev_bind _ (eq_belt_ev L G H _ hr) ?_
    simp only [if_true]
    refine ev_bind _ (eq_ExitS_ev _ hx) ?_
    refine Ev.step (fun k => by rw [laws_FnExactRun.j2, if_neg (by decide)]) ?_
    refine ev_bind _ (held_belt_ev L G H _ hr 1 (by omega) (by omega)) ?_
    simp only [if_neg (show ¬ ((1 : Int) + 3 * ((runR L G H (l.map toM) s).1.length : Int) < 0) by omega)]
    refine ev_bind _ (held_ExitS_ev _ hx _ (by omega) (by omega)) ?_
    simp only [if_neg (show ¬ ((1 : Int) + 3 * ((runR L G H (l.map toM) s).1.length : Int) + 2 * ((runR L G H (l.map toM) s).2.length : Int) < 0) by omega), if_true]
    exact Ev.now _

end Go.Proofs.Ytbdjbdoelbmjcaa.Pure
