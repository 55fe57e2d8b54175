/- For every slice of bytes the law FnBeltRoom returns true (its printed function does): as many bags as RoomFor tells enter one after the other, and the next one does not. -/
import Derived.Test.YtnnimbbffbfhoaaPFnBeltRoomx13
import Derived.Test.YtnnimbbffbfhoaaKit
namespace Go.Proofs.Ytnnimbbffbfhoaa.Pure
open Go.RowKit Go.Proofs.Ytnnimbbffbfhoaa.PFnBeltRoom Go.Proofs.YtnnimbbffbfhoaaW.PrintWords Go.Proofs.YtnnimbbffbfhoaaW.PrintLast Go.Proofs.YtnnimbbffbfhoaaW.PrintMore Go.Proofs.Ytnnimbbffbfhoaa.Kit
set_option linter.unusedVariables false
set_option linter.unusedSimpArgs false

theorem rd_int (l : List Int) (i : Nat) (h : i < l.length) : rd l (i : Int) = l[i] := by
  simp [rd, List.getD_eq_getElem?_getD, List.getElem?_eq_getElem h]
theorem drop_int (l : List Int) (i : Nat) (h : i < l.length) : l.drop i = rd l (i : Int) :: l.drop (i + 1) := by
  rw [List.drop_eq_getElem_cons h, rd_int l i h]
abbrev It := S74
theorem rd_item (l : List It) (i : Nat) (h : i < l.length) : rd_T74 l (i : Int) = l[i] := by
  simp [rd_T74, List.getD_eq_getElem?_getD, List.getElem?_eq_getElem h]
theorem drop_item (l : List It) (i : Nat) (h : i < l.length) : l.drop i = rd_T74 l (i : Int) :: l.drop (i + 1) := by
  rw [List.drop_eq_getElem_cons h, rd_item l i h]
theorem take_item (l : List It) (i : Nat) (h : i < l.length) : l.take (i + 1) = l.take i ++ [rd_T74 l (i : Int)] := by
  rw [rd_item l i h, List.take_succ_eq_append_getElem h]
/-- Items in order, behind a place and apart, their bags other than those met. -/
def okRun (G : Int) : Int → List It → List It → Bool
  | _, _, [] => true
  | most, seen, x :: l => decide (1 ≤ x.f0) && !(seen.any (fun y => y.f0 == x.f0)) && decide (1 ≤ x.f2 ∧ x.f2 ≤ 60 ∧ x.f2 ≤ x.f1 ∧ x.f1 ≤ most) && okRun G (x.f1 - x.f2 - G) (seen ++ [x]) l
def okB (L G : Int) (l : List It) : Bool := decide (1 ≤ L ∧ L ≤ 400 ∧ 0 ≤ G ∧ G ≤ 20 ∧ l.length ≤ 40) && okRun G L [] l
theorem okB_len {L G : Int} {l : List It} (h : okB L G l = true) : 1 ≤ L ∧ L ≤ 400 ∧ 0 ≤ G ∧ G ≤ 20 ∧ l.length ≤ 40 := by
  unfold okB at h
  simp only [Bool.and_eq_true, decide_eq_true_eq] at h
  exact h.1
theorem okB_run {L G : Int} {l : List It} (h : okB L G l = true) : okRun G L [] l = true := by
  unfold okB at h
  simp only [Bool.and_eq_true] at h
  exact h.2
theorem okRun_cons {G most : Int} {seen : List It} {x : It} {l : List It} (h : okRun G most seen (x :: l) = true) :
    1 ≤ x.f0 ∧ seen.any (fun y => y.f0 == x.f0) = false ∧ (1 ≤ x.f2 ∧ x.f2 ≤ 60 ∧ x.f2 ≤ x.f1 ∧ x.f1 ≤ most) ∧ okRun G (x.f1 - x.f2 - G) (seen ++ [x]) l = true := by
  simp only [okRun, Bool.and_eq_true, decide_eq_true_eq, Bool.not_eq_true'] at h
  exact ⟨h.1.1.1, h.1.1.2, h.1.2, h.2⟩
/-- One step of all items. -/
def stepGo (G : Int) : Int → List It → List It
  | _, [] => []
  | most, x :: l => if x.f1 < most then ⟨x.f0, x.f1 + 1, x.f2⟩ :: stepGo G (x.f1 + 1 - x.f2 - G) l else x :: stepGo G (x.f1 - x.f2 - G) l
/-- How many of them move. -/
def stepN (G : Int) : Int → List It → Nat
  | _, [] => 0
  | most, x :: l => if x.f1 < most then 1 + stepN G (x.f1 + 1 - x.f2 - G) l else stepN G (x.f1 - x.f2 - G) l
theorem stepGo_len (G : Int) : ∀ (l : List It) (most : Int), (stepGo G most l).length = l.length
  | [], _ => rfl
  | x :: l, most => by
    unfold stepGo
    split
    · simp [stepGo_len G l]
    · simp [stepGo_len G l]
theorem stepN_le (G : Int) : ∀ (l : List It) (most : Int), stepN G most l ≤ l.length
  | [], _ => Nat.le_refl _
  | x :: l, most => by
    unfold stepN
    split
    · have := stepN_le G l (x.f1 + 1 - x.f2 - G); simp; omega
    · have := stepN_le G l (x.f1 - x.f2 - G); simp; omega
theorem any_bag {s s' : List It} (h : s.map (·.f0) = s'.map (·.f0)) (b : Int) : s.any (fun y => y.f0 == b) = s'.any (fun y => y.f0 == b) := by
  have e : ∀ t : List It, t.any (fun y => y.f0 == b) = (t.map (·.f0)).any (fun y => y == b) := fun t => by rw [List.any_map]; rfl
  rw [e, e, h]
theorem okRun_seen (G : Int) : ∀ (l : List It) (most : Int) (s s' : List It), s.map (·.f0) = s'.map (·.f0) → okRun G most s l = okRun G most s' l
  | [], _, _, _, _ => rfl
  | x :: l, most, s, s', h => by
    unfold okRun
    rw [any_bag h, okRun_seen G l _ (s ++ [x]) (s' ++ [x]) (by simp [h])]
theorem okRun_step (G : Int) (hG : 0 ≤ G) : ∀ (l : List It) (m0 m1 : Int) (s s' : List It), okRun G m0 s l = true → m0 ≤ m1 → s.map (·.f0) = s'.map (·.f0) → okRun G m1 s' (stepGo G m1 l) = true
  | [], _, _, _, _, _, _, _ => rfl
  | x :: l, m0, m1, s, s', h, hm, hs => by
    obtain ⟨h1, h2, h3, h4⟩ := okRun_cons h
    rw [any_bag hs] at h2
    unfold stepGo
    split
    · rename_i hlt
      have := okRun_step G hG l (x.f1 - x.f2 - G) (x.f1 + 1 - x.f2 - G) (s ++ [x]) (s' ++ [⟨x.f0, x.f1 + 1, x.f2⟩]) h4 (by omega) (by simp [hs])
      unfold okRun
      simp only [Bool.and_eq_true, decide_eq_true_eq, Bool.not_eq_true']
      exact ⟨⟨⟨h1, h2⟩, by omega⟩, this⟩
    · rename_i hlt
      have := okRun_step G hG l (x.f1 - x.f2 - G) (x.f1 - x.f2 - G) (s ++ [x]) (s' ++ [x]) h4 (by omega) (by simp [hs])
      unfold okRun
      simp only [Bool.and_eq_true, decide_eq_true_eq, Bool.not_eq_true']
      exact ⟨⟨⟨h1, h2⟩, by omega⟩, this⟩
theorem okB_step {L G : Int} {l : List It} (h : okB L G l = true) : okB L G (stepGo G L l) = true := by
  have h1 := okB_len h
  have h2 := okB_run h
  unfold okB
  rw [decide_eq_true (by rw [stepGo_len]; exact h1), okRun_step G (by omega) l L L [] [] h2 (Int.le_refl _) rfl]
  rfl
def moveM (G L : Int) : Nat → List It → List It
  | 0, l => l
  | n + 1, l => moveM G L n (stepGo G L l)
theorem okB_move {L G : Int} : ∀ (n : Nat) {l : List It}, okB L G l = true → okB L G (moveM G L n l) = true
  | 0, _, h => h
  | n + 1, _, h => okB_move n (okB_step h)
theorem moveM_len (G L : Int) : ∀ (n : Nat) (l : List It), (moveM G L n l).length = l.length
  | 0, _ => rfl
  | n + 1, l => by unfold moveM; rw [moveM_len G L n, stepGo_len]
theorem rd_mid (a : List It) (x : It) (b : List It) : rd_T74 (a ++ x :: b) (a.length : Int) = x := by
  simp [rd_T74, List.getD_eq_getElem?_getD]
theorem rd_mid' (a : List It) (p x : It) (b : List It) : rd_T74 ((a ++ [p]) ++ x :: b) (a.length : Int) = p := by
  rw [List.append_assoc]
  exact rd_mid a p (x :: b)
theorem set_mid (a : List It) (x y : It) (b : List It) : (a ++ x :: b).set a.length y = (a ++ [y]) ++ b := by
  simp
theorem okRun_mem (G : Int) (hG : 0 ≤ G) : ∀ (l : List It) (most : Int) (s : List It), okRun G most s l = true → ∀ x ∈ l, 1 ≤ x.f0 ∧ 1 ≤ x.f2 ∧ x.f2 ≤ 60 ∧ x.f2 ≤ x.f1 ∧ x.f1 ≤ most
  | [], _, _, _, x, hx => by simp at hx
  | y :: l, most, s, h, x, hx => by
    obtain ⟨h1, h2, h3, h4⟩ := okRun_cons h
    rcases List.mem_cons.1 hx with rfl | hx
    · omega
    · have := okRun_mem G hG l _ _ h4 x hx
      omega
theorem okB_mem {L G : Int} {l : List It} (h : okB L G l = true) : ∀ x ∈ l, 1 ≤ x.f0 ∧ 1 ≤ x.f2 ∧ x.f2 ≤ 60 ∧ x.f2 ≤ x.f1 ∧ x.f1 ≤ L := by
  have h1 := okB_len h
  exact okRun_mem G (by omega) l L [] (okB_run h)
theorem rd_mem (l : List It) (i : Nat) (h : i < l.length) : rd_T74 l (i : Int) ∈ l := by
  rw [rd_item l i h]; exact List.getElem_mem _
/-- Where n steps bring the items: each as far as it can. -/
def goN (G : Int) (n : Nat) : Int → List It → List It
  | _, [] => []
  | most, x :: l => ⟨x.f0, min (x.f1 + n) most, x.f2⟩ :: goN G n (min (x.f1 + n) most - x.f2 - G) l
theorem goN_zero (G : Int) : ∀ (l : List It) (most : Int) (s : List It), okRun G most s l = true → goN G 0 most l = l
  | [], _, _, _ => rfl
  | x :: l, most, s, h => by
    obtain ⟨_, _, h3, h4⟩ := okRun_cons h
    have e : min (x.f1 + ((0 : Nat) : Int)) most = x.f1 := by omega
    unfold goN; rw [e, goN_zero G l _ _ h4]
theorem step_goN (G : Int) (n : Nat) : ∀ (l : List It) (m0 m1 : Int), m0 ≤ m1 → m1 ≤ m0 + 1 → stepGo G m1 (goN G n m0 l) = goN G (n + 1) m1 l
  | [], _, _, _, _ => rfl
  | x :: l, m0, m1, h0, h1 => by
    unfold goN stepGo
    by_cases c : min (x.f1 + (n : Int)) m0 < m1
    · have e : min (x.f1 + (n : Int)) m0 + 1 = min (x.f1 + ((n + 1 : Nat) : Int)) m1 := by omega
      simp only [if_pos c]
      rw [step_goN G n l _ (min (x.f1 + (n : Int)) m0 + 1 - x.f2 - G) (by omega) (by omega), e]
    · have e : min (x.f1 + (n : Int)) m0 = min (x.f1 + ((n + 1 : Nat) : Int)) m1 := by omega
      simp only [if_neg c]
      rw [step_goN G n l _ (min (x.f1 + (n : Int)) m0 - x.f2 - G) (by omega) (by omega), e]
theorem move_goN (G L : Int) : ∀ (n k : Nat) (l : List It), moveM G L n (goN G k L l) = goN G (k + n) L l
  | 0, k, l => rfl
  | n + 1, k, l => by
    rw [moveM, step_goN G k l L L (Int.le_refl _) (by omega), move_goN G L n (k + 1) l]
    rw [show k + 1 + n = k + (n + 1) by omega]
theorem move_eq {L G : Int} {l : List It} (h : okB L G l = true) (n : Nat) : moveM G L n l = goN G n L l := by
  have := move_goN G L n 0 l
  rw [goN_zero G l L [] (okB_run h), Nat.zero_add] at this
  exact this
theorem stepGo_bags (G : Int) : ∀ (l : List It) (most : Int), (stepGo G most l).map (·.f0) = l.map (·.f0)
  | [], _ => rfl
  | x :: l, most => by
    unfold stepGo
    split <;> simp [stepGo_bags G l]
theorem moveM_bags (G L : Int) : ∀ (n : Nat) (l : List It), (moveM G L n l).map (·.f0) = l.map (·.f0)
  | 0, _ => rfl
  | n + 1, l => by unfold moveM; rw [moveM_bags G L n, stepGo_bags]
/-- What Move returns. -/
def moveR (L G : Int) (l : List It) (s : Int) : List It := if okB L G l = true ∧ 0 ≤ s ∧ s ≤ 2000 then moveM G L s.toNat l else l
theorem moveR_len (L G : Int) (l : List It) (s : Int) : (moveR L G l s).length = l.length := by
  unfold moveR; split
  · exact moveM_len _ _ _ _
  · rfl
theorem moveM_add (G L : Int) : ∀ (a b : Nat) (l : List It), moveM G L b (moveM G L a l) = moveM G L (a + b) l
  | 0, b, l => by rw [moveM, Nat.zero_add]
  | a + 1, b, l => by
    rw [moveM, moveM_add G L a b, show a + 1 + b = (a + b) + 1 by omega, moveM]
/-- Where the last of them leaves the next one. -/
def goEnd (G : Int) (n : Nat) : Int → List It → Int
  | most, [] => most
  | most, x :: l => goEnd G n (min (x.f1 + n) most - x.f2 - G) l
theorem goEnd_last (G : Int) (n : Nat) : ∀ (l : List It) (most : Int), (match (goN G n most l).getLast? with | none => most | some x => x.f1 - x.f2 - G) = goEnd G n most l
  | [], _ => rfl
  | x :: l, most => by
    have := goEnd_last G n l (min (x.f1 + n) most - x.f2 - G)
    rw [goEnd, ← this, goN]
    cases l with
    | nil => rfl
    | cons y t =>
      rw [goN, List.getLast?_cons_cons]
      cases e : ((⟨y.f0, min (y.f1 + n) (min (x.f1 + n) most - x.f2 - G), y.f2⟩ : It) :: goN G n (min (y.f1 + n) (min (x.f1 + n) most - x.f2 - G) - y.f2 - G) t).getLast? with
      | none => simp at e
      | some w => rfl
theorem move_ok_n {L G : Int} {l : List It} (h : okB L G l = true) (s : Int) (n : Nat) (hs : s = (n : Int)) (hn : n ≤ 2000) : moveR L G l s = moveM G L n l := by
  subst hs
  unfold moveR
  rw [if_pos ⟨h, by omega, by omega⟩, Int.toNat_natCast]
/-- What FreeBehind returns. -/
def freeR (L G : Int) (l : List It) : Int := if okB L G l = true then (match l.getLast? with | none => L | some x => mx 0 (x.f1 - x.f2 - G)) else -1
theorem last_item (l : List It) (h : l ≠ []) : l.getLast? = some (rd_T74 l ((l.length - 1 : Nat) : Int)) := by
  have hl : 0 < l.length := List.length_pos_iff.2 h
  rw [List.getLast?_eq_getElem?, rd_item l (l.length - 1) (by omega), List.getElem?_eq_getElem (by omega)]
theorem okRun_snoc (G : Int) (y : It) : ∀ (l : List It) (most : Int) (s : List It), okRun G most s l = true → 1 ≤ y.f0 → (s ++ l).any (fun z => z.f0 == y.f0) = false → 1 ≤ y.f2 → y.f2 ≤ 60 → y.f2 ≤ y.f1 → y.f1 ≤ (match l.getLast? with | none => most | some x => x.f1 - x.f2 - G) → okRun G most s (l ++ [y]) = true
  | [], most, s, _, h1, h2, h3, h4, h5, h6 => by
    rw [List.append_nil] at h2
    simp only [List.getLast?_nil] at h6
    simp only [List.nil_append, okRun, Bool.and_eq_true, decide_eq_true_eq, Bool.not_eq_true', and_true]
    exact ⟨⟨h1, h2⟩, h3, h4, h5, h6⟩
  | x :: l, most, s, h, h1, h2, h3, h4, h5, h6 => by
    obtain ⟨a1, a2, a3, a4⟩ := okRun_cons h
    have := okRun_snoc G y l (x.f1 - x.f2 - G) (s ++ [x]) a4 h1 (by simpa using h2) h3 h4 h5 (by
      cases l with
      | nil => simpa using h6
      | cons z t =>
        rw [List.getLast?_cons_cons] at h6
        cases e : (z :: t).getLast? with
        | none => simp at e
        | some w => rw [e] at h6; exact h6)
    rw [List.cons_append]
    simp only [okRun, Bool.and_eq_true, decide_eq_true_eq, Bool.not_eq_true']
    exact ⟨⟨⟨a1, a2⟩, a3⟩, this⟩
theorem okB_snoc {L G : Int} {l : List It} (h : okB L G l = true) (bag size : Int) (h1 : 1 ≤ bag) (h2 : l.any (fun z => z.f0 == bag) = false) (h3 : 1 ≤ size) (h4 : size ≤ 60) (h5 : l.length < 40) (h6 : size ≤ freeR L G l) : okB L G (l ++ [⟨bag, size, size⟩]) = true := by
  have a := okB_len h
  have b := okRun_snoc G ⟨bag, size, size⟩ l L [] (okB_run h) h1 (by simpa using h2) h3 h4 (Int.le_refl _) (by
    unfold freeR at h6
    rw [if_pos h] at h6
    cases c : l.getLast? with
    | none => rw [c] at h6; exact h6
    | some x =>
      rw [c] at h6
      simp only [mx] at h6 ⊢
      split at h6 <;> omega)
  unfold okB
  rw [b, decide_eq_true (by simp only [List.length_append, List.length_cons, List.length_nil]; omega)]
  rfl
theorem spec_in (x a b : Int) : spec_l01In.f x a b = some (decide (a ≤ x ∧ x ≤ b)) := by
  unfold spec_l01In.f
  by_cases h : x ≥ a
  · rw [if_pos h]; congr 1; simp; omega
  · rw [if_neg h]; congr 1; simp; omega
theorem spec_ok_inner (L G : Int) (H : Bool) (l : List It) (b f n : Int) (hl : l.length ≤ 40) (i : Nat) (hi : i < l.length) (R : Bool) (d : Nat) : ∀ (j : Nat), j + d = i →
    (((l.take i).drop j).any (fun y => y.f0 == b) = true → R = false) →
    (((l.take i).drop j).any (fun y => y.f0 == b) = false → Ev (fun k => if (i : Int) > 0 then (if 0 ≤ (wrap64 ((i : Int) - 1)) then (if (wrap64 ((i : Int) - 1)) < (l.length : Int) then (if f > (wrap64 ((wrap64 (((rd_T74 l (wrap64 ((i : Int) - 1))).f1) - ((rd_T74 l (wrap64 ((i : Int) - 1))).f2))) - G)) then (some false) else (spec_BeltOk.l0 k (wrap64 ((i : Int) + 1)) L G H l)) else (none)) else (none)) else (spec_BeltOk.l0 k (wrap64 ((i : Int) + 1)) L G H l)) R) →
    Ev (fun k => spec_BeltOk.l1 k (i : Int) (j : Int) L G H l b f n) R := by
  induction d with
  | zero =>
    intro j hj _ h
    have : j = i := by omega
    subst this
    refine Ev.step (fun k => by rw [spec_BeltOk.l1, if_neg (show ¬ (j : Int) < (j : Int) by omega)]) ?_
    exact h (by rw [List.drop_eq_nil_of_le (by simp; omega)]; rfl)
  | succ d ih =>
    intro j hj hd h
    have e1 : wrap64 ((j : Int) + 1) = ((j + 1 : Nat) : Int) := w64 (by omega) (by omega)
    have hjt : j < (l.take i).length := by simp; omega
    have hc : (l.take i).drop j = rd_T74 l (j : Int) :: (l.take i).drop (j + 1) := by
      rw [List.drop_eq_getElem_cons hjt, rd_item l j (by omega)]
      simp
    rw [hc, List.any_cons] at hd h
    refine Ev.step (fun k => by rw [spec_BeltOk.l1, if_pos (show (j : Int) < (i : Int) by omega), if_pos (show (0 : Int) ≤ (j : Int) by omega), if_pos (show (j : Int) < (l.length : Int) by omega), e1]) ?_
    by_cases c : (rd_T74 l (j : Int)).f0 = b
    · simp only [if_pos c]
      rw [hd (by simp [c])]
      exact Ev.now _
    · simp only [if_neg c]
      have hb : ((rd_T74 l (j : Int)).f0 == b) = false := by simp [c]
      rw [hb, Bool.false_or] at hd h
      exact ih (j + 1) (by omega) hd h
/-- What the place in front of item i leaves it. -/
def mostAt (L G : Int) (l : List It) (i : Nat) : Int := if i = 0 then L else (rd_T74 l ((i - 1 : Nat) : Int)).f1 - (rd_T74 l ((i - 1 : Nat) : Int)).f2 - G
theorem spec_ok_loop (L G : Int) (H : Bool) (l : List It) (hL : 1 ≤ L ∧ L ≤ 400) (hG : 0 ≤ G ∧ G ≤ 20) (hl : l.length ≤ 40) (d : Nat) : ∀ (i : Nat), i + d = l.length → -100 ≤ mostAt L G l i → mostAt L G l i ≤ L →
    (0 < i → (rd_T74 l ((i - 1 : Nat) : Int)).f1 ≤ 400 ∧ 1 ≤ (rd_T74 l ((i - 1 : Nat) : Int)).f2 ∧ (rd_T74 l ((i - 1 : Nat) : Int)).f2 ≤ 60 ∧ (rd_T74 l ((i - 1 : Nat) : Int)).f2 ≤ (rd_T74 l ((i - 1 : Nat) : Int)).f1) →
    Ev (fun k => spec_BeltOk.l0 k i L G H l) (okRun G (mostAt L G l i) (l.take i) (l.drop i)) := by
  induction d with
  | zero =>
    intro i hi h0 h1 _
    rw [List.drop_eq_nil_of_le (by omega)]
    exact Ev.step (f := fun _ => some true) (fun k => by rw [spec_BeltOk.l0, if_neg (show ¬ (i : Int) < (l.length : Int) by omega)]) (ev_some rfl)
  | succ d ih =>
    intro i hi h0 h1 hp
    have hlt : i < l.length := by omega
    have e1 : wrap64 ((i : Int) + 1) = ((i + 1 : Nat) : Int) := w64 (by omega) (by omega)
    rw [drop_item l i hlt]
    generalize hx : rd_T74 l (i : Int) = x
    have hfalse : ∀ b f n, Ev (fun k => spec_BeltOk.j2 k i true L G H l b f n) false := fun b f n => Ev.step (fun k => by rw [spec_BeltOk.j2, if_pos rfl]) (Ev.now _)
    refine Ev.step (fun k => by rw [spec_BeltOk.l0, if_pos (show (i : Int) < (l.length : Int) by omega), if_pos (show (0 : Int) ≤ (i : Int) by omega), hx]) ?_
    simp only [okRun, spec_in, Option.bind_some]
    by_cases c1 : x.f0 < 1
    · simp only [if_pos c1]
      rw [decide_eq_false (show ¬ 1 ≤ x.f0 by omega)]
      simp only [Bool.false_and]
      exact hfalse _ _ _
    · simp only [if_neg c1]
      rw [decide_eq_true (show 1 ≤ x.f0 by omega)]
      by_cases c2 : 1 ≤ x.f2 ∧ x.f2 ≤ 60
      · rw [decide_eq_true c2]
        simp only [if_true]
        by_cases c3 : x.f2 ≤ x.f1 ∧ x.f1 ≤ L
        · rw [decide_eq_true c3]
          simp only [Bool.not_true]
          refine Ev.step (fun k => by rw [spec_BeltOk.j2, if_neg (by decide)]) ?_
          refine spec_ok_inner L G H l x.f0 x.f1 x.f2 hl i hlt _ i 0 (by omega) ?_ ?_
          · intro h
            rw [List.drop_zero] at h
            rw [h]; simp
          · intro h
            rw [List.drop_zero] at h
            rw [h, e1]
            have hm : mostAt L G l (i + 1) = x.f1 - x.f2 - G := by
              unfold mostAt
              rw [if_neg (by omega), Nat.add_sub_cancel, hx]
            have hrest := ih (i + 1) (by omega) (by rw [hm]; omega) (by rw [hm]; omega) (fun _ => by rw [Nat.add_sub_cancel, hx]; omega)
            rw [hm, take_item l i hlt, hx] at hrest
            by_cases c4 : (i : Int) > 0
            · have e2 : wrap64 ((i : Int) - 1) = ((i - 1 : Nat) : Int) := by rw [w64 (by omega) (by omega)]; omega
              have hpr := hp (by omega)
              have hmi : mostAt L G l i = (rd_T74 l ((i - 1 : Nat) : Int)).f1 - (rd_T74 l ((i - 1 : Nat) : Int)).f2 - G := by
                unfold mostAt; rw [if_neg (by omega)]
              simp only [if_pos c4, e2, if_pos (show (0 : Int) ≤ ((i - 1 : Nat) : Int) by omega), if_pos (show ((i - 1 : Nat) : Int) < (l.length : Int) by omega)]
              rw [w64 (x := (rd_T74 l ((i - 1 : Nat) : Int)).f1 - (rd_T74 l ((i - 1 : Nat) : Int)).f2) (by omega) (by omega), w64 (by omega) (by omega), ← hmi]
              by_cases c5 : x.f1 > mostAt L G l i
              · simp only [if_pos c5]
                rw [decide_eq_false (show ¬ (1 ≤ x.f2 ∧ x.f2 ≤ 60 ∧ x.f2 ≤ x.f1 ∧ x.f1 ≤ mostAt L G l i) by omega)]
                exact ev_some (by simp)
              · simp only [if_neg c5]
                rw [decide_eq_true (show (1 ≤ x.f2 ∧ x.f2 ≤ 60 ∧ x.f2 ≤ x.f1 ∧ x.f1 ≤ mostAt L G l i) by omega)]
                simpa using hrest
            · have hmi : mostAt L G l i = L := by unfold mostAt; rw [if_pos (by omega)]
              simp only [if_neg c4]
              rw [hmi, decide_eq_true (show (1 ≤ x.f2 ∧ x.f2 ≤ 60 ∧ x.f2 ≤ x.f1 ∧ x.f1 ≤ L) by omega)]
              simpa using hrest
        · rw [decide_eq_false c3, decide_eq_false (show ¬ (1 ≤ x.f2 ∧ x.f2 ≤ 60 ∧ x.f2 ≤ x.f1 ∧ x.f1 ≤ mostAt L G l i) by omega)]
          simp only [Bool.not_false, Bool.and_false, Bool.false_and]
          exact hfalse _ _ _
      · rw [decide_eq_false c2, decide_eq_false (show ¬ (1 ≤ x.f2 ∧ x.f2 ≤ 60 ∧ x.f2 ≤ x.f1 ∧ x.f1 ≤ mostAt L G l i) by omega)]
        simp only [Bool.and_false, Bool.false_and, if_neg (show ¬ (false = true) by decide)]
        exact hfalse _ _ _
theorem spec_ok_ev (L G : Int) (H : Bool) (l : List It) : Ev (fun k => spec_BeltOk.f k L G H l) (okB L G l) := by
  unfold spec_BeltOk.f
  have hf : ∀ L G H, Ev (fun k => spec_BeltOk.j0 k true L G H l) false := fun L G H => Ev.step (fun k => by rw [spec_BeltOk.j0, if_pos rfl]) (Ev.now _)
  have hb : ¬ (1 ≤ L ∧ L ≤ 400 ∧ 0 ≤ G ∧ G ≤ 20 ∧ l.length ≤ 40) → okB L G l = false := fun h => by unfold okB; rw [decide_eq_false h]; rfl
  simp only [spec_in, Option.bind_some]
  by_cases c1 : 1 ≤ L ∧ L ≤ 400
  · rw [decide_eq_true c1]
    simp only [if_true]
    by_cases c2 : 0 ≤ G ∧ G ≤ 20
    · rw [decide_eq_true c2]
      simp only [if_true]
      by_cases c5 : (l.length : Int) > 40
      · rw [decide_eq_true c5, hb (by omega)]; exact hf _ _ _
      · rw [decide_eq_false c5]
        refine Ev.step (fun k => by rw [spec_BeltOk.j0, if_neg (by decide)]) ?_
        have hm : mostAt L G l 0 = L := rfl
        have := spec_ok_loop L G H l c1 c2 (by omega) l.length 0 (by omega) (by rw [hm]; omega) (by rw [hm]; omega) (fun h => by omega)
        unfold okB
        rw [decide_eq_true (by omega)]
        rw [hm] at this
        simpa using this
    · rw [decide_eq_false c2, hb (by omega)]
      simp only [if_neg (show ¬ (false = true) by decide)]
      exact hf _ _ _
  · rw [decide_eq_false c1, hb (by omega)]
    simp only [if_neg (show ¬ (false = true) by decide)]
    exact hf _ _ _

theorem spec_free_ev (L G : Int) (H : Bool) (l : List It) : Ev (fun k => spec_FreeBehind.f k L G H l) (freeR L G l) := by
  unfold spec_FreeBehind.f freeR
  refine ev_bind _ (spec_ok_ev L G H l) ?_
  cases h : okB L G l with
  | false => simp only [Bool.false_eq_true, if_false]; exact Ev.now _
  | true =>
    have h1 := okB_len h
    simp only [if_true]
    refine ev_const ?_
    cases l with
    | nil => simp
    | cons x t =>
      have hne : x :: t ≠ [] := by simp
      have hl : 0 < (x :: t).length := by simp
      have hm := okB_mem h _ (rd_mem (x :: t) ((x :: t).length - 1) (by omega))
      have e : wrap64 (((x :: t).length : Int) - 1) = (((x :: t).length - 1 : Nat) : Int) := by rw [w64 (by omega) (by omega)]; omega
      rw [last_item _ hne]
      generalize hw : x :: t = w at *
      rw [if_neg (by omega), e, if_pos (by omega), if_pos (by omega), w64 (x := _ - (rd_T74 w ((w.length - 1 : Nat) : Int)).f2) (by omega) (by omega), w64 (by omega) (by omega)]
/-- How many items have a bag that is not below x. -/
def cntB (x : Int) : List It → Nat
  | [] => 0
  | y :: l => (if x ≤ y.f0 then 1 else 0) + cntB x l
theorem cntB_le (x : Int) : ∀ l : List It, cntB (x + 1) l ≤ cntB x l
  | [] => Nat.le_refl _
  | y :: l => by
    have := cntB_le x l
    unfold cntB
    by_cases c : x + 1 ≤ y.f0
    · rw [if_pos c, if_pos (show x ≤ y.f0 by omega)]; omega
    · rw [if_neg c]; split <;> omega
theorem cntB_lt (x : Int) : ∀ l : List It, l.any (fun y => y.f0 == x) = true → cntB (x + 1) l + 1 ≤ cntB x l
  | [], h => by simp at h
  | y :: l, h => by
    have h1 := cntB_le x l
    unfold cntB
    by_cases c : y.f0 = x
    · rw [if_neg (show ¬ x + 1 ≤ y.f0 by omega), if_pos (show x ≤ y.f0 by omega)]; omega
    · have h2 := cntB_lt x l (by
        rw [List.any_cons] at h
        simp only [Bool.or_eq_true, beq_iff_eq] at h
        exact h.resolve_left c)
      by_cases c : x + 1 ≤ y.f0
      · rw [if_pos c, if_pos (show x ≤ y.f0 by omega)]; omega
      · rw [if_neg c]; split <;> omega
theorem cntB_len (x : Int) : ∀ l : List It, cntB x l ≤ l.length
  | [] => Nat.le_refl _
  | y :: l => by
    have := cntB_len x l
    unfold cntB
    simp only [List.length_cons]
    split <;> omega
theorem cntB_app (x : Int) (m : List It) : ∀ l : List It, cntB x (l ++ m) = cntB x l + cntB x m
  | [] => by simp [cntB]
  | y :: l => by rw [List.cons_append, cntB, cntB, cntB_app x m l]; omega
theorem cntB_bags (x : Int) : ∀ (l m : List It), l.map (·.f0) = m.map (·.f0) → cntB x l = cntB x m
  | [], [], _ => rfl
  | [], _ :: _, h => by simp at h
  | _ :: _, [], h => by simp at h
  | y :: l, z :: m, h => by
    simp only [List.map_cons, List.cons.injEq] at h
    unfold cntB
    rw [h.1, cntB_bags x l m h.2]
/-- The least bag that no item has, from x. -/
def newB (l : List It) : Nat → Int → Int
  | 0, x => x
  | n + 1, x => if l.any (fun y => y.f0 == x) = true then newB l n (x + 1) else x
theorem newB_spec (l : List It) : ∀ (n : Nat) (x : Int), cntB x l ≤ n → x ≤ newB l n x ∧ l.any (fun y => y.f0 == newB l n x) = false ∧ (∀ c, x ≤ c → c < newB l n x → l.any (fun y => y.f0 == c) = true) ∧ newB l n x + (cntB (newB l n x) l : Int) ≤ x + (cntB x l : Int)
  | 0, x, h => by
    refine ⟨Int.le_refl _, ?_, fun c h1 h2 => by unfold newB at h2; omega, Int.le_refl _⟩
    cases e : l.any (fun y => y.f0 == newB l 0 x) with
    | false => rfl
    | true => have := cntB_lt x l e; omega
  | n + 1, x, h => by
    cases e : l.any (fun y => y.f0 == x) with
    | false =>
      have e1 : newB l (n + 1) x = x := by rw [newB, if_neg (by rw [e]; decide)]
      rw [e1]
      exact ⟨Int.le_refl _, e, fun c h1 h2 => by omega, Int.le_refl _⟩
    | true =>
      have e1 : newB l (n + 1) x = newB l n (x + 1) := by rw [newB, if_pos e]
      have e2 := cntB_lt x l e
      obtain ⟨a, b, c, d⟩ := newB_spec l n (x + 1) (by omega)
      rw [e1]
      refine ⟨by omega, b, fun q h1 h2 => ?_, by omega⟩
      by_cases hq : q = x
      · rw [hq]; exact e
      · exact c q (by omega) h2
/-- The least bag from 1 that no item has. -/
def newBag (l : List It) : Int := newB l (cntB 1 l) 1
theorem newBag_of (l : List It) (x : Int) (h1 : 1 ≤ x) (h : ∀ c, 1 ≤ c → c < x → l.any (fun y => y.f0 == c) = true) : newB l (cntB x l) x = newBag l := by
  obtain ⟨a, b, c, _⟩ := newB_spec l (cntB x l) x (Nat.le_refl _)
  obtain ⟨a', b', c', _⟩ := newB_spec l (cntB 1 l) 1 (Nat.le_refl _)
  have hb : ∀ q, 1 ≤ q → q < newB l (cntB x l) x → l.any (fun y => y.f0 == q) = true := fun q h2 h3 => by
    by_cases hq : q < x
    · exact h q h2 hq
    · exact c q (by omega) h3
  unfold newBag
  generalize newB l (cntB x l) x = u at *
  generalize newB l (cntB 1 l) 1 = v at *
  by_cases h2 : u < v
  · have := c' u (by omega) h2; rw [b] at this; simp at this
  · by_cases h3 : v < u
    · have := hb v (by omega) h3; rw [b'] at this; simp at this
    · omega
theorem newBag_any (l : List It) : l.any (fun y => y.f0 == newBag l) = false := (newB_spec l (cntB 1 l) 1 (Nat.le_refl _)).2.1
theorem newBag_lo (l : List It) : 1 ≤ newBag l := (newB_spec l (cntB 1 l) 1 (Nat.le_refl _)).1
theorem newBag_hi (l : List It) : newBag l ≤ (l.length : Int) + 1 := by
  have := (newB_spec l (cntB 1 l) 1 (Nat.le_refl _)).2.2.2
  have h := cntB_len 1 l
  unfold newBag; omega
theorem newBag_bags {l m : List It} (h : l.map (·.f0) = m.map (·.f0)) : newBag l = newBag m := by
  have e : ∀ (n : Nat) (x : Int), newB l n x = newB m n x := by
    intro n
    induction n with
    | zero => intro x; rfl
    | succ n ih => intro x; rw [newB, newB, any_bag h, ih]
  unfold newBag; rw [cntB_bags 1 l m h, e]
theorem spec_new_in (L G : Int) (H : Bool) (l : List It) (hl : l.length ≤ 1048600) (x : Int) (r : Int) (hr : Ev (fun k => if l.any (fun y => y.f0 == x) = true then spec_l02New.l0 k (wrap64 (x + 1)) L G H l else some x) r) (d : Nat) : ∀ (i : Nat) (b : Bool), i + d = l.length → (b || (l.drop i).any (fun y => y.f0 == x)) = l.any (fun y => y.f0 == x) →
    Ev (fun k => spec_l02New.l1 k x b i L G H l) r := by
  induction d with
  | zero =>
    intro i b hi hb
    rw [List.drop_eq_nil_of_le (by omega), List.any_nil, Bool.or_false] at hb
    subst hb
    exact Ev.step (fun k => by rw [spec_l02New.l1, if_neg (show ¬ (i : Int) < (l.length : Int) by omega)]) hr
  | succ d ih =>
    intro i b hi hb
    have hlt : i < l.length := by omega
    have e1 : wrap64 ((i : Int) + 1) = ((i + 1 : Nat) : Int) := w64 (by omega) (by omega)
    rw [drop_item l i hlt, List.any_cons] at hb
    cases b with
    | true =>
      refine Ev.step (fun k => by rw [spec_l02New.l1, if_pos (show (i : Int) < (l.length : Int) by omega), if_pos rfl, e1]) ?_
      exact ih (i + 1) true (by omega) (by simpa using hb)
    | false =>
      refine Ev.step (fun k => by rw [spec_l02New.l1, if_pos (show (i : Int) < (l.length : Int) by omega), if_neg (by decide), if_pos (show (0 : Int) ≤ (i : Int) by omega), e1]) ?_
      exact ih (i + 1) _ (by omega) (by simpa using hb)
theorem spec_new_go (L G : Int) (H : Bool) (l : List It) (hl : l.length ≤ 1048600) : ∀ (n : Nat) (x : Int), cntB x l ≤ n → 1 ≤ x → x + (n : Int) ≤ 2000000 → Ev (fun k => spec_l02New.l0 k x L G H l) (newB l n x)
  | n, x, hn, h1, h2 => by
    refine Ev.step (fun k => by rw [spec_l02New.l0]) ?_
    refine spec_new_in L G H l hl x _ ?_ l.length 0 false (by omega) (by simp)
    cases e : l.any (fun y => y.f0 == x) with
    | false =>
      simp only [Bool.false_eq_true, if_false]
      refine ev_some ?_
      cases n with
      | zero => rfl
      | succ n => rw [newB, if_neg (by rw [e]; decide)]
    | true =>
      have e2 := cntB_lt x l e
      simp only [if_true]
      cases n with
      | zero => omega
      | succ n =>
        rw [newB, if_pos e, w64 (by omega) (by omega)]
        exact spec_new_go L G H l hl n (x + 1) (by omega) (by omega) (by omega)
theorem spec_new_ev (L G : Int) (H : Bool) (l : List It) (hl : l.length ≤ 1048600) : Ev (fun k => spec_l02New.f k L G H l) (newBag l) := by
  unfold spec_l02New.f
  have := cntB_len 1 l
  exact spec_new_go L G H l hl _ 1 (Nat.le_refl _) (by omega) (by omega)
theorem spec_step_loop (L G : Int) (H : Bool) (l0 : List It) (hG : 0 ≤ G ∧ G ≤ 20) : ∀ (rest done : List It) (most m0 : Int) (seen : List It), okRun G m0 seen rest = true → m0 ≤ most → most ≤ 400 → -100 ≤ m0 → (done ++ rest).length ≤ 40 →
    ((done = [] ∧ most = L) ∨ ∃ d p, done = d ++ [p] ∧ most = p.f1 - p.f2 - G ∧ p.f1 ≤ 400 ∧ 0 ≤ p.f2 ∧ p.f2 ≤ 60 ∧ 0 ≤ p.f1) →
    Ev (fun k => spec_l02Step.l0 k (done ++ rest) (done.length : Int) L G H l0) (L, G, H, done ++ stepGo G most rest)
  | [], done, most, m0, seen, _, _, _, _, _, _ => by
    refine Ev.step (fun k => by rw [spec_l02Step.l0, if_neg (by simp)]) (ev_some ?_)
    simp [stepGo]
  | x :: rest, done, most, m0, seen, h, hm, h4, hl, hlen, hp => by
    obtain ⟨h1, h2, h3, h5⟩ := okRun_cons h
    have hlt : (done.length : Int) < ((done ++ x :: rest).length : Int) := by simp; omega
    have hlen' : done.length ≤ 40 := by simp at hlen; omega
    have e1 : wrap64 ((done.length : Int) + 1) = ((done.length + 1 : Nat) : Int) := w64 (by omega) (by omega)
    have hyes : x.f1 < most → Ev (fun k => spec_l02Step.l0 k ((done ++ x :: rest).set done.length ⟨x.f0, wrap64 (x.f1 + 1), x.f2⟩) (wrap64 ((done.length : Int) + 1)) L G H l0) (L, G, H, done ++ stepGo G most (x :: rest)) := by
      intro c
      rw [set_mid, w64 (x := x.f1 + 1) (by omega) (by omega), e1]
      have := spec_step_loop L G H l0 hG rest (done ++ [⟨x.f0, x.f1 + 1, x.f2⟩]) (x.f1 + 1 - x.f2 - G) (x.f1 - x.f2 - G) (seen ++ [x]) h5 (by omega) (by omega) (by omega) (by simp at hlen ⊢; omega) (.inr ⟨done, _, rfl, rfl, by simp only; omega, by simp only; omega, by simp only; omega, by simp only; omega⟩)
      have ed : ((done ++ [(⟨x.f0, x.f1 + 1, x.f2⟩ : It)]).length : Int) = ((done.length + 1 : Nat) : Int) := by simp
      have er : (done ++ [(⟨x.f0, x.f1 + 1, x.f2⟩ : It)]) ++ stepGo G (x.f1 + 1 - x.f2 - G) rest = done ++ stepGo G most (x :: rest) := by
        rw [stepGo, if_pos c, List.append_assoc]; rfl
      rw [ed, er] at this
      exact this
    have hno : ¬ x.f1 < most → Ev (fun k => spec_l02Step.l0 k (done ++ x :: rest) (wrap64 ((done.length : Int) + 1)) L G H l0) (L, G, H, done ++ stepGo G most (x :: rest)) := by
      intro c
      rw [e1]
      have := spec_step_loop L G H l0 hG rest (done ++ [x]) (x.f1 - x.f2 - G) (x.f1 - x.f2 - G) (seen ++ [x]) h5 (by omega) (by omega) (by omega) (by simp at hlen ⊢; omega) (.inr ⟨done, _, rfl, rfl, by omega, by omega, by omega, by omega⟩)
      have ed : ((done ++ [x]).length : Int) = ((done.length + 1 : Nat) : Int) := by simp
      have er : (done ++ [x]) ++ stepGo G (x.f1 - x.f2 - G) rest = done ++ stepGo G most (x :: rest) := by
        rw [stepGo, if_neg c, List.append_assoc]; rfl
      have er2 : (done ++ [x]) ++ rest = done ++ x :: rest := by rw [List.append_assoc]; rfl
      rw [ed, er, er2] at this
      exact this
    rcases hp with ⟨rfl, rfl⟩ | ⟨d, p, rfl, rfl, b1, b2, b3, b4⟩
    · refine Ev.step (fun k => by rw [spec_l02Step.l0, if_pos hlt, if_neg (show ¬ (([] : List It).length : Int) > 0 by simp), if_pos (show (0 : Int) ≤ (([] : List It).length : Int) by simp), rd_mid]) ?_
      by_cases c : x.f1 < most
      · simp only [if_pos c]; exact hyes c
      · simp only [if_neg c]; exact hno c
    · have e2 : wrap64 (((d ++ [p]).length : Int) - 1) = (d.length : Int) := by rw [w64 (by omega) (by omega)]; simp
      refine Ev.step (fun k => by rw [spec_l02Step.l0, if_pos hlt, if_pos (show ((d ++ [p]).length : Int) > 0 by simp only [List.length_append, List.length_cons, List.length_nil]; omega), e2, if_pos (show (0 : Int) ≤ (d.length : Int) by omega), if_pos (by simp only [List.length_append, List.length_cons, List.length_nil]; omega), if_pos (show (0 : Int) ≤ ((d ++ [p]).length : Int) by omega), rd_mid, rd_mid', w64 (x := p.f1 - p.f2) (by omega) (by omega), w64 (x := p.f1 - p.f2 - G) (by omega) (by omega)]) ?_
      by_cases c : x.f1 < p.f1 - p.f2 - G
      · simp only [if_pos c]; exact hyes c
      · simp only [if_neg c]; exact hno c
theorem spec_step_ev {L G : Int} (H : Bool) {l : List It} (h : okB L G l = true) : Ev (fun k => spec_l02Step.f k L G H l) (L, G, H, stepGo G L l) := by
  have h1 := okB_len h
  unfold spec_l02Step.f
  simp only [Option.bind_some, List.nil_append, List.length_nil, Nat.zero_add, if_pos (show l.length < 5864062014805 by omega)]
  have := spec_step_loop L G H l (by omega) l [] L L [] (okB_run h) (Int.le_refl _) (by omega) (by omega) (by simpa using h1.2.2.2.2) (.inl ⟨rfl, rfl⟩)
  simpa using this

theorem fresh_ev (L G : Int) (H : Bool) (l : List It) (hl : l.length ≤ 1048600) : spec_l02Fresh.f L G H l = some (L, G, H, l) := by
  unfold spec_l02Fresh.f
  simp only [Option.bind_some, List.nil_append, List.length_nil, Nat.zero_add, if_pos (show l.length < 5864062014805 by omega)]


theorem spec_move_loop (L G : Int) (H : Bool) (N : Nat) (hN : N ≤ 5000) : ∀ (n i : Nat) (l : List It), i + n = N → okB L G l = true → Ev (fun k => spec_Move.l0 k (N : Int) (i : Int) L G H l) (L, G, H, moveM G L n l)
  | 0, i, l, hi, h => Ev.step (f := fun _ => some (L, G, H, l)) (fun k => by rw [spec_Move.l0, if_neg (by omega)]) (Ev.now _)
  | n + 1, i, l, hi, h => by
    have e1 : wrap64 ((i : Int) + 1) = ((i + 1 : Nat) : Int) := w64 (by omega) (by omega)
    refine Ev.step (fun k => by rw [spec_Move.l0, if_pos (show (i : Int) < (N : Int) by omega), e1]) ?_
    refine ev_bind _ (spec_step_ev H h) ?_
    exact spec_move_loop L G H N hN n (i + 1) (stepGo G L l) (by omega) (okB_step h)
theorem spec_move_ev (L G : Int) (H : Bool) (l : List It) (s : Int) (hl : l.length ≤ 1048600) : Ev (fun k => spec_Move.f k L G H l s) (L, G, H, moveR L G l s) := by
  unfold spec_Move.f moveR
  simp only [fresh_ev L G H l hl, Option.bind_some]
  refine ev_bind _ (spec_ok_ev L G H l) ?_
  cases h : okB L G l with
  | false =>
    simp only [if_neg (show ¬ (false = true) by decide), false_and, if_false, Bool.false_eq_true]
    exact Ev.step (fun k => by rw [spec_Move.j0, if_pos rfl]) (Ev.now _)
  | true =>
    simp only [if_true, spec_in, Option.bind_some, true_and]
    by_cases c : 0 ≤ s ∧ s ≤ 2000
    · rw [decide_eq_true c, if_pos c]
      refine Ev.step (fun k => by rw [spec_Move.j0, if_neg (by decide)]) ?_
      have := spec_move_loop L G H s.toNat (by omega) s.toNat 0 l (by omega) h
      rw [Int.toNat_of_nonneg c.1] at this
      exact this
    · rw [decide_eq_false c, if_neg c]
      exact Ev.step (fun k => by rw [spec_Move.j0, if_pos (show (!false) = true from rfl)]) (Ev.now _)
theorem impl_ok_loop (L G : Int) (H : Bool) (l : List It) (hG : 0 ≤ G ∧ G ≤ 20) (hl : l.length ≤ 40) (d : Nat) : ∀ (i : Nat) (most : Int), i + d = l.length → -100 ≤ most → most ≤ 400 →
    Ev (fun k => impl_BeltOk.l0 k most l (l.length : Int) i L G H l) (okRun G most (l.take i) (l.drop i)) := by
  induction d with
  | zero =>
    intro i most hi h0 h1
    rw [List.drop_eq_nil_of_le (by omega)]
    exact Ev.step (f := fun _ => some true) (fun k => by rw [impl_BeltOk.l0, if_neg (show ¬ (i : Int) < (l.length : Int) by omega)]) (ev_some rfl)
  | succ d ih =>
    intro i most hi h0 h1
    have hlt : i < l.length := by omega
    have e1 : wrap64 ((i : Int) + 1) = ((i + 1 : Nat) : Int) := w64 (by omega) (by omega)
    rw [drop_item l i hlt]
    generalize hx : rd_T74 l (i : Int) = x
    refine Ev.step (fun k => by rw [impl_BeltOk.l0, if_pos (show (i : Int) < (l.length : Int) by omega), if_pos (show (0 : Int) ≤ (i : Int) by omega), if_pos (show (i : Int) < (l.length : Int) by omega), if_pos (show (i : Int) ≤ (l.length : Int) by omega), hx]) ?_
    simp only [okRun, impl_isOn.f, Option.bind_some, Int.toNat_natCast]
    by_cases c1 : x.f0 < 1
    · simp only [if_pos c1]
      rw [decide_eq_false (show ¬ 1 ≤ x.f0 by omega)]
      exact ev_some (by simp)
    · simp only [if_neg c1]
      rw [decide_eq_true (show 1 ≤ x.f0 by omega)]
      cases c2 : (l.take i).any (fun y => y.f0 == x.f0) with
      | true => exact ev_some (by simp)
      | false =>
        simp only [if_neg (show ¬ (false = true) by decide)]
        by_cases c3 : 1 ≤ x.f2 ∧ x.f2 ≤ 60 ∧ x.f2 ≤ x.f1 ∧ x.f1 ≤ most
        · rw [decide_eq_true c3]
          simp only [if_neg (show ¬ x.f2 < 1 by omega), if_neg (show ¬ x.f2 > 60 by omega), if_neg (show ¬ x.f1 < x.f2 by omega), if_neg (show ¬ x.f1 > most by omega)]
          rw [w64 (x := x.f1 - x.f2) (by omega) (by omega), w64 (x := x.f1 - x.f2 - G) (by omega) (by omega), e1]
          have := ih (i + 1) (x.f1 - x.f2 - G) (by omega) (by omega) (by omega)
          rw [take_item l i hlt, hx] at this
          simpa using this
        · rw [decide_eq_false c3]
          have : (true && !false && false && okRun G (x.f1 - x.f2 - G) (l.take i ++ [x]) (l.drop (i + 1))) = false := by simp
          rw [this]
          by_cases d1 : x.f2 < 1
          · simp only [if_pos d1]; exact Ev.now _
          · by_cases d2 : x.f2 > 60
            · simp only [if_neg d1, if_pos d2]; exact Ev.now _
            · by_cases d3 : x.f1 < x.f2
              · simp only [if_neg d1, if_neg d2, if_pos d3]; exact Ev.now _
              · simp only [if_neg d1, if_neg d2, if_neg d3, if_pos (show x.f1 > most by omega)]; exact Ev.now _
theorem impl_ok_ev (L G : Int) (H : Bool) (l : List It) : Ev (fun k => impl_BeltOk.f k L G H l) (okB L G l) := by
  unfold impl_BeltOk.f
  have hf : ∀ L G H, Ev (fun k => impl_BeltOk.j0 k true L G H l) false := fun L G H => Ev.step (fun k => by rw [impl_BeltOk.j0, if_pos rfl]) (Ev.now _)
  have hb : ¬ (1 ≤ L ∧ L ≤ 400 ∧ 0 ≤ G ∧ G ≤ 20 ∧ l.length ≤ 40) → okB L G l = false := fun h => by unfold okB; rw [decide_eq_false h]; rfl
  by_cases c1 : L < 1
  · simp only [if_pos c1]; rw [hb (by omega)]; exact hf _ _ _
  · by_cases c2 : L > 400
    · simp only [if_neg c1, if_pos c2]; rw [hb (by omega)]; exact hf _ _ _
    · by_cases c3 : G < 0
      · simp only [if_neg c1, if_neg c2, if_pos c3]; rw [hb (by omega)]; exact hf _ _ _
      · by_cases c4 : G > 20
        · simp only [if_neg c1, if_neg c2, if_neg c3, if_pos c4]; rw [hb (by omega)]; exact hf _ _ _
        · simp only [if_neg c1, if_neg c2, if_neg c3, if_neg c4]
          by_cases c5 : (l.length : Int) > 40
          · rw [decide_eq_true c5, hb (by omega)]; exact hf _ _ _
          · rw [decide_eq_false c5]
            refine Ev.step (fun k => by rw [impl_BeltOk.j0, if_neg (by decide)]) ?_
            have := impl_ok_loop L G H l (by omega) (by omega) l.length 0 L (by omega) (by omega) (by omega)
            unfold okB
            rw [decide_eq_true (by omega)]
            simpa using this

theorem impl_free_ev (L G : Int) (H : Bool) (l : List It) : Ev (fun k => impl_FreeBehind.f k L G H l) (freeR L G l) := by
  unfold impl_FreeBehind.f freeR
  refine ev_bind _ (impl_ok_ev L G H l) ?_
  cases h : okB L G l with
  | false => simp only [Bool.false_eq_true, if_false]; exact Ev.now _
  | true =>
    have h1 := okB_len h
    simp only [if_true]
    refine ev_const ?_
    cases l with
    | nil => simp
    | cons x t =>
      have hne : x :: t ≠ [] := by simp
      have hl : 0 < (x :: t).length := by simp
      have hm := okB_mem h _ (rd_mem (x :: t) ((x :: t).length - 1) (by omega))
      have e : wrap64 (((x :: t).length : Int) - 1) = (((x :: t).length - 1 : Nat) : Int) := by rw [w64 (by omega) (by omega)]; omega
      rw [last_item _ hne]
      generalize hw : x :: t = w at *
      rw [if_neg (by omega), e, if_pos (by omega), if_pos (by omega), w64 (x := _ - (rd_T74 w ((w.length - 1 : Nat) : Int)).f2) (by omega) (by omega), w64 (by omega) (by omega)]
/-- What Enter returns. -/
def enterR (L G : Int) (l : List It) (bag size : Int) : List It × Bool :=
  if okB L G l = true ∧ 1 ≤ bag ∧ 1 ≤ size ∧ size ≤ 60 ∧ l.length < 40 ∧ size ≤ freeR L G l ∧ l.any (fun y => y.f0 == bag) = false then (l ++ [⟨bag, size, size⟩], true) else (l, false)
theorem enterR_len (L G : Int) (l : List It) (bag size : Int) : (enterR L G l bag size).1.length ≤ l.length + 1 := by
  unfold enterR; split <;> simp
theorem copy_ev (L G : Int) (H : Bool) (l : List It) (hl : l.length ≤ 1048600) : impl_copyBelt.f L G H l = some (L, G, H, l) := by
  unfold impl_copyBelt.f slices_Clone.f
  rw [if_pos (by omega), Option.bind_some]
theorem impl_enter_ev (L G : Int) (H : Bool) (l : List It) (bag size : Int) (hl : l.length ≤ 1048600) : Ev (fun k => impl_Enter.f k L G H l bag size) (L, G, H, enterR L G l bag size) := by
  unfold impl_Enter.f
  simp only [copy_ev L G H l hl, Option.bind_some]
  refine ev_bind _ (impl_ok_ev L G H l) ?_
  have no : ¬ (okB L G l = true ∧ 1 ≤ bag ∧ 1 ≤ size ∧ size ≤ 60 ∧ l.length < 40 ∧ size ≤ freeR L G l ∧ l.any (fun y => y.f0 == bag) = false) → enterR L G l bag size = (l, false) := fun h => by unfold enterR; rw [if_neg h]
  cases h : okB L G l with
  | false =>
    rw [no (by rw [h]; simp)]
    simp only [Bool.false_eq_true, if_false]; exact Ev.now _
  | true =>
    simp only [if_true, impl_isOn.f, Option.bind_some]
    by_cases c1 : bag < 1
    · rw [no (by omega)]; simp only [if_pos c1]; exact Ev.now _
    · simp only [if_neg c1]
      cases c2 : l.any (fun y => y.f0 == bag) with
      | true => rw [no (by rw [c2]; simp)]; simp only [if_true]; exact Ev.now _
      | false =>
        simp only [if_neg (show ¬ (false = true) by decide)]
        by_cases c3 : size < 1
        · rw [no (by omega)]; simp only [if_pos c3]; exact Ev.now _
        · by_cases c4 : size > 60
          · rw [no (by omega)]; simp only [if_neg c3, if_pos c4]; exact Ev.now _
          · by_cases c5 : (l.length : Int) ≥ 40
            · rw [no (by omega)]; simp only [if_neg c3, if_neg c4, if_pos c5]; exact Ev.now _
            · simp only [if_neg c3, if_neg c4, if_neg c5]
              refine ev_bind _ (impl_free_ev L G H l) ?_
              by_cases c6 : size > freeR L G l
              · rw [no (by omega)]; simp only [if_pos c6]; exact Ev.now _
              · have hyes : enterR L G l bag size = (l ++ [⟨bag, size, size⟩], true) := by
                  unfold enterR; rw [if_pos (show (okB L G l = true ∧ 1 ≤ bag ∧ 1 ≤ size ∧ size ≤ 60 ∧ l.length < 40 ∧ size ≤ freeR L G l ∧ l.any (fun y => y.f0 == bag) = false) from ⟨h, by omega, by omega, by omega, by omega, by omega, c2⟩)]
                rw [hyes]
                simp only [if_neg c6, if_pos (show l.length < 5864062014805 by omega)]
                exact Ev.now _
/-- All items as far on as they can be. -/
def pressGo (G : Int) : Int → List It → List It
  | _, [] => []
  | most, x :: l => ⟨x.f0, most, x.f2⟩ :: pressGo G (most - x.f2 - G) l
theorem go_press (G : Int) (hG : 0 ≤ G) : ∀ (l : List It) (m0 most : Int) (s : List It), okRun G m0 s l = true → most ≤ 400 → goN G 400 most l = pressGo G most l
  | [], _, _, _, _, _ => rfl
  | x :: l, m0, most, s, h, hm => by
    obtain ⟨_, _, h3, h4⟩ := okRun_cons h
    have e : min (x.f1 + ((400 : Nat) : Int)) most = most := by omega
    unfold goN pressGo
    rw [e, go_press G hG l _ _ _ h4 (by omega)]
theorem press_eq {L G : Int} {l : List It} (h : okB L G l = true) : moveM G L 400 l = pressGo G L l := by
  have a := okB_len h
  rw [move_eq h 400]
  exact go_press G (by omega) l L L [] (okB_run h) (by omega)
theorem impl_pressed_loop (L G : Int) (H : Bool) (hG : 0 ≤ G ∧ G ≤ 20) : ∀ (r a : List It) (most m0 : Int) (s : List It), okRun G m0 s r = true → m0 ≤ most → most ≤ 400 → (a.length + r.length : Nat) ≤ 100 →
    Ev (fun k => impl_pressed.l0 k most ((a.length + r.length : Nat) : Int) (a.length : Int) L G H (a ++ r)) (a ++ pressGo G most r)
  | [], a, most, m0, s, _, _, _, _ => Ev.step (f := fun _ => some (a ++ [])) (fun k => by rw [impl_pressed.l0, if_neg (by simp)]) (Ev.now _)
  | x :: r, a, most, m0, s, h, h0, h1, h2 => by
    obtain ⟨_, _, h3, h4⟩ := okRun_cons h
    simp only [List.length_cons] at h2
    have e1 : wrap64 ((a.length : Int) + 1) = ((a ++ [(⟨x.f0, most, x.f2⟩ : It)]).length : Int) := by rw [w64 (by omega) (by omega)]; simp
    have e2 : wrap64 (most - wrap64 (x.f2 + G)) = most - x.f2 - G := by rw [w64 (x := x.f2 + G) (by omega) (by omega), w64 (by omega) (by omega)]; omega
    refine Ev.step (fun k => by rw [impl_pressed.l0, if_pos (show (a.length : Int) < ((a.length + (x :: r).length : Nat) : Int) by simp only [List.length_cons]; omega), if_pos (show (0 : Int) ≤ (a.length : Int) by omega), if_pos (show (a.length : Int) < ((a ++ x :: r).length : Int) by simp only [List.length_append, List.length_cons]; omega), rd_mid, e1, e2, Int.toNat_natCast, set_mid]) ?_
    have := impl_pressed_loop L G H hG r (a ++ [(⟨x.f0, most, x.f2⟩ : It)]) (most - x.f2 - G) (x.f1 - x.f2 - G) (s ++ [x]) h4 (by omega) (by omega) (by simp; omega)
    rw [pressGo, show a ++ (⟨x.f0, most, x.f2⟩ : It) :: pressGo G (most - x.f2 - G) r = (a ++ [(⟨x.f0, most, x.f2⟩ : It)]) ++ pressGo G (most - x.f2 - G) r by simp]
    rw [show ((a ++ [(⟨x.f0, most, x.f2⟩ : It)]).length + r.length : Nat) = a.length + (x :: r).length by simp; omega] at this
    exact this
theorem impl_pressed_ev {L G : Int} (H : Bool) {l : List It} (h : okB L G l = true) : Ev (fun k => impl_pressed.f k L G H l) (moveM G L 400 l) := by
  have a := okB_len h
  have := impl_pressed_loop L G H (by omega) l [] L L [] (okB_run h) (by omega) (by omega) (by simp; omega)
  rw [press_eq h]
  unfold impl_pressed.f
  simpa using this
/-- How many of the sizes enter, one after the other. -/
def roomGo (L G : Int) : List It → List Int → Nat
  | _, [] => 0
  | l, s :: ss => if (moveM G L 400 l).length ≥ 40 ∨ s > freeR L G (moveM G L 400 l) then 0 else 1 + roomGo L G (moveM G L 400 l ++ [⟨newBag l, s, s⟩]) ss
def roomR (L G : Int) (l : List It) (ss : List Int) : Int := if okB L G l = true ∧ ss.any containsInts.bad = false then (roomGo L G l ss : Int) else -1
theorem move_ok {L G : Int} {l : List It} (h : okB L G l = true) : moveR L G l 400 = moveM G L 400 l := move_ok_n h 400 400 (by decide) (by decide)
theorem spec_room_loop (L G : Int) (H : Bool) (ss : List Int) (hs : ss.length ≤ 1048576) (hb : ∀ s ∈ ss, 1 ≤ s ∧ s ≤ 60) (d : Nat) : ∀ (i : Nat) (l : List It), i + d = ss.length → okB L G l = true →
    Ev (fun k => spec_RoomFor.l1 k ss i L G H (moveM G L 400 l)) ((i : Int) + (roomGo L G l (ss.drop i) : Int)) := by
  induction d with
  | zero =>
    intro i l hi h
    rw [List.drop_eq_nil_of_le (by omega)]
    refine Ev.step (f := fun _ => some (ss.length : Int)) (fun k => by rw [spec_RoomFor.l1, if_neg (show ¬ (i : Int) < (ss.length : Int) by omega)]) (ev_some ?_)
    unfold roomGo; omega
  | succ d ih =>
    intro i l hi h
    have hlt : i < ss.length := by omega
    have e1 : wrap64 ((i : Int) + 1) = ((i + 1 : Nat) : Int) := w64 (by omega) (by omega)
    have hsz := hb (rd ss (i : Int)) (by rw [rd_int ss i hlt]; exact List.getElem_mem _)
    have hok := okB_move (G := G) (L := L) 400 h
    have hlen := okB_len hok
    rw [drop_int ss i hlt, roomGo]
    refine Ev.step (fun k => by rw [spec_RoomFor.l1, if_pos (show (i : Int) < (ss.length : Int) by omega)]) ?_
    have hend : ∀ L' G' H' l', Ev (fun k => spec_RoomFor.j2 k ss i true L' G' H' l') (i : Int) := fun _ _ _ _ => Ev.step (fun k => by rw [spec_RoomFor.j2, if_pos rfl]) (Ev.now _)
    by_cases c1 : (moveM G L 400 l).length ≥ 40
    · rw [if_pos (.inl c1)]
      simp only [if_pos (show ((moveM G L 400 l).length : Int) ≥ 40 by omega)]
      have := hend L G H (moveM G L 400 l)
      simpa using this
    · simp only [if_neg (show ¬ ((moveM G L 400 l).length : Int) ≥ 40 by omega), if_pos (show (0 : Int) ≤ (i : Int) by omega)]
      refine ev_bind _ (spec_free_ev L G H _) ?_
      by_cases c2 : rd ss (i : Int) > freeR L G (moveM G L 400 l)
      · rw [if_pos (.inr c2), decide_eq_true c2]
        have := hend L G H (moveM G L 400 l)
        simpa using this
      · rw [if_neg (by omega), decide_eq_false c2]
        have hnb : newBag (moveM G L 400 l) = newBag l := newBag_bags (moveM_bags G L 400 l)
        have hok2 : okB L G (moveM G L 400 l ++ [⟨newBag l, rd ss (i : Int), rd ss (i : Int)⟩]) = true := by
          rw [← hnb]
          exact okB_snoc hok _ _ (newBag_lo _) (newBag_any _) hsz.1 hsz.2 (by omega) (by omega)
        refine Ev.step (fun k => by rw [spec_RoomFor.j2, if_neg (by decide), Option.bind_some, if_pos (by simp only [List.length_nil]; omega), Option.bind_some, List.nil_append, e1]) ?_
        refine ev_bind _ (spec_new_ev L G H _ (by omega)) ?_
        rw [hnb]
        simp only [if_pos (show (0 : Int) ≤ (i : Int) by omega), if_pos (show (i : Int) < (ss.length : Int) by omega), if_pos (show (moveM G L 400 l).length < 5864062014805 by omega)]
        refine ev_bind _ (spec_move_ev L G H _ 400 (by simp only [List.length_append, List.length_cons, List.length_nil]; omega)) ?_
        rw [move_ok hok2]
        dsimp only
        have := ih (i + 1) _ (by omega) hok2
        rw [show (i : Int) + ((1 + roomGo L G (moveM G L 400 l ++ [⟨newBag l, rd ss (i : Int), rd ss (i : Int)⟩]) (ss.drop (i + 1)) : Nat) : Int) = ((i + 1 : Nat) : Int) + (roomGo L G (moveM G L 400 l ++ [⟨newBag l, rd ss (i : Int), rd ss (i : Int)⟩]) (ss.drop (i + 1)) : Int) by omega]
        exact this
theorem spec_sizes_loop (L G : Int) (H : Bool) (ss : List Int) (hs : ss.length ≤ 1048576) (l : List It) (r : Int) (h1 : ss.any containsInts.bad = false → Ev (fun k => (spec_Move.f k L G H l 400).bind fun bt => spec_RoomFor.l1 k ss 0 bt.1 bt.2.1 bt.2.2.1 bt.2.2.2) r) (h2 : ss.any containsInts.bad = true → r = -1) (d : Nat) : ∀ (i : Nat), i + d = ss.length → ss.any containsInts.bad = (ss.drop i).any containsInts.bad →
    Ev (fun k => spec_RoomFor.l0 k ss i L G H l) r := by
  induction d with
  | zero =>
    intro i hi h
    rw [List.drop_eq_nil_of_le (by omega), List.any_nil] at h
    refine Ev.step (fun k => by rw [spec_RoomFor.l0, if_neg (show ¬ (i : Int) < (ss.length : Int) by omega)]) (h1 h)
  | succ d ih =>
    intro i hi h
    have hlt : i < ss.length := by omega
    have e1 : wrap64 ((i : Int) + 1) = ((i + 1 : Nat) : Int) := w64 (by omega) (by omega)
    rw [drop_int ss i hlt, List.any_cons] at h
    refine Ev.step (fun k => by rw [spec_RoomFor.l0, if_pos (show (i : Int) < (ss.length : Int) by omega), if_pos (show (0 : Int) ≤ (i : Int) by omega), spec_in, Option.bind_some, e1]) ?_
    by_cases c : 1 ≤ rd ss (i : Int) ∧ rd ss (i : Int) ≤ 60
    · have hb : containsInts.bad (rd ss (i : Int)) = false := by simp [containsInts.bad]; omega
      simp only [if_pos (decide_eq_true c)]
      exact ih (i + 1) (by omega) (by rw [hb, Bool.false_or] at h; exact h)
    · have hb : containsInts.bad (rd ss (i : Int)) = true := by simp [containsInts.bad]; omega
      rw [decide_eq_false c]
      simp only [if_neg (show ¬ (false = true) by decide)]
      rw [h2 (by rw [h, hb]; rfl)]
      exact Ev.now _
theorem not_bad {ss : List Int} (h : ss.any containsInts.bad = false) : ∀ s ∈ ss, 1 ≤ s ∧ s ≤ 60 := fun s hs => by
  have := List.any_eq_false.1 h s hs
  simp [containsInts.bad] at this
  omega
theorem spec_room_ev (L G : Int) (H : Bool) (l : List It) (hl : l.length ≤ 1048600) (ss : List Int) (hs : ss.length ≤ 1048576) : Ev (fun k => spec_RoomFor.f k L G H l ss) (roomR L G l ss) := by
  unfold spec_RoomFor.f
  refine ev_bind _ (spec_ok_ev L G H l) ?_
  unfold roomR
  cases h : okB L G l with
  | false => simp only [Bool.false_eq_true, if_false, false_and]; exact Ev.now _
  | true =>
    simp only [if_true, true_and]
    refine spec_sizes_loop L G H ss hs l _ (fun hb => ?_) (fun hb => by rw [if_neg (by rw [hb]; decide)]) ss.length 0 (by omega) (by simp)
    rw [if_pos hb]
    refine ev_bind _ (spec_move_ev L G H l 400 hl) ?_
    rw [move_ok h]
    have := spec_room_loop L G H ss hs (not_bad hb) ss.length 0 l (by omega) h
    simpa using this
theorem impl_bag_loop (L G : Int) (H : Bool) (ss : List Int) (l : List It) (hl : l.length ≤ 100) (x7 x8 x21 x22 : Int) (x20 : List Int) : ∀ (n : Nat) (x : Int), cntB x l ≤ n → 1 ≤ x → x + (n : Int) ≤ 2000000 → ∀ r,
    Ev (fun k => (impl_pressed.f k L G H l).bind fun t => (impl_Enter.f k L G H t (newB l n x) x8).bind fun bt => if bt.2.2.2.2 = true then impl_RoomFor.l0 k ss (newB l n x) x20 x21 (wrap64 (x22 + 1)) bt.1 bt.2.1 bt.2.2.1 bt.2.2.2.1 else some x7) r →
    Ev (fun k => impl_RoomFor.l1 k ss x x7 x8 x20 x21 x22 L G H l) r
  | n, x, hn, h1, h2, r, hr => by
    refine Ev.step (fun k => by rw [impl_RoomFor.l1, impl_isOn.f, Option.bind_some]) ?_
    cases e : l.any (fun y => y.f0 == x) with
    | false =>
      simp only [Bool.false_eq_true, if_false]
      cases n with
      | zero => exact hr
      | succ n => rw [newB, if_neg (by rw [e]; decide)] at hr; exact hr
    | true =>
      have e2 := cntB_lt x l e
      simp only [if_true]
      cases n with
      | zero => omega
      | succ n =>
        rw [newB, if_pos e] at hr
        rw [w64 (x := x + 1) (by omega) (by omega)]
        exact impl_bag_loop L G H ss l hl x7 x8 x21 x22 x20 n (x + 1) (by omega) (by omega) (by omega) r hr
theorem impl_room_loop (L G : Int) (H : Bool) (ss : List Int) (hs : ss.length ≤ 1048576) (hb : ∀ s ∈ ss, 1 ≤ s ∧ s ≤ 60) (d : Nat) : ∀ (i : Nat) (l : List It) (x : Int), i + d = ss.length → okB L G l = true → 1 ≤ x → (∀ c, 1 ≤ c → c < x → l.any (fun y => y.f0 == c) = true) → x + (cntB x l : Int) ≤ (l.length : Int) + 1 →
    Ev (fun k => impl_RoomFor.l0 k ss x ss (ss.length : Int) i L G H l) ((i : Int) + (roomGo L G l (ss.drop i) : Int)) := by
  induction d with
  | zero =>
    intro i l x hi h _ _ _
    rw [List.drop_eq_nil_of_le (by omega)]
    refine Ev.step (f := fun _ => some (ss.length : Int)) (fun k => by rw [impl_RoomFor.l0, if_neg (show ¬ (i : Int) < (ss.length : Int) by omega)]) (ev_some ?_)
    unfold roomGo; omega
  | succ d ih =>
    intro i l x hi h hx1 hx2 hx3
    have hlt : i < ss.length := by omega
    have e1 : wrap64 ((i : Int) + 1) = ((i + 1 : Nat) : Int) := w64 (by omega) (by omega)
    have hsz := hb (rd ss (i : Int)) (by rw [rd_int ss i hlt]; exact List.getElem_mem _)
    have hlen0 := okB_len h
    have hok := okB_move (G := G) (L := L) 400 h
    have hlen := okB_len hok
    have hmb := moveM_bags G L 400 l
    have hany : (moveM G L 400 l).any (fun y => y.f0 == newBag l) = false := by rw [any_bag hmb]; exact newBag_any l
    rw [drop_int ss i hlt, roomGo]
    refine Ev.step (fun k => by rw [impl_RoomFor.l0, if_pos (show (i : Int) < (ss.length : Int) by omega), if_pos (show (0 : Int) ≤ (i : Int) by omega), if_pos (show (i : Int) < (ss.length : Int) by omega)]) ?_
    refine impl_bag_loop L G H ss l (by omega) _ _ _ _ _ (cntB x l) x (Nat.le_refl _) hx1 (by omega) _ ?_
    have hsp := newB_spec l (cntB x l) x (Nat.le_refl _)
    rw [newBag_of l x hx1 hx2] at hsp ⊢
    refine ev_bind _ (impl_pressed_ev H h) ?_
    refine ev_bind _ (impl_enter_ev L G H _ (newBag l) (rd ss (i : Int)) (by omega)) ?_
    rw [e1]
    by_cases c : (moveM G L 400 l).length ≥ 40 ∨ rd ss (i : Int) > freeR L G (moveM G L 400 l)
    · have e : enterR L G (moveM G L 400 l) (newBag l) (rd ss (i : Int)) = (moveM G L 400 l, false) := by unfold enterR; rw [if_neg (by omega)]
      rw [if_pos c, e]
      simp only [Bool.false_eq_true, if_false]
      exact ev_some (by simp)
    · have e : enterR L G (moveM G L 400 l) (newBag l) (rd ss (i : Int)) = (moveM G L 400 l ++ [⟨newBag l, rd ss (i : Int), rd ss (i : Int)⟩], true) := by
        unfold enterR
        rw [if_pos (show (okB L G (moveM G L 400 l) = true ∧ 1 ≤ newBag l ∧ 1 ≤ rd ss (i : Int) ∧ rd ss (i : Int) ≤ 60 ∧ (moveM G L 400 l).length < 40 ∧ rd ss (i : Int) ≤ freeR L G (moveM G L 400 l) ∧ (moveM G L 400 l).any (fun y => y.f0 == newBag l) = false) from ⟨hok, newBag_lo l, hsz.1, hsz.2, by omega, by omega, hany⟩)]
      rw [if_neg c, e]
      simp only [if_true]
      have hok2 : okB L G (moveM G L 400 l ++ [⟨newBag l, rd ss (i : Int), rd ss (i : Int)⟩]) = true :=
        okB_snoc hok _ _ (newBag_lo _) hany hsz.1 hsz.2 (by omega) (by omega)
      have := ih (i + 1) _ (newBag l) (by omega) hok2 (newBag_lo l) (fun q h1 h2 => by
        rw [List.any_append, any_bag hmb]
        have : l.any (fun y => y.f0 == q) = true := by
          by_cases hq : q < x
          · exact hx2 q h1 hq
          · exact hsp.2.2.1 q (by omega) h2
        rw [this]; rfl) (by
          rw [cntB_app, cntB_bags (newBag l) _ _ hmb]
          have e3 : (moveM G L 400 l).length = l.length := moveM_len G L 400 l
          have e4 := cntB_len (newBag l) [(⟨newBag l, rd ss (i : Int), rd ss (i : Int)⟩ : It)]
          simp only [List.length_append, List.length_cons, List.length_nil] at e4 ⊢
          omega)
      rw [show (i : Int) + ((1 + roomGo L G (moveM G L 400 l ++ [⟨newBag l, rd ss (i : Int), rd ss (i : Int)⟩]) (ss.drop (i + 1)) : Nat) : Int) = ((i + 1 : Nat) : Int) + (roomGo L G (moveM G L 400 l ++ [⟨newBag l, rd ss (i : Int), rd ss (i : Int)⟩]) (ss.drop (i + 1)) : Int) by omega]
      exact this
theorem impl_room_ev (L G : Int) (H : Bool) (l : List It) (hl : l.length ≤ 1048600) (ss : List Int) (hs : ss.length ≤ 1048576) : Ev (fun k => impl_RoomFor.f k L G H l ss) (roomR L G l ss) := by
  unfold impl_RoomFor.f
  refine ev_bind _ (impl_ok_ev L G H l) ?_
  unfold roomR
  have hno : ∀ L' G' H' l', Ev (fun k => impl_RoomFor.j0 k ss true L' G' H' l') (-1) := fun _ _ _ _ => Ev.step (fun k => by rw [impl_RoomFor.j0, if_pos rfl]) (Ev.now _)
  cases h : okB L G l with
  | false => simp only [Bool.false_eq_true, if_false, false_and]; exact hno L G H l
  | true =>
    simp only [if_true, true_and, containsInts.f, Option.bind_some]
    cases hb : ss.any containsInts.bad with
    | true => rw [if_neg (by decide)]; exact hno L G H l
    | false =>
      rw [if_pos rfl]
      refine Ev.step (fun k => by rw [impl_RoomFor.j0, if_neg (by decide), copy_ev L G H l hl, Option.bind_some]) ?_
      have h2 := cntB_len 1 l
      have := impl_room_loop L G H ss hs (not_bad hb) ss.length 0 l 1 (by omega) h (by omega) (fun c h1 h2 => by omega) (by omega)
      simpa using this
theorem steps_eq (s : Int) : impl_isSteps.f s = some (decide (0 ≤ s ∧ s ≤ 2000)) := by
  unfold impl_isSteps.f
  by_cases h : s ≥ 0
  · rw [if_pos h]; congr 1; simp; omega
  · rw [if_neg h]; congr 1; simp; omega
theorem impl_step_loop (L G : Int) (H : Bool) (hG : 0 ≤ G ∧ G ≤ 20) : ∀ (rest done : List It) (n most m0 : Int) (seen : List It), okRun G m0 seen rest = true → m0 ≤ most → most ≤ 400 → -100 ≤ m0 → 0 ≤ n → n ≤ (done.length : Int) → (done ++ rest).length ≤ 40 →
    Ev (fun k => impl_stepped.l0 k n most ((done ++ rest).length : Int) (done.length : Int) L G H (done ++ rest)) (n + (stepN G most rest : Int), done ++ stepGo G most rest)
  | [], done, n, most, m0, seen, _, _, _, _, _, _, _ => by
    refine Ev.step (fun k => by rw [impl_stepped.l0, if_neg (by simp)]) (ev_some ?_)
    simp [stepN, stepGo]
  | x :: rest, done, n, most, m0, seen, h, hm, h4, hl, hn0, hn1, hlen => by
    obtain ⟨h1, h2, h3, h5⟩ := okRun_cons h
    have hlt : (done.length : Int) < ((done ++ x :: rest).length : Int) := by simp; omega
    have hlen' : done.length ≤ 40 := by simp at hlen; omega
    have e1 : wrap64 ((done.length : Int) + 1) = ((done.length + 1 : Nat) : Int) := w64 (by omega) (by omega)
    refine Ev.step (fun k => by rw [impl_stepped.l0, if_pos hlt, if_pos (show (0 : Int) ≤ (done.length : Int) by omega), if_pos hlt, rd_mid]) ?_
    unfold stepGo stepN
    by_cases c : x.f1 < most
    · simp only [if_pos c, Option.bind_some, Int.toNat_natCast, set_mid]
      rw [w64 (x := x.f1 + 1) (by omega) (by omega)]
      have hr : rd_T74 ((done ++ [⟨x.f0, x.f1 + 1, x.f2⟩]) ++ rest) (done.length : Int) = ⟨x.f0, x.f1 + 1, x.f2⟩ := by rw [List.append_assoc]; exact rd_mid _ _ _
      rw [hr]
      simp only
      rw [w64 (x := x.f1 + 1 - x.f2) (by omega) (by omega), w64 (x := x.f1 + 1 - x.f2 - G) (by omega) (by omega), w64 (x := n + 1) (by omega) (by omega), e1]
      have := impl_step_loop L G H hG rest (done ++ [⟨x.f0, x.f1 + 1, x.f2⟩]) (n + 1) (x.f1 + 1 - x.f2 - G) (x.f1 - x.f2 - G) (seen ++ [x]) h5 (by omega) (by omega) (by omega) (by omega) (by simp only [List.length_append, List.length_cons, List.length_nil]; omega) (by simp only [List.length_append, List.length_cons, List.length_nil] at hlen ⊢; omega)
      have el : (((done ++ [(⟨x.f0, x.f1 + 1, x.f2⟩ : It)]) ++ rest).length : Int) = ((done ++ x :: rest).length : Int) := by simp
      have ed : ((done ++ [(⟨x.f0, x.f1 + 1, x.f2⟩ : It)]).length : Int) = ((done.length + 1 : Nat) : Int) := by simp
      rw [el, ed] at this
      have er : (n + 1 + (stepN G (x.f1 + 1 - x.f2 - G) rest : Int), (done ++ [(⟨x.f0, x.f1 + 1, x.f2⟩ : It)]) ++ stepGo G (x.f1 + 1 - x.f2 - G) rest) = (n + ((1 + stepN G (x.f1 + 1 - x.f2 - G) rest : Nat) : Int), done ++ ⟨x.f0, x.f1 + 1, x.f2⟩ :: stepGo G (x.f1 + 1 - x.f2 - G) rest) := by
        rw [List.append_assoc]
        simp
        omega
      rw [er] at this
      exact this
    · simp only [if_neg c]
      rw [w64 (x := x.f1 - x.f2) (by omega) (by omega), w64 (x := x.f1 - x.f2 - G) (by omega) (by omega), e1]
      have := impl_step_loop L G H hG rest (done ++ [x]) n (x.f1 - x.f2 - G) (x.f1 - x.f2 - G) (seen ++ [x]) h5 (by omega) (by omega) (by omega) (by omega) (by simp only [List.length_append, List.length_cons, List.length_nil]; omega) (by simp only [List.length_append, List.length_cons, List.length_nil] at hlen ⊢; omega)
      have ed : ((done ++ [x]).length : Int) = ((done.length + 1 : Nat) : Int) := by simp
      rw [ed, List.append_assoc, List.append_assoc] at this
      exact this
theorem impl_step_ev {L G : Int} (H : Bool) {l : List It} (h : okB L G l = true) : Ev (fun k => impl_stepped.f k L G H l) ((stepN G L l : Int), stepGo G L l) := by
  have h1 := okB_len h
  unfold impl_stepped.f
  have := impl_step_loop L G H (by omega) l [] 0 L L [] (okB_run h) (Int.le_refl _) (by omega) (by omega) (Int.le_refl _) (by simp) (by simpa using h1.2.2.2.2)
  simpa using this



theorem impl_move_loop (L G : Int) (H : Bool) : ∀ (n : Nat) (l : List It), n ≤ 5000 → okB L G l = true → Ev (fun k => impl_Move.l0 k (n : Int) L G H l) (L, G, H, moveM G L n l)
  | 0, l, _, h => Ev.step (f := fun _ => some (L, G, H, l)) (fun k => by rw [impl_Move.l0, if_neg (by omega)]) (Ev.now _)
  | n + 1, l, hn, h => by
    have e1 : wrap64 (((n + 1 : Nat) : Int) - 1) = (n : Int) := by rw [w64 (by omega) (by omega)]; omega
    refine Ev.step (fun k => by rw [impl_Move.l0, if_pos (show ((n + 1 : Nat) : Int) > 0 by omega), e1]) ?_
    refine ev_bind _ (impl_step_ev H h) ?_
    exact impl_move_loop L G H n (stepGo G L l) (by omega) (okB_step h)
theorem impl_move_ev (L G : Int) (H : Bool) (l : List It) (s : Int) (hl : l.length ≤ 1048600) : Ev (fun k => impl_Move.f k L G H l s) (L, G, H, moveR L G l s) := by
  unfold impl_Move.f moveR
  simp only [copy_ev L G H l hl, Option.bind_some]
  refine ev_bind _ (impl_ok_ev L G H l) ?_
  cases h : okB L G l with
  | false =>
    simp only [if_neg (show ¬ (false = true) by decide), false_and, if_false, Bool.false_eq_true]
    exact Ev.step (fun k => by rw [impl_Move.j0, if_pos rfl]) (Ev.now _)
  | true =>
    simp only [if_true, steps_eq, Option.bind_some, true_and]
    by_cases c : 0 ≤ s ∧ s ≤ 2000
    · rw [decide_eq_true c, if_pos c]
      refine Ev.step (fun k => by rw [impl_Move.j0, if_neg (by decide)]) ?_
      have := impl_move_loop L G H s.toNat l (by omega) h
      rw [Int.toNat_of_nonneg c.1] at this
      exact this
    · rw [decide_eq_false c, if_neg c]
      exact Ev.step (fun k => by rw [impl_Move.j0, if_pos (show (!false) = true from rfl)]) (Ev.now _)
theorem byte_ok (b : List Int) (i h : Int) (hi : 0 ≤ i) (hb : b.length ≤ 140737488351232) :
    ∃ x i' h', spec_l01Byte.f b i h = some (x, i', h') ∧ 0 ≤ x ∧ x ≤ 255 ∧ 0 ≤ i' := by
  unfold spec_l01Byte.f
  by_cases h1 : i < (b.length : Int)
  · rw [if_pos h1, if_pos hi]
    refine ⟨_, _, _, rfl, (mask255 _).1, (mask255 _).2, ?_⟩
    rw [w64 (by omega) (by omega)]; omega
  · rw [if_neg h1]
    exact ⟨_, _, _, rfl, (mask255 _).1, (mask255 _).2, hi⟩
theorem below_ok (b : List Int) (i h n : Int) (hi : 0 ≤ i) (hb : b.length ≤ 140737488351232) :
    ∃ x i' h', spec_l01Below.f b i h n = some (x, i', h') ∧ (n ≤ 0 → x = 0) ∧ (0 < n → 0 ≤ x ∧ x < n) ∧ 0 ≤ i' := by
  unfold spec_l01Below.f
  by_cases h0 : n ≤ 0
  · rw [if_pos h0]
    exact ⟨_, _, _, rfl, fun _ => rfl, fun hn => by omega, hi⟩
  · rw [if_neg h0]
    by_cases h1 : n ≤ 256
    · rw [if_pos h1]
      obtain ⟨x, i', h', e, hx0, hx1, hi'⟩ := byte_ok b i h hi hb
      rw [e, Option.bind_some]
      simp only [if_neg (show ¬ n = 0 by omega)]
      have hm := Int.tmod_eq_emod_of_nonneg (b := n) hx0
      have := Int.emod_nonneg x (show n ≠ 0 by omega)
      have := Int.emod_lt_of_pos x (show 0 < n by omega)
      exact ⟨_, _, _, rfl, fun hn => by omega, fun _ => by rw [hm]; omega, hi'⟩
    · rw [if_neg h1]
      obtain ⟨x, i1, g1, e1, hx0, hx1, hi1⟩ := byte_ok b i h hi hb
      obtain ⟨y, i2, g2, e2, hy0, hy1, hi2⟩ := byte_ok b i1 g1 hi1 hb
      obtain ⟨z, i3, g3, e3, hz0, hz1, hi3⟩ := byte_ok b i2 g2 hi2 hb
      obtain ⟨v, i4, g4, e4, hv0, hv1, hi4⟩ := byte_ok b i3 g3 hi3 hb
      simp only [e1, e2, e3, e4, Option.bind_some, if_neg (show ¬ n = 0 by omega)]
      have w1 : wrap64 (x * 16777216) = x * 16777216 := w64 (by omega) (by omega)
      have w2 : wrap64 (y * 65536) = y * 65536 := w64 (by omega) (by omega)
      have w3 : wrap64 (z * 256) = z * 256 := w64 (by omega) (by omega)
      have w4 : wrap64 (x * 16777216 + y * 65536) = x * 16777216 + y * 65536 := w64 (by omega) (by omega)
      have w5 : wrap64 (x * 16777216 + y * 65536 + z * 256) = x * 16777216 + y * 65536 + z * 256 := w64 (by omega) (by omega)
      have w6 : wrap64 (x * 16777216 + y * 65536 + z * 256 + v) = x * 16777216 + y * 65536 + z * 256 + v := w64 (by omega) (by omega)
      rw [w1, w2, w3, w4, w5, w6]
      have hm := Int.tmod_eq_emod_of_nonneg (a := x * 16777216 + y * 65536 + z * 256 + v) (b := n) (by omega)
      have := Int.emod_nonneg (x * 16777216 + y * 65536 + z * 256 + v) (show n ≠ 0 by omega)
      have := Int.emod_lt_of_pos (x * 16777216 + y * 65536 + z * 256 + v) (show 0 < n by omega)
      exact ⟨_, _, _, rfl, fun hn => by omega, fun _ => by rw [hm]; omega, hi4⟩
theorem new_loop (b : List Int) (hb : b.length ≤ 140737488351232) (d : Nat) : ∀ (i : Nat) (h : Int), i + d = b.length → ∃ h', Ev (fun k => spec_l01New.l0 k b h i) (b, 0, h') := by
  induction d with
  | zero =>
    intro i h hi
    exact ⟨h, Ev.step (f := fun _ => some (b, 0, h)) (fun k => by rw [spec_l01New.l0, if_neg (by omega)]) (Ev.now _)⟩
  | succ d ih =>
    intro i h hi
    by_cases h4 : (i : Int) < 4000
    · obtain ⟨h', hev⟩ := ih (i + 1) (Go.bits .and .i64 (wrap64 ((wrap64 ((wrap64 (h * 131)) + (wrap64 (rd b i)))) + 7)) 1073741823) (by omega)
      refine ⟨h', Ev.step (fun k => ?_) hev⟩
      have e : wrap64 ((i : Int) + 1) = ((i + 1 : Nat) : Int) := w64 (by omega) (by omega)
      rw [spec_l01New.l0, if_pos (by omega), if_pos h4, if_pos (by omega), e]
    · exact ⟨h, Ev.step (f := fun _ => some (b, 0, h)) (fun k => by rw [spec_l01New.l0, if_pos (by omega), if_neg h4]) (Ev.now _)⟩
theorem new_ok (b : List Int) (hb : b.length ≤ 140737488351232) : ∃ h', Ev (fun k => spec_l01New.f k b) (b, 0, h') := by
  unfold spec_l01New.f
  exact new_loop b hb b.length 0 _ (by omega)
theorem once_ok (b : List Int) (i h n : Int) (hi : 0 ≤ i) (hb : b.length ≤ 140737488351232) :
    ∃ (x : Bool) (i' h' : Int), spec_l01Once.f b i h n = some (x, i', h') ∧ 0 ≤ i' := by
  unfold spec_l01Once.f
  obtain ⟨x, i1, h1, e1, _, _, hi1⟩ := below_ok b i h n hi hb
  rw [e1, Option.bind_some]
  exact ⟨_, _, _, rfl, hi1⟩
theorem pickInt_ok (b : List Int) (i h : Int) (l : List Int) (hl : 0 < l.length) (hi : 0 ≤ i) (hb : b.length ≤ 140737488351232) :
    ∃ x i' h', spec_l01PickInt.f b i h l = some (x, i', h') ∧ x ∈ l ∧ 0 ≤ i' := by
  unfold spec_l01PickInt.f
  obtain ⟨x, i1, h1, e1, _, hx, hi1⟩ := below_ok b i h l.length hi hb
  obtain ⟨h0, h2⟩ := hx (by omega)
  rw [e1, Option.bind_some]
  simp only [if_pos h0, if_pos h2]
  refine ⟨_, _, _, rfl, ?_, hi1⟩
  unfold rd
  rw [List.getD_eq_getElem?_getD, List.getElem?_eq_getElem (show x.toNat < l.length by omega)]
  exact List.getElem_mem _
theorem bags_belt_loop (b : List Int) (hb : b.length ≤ 140737488351232) (L G : Int) (H : Bool) : ∀ (n : Nat) (x4 i h : Int) (l : List It), 0 ≤ i → l.length + n ≤ 20 → (∀ y ∈ l, y.f0 < 5000) → ∃ l' i' h', Ev (fun k => spec_l02Belt.l0 k x4 (n : Int) b i h L G H l) (L, G, H, l', i', h') ∧ 0 ≤ i' ∧ l'.length ≤ 20 ∧ ∀ y ∈ l', y.f0 < 5000
  | 0, x4, i, h, l, hi, hl, hy => ⟨l, i, h, Ev.step (f := fun _ => some (L, G, H, l, i, h)) (fun k => by rw [spec_l02Belt.l0, if_neg (by omega)]) (Ev.now _), hi, by omega, hy⟩
  | n + 1, x4, i, h, l, hi, hl, hy => by
    have e1 : wrap64 (((n + 1 : Nat) : Int) - 1) = (n : Int) := by rw [w64 (by omega) (by omega)]; omega
    obtain ⟨x, i1, h1, e2, _, _, hi1⟩ := below_ok b i h 9 hi hb
    by_cases c : x4 < wrap64 (1 + x)
    · refine ⟨l, i1, h1, Ev.step (f := fun _ => some (L, G, H, l, i1, h1)) (fun k => by rw [spec_l02Belt.l0, if_pos (by omega), e2, Option.bind_some, if_pos c]) (Ev.now _), hi1, by omega, hy⟩
    · obtain ⟨y, i2, h2, e3, _, hy2, hi2⟩ := below_ok b i1 h1 9 hi1 hb
      obtain ⟨z, i3, h3, e4, _, hi3⟩ := pickInt_ok b i2 h2 [0, 0, 1, 2, 6] (by decide) hi2 hb
      have hy3 := hy2 (by omega)
      obtain ⟨l', i', h', e5, hi', hr⟩ := bags_belt_loop b hb L G H n (wrap64 ((wrap64 ((wrap64 (x4 - (wrap64 (1 + x)))) - G)) - z)) i3 h3 (l ++ [⟨wrap64 ((wrap64 ((wrap64 (10 * (l.length : Int))) + 1)) + y), x4, wrap64 (1 + x)⟩]) hi3 (by simp; omega) (fun q hq => by
        rcases List.mem_append.1 hq with hq | hq
        · exact hy q hq
        · rw [List.mem_singleton] at hq
          subst hq
          simp only []
          rw [w64 (x := 10 * (l.length : Int)) (by omega) (by omega), w64 (x := 10 * (l.length : Int) + 1) (by omega) (by omega), w64 (by omega) (by omega)]
          omega)
      exact ⟨l', i', h', Ev.step (fun k => by rw [spec_l02Belt.l0, if_pos (by omega), e2, Option.bind_some, if_neg c, e3, Option.bind_some, if_pos (show l.length < 5864062014805 by omega), e4, Option.bind_some, e1]) e5, hi', hr⟩
theorem bags_belt (b : List Int) (hb : b.length ≤ 140737488351232) (i h : Int) (hi : 0 ≤ i) : ∃ L G H l i' h', Ev (fun k => spec_l02Belt.f k b i h) (L, G, H, l, i', h') ∧ 0 ≤ i' ∧ l.length ≤ 20 ∧ ∀ y ∈ l, y.f0 < 5000 := by
  unfold spec_l02Belt.f
  obtain ⟨x, i1, h1, e1, _, hx, hi1⟩ := below_ok b i h 60 hi hb
  obtain ⟨y, i2, h2, e2, _, hi2⟩ := pickInt_ok b i1 h1 [0, 0, 1, 2, 5] (by decide) hi1 hb
  obtain ⟨z, i3, h3, e3, hi3⟩ := once_ok b i2 h2 4 hi2 hb
  obtain ⟨v, i4, h4, e4, _, hi4⟩ := pickInt_ok b i3 h3 [0, 0, 1, 3, 10] (by decide) hi3 hb
  obtain ⟨u, i5, h5, e5, _, hu, hi5⟩ := below_ok b i4 h4 7 hi4 hb
  have hu2 := hu (by omega)
  obtain ⟨n, rfl⟩ := Int.eq_ofNat_of_zero_le hu2.1
  obtain ⟨l, i', h', e6, hi', hr⟩ := bags_belt_loop b hb (wrap64 (5 + x)) y z n (wrap64 ((wrap64 (5 + x)) - v)) i5 h5 [] hi5 (by simp; omega) (by simp)
  refine ⟨wrap64 (5 + x), y, z, l, i', h', ?_, hi', hr⟩
  simp only [e1, e2, e3, e4, e5, Option.bind_some]
  exact e6
theorem bags_any_loop (b : List Int) (hb : b.length ≤ 140737488351232) : ∀ (n x5 : Nat) (i h : Int) (l : List It), 0 ≤ i → x5 + n = 41 → l.length = x5 → (∀ y ∈ l, y.f0 < 5000) → ∃ l' i' h', Ev (fun k => spec_l02Any.l0 k x5 b i h 400 0 false l) (400, 0, false, l', i', h') ∧ 0 ≤ i' ∧ l'.length ≤ 50 ∧ ∀ y ∈ l', y.f0 < 5000
  | n, x5, i, h, l, hi, hn, hl, hy => by
    obtain ⟨x, i1, h1, e1, _, hx, hi1⟩ := below_ok b i h 2 hi hb
    have hx2 := hx (by omega)
    have e2 : wrap64 (40 + x) = 40 + x := w64 (by omega) (by omega)
    by_cases c : (x5 : Int) < 40 + x
    · cases n with
      | zero => omega
      | succ n =>
        have e3 : wrap64 ((x5 : Int) + 1) = ((x5 + 1 : Nat) : Int) := w64 (by omega) (by omega)
        obtain ⟨l', i', h', e5, hi', hr⟩ := bags_any_loop b hb n (x5 + 1) i1 h1 (l ++ [⟨((x5 + 1 : Nat) : Int), wrap64 (400 - x5), 1⟩]) hi1 (by omega) (by simp [hl]) (fun q hq => by
          rcases List.mem_append.1 hq with hq | hq
          · exact hy q hq
          · rw [List.mem_singleton] at hq
            subst hq
            simp only []
            omega)
        exact ⟨l', i', h', Ev.step (fun k => by rw [spec_l02Any.l0, e1, Option.bind_some, e2, if_pos c, if_pos (show l.length < 5864062014805 by omega), e3]) e5, hi', hr⟩
    · exact ⟨l, i1, h1, Ev.step (f := fun _ => some (400, 0, false, l, i1, h1)) (fun k => by rw [spec_l02Any.l0, e1, Option.bind_some, e2, if_neg c]) (Ev.now _), hi1, by omega, hy⟩
theorem set_bags {l : List It} (h : ∀ y ∈ l, y.f0 < 5000) (j : Nat) (x : It) (hx : x.f0 < 5000) : ∀ y ∈ l.set j x, y.f0 < 5000 := fun y hy => by
  rcases List.mem_or_eq_of_mem_set hy with hy | hy
  · exact h y hy
  · rw [hy]; exact hx
theorem rd_bags {l : List It} (h : ∀ y ∈ l, y.f0 < 5000) (j : Int) : (rd_T74 l j).f0 < 5000 := by
  unfold rd_T74
  rw [List.getD_eq_getElem?_getD]
  cases e : l[j.toNat]? with
  | none => decide
  | some x => exact h x (List.mem_of_getElem? e)
theorem any_ok (b : List Int) (hb : b.length ≤ 140737488351232) (i h : Int) (hi : 0 ≤ i) : ∃ L G H l i' h', Ev (fun k => spec_l02Any.f k b i h) (L, G, H, l, i', h') ∧ 0 ≤ i' ∧ l.length ≤ 50 ∧ ∀ y ∈ l, y.f0 < 5000 := by
  unfold spec_l02Any.f
  obtain ⟨L, G, H, l, i1, h1, e1, hi1, hl, hy⟩ := bags_belt b hb i h hi
  obtain ⟨x, i2, h2, e2, _, _, hi2⟩ := below_ok b i1 h1 18 hi1 hb
  by_cases c0 : x = 0
  · obtain ⟨z, i3, h3, e3, _, hi3⟩ := pickInt_ok b i2 h2 [0, 400, 401, (-1)] (by decide) hi2 hb
    exact ⟨z, G, H, l, i3, h3, ev_bind _ e1 (by simp only [e2, e3, Option.bind_some, if_pos c0]; exact Ev.now _), hi3, by omega, hy⟩
  by_cases c1 : x = 1
  · obtain ⟨z, i3, h3, e3, _, hi3⟩ := pickInt_ok b i2 h2 [(-1), 20, 21] (by decide) hi2 hb
    exact ⟨L, z, H, l, i3, h3, ev_bind _ e1 (by simp only [e2, e3, Option.bind_some, if_neg c0, if_pos c1]; exact Ev.now _), hi3, by omega, hy⟩
  have e4 : wrap64 ((l.length : Int) - 1) = (l.length : Int) - 1 := w64 (by omega) (by omega)
  by_cases c2 : x = 2
  · by_cases d : (l.length : Int) > 1
    · refine ⟨L, G, H, _, i2, h2, ev_bind _ e1 (by simp only [e2, e4, Option.bind_some, if_neg c0, if_neg c1, if_pos c2, if_pos d, if_pos (show (0 : Int) < (l.length : Int) by omega), if_pos (show (0 : Int) ≤ (l.length : Int) - 1 by omega), if_pos (show (l.length : Int) - 1 < (l.length : Int) by omega)]; exact Ev.now _), hi2, by rw [List.length_set]; omega, set_bags hy ((l.length : Int) - 1).toNat ⟨(rd_T74 l 0).f0, (rd_T74 l ((l.length : Int) - 1)).f1, (rd_T74 l ((l.length : Int) - 1)).f2⟩ (rd_bags hy 0)⟩
    · exact ⟨L, G, H, l, i2, h2, ev_bind _ e1 (by simp only [e2, Option.bind_some, if_neg c0, if_neg c1, if_pos c2, if_neg d]; exact Ev.now _), hi2, by omega, hy⟩
  by_cases c3 : x = 3
  · by_cases d : (l.length : Int) > 0
    · obtain ⟨z, i3, h3, e3, _, hi3⟩ := pickInt_ok b i2 h2 [1, (-1), 9] (by decide) hi2 hb
      refine ⟨L, G, H, _, i3, h3, ev_bind _ e1 (by simp only [e2, e3, e4, Option.bind_some, if_neg c0, if_neg c1, if_neg c2, if_pos c3, if_pos d, if_pos (show (0 : Int) ≤ (l.length : Int) - 1 by omega), if_pos (show (l.length : Int) - 1 < (l.length : Int) by omega)]; exact Ev.now _), hi3, by rw [List.length_set]; omega, set_bags hy ((l.length : Int) - 1).toNat ⟨(rd_T74 l ((l.length : Int) - 1)).f0, wrap64 ((rd_T74 l ((l.length : Int) - 1)).f1 + z), (rd_T74 l ((l.length : Int) - 1)).f2⟩ (rd_bags hy ((l.length : Int) - 1))⟩
    · exact ⟨L, G, H, l, i2, h2, ev_bind _ e1 (by simp only [e2, Option.bind_some, if_neg c0, if_neg c1, if_neg c2, if_pos c3, if_neg d]; exact Ev.now _), hi2, by omega, hy⟩
  by_cases c4 : x = 4
  · by_cases d : (l.length : Int) > 0
    · obtain ⟨z, i3, h3, e3, _, hi3⟩ := pickInt_ok b i2 h2 [0, 61, 60, (-1)] (by decide) hi2 hb
      refine ⟨L, G, H, _, i3, h3, ev_bind _ e1 (by simp only [e2, e3, Option.bind_some, if_neg c0, if_neg c1, if_neg c2, if_neg c3, if_pos c4, if_pos d, if_pos (show (0 : Int) < (l.length : Int) by omega)]; exact Ev.now _), hi3, by rw [List.length_set]; omega, set_bags hy (0 : Int).toNat ⟨(rd_T74 l 0).f0, (rd_T74 l 0).f1, z⟩ (rd_bags hy 0)⟩
    · exact ⟨L, G, H, l, i2, h2, ev_bind _ e1 (by simp only [e2, Option.bind_some, if_neg c0, if_neg c1, if_neg c2, if_neg c3, if_pos c4, if_neg d]; exact Ev.now _), hi2, by omega, hy⟩
  by_cases c5 : x = 5
  · obtain ⟨l', i', h', e5, hi', hr⟩ := bags_any_loop b hb 41 0 i2 h2 [] hi2 (by omega) rfl (by simp)
    exact ⟨400, 0, false, l', i', h', ev_bind _ e1 (by simp only [e2, Option.bind_some, if_neg c0, if_neg c1, if_neg c2, if_neg c3, if_neg c4, if_pos c5]; exact e5), hi', hr⟩
  · exact ⟨L, G, H, l, i2, h2, ev_bind _ e1 (by simp only [e2, Option.bind_some, if_neg c0, if_neg c1, if_neg c2, if_neg c3, if_neg c4, if_neg c5]; exact Ev.now _), hi2, by omega, hy⟩
theorem draw_room_loop (b : List Int) (hb : b.length ≤ 140737488351232) (L G : Int) (H : Bool) (l : List It) : ∀ (n : Nat) (ss : List Int) (i h : Int), 0 ≤ i → ss.length + n ≤ 20 → ∃ ss', Ev (fun k => spec_DrawRoomFor.l0 k ss (n : Int) b i h L G H l) (L, G, H, l, ss') ∧ ss'.length ≤ 21
  | 0, ss, i, h, hi, hl => by
    obtain ⟨x, i1, h1, e1, hi1⟩ := once_ok b i h 12 hi hb
    cases x with
    | true =>
      obtain ⟨z, i2, h2, e2, _, hi2⟩ := pickInt_ok b i1 h1 [0, 61, 60] (by decide) hi1 hb
      exact ⟨ss ++ [z], Ev.step (f := fun _ => some (L, G, H, l, ss ++ [z])) (fun k => by rw [spec_DrawRoomFor.l0, if_neg (by omega), e1, Option.bind_some, if_pos rfl, e2, Option.bind_some, if_pos (by omega)]) (Ev.now _), by simp; omega⟩
    | false => exact ⟨ss, Ev.step (f := fun _ => some (L, G, H, l, ss)) (fun k => by rw [spec_DrawRoomFor.l0, if_neg (by omega), e1, Option.bind_some, if_neg (show ¬ ((false, i1, h1).1 = true) from Bool.false_ne_true)]) (Ev.now _), by omega⟩
  | n + 1, ss, i, h, hi, hl => by
    have e1 : wrap64 (((n + 1 : Nat) : Int) - 1) = (n : Int) := by rw [w64 (by omega) (by omega)]; omega
    obtain ⟨x, i1, h1, e2, _, _, hi1⟩ := below_ok b i h 12 hi hb
    obtain ⟨ss', e3, h4⟩ := draw_room_loop b hb L G H l n (ss ++ [wrap64 (1 + x)]) i1 h1 hi1 (by simp; omega)
    exact ⟨ss', Ev.step (fun k => by rw [spec_DrawRoomFor.l0, if_pos (by omega), e2, Option.bind_some, if_pos (by omega), e1]) e3, h4⟩
theorem draw_room_ok (b : List Int) (hb : b.length ≤ 140737488351232) : ∃ L G H l ss, Ev (fun k => spec_DrawRoomFor.f k b) (L, G, H, l, ss) ∧ l.length ≤ 50 ∧ (∀ y ∈ l, y.f0 < 5000) ∧ ss.length ≤ 21 := by
  unfold spec_DrawRoomFor.f
  obtain ⟨h', hn⟩ := new_ok b hb
  obtain ⟨L, G, H, l, i1, h1, e1, hi1, hl, hy⟩ := any_ok b hb 0 h' (by omega)
  obtain ⟨x, i2, h2, e2, _, hx, hi2⟩ := below_ok b i1 h1 9 hi1 hb
  have hx2 := hx (by omega)
  obtain ⟨n, rfl⟩ := Int.eq_ofNat_of_zero_le hx2.1
  obtain ⟨ss, e3, h4⟩ := draw_room_loop b hb L G H l n [] i2 h2 hi2 (by simp; omega)
  exact ⟨L, G, H, l, ss, ev_bind _ hn (ev_bind _ e1 (by simp only [e2, Option.bind_some]; exact e3)), hl, hy, h4⟩
/-- The places alone. -/
def shp (l : List It) : List (Int × Int) := l.map (fun x => (x.f1, x.f2))
theorem shp_step (G : Int) : ∀ (l m : List It) (most : Int), shp l = shp m → shp (stepGo G most l) = shp (stepGo G most m)
  | [], [], _, _ => rfl
  | [], _ :: _, _, h => by simp [shp] at h
  | _ :: _, [], _, h => by simp [shp] at h
  | x :: l, y :: m, most, h => by
    simp only [shp, List.map_cons, List.cons.injEq, Prod.mk.injEq] at h
    obtain ⟨⟨h1, h2⟩, h3⟩ := h
    unfold stepGo
    rw [h1, h2]
    have ih := fun q => shp_step G l m q h3
    split
    · simp only [shp, List.map_cons] at ih ⊢; rw [ih]
    · simp only [shp, List.map_cons] at ih ⊢; rw [ih, h1, h2]
theorem shp_move (G L : Int) : ∀ (n : Nat) (l m : List It), shp l = shp m → shp (moveM G L n l) = shp (moveM G L n m)
  | 0, _, _, h => h
  | n + 1, l, m, h => by rw [moveM, moveM]; exact shp_move G L n _ _ (shp_step G l m L h)
theorem shp_len {l m : List It} (h : shp l = shp m) : l.length = m.length := by
  have := congrArg List.length h
  simpa [shp] using this
theorem shp_free {L G : Int} {l m : List It} (hl : okB L G l = true) (hm : okB L G m = true) (h : shp l = shp m) : freeR L G l = freeR L G m := by
  unfold freeR
  rw [if_pos hl, if_pos hm]
  have e : l.getLast?.map (fun x => (x.f1, x.f2)) = m.getLast?.map (fun x => (x.f1, x.f2)) := by rw [← List.getLast?_map, ← List.getLast?_map]; exact congrArg List.getLast? h
  cases c : l.getLast? with
  | none =>
    rw [c] at e
    cases c2 : m.getLast? with
    | none => rfl
    | some y => rw [c2] at e; simp at e
  | some x =>
    rw [c] at e
    cases c2 : m.getLast? with
    | none => rw [c2] at e; simp at e
    | some y =>
      rw [c2] at e
      simp only [Option.map_some, Option.some.injEq, Prod.mk.injEq] at e
      simp only [e.1, e.2]
theorem room_law_loop (L G : Int) (H : Bool) (ss : List Int) (hs : ss.length ≤ 1000) (hb : ∀ s ∈ ss, 1 ≤ s ∧ s ≤ 60) (n : Int) (d : Nat) : ∀ (i : Nat) (l m : List It), i + d = ss.length → okB L G l = true → okB L G m = true → shp l = shp m → (∀ y ∈ l, y.f0 < 5000 + i) → n = (i : Int) + (roomGo L G m (ss.drop i) : Int) →
    Ev (fun k => laws_FnBeltRoom.l0 k ss n i L G H l) true := by
  induction d with
  | zero =>
    intro i l m hi hl hm hsh hy hn
    rw [List.drop_eq_nil_of_le (by omega)] at hn
    unfold roomGo at hn
    exact Ev.step (f := fun _ => some (decide (n ≤ (ss.length : Int)))) (fun k => by rw [laws_FnBeltRoom.l0, if_neg (show ¬ (i : Int) < (ss.length : Int) by omega)]) (ev_some (by simp; omega))
  | succ d ih =>
    intro i l m hi hl hm hsh hy hn
    have hlt : i < ss.length := by omega
    have e1 : wrap64 ((i : Int) + 1) = ((i + 1 : Nat) : Int) := w64 (by omega) (by omega)
    have e2 : wrap64 (5000 + (i : Int)) = 5000 + (i : Int) := w64 (by omega) (by omega)
    have hsz := hb (rd ss (i : Int)) (by rw [rd_int ss i hlt]; exact List.getElem_mem _)
    have hll := okB_len hl
    have hok := okB_move (G := G) (L := L) 400 hl
    have hokm := okB_move (G := G) (L := L) 400 hm
    have hlen := okB_len hok
    have hsm := shp_move G L 400 l m hsh
    have hle := shp_len hsm
    have hfr := shp_free hok hokm hsm
    have hmb := moveM_bags G L 400 l
    have hany : (moveM G L 400 l).any (fun y => y.f0 == 5000 + (i : Int)) = false := by
      rw [any_bag hmb, List.any_eq_false]
      intro y hy2
      have := hy y hy2
      simp; omega
    have hmv := impl_move_ev L G H l 400 (by omega)
    rw [move_ok hl] at hmv
    rw [drop_int ss i hlt, roomGo] at hn
    refine Ev.step (fun k => by rw [laws_FnBeltRoom.l0, if_pos (show (i : Int) < (ss.length : Int) by omega), e2, e1]) ?_
    refine ev_bind _ hmv ?_
    simp only [if_pos (show (0 : Int) ≤ (i : Int) by omega)]
    refine ev_bind _ (impl_enter_ev L G H _ (5000 + (i : Int)) (rd ss (i : Int)) (by omega)) ?_
    by_cases c : (moveM G L 400 m).length ≥ 40 ∨ rd ss (i : Int) > freeR L G (moveM G L 400 m)
    · have e : enterR L G (moveM G L 400 l) (5000 + (i : Int)) (rd ss (i : Int)) = (moveM G L 400 l, false) := by unfold enterR; rw [if_neg (by omega)]
      rw [if_pos c] at hn
      rw [e]
      simp only [decide_eq_false (show ¬ (i : Int) < n by omega), bne_self_eq_false, Bool.false_eq_true, if_false]
      exact ev_some (by simp; omega)
    · have e : enterR L G (moveM G L 400 l) (5000 + (i : Int)) (rd ss (i : Int)) = (moveM G L 400 l ++ [⟨5000 + (i : Int), rd ss (i : Int), rd ss (i : Int)⟩], true) := by
        unfold enterR
        rw [if_pos (show (okB L G (moveM G L 400 l) = true ∧ 1 ≤ 5000 + (i : Int) ∧ 1 ≤ rd ss (i : Int) ∧ rd ss (i : Int) ≤ 60 ∧ (moveM G L 400 l).length < 40 ∧ rd ss (i : Int) ≤ freeR L G (moveM G L 400 l) ∧ (moveM G L 400 l).any (fun y => y.f0 == 5000 + (i : Int)) = false) from ⟨hok, by omega, hsz.1, hsz.2, by omega, by omega, hany⟩)]
      rw [if_neg c] at hn
      rw [e]
      simp only [decide_eq_true (show (i : Int) < n by omega), bne_self_eq_false, Bool.false_eq_true, if_false, if_true]
      have k1 := okB_snoc hok (5000 + (i : Int)) (rd ss (i : Int)) (by omega) hany hsz.1 hsz.2 (by omega) (by omega)
      have k2 := okB_snoc hokm (newBag m) (rd ss (i : Int)) (newBag_lo m) (by rw [any_bag (moveM_bags G L 400 m)]; exact newBag_any m) hsz.1 hsz.2 (by omega) (by omega)
      have k3 : shp (moveM G L 400 l ++ [(⟨5000 + (i : Int), rd ss (i : Int), rd ss (i : Int)⟩ : It)]) = shp (moveM G L 400 m ++ [(⟨newBag m, rd ss (i : Int), rd ss (i : Int)⟩ : It)]) := by
        unfold shp at hsm ⊢
        rw [List.map_append, List.map_append, hsm]
        simp only [List.map_cons, List.map_nil]
      have hn2 : n = ((i + 1 : Nat) : Int) + (roomGo L G (moveM G L 400 m ++ [(⟨newBag m, rd ss (i : Int), rd ss (i : Int)⟩ : It)]) (ss.drop (i + 1)) : Int) := by omega
      generalize moveM G L 400 m ++ [(⟨newBag m, rd ss (i : Int), rd ss (i : Int)⟩ : It)] = m2 at k2 k3 hn2
      refine ih (i + 1) _ m2 (by omega) k1 k2 k3 ?_ hn2
      intro y hy2
      rcases List.mem_append.1 hy2 with hy2 | hy2
      · have hb2 : y.f0 ∈ l.map (·.f0) := by rw [← hmb]; exact List.mem_map.2 ⟨y, hy2, rfl⟩
        obtain ⟨z, hz, hz2⟩ := List.mem_map.1 hb2
        have := hy z hz
        omega
      · rw [List.mem_singleton] at hy2
        subst hy2
        simp only []
        omega
theorem FnBeltRoom : laws_FnBeltRoom.Pure := by
  intro b _ hb _
  refine Ev.rounds ?_
  unfold laws_FnBeltRoom.f laws_big.f
  simp only [Option.bind_some]
  by_cases h : (b.length : Int) > 1048576
  · have e : decide ((b.length : Int) > 1048576) = true := decide_eq_true h
    simp only [e, if_true]; exact Ev.now _
  · have e : decide ((b.length : Int) > 1048576) = false := decide_eq_false h
    simp only [e, if_neg (show ¬ (false = true) by decide)]
    obtain ⟨L, G, H, l, ss, hd, hl, hy, hs⟩ := draw_room_ok b (by omega)
    refine ev_bind _ hd ?_
    refine ev_bind _ (impl_room_ev L G H l (by omega) ss (by omega)) ?_
    refine ev_bind _ (spec_room_ev L G H l (by omega) ss (by omega)) ?_
    simp only [if_true]
    by_cases c : roomR L G l ss < 0
    · simp only [if_pos c]; exact Ev.now _
    · simp only [if_neg c]
      have hv : okB L G l = true ∧ ss.any containsInts.bad = false := by
        by_cases q : okB L G l = true ∧ ss.any containsInts.bad = false
        · exact q
        · unfold roomR at c; rw [if_neg q] at c; omega
      refine room_law_loop L G H ss (by omega) (not_bad hv.2) _ ss.length 0 l l (by omega) hv.1 hv.1 rfl (fun y h => by have := hy y h; omega) ?_
      unfold roomR
      rw [if_pos hv, List.drop_zero]
      omega

end Go.Proofs.Ytnnimbbffbfhoaa.Pure
