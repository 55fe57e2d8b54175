/- For every belt and list of sizes the law FnExactRoomFor returns true (its printed function does): program and reference let in as many. -/
import Derived.Test.YtbdjbdoelbmjcaaPFnExactRoomForx10
import Derived.Test.YtbdjbdoelbmjcaaKit
namespace Go.Proofs.Ytbdjbdoelbmjcaa.Pure
open Go.RowKit Go.Proofs.Ytbdjbdoelbmjcaa.PFnExactRoomFor Go.Proofs.YtbdjbdoelbmjcaaW.PrintWords Go.Proofs.YtbdjbdoelbmjcaaW.PrintLast Go.Proofs.YtbdjbdoelbmjcaaW.PrintMore Go.Proofs.Ytbdjbdoelbmjcaa.Kit
set_option linter.unusedVariables false
set_option linter.unusedSimpArgs false

theorem rd_int (l : List Int) (i : Nat) (h : i < l.length) : rd l (i : Int) = l[i] := by
  simp [rd, List.getD_eq_getElem?_getD, List.getElem?_eq_getElem h]
theorem drop_int (l : List Int) (i : Nat) (h : i < l.length) : l.drop i = rd l (i : Int) :: l.drop (i + 1) := by
  rw [List.drop_eq_getElem_cons h, rd_int l i h]
theorem to_ints_loop (l : List Int) (hl : l.length ≤ 1048600) (d : Nat) : ∀ (i : Nat) (m : List Int), i + d = l.length → m.length = l.length → m.take i = l.take i → Ev (fun k => laws_toIntS.l0 k l m i) l := by
  induction d with
  | zero =>
    intro i m hi hm h
    refine Ev.step (fun k => by rw [laws_toIntS.l0, if_neg (show ¬ (i : Int) < (l.length : Int) by omega)]) (ev_some ?_)
    rw [List.take_of_length_le (by omega), List.take_of_length_le (by omega)] at h
    exact h
  | succ d ih =>
    intro i m hi hm h
    have e1 : wrap64 ((i : Int) + 1) = ((i + 1 : Nat) : Int) := w64 (by omega) (by omega)
    have hlt : i < l.length := by omega
    refine Ev.step (fun k => by rw [laws_toIntS.l0, if_pos (show (i : Int) < (l.length : Int) by omega), if_pos (show (0 : Int) ≤ (i : Int) by omega), if_pos (show (i : Int) < (m.length : Int) by omega), e1, rd_int l i hlt, Int.toNat_natCast]) ?_
    refine ih (i + 1) _ (by omega) (by simp [hm]) ?_
    rw [List.take_succ_eq_append_getElem (by simp; omega), List.take_succ_eq_append_getElem hlt, ← h]
    rw [List.take_set, List.set_eq_of_length_le (by simp; omega)]
    simp
theorem to_ints_ev (l : List Int) (hl : l.length ≤ 1048600) : Ev (fun k => laws_toIntS.f k l) l := by
  unfold laws_toIntS.f
  simp only [if_pos (show (0 : Int) ≤ (l.length : Int) by omega), Int.toNat_natCast, if_pos (show l.length ≤ 35184372088832 by omega)]
  exact to_ints_loop l hl l.length 0 _ (by omega) (by simp) rfl
abbrev It := S53
theorem rd_item (l : List It) (i : Nat) (h : i < l.length) : rd_T53 l (i : Int) = l[i] := by
  simp [rd_T53, List.getD_eq_getElem?_getD, List.getElem?_eq_getElem h]
theorem drop_item (l : List It) (i : Nat) (h : i < l.length) : l.drop i = rd_T53 l (i : Int) :: l.drop (i + 1) := by
  rw [List.drop_eq_getElem_cons h, rd_item l i h]
theorem take_item (l : List It) (i : Nat) (h : i < l.length) : l.take (i + 1) = l.take i ++ [rd_T53 l (i : Int)] := by
  rw [rd_item l i h, List.take_succ_eq_append_getElem h]
/-- Items in order, behind a place and apart, their bags other than those met. -/
def okRun (G : Int) : Int → List It → List It → Bool
  | _, _, [] => true
  | most, seen, x :: l => decide (1 ≤ x.f0) && !(seen.any (fun y => y.f0 == x.f0)) && decide (1 ≤ x.f2 ∧ x.f2 ≤ 60 ∧ x.f2 ≤ x.f1 ∧ x.f1 ≤ most) && okRun G (x.f1 - x.f2 - G) (seen ++ [x]) l
def okB (L G : Int) (l : List It) : Bool := decide (1 ≤ L ∧ L ≤ 400 ∧ 0 ≤ G ∧ G ≤ 20 ∧ l.length ≤ 40) && okRun G L [] l
theorem okB_len {L G : Int} {l : List It} (h : okB L G l = true) : 1 ≤ L ∧ L ≤ 400 ∧ 0 ≤ G ∧ G ≤ 20 ∧ l.length ≤ 40 := by
  unfold okB at h
  simp only [Bool.and_eq_true, decide_eq_true_eq] at h
  exact h.1
theorem okB_run {L G : Int} {l : List It} (h : okB L G l = true) : okRun G L [] l = true := by
  unfold okB at h
  simp only [Bool.and_eq_true] at h
  exact h.2
theorem okRun_cons {G most : Int} {seen : List It} {x : It} {l : List It} (h : okRun G most seen (x :: l) = true) :
    1 ≤ x.f0 ∧ seen.any (fun y => y.f0 == x.f0) = false ∧ (1 ≤ x.f2 ∧ x.f2 ≤ 60 ∧ x.f2 ≤ x.f1 ∧ x.f1 ≤ most) ∧ okRun G (x.f1 - x.f2 - G) (seen ++ [x]) l = true := by
  simp only [okRun, Bool.and_eq_true, decide_eq_true_eq, Bool.not_eq_true'] at h
  exact ⟨h.1.1.1, h.1.1.2, h.1.2, h.2⟩
/-- One step of all items. -/
def stepGo (G : Int) : Int → List It → List It
  | _, [] => []
  | most, x :: l => if x.f1 < most then ⟨x.f0, x.f1 + 1, x.f2⟩ :: stepGo G (x.f1 + 1 - x.f2 - G) l else x :: stepGo G (x.f1 - x.f2 - G) l
/-- How many of them move. -/
def stepN (G : Int) : Int → List It → Nat
  | _, [] => 0
  | most, x :: l => if x.f1 < most then 1 + stepN G (x.f1 + 1 - x.f2 - G) l else stepN G (x.f1 - x.f2 - G) l
theorem stepGo_len (G : Int) : ∀ (l : List It) (most : Int), (stepGo G most l).length = l.length
  | [], _ => rfl
  | x :: l, most => by
    unfold stepGo
    split
    · simp [stepGo_len G l]
    · simp [stepGo_len G l]
theorem stepN_le (G : Int) : ∀ (l : List It) (most : Int), stepN G most l ≤ l.length
  | [], _ => Nat.le_refl _
  | x :: l, most => by
    unfold stepN
    split
    · have := stepN_le G l (x.f1 + 1 - x.f2 - G); simp; omega
    · have := stepN_le G l (x.f1 - x.f2 - G); simp; omega
theorem any_bag {s s' : List It} (h : s.map (·.f0) = s'.map (·.f0)) (b : Int) : s.any (fun y => y.f0 == b) = s'.any (fun y => y.f0 == b) := by
  have e : ∀ t : List It, t.any (fun y => y.f0 == b) = (t.map (·.f0)).any (fun y => y == b) := fun t => by rw [List.any_map]; rfl
  rw [e, e, h]
theorem okRun_seen (G : Int) : ∀ (l : List It) (most : Int) (s s' : List It), s.map (·.f0) = s'.map (·.f0) → okRun G most s l = okRun G most s' l
  | [], _, _, _, _ => rfl
  | x :: l, most, s, s', h => by
    unfold okRun
    rw [any_bag h, okRun_seen G l _ (s ++ [x]) (s' ++ [x]) (by simp [h])]
theorem okRun_step (G : Int) (hG : 0 ≤ G) : ∀ (l : List It) (m0 m1 : Int) (s s' : List It), okRun G m0 s l = true → m0 ≤ m1 → s.map (·.f0) = s'.map (·.f0) → okRun G m1 s' (stepGo G m1 l) = true
  | [], _, _, _, _, _, _, _ => rfl
  | x :: l, m0, m1, s, s', h, hm, hs => by
    obtain ⟨h1, h2, h3, h4⟩ := okRun_cons h
    rw [any_bag hs] at h2
    unfold stepGo
    split
    · rename_i hlt
      have := okRun_step G hG l (x.f1 - x.f2 - G) (x.f1 + 1 - x.f2 - G) (s ++ [x]) (s' ++ [⟨x.f0, x.f1 + 1, x.f2⟩]) h4 (by omega) (by simp [hs])
      unfold okRun
      simp only [Bool.and_eq_true, decide_eq_true_eq, Bool.not_eq_true']
      exact ⟨⟨⟨h1, h2⟩, by omega⟩, this⟩
    · rename_i hlt
      have := okRun_step G hG l (x.f1 - x.f2 - G) (x.f1 - x.f2 - G) (s ++ [x]) (s' ++ [x]) h4 (by omega) (by simp [hs])
      unfold okRun
      simp only [Bool.and_eq_true, decide_eq_true_eq, Bool.not_eq_true']
      exact ⟨⟨⟨h1, h2⟩, by omega⟩, this⟩
theorem okB_step {L G : Int} {l : List It} (h : okB L G l = true) : okB L G (stepGo G L l) = true := by
  have h1 := okB_len h
  have h2 := okB_run h
  unfold okB
  rw [decide_eq_true (by rw [stepGo_len]; exact h1), okRun_step G (by omega) l L L [] [] h2 (Int.le_refl _) rfl]
  rfl
def moveM (G L : Int) : Nat → List It → List It
  | 0, l => l
  | n + 1, l => moveM G L n (stepGo G L l)
theorem okB_move {L G : Int} : ∀ (n : Nat) {l : List It}, okB L G l = true → okB L G (moveM G L n l) = true
  | 0, _, h => h
  | n + 1, _, h => okB_move n (okB_step h)
theorem moveM_len (G L : Int) : ∀ (n : Nat) (l : List It), (moveM G L n l).length = l.length
  | 0, _ => rfl
  | n + 1, l => by unfold moveM; rw [moveM_len G L n, stepGo_len]
theorem rd_mid (a : List It) (x : It) (b : List It) : rd_T53 (a ++ x :: b) (a.length : Int) = x := by
  simp [rd_T53, List.getD_eq_getElem?_getD]
theorem rd_mid' (a : List It) (p x : It) (b : List It) : rd_T53 ((a ++ [p]) ++ x :: b) (a.length : Int) = p := by
  rw [List.append_assoc]
  exact rd_mid a p (x :: b)
theorem set_mid (a : List It) (x y : It) (b : List It) : (a ++ x :: b).set a.length y = (a ++ [y]) ++ b := by
  simp
theorem okRun_mem (G : Int) (hG : 0 ≤ G) : ∀ (l : List It) (most : Int) (s : List It), okRun G most s l = true → ∀ x ∈ l, 1 ≤ x.f0 ∧ 1 ≤ x.f2 ∧ x.f2 ≤ 60 ∧ x.f2 ≤ x.f1 ∧ x.f1 ≤ most
  | [], _, _, _, x, hx => by simp at hx
  | y :: l, most, s, h, x, hx => by
    obtain ⟨h1, h2, h3, h4⟩ := okRun_cons h
    rcases List.mem_cons.1 hx with rfl | hx
    · omega
    · have := okRun_mem G hG l _ _ h4 x hx
      omega
theorem okB_mem {L G : Int} {l : List It} (h : okB L G l = true) : ∀ x ∈ l, 1 ≤ x.f0 ∧ 1 ≤ x.f2 ∧ x.f2 ≤ 60 ∧ x.f2 ≤ x.f1 ∧ x.f1 ≤ L := by
  have h1 := okB_len h
  exact okRun_mem G (by omega) l L [] (okB_run h)
theorem rd_mem (l : List It) (i : Nat) (h : i < l.length) : rd_T53 l (i : Int) ∈ l := by
  rw [rd_item l i h]; exact List.getElem_mem _
/-- Where n steps bring the items: each as far as it can. -/
def goN (G : Int) (n : Nat) : Int → List It → List It
  | _, [] => []
  | most, x :: l => ⟨x.f0, min (x.f1 + n) most, x.f2⟩ :: goN G n (min (x.f1 + n) most - x.f2 - G) l
theorem goN_zero (G : Int) : ∀ (l : List It) (most : Int) (s : List It), okRun G most s l = true → goN G 0 most l = l
  | [], _, _, _ => rfl
  | x :: l, most, s, h => by
    obtain ⟨_, _, h3, h4⟩ := okRun_cons h
    have e : min (x.f1 + ((0 : Nat) : Int)) most = x.f1 := by omega
    unfold goN; rw [e, goN_zero G l _ _ h4]
theorem step_goN (G : Int) (n : Nat) : ∀ (l : List It) (m0 m1 : Int), m0 ≤ m1 → m1 ≤ m0 + 1 → stepGo G m1 (goN G n m0 l) = goN G (n + 1) m1 l
  | [], _, _, _, _ => rfl
  | x :: l, m0, m1, h0, h1 => by
    unfold goN stepGo
    by_cases c : min (x.f1 + (n : Int)) m0 < m1
    · have e : min (x.f1 + (n : Int)) m0 + 1 = min (x.f1 + ((n + 1 : Nat) : Int)) m1 := by omega
      simp only [if_pos c]
      rw [step_goN G n l _ (min (x.f1 + (n : Int)) m0 + 1 - x.f2 - G) (by omega) (by omega), e]
    · have e : min (x.f1 + (n : Int)) m0 = min (x.f1 + ((n + 1 : Nat) : Int)) m1 := by omega
      simp only [if_neg c]
      rw [step_goN G n l _ (min (x.f1 + (n : Int)) m0 - x.f2 - G) (by omega) (by omega), e]
theorem move_goN (G L : Int) : ∀ (n k : Nat) (l : List It), moveM G L n (goN G k L l) = goN G (k + n) L l
  | 0, k, l => rfl
  | n + 1, k, l => by
    rw [moveM, step_goN G k l L L (Int.le_refl _) (by omega), move_goN G L n (k + 1) l]
    rw [show k + 1 + n = k + (n + 1) by omega]
theorem move_eq {L G : Int} {l : List It} (h : okB L G l = true) (n : Nat) : moveM G L n l = goN G n L l := by
  have := move_goN G L n 0 l
  rw [goN_zero G l L [] (okB_run h), Nat.zero_add] at this
  exact this
theorem stepGo_bags (G : Int) : ∀ (l : List It) (most : Int), (stepGo G most l).map (·.f0) = l.map (·.f0)
  | [], _ => rfl
  | x :: l, most => by
    unfold stepGo
    split <;> simp [stepGo_bags G l]
theorem moveM_bags (G L : Int) : ∀ (n : Nat) (l : List It), (moveM G L n l).map (·.f0) = l.map (·.f0)
  | 0, _ => rfl
  | n + 1, l => by unfold moveM; rw [moveM_bags G L n, stepGo_bags]
/-- What Move returns. -/
def moveR (L G : Int) (l : List It) (s : Int) : List It := if okB L G l = true ∧ 0 ≤ s ∧ s ≤ 2000 then moveM G L s.toNat l else l
theorem moveR_len (L G : Int) (l : List It) (s : Int) : (moveR L G l s).length = l.length := by
  unfold moveR; split
  · exact moveM_len _ _ _ _
  · rfl
theorem moveM_add (G L : Int) : ∀ (a b : Nat) (l : List It), moveM G L b (moveM G L a l) = moveM G L (a + b) l
  | 0, b, l => by rw [moveM, Nat.zero_add]
  | a + 1, b, l => by
    rw [moveM, moveM_add G L a b, show a + 1 + b = (a + b) + 1 by omega, moveM]
/-- Where the last of them leaves the next one. -/
def goEnd (G : Int) (n : Nat) : Int → List It → Int
  | most, [] => most
  | most, x :: l => goEnd G n (min (x.f1 + n) most - x.f2 - G) l
theorem goEnd_last (G : Int) (n : Nat) : ∀ (l : List It) (most : Int), (match (goN G n most l).getLast? with | none => most | some x => x.f1 - x.f2 - G) = goEnd G n most l
  | [], _ => rfl
  | x :: l, most => by
    have := goEnd_last G n l (min (x.f1 + n) most - x.f2 - G)
    rw [goEnd, ← this, goN]
    cases l with
    | nil => rfl
    | cons y t =>
      rw [goN, List.getLast?_cons_cons]
      cases e : ((⟨y.f0, min (y.f1 + n) (min (x.f1 + n) most - x.f2 - G), y.f2⟩ : It) :: goN G n (min (y.f1 + n) (min (x.f1 + n) most - x.f2 - G) - y.f2 - G) t).getLast? with
      | none => simp at e
      | some w => rfl
theorem move_ok_n {L G : Int} {l : List It} (h : okB L G l = true) (s : Int) (n : Nat) (hs : s = (n : Int)) (hn : n ≤ 2000) : moveR L G l s = moveM G L n l := by
  subst hs
  unfold moveR
  rw [if_pos ⟨h, by omega, by omega⟩, Int.toNat_natCast]
/-- What FreeBehind returns. -/
def freeR (L G : Int) (l : List It) : Int := if okB L G l = true then (match l.getLast? with | none => L | some x => mx 0 (x.f1 - x.f2 - G)) else -1
theorem last_item (l : List It) (h : l ≠ []) : l.getLast? = some (rd_T53 l ((l.length - 1 : Nat) : Int)) := by
  have hl : 0 < l.length := List.length_pos_iff.2 h
  rw [List.getLast?_eq_getElem?, rd_item l (l.length - 1) (by omega), List.getElem?_eq_getElem (by omega)]
theorem okRun_snoc (G : Int) (y : It) : ∀ (l : List It) (most : Int) (s : List It), okRun G most s l = true → 1 ≤ y.f0 → (s ++ l).any (fun z => z.f0 == y.f0) = false → 1 ≤ y.f2 → y.f2 ≤ 60 → y.f2 ≤ y.f1 → y.f1 ≤ (match l.getLast? with | none => most | some x => x.f1 - x.f2 - G) → okRun G most s (l ++ [y]) = true
  | [], most, s, _, h1, h2, h3, h4, h5, h6 => by
    rw [List.append_nil] at h2
    simp only [List.getLast?_nil] at h6
    simp only [List.nil_append, okRun, Bool.and_eq_true, decide_eq_true_eq, Bool.not_eq_true', and_true]
    exact ⟨⟨h1, h2⟩, h3, h4, h5, h6⟩
  | x :: l, most, s, h, h1, h2, h3, h4, h5, h6 => by
    obtain ⟨a1, a2, a3, a4⟩ := okRun_cons h
    have := okRun_snoc G y l (x.f1 - x.f2 - G) (s ++ [x]) a4 h1 (by simpa using h2) h3 h4 h5 (by
      cases l with
      | nil => simpa using h6
      | cons z t =>
        rw [List.getLast?_cons_cons] at h6
        cases e : (z :: t).getLast? with
        | none => simp at e
        | some w => rw [e] at h6; exact h6)
    rw [List.cons_append]
    simp only [okRun, Bool.and_eq_true, decide_eq_true_eq, Bool.not_eq_true']
    exact ⟨⟨⟨a1, a2⟩, a3⟩, this⟩
theorem okB_snoc {L G : Int} {l : List It} (h : okB L G l = true) (bag size : Int) (h1 : 1 ≤ bag) (h2 : l.any (fun z => z.f0 == bag) = false) (h3 : 1 ≤ size) (h4 : size ≤ 60) (h5 : l.length < 40) (h6 : size ≤ freeR L G l) : okB L G (l ++ [⟨bag, size, size⟩]) = true := by
  have a := okB_len h
  have b := okRun_snoc G ⟨bag, size, size⟩ l L [] (okB_run h) h1 (by simpa using h2) h3 h4 (Int.le_refl _) (by
    unfold freeR at h6
    rw [if_pos h] at h6
    cases c : l.getLast? with
    | none => rw [c] at h6; exact h6
    | some x =>
      rw [c] at h6
      simp only [mx] at h6 ⊢
      split at h6 <;> omega)
  unfold okB
  rw [b, decide_eq_true (by simp only [List.length_append, List.length_cons, List.length_nil]; omega)]
  rfl
theorem spec_in (x a b : Int) : spec_l01In.f x a b = some (decide (a ≤ x ∧ x ≤ b)) := by
  unfold spec_l01In.f
  by_cases h : x ≥ a
  · rw [if_pos h]; congr 1; simp; omega
  · rw [if_neg h]; congr 1; simp; omega
theorem spec_ok_inner (L G : Int) (H : Bool) (l : List It) (b f n : Int) (hl : l.length ≤ 40) (i : Nat) (hi : i < l.length) (R : Bool) (d : Nat) : ∀ (j : Nat), j + d = i →
    (((l.take i).drop j).any (fun y => y.f0 == b) = true → R = false) →
    (((l.take i).drop j).any (fun y => y.f0 == b) = false → Ev (fun k => if (i : Int) > 0 then (if 0 ≤ (wrap64 ((i : Int) - 1)) then (if (wrap64 ((i : Int) - 1)) < (l.length : Int) then (if f > (wrap64 ((wrap64 (((rd_T53 l (wrap64 ((i : Int) - 1))).f1) - ((rd_T53 l (wrap64 ((i : Int) - 1))).f2))) - G)) then (some false) else (spec_BeltOk.l0 k (wrap64 ((i : Int) + 1)) L G H l)) else (none)) else (none)) else (spec_BeltOk.l0 k (wrap64 ((i : Int) + 1)) L G H l)) R) →
    Ev (fun k => spec_BeltOk.l1 k (i : Int) (j : Int) L G H l b f n) R := by
  induction d with
  | zero =>
    intro j hj _ h
    have : j = i := by omega
    subst this
    refine Ev.step (fun k => by rw [spec_BeltOk.l1, if_neg (show ¬ (j : Int) < (j : Int) by omega)]) ?_
    exact h (by rw [List.drop_eq_nil_of_le (by simp; omega)]; rfl)
  | succ d ih =>
    intro j hj hd h
    have e1 : wrap64 ((j : Int) + 1) = ((j + 1 : Nat) : Int) := w64 (by omega) (by omega)
    have hjt : j < (l.take i).length := by simp; omega
    have hc : (l.take i).drop j = rd_T53 l (j : Int) :: (l.take i).drop (j + 1) := by
      rw [List.drop_eq_getElem_cons hjt, rd_item l j (by omega)]
      simp
    rw [hc, List.any_cons] at hd h
    refine Ev.step (fun k => by rw [spec_BeltOk.l1, if_pos (show (j : Int) < (i : Int) by omega), if_pos (show (0 : Int) ≤ (j : Int) by omega), if_pos (show (j : Int) < (l.length : Int) by omega), e1]) ?_
    by_cases c : (rd_T53 l (j : Int)).f0 = b
    · simp only [if_pos c]
      rw [hd (by simp [c])]
      exact Ev.now _
    · simp only [if_neg c]
      have hb : ((rd_T53 l (j : Int)).f0 == b) = false := by simp [c]
      rw [hb, Bool.false_or] at hd h
      exact ih (j + 1) (by omega) hd h
/-- What the place in front of item i leaves it. -/
def mostAt (L G : Int) (l : List It) (i : Nat) : Int := if i = 0 then L else (rd_T53 l ((i - 1 : Nat) : Int)).f1 - (rd_T53 l ((i - 1 : Nat) : Int)).f2 - G
theorem spec_ok_loop (L G : Int) (H : Bool) (l : List It) (hL : 1 ≤ L ∧ L ≤ 400) (hG : 0 ≤ G ∧ G ≤ 20) (hl : l.length ≤ 40) (d : Nat) : ∀ (i : Nat), i + d = l.length → -100 ≤ mostAt L G l i → mostAt L G l i ≤ L →
    (0 < i → (rd_T53 l ((i - 1 : Nat) : Int)).f1 ≤ 400 ∧ 1 ≤ (rd_T53 l ((i - 1 : Nat) : Int)).f2 ∧ (rd_T53 l ((i - 1 : Nat) : Int)).f2 ≤ 60 ∧ (rd_T53 l ((i - 1 : Nat) : Int)).f2 ≤ (rd_T53 l ((i - 1 : Nat) : Int)).f1) →
    Ev (fun k => spec_BeltOk.l0 k i L G H l) (okRun G (mostAt L G l i) (l.take i) (l.drop i)) := by
  induction d with
  | zero =>
    intro i hi h0 h1 _
    rw [List.drop_eq_nil_of_le (by omega)]
    exact Ev.step (f := fun _ => some true) (fun k => by rw [spec_BeltOk.l0, if_neg (show ¬ (i : Int) < (l.length : Int) by omega)]) (ev_some rfl)
  | succ d ih =>
    intro i hi h0 h1 hp
    have hlt : i < l.length := by omega
    have e1 : wrap64 ((i : Int) + 1) = ((i + 1 : Nat) : Int) := w64 (by omega) (by omega)
    rw [drop_item l i hlt]
    generalize hx : rd_T53 l (i : Int) = x
    have hfalse : ∀ b f n, Ev (fun k => spec_BeltOk.j2 k i true L G H l b f n) false := fun b f n => Ev.step (fun k => by rw [spec_BeltOk.j2, if_pos rfl]) (Ev.now _)
    refine Ev.step (fun k => by rw [spec_BeltOk.l0, if_pos (show (i : Int) < (l.length : Int) by omega), if_pos (show (0 : Int) ≤ (i : Int) by omega), hx]) ?_
    simp only [okRun, spec_in, Option.bind_some]
    by_cases c1 : x.f0 < 1
    · simp only [if_pos c1]
      rw [decide_eq_false (show ¬ 1 ≤ x.f0 by omega)]
      simp only [Bool.false_and]
      exact hfalse _ _ _
    · simp only [if_neg c1]
      rw [decide_eq_true (show 1 ≤ x.f0 by omega)]
      by_cases c2 : 1 ≤ x.f2 ∧ x.f2 ≤ 60
      · rw [decide_eq_true c2]
        simp only [if_true]
        by_cases c3 : x.f2 ≤ x.f1 ∧ x.f1 ≤ L
        · rw [decide_eq_true c3]
          simp only [Bool.not_true]
          refine Ev.step (fun k => by rw [spec_BeltOk.j2, if_neg (by decide)]) ?_
          refine spec_ok_inner L G H l x.f0 x.f1 x.f2 hl i hlt _ i 0 (by omega) ?_ ?_
          · intro h
            rw [List.drop_zero] at h
            rw [h]; simp
          · intro h
            rw [List.drop_zero] at h
            rw [h, e1]
            have hm : mostAt L G l (i + 1) = x.f1 - x.f2 - G := by
              unfold mostAt
              rw [if_neg (by omega), Nat.add_sub_cancel, hx]
            have hrest := ih (i + 1) (by omega) (by rw [hm]; omega) (by rw [hm]; omega) (fun _ => by rw [Nat.add_sub_cancel, hx]; omega)
            rw [hm, take_item l i hlt, hx] at hrest
            by_cases c4 : (i : Int) > 0
            · have e2 : wrap64 ((i : Int) - 1) = ((i - 1 : Nat) : Int) := by rw [w64 (by omega) (by omega)]; omega
              have hpr := hp (by omega)
              have hmi : mostAt L G l i = (rd_T53 l ((i - 1 : Nat) : Int)).f1 - (rd_T53 l ((i - 1 : Nat) : Int)).f2 - G := by
                unfold mostAt; rw [if_neg (by omega)]
              simp only [if_pos c4, e2, if_pos (show (0 : Int) ≤ ((i - 1 : Nat) : Int) by omega), if_pos (show ((i - 1 : Nat) : Int) < (l.length : Int) by omega)]
              rw [w64 (x := (rd_T53 l ((i - 1 : Nat) : Int)).f1 - (rd_T53 l ((i - 1 : Nat) : Int)).f2) (by omega) (by omega), w64 (by omega) (by omega), ← hmi]
              by_cases c5 : x.f1 > mostAt L G l i
              · simp only [if_pos c5]
                rw [decide_eq_false (show ¬ (1 ≤ x.f2 ∧ x.f2 ≤ 60 ∧ x.f2 ≤ x.f1 ∧ x.f1 ≤ mostAt L G l i) by omega)]
                exact ev_some (by simp)
              · simp only [if_neg c5]
                rw [decide_eq_true (show (1 ≤ x.f2 ∧ x.f2 ≤ 60 ∧ x.f2 ≤ x.f1 ∧ x.f1 ≤ mostAt L G l i) by omega)]
                simpa using hrest
            · have hmi : mostAt L G l i = L := by unfold mostAt; rw [if_pos (by omega)]
              simp only [if_neg c4]
              rw [hmi, decide_eq_true (show (1 ≤ x.f2 ∧ x.f2 ≤ 60 ∧ x.f2 ≤ x.f1 ∧ x.f1 ≤ L) by omega)]
              simpa using hrest
        · rw [decide_eq_false c3, decide_eq_false (show ¬ (1 ≤ x.f2 ∧ x.f2 ≤ 60 ∧ x.f2 ≤ x.f1 ∧ x.f1 ≤ mostAt L G l i) by omega)]
          simp only [Bool.not_false, Bool.and_false, Bool.false_and]
          exact hfalse _ _ _
      · rw [decide_eq_false c2, decide_eq_false (show ¬ (1 ≤ x.f2 ∧ x.f2 ≤ 60 ∧ x.f2 ≤ x.f1 ∧ x.f1 ≤ mostAt L G l i) by omega)]
        simp only [Bool.and_false, Bool.false_and, if_neg (show ¬ (false = true) by decide)]
        exact hfalse _ _ _
theorem spec_ok_ev (L G : Int) (H : Bool) (l : List It) : Ev (fun k => spec_BeltOk.f k L G H l) (okB L G l) := by
  unfold spec_BeltOk.f
  have hf : ∀ L G H, Ev (fun k => spec_BeltOk.j0 k true L G H l) false := fun L G H => Ev.step (fun k => by rw [spec_BeltOk.j0, if_pos rfl]) (Ev.now _)
  have hb : ¬ (1 ≤ L ∧ L ≤ 400 ∧ 0 ≤ G ∧ G ≤ 20 ∧ l.length ≤ 40) → okB L G l = false := fun h => by unfold okB; rw [decide_eq_false h]; rfl
  simp only [spec_in, Option.bind_some]
  by_cases c1 : 1 ≤ L ∧ L ≤ 400
  · rw [decide_eq_true c1]
    simp only [if_true]
    by_cases c2 : 0 ≤ G ∧ G ≤ 20
    · rw [decide_eq_true c2]
      simp only [if_true]
      by_cases c5 : (l.length : Int) > 40
      · rw [decide_eq_true c5, hb (by omega)]; exact hf _ _ _
      · rw [decide_eq_false c5]
        refine Ev.step (fun k => by rw [spec_BeltOk.j0, if_neg (by decide)]) ?_
        have hm : mostAt L G l 0 = L := rfl
        have := spec_ok_loop L G H l c1 c2 (by omega) l.length 0 (by omega) (by rw [hm]; omega) (by rw [hm]; omega) (fun h => by omega)
        unfold okB
        rw [decide_eq_true (by omega)]
        rw [hm] at this
        simpa using this
    · rw [decide_eq_false c2, hb (by omega)]
      simp only [if_neg (show ¬ (false = true) by decide)]
      exact hf _ _ _
  · rw [decide_eq_false c1, hb (by omega)]
    simp only [if_neg (show ¬ (false = true) by decide)]
    exact hf _ _ _

theorem spec_free_ev (L G : Int) (H : Bool) (l : List It) : Ev (fun k => spec_FreeBehind.f k L G H l) (freeR L G l) := by
  unfold spec_FreeBehind.f freeR
  refine ev_bind _ (spec_ok_ev L G H l) ?_
  cases h : okB L G l with
  | false => simp only [Bool.false_eq_true, if_false]; exact Ev.now _
  | true =>
    have h1 := okB_len h
    simp only [if_true]
    refine ev_const ?_
    cases l with
    | nil => simp
    | cons x t =>
      have hne : x :: t ≠ [] := by simp
      have hl : 0 < (x :: t).length := by simp
      have hm := okB_mem h _ (rd_mem (x :: t) ((x :: t).length - 1) (by omega))
      have e : wrap64 (((x :: t).length : Int) - 1) = (((x :: t).length - 1 : Nat) : Int) := by rw [w64 (by omega) (by omega)]; omega
      rw [last_item _ hne]
      generalize hw : x :: t = w at *
      rw [if_neg (by omega), e, if_pos (by omega), if_pos (by omega), w64 (x := _ - (rd_T53 w ((w.length - 1 : Nat) : Int)).f2) (by omega) (by omega), w64 (by omega) (by omega)]
/-- How many items have a bag that is not below x. -/
def cntB (x : Int) : List It → Nat
  | [] => 0
  | y :: l => (if x ≤ y.f0 then 1 else 0) + cntB x l
theorem cntB_le (x : Int) : ∀ l : List It, cntB (x + 1) l ≤ cntB x l
  | [] => Nat.le_refl _
  | y :: l => by
    have := cntB_le x l
    unfold cntB
    by_cases c : x + 1 ≤ y.f0
    · rw [if_pos c, if_pos (show x ≤ y.f0 by omega)]; omega
    · rw [if_neg c]; split <;> omega
theorem cntB_lt (x : Int) : ∀ l : List It, l.any (fun y => y.f0 == x) = true → cntB (x + 1) l + 1 ≤ cntB x l
  | [], h => by simp at h
  | y :: l, h => by
    have h1 := cntB_le x l
    unfold cntB
    by_cases c : y.f0 = x
    · rw [if_neg (show ¬ x + 1 ≤ y.f0 by omega), if_pos (show x ≤ y.f0 by omega)]; omega
    · have h2 := cntB_lt x l (by
        rw [List.any_cons] at h
        simp only [Bool.or_eq_true, beq_iff_eq] at h
        exact h.resolve_left c)
      by_cases c : x + 1 ≤ y.f0
      · rw [if_pos c, if_pos (show x ≤ y.f0 by omega)]; omega
      · rw [if_neg c]; split <;> omega
theorem cntB_len (x : Int) : ∀ l : List It, cntB x l ≤ l.length
  | [] => Nat.le_refl _
  | y :: l => by
    have := cntB_len x l
    unfold cntB
    simp only [List.length_cons]
    split <;> omega
theorem cntB_app (x : Int) (m : List It) : ∀ l : List It, cntB x (l ++ m) = cntB x l + cntB x m
  | [] => by simp [cntB]
  | y :: l => by rw [List.cons_append, cntB, cntB, cntB_app x m l]; omega
theorem cntB_bags (x : Int) : ∀ (l m : List It), l.map (·.f0) = m.map (·.f0) → cntB x l = cntB x m
  | [], [], _ => rfl
  | [], _ :: _, h => by simp at h
  | _ :: _, [], h => by simp at h
  | y :: l, z :: m, h => by
    simp only [List.map_cons, List.cons.injEq] at h
    unfold cntB
    rw [h.1, cntB_bags x l m h.2]
/-- The least bag that no item has, from x. -/
def newB (l : List It) : Nat → Int → Int
  | 0, x => x
  | n + 1, x => if l.any (fun y => y.f0 == x) = true then newB l n (x + 1) else x
theorem newB_spec (l : List It) : ∀ (n : Nat) (x : Int), cntB x l ≤ n → x ≤ newB l n x ∧ l.any (fun y => y.f0 == newB l n x) = false ∧ (∀ c, x ≤ c → c < newB l n x → l.any (fun y => y.f0 == c) = true) ∧ newB l n x + (cntB (newB l n x) l : Int) ≤ x + (cntB x l : Int)
  | 0, x, h => by
    refine ⟨Int.le_refl _, ?_, fun c h1 h2 => by unfold newB at h2; omega, Int.le_refl _⟩
    cases e : l.any (fun y => y.f0 == newB l 0 x) with
    | false => rfl
    | true => have := cntB_lt x l e; omega
  | n + 1, x, h => by
    cases e : l.any (fun y => y.f0 == x) with
    | false =>
      have e1 : newB l (n + 1) x = x := by rw [newB, if_neg (by rw [e]; decide)]
      rw [e1]
      exact ⟨Int.le_refl _, e, fun c h1 h2 => by omega, Int.le_refl _⟩
    | true =>
      have e1 : newB l (n + 1) x = newB l n (x + 1) := by rw [newB, if_pos e]
      have e2 := cntB_lt x l e
      obtain ⟨a, b, c, d⟩ := newB_spec l n (x + 1) (by omega)
      rw [e1]
      refine ⟨by omega, b, fun q h1 h2 => ?_, by omega⟩
      by_cases hq : q = x
      · rw [hq]; exact e
      · exact c q (by omega) h2
/-- The least bag from 1 that no item has. -/
def newBag (l : List It) : Int := newB l (cntB 1 l) 1
theorem newBag_of (l : List It) (x : Int) (h1 : 1 ≤ x) (h : ∀ c, 1 ≤ c → c < x → l.any (fun y => y.f0 == c) = true) : newB l (cntB x l) x = newBag l := by
  obtain ⟨a, b, c, _⟩ := newB_spec l (cntB x l) x (Nat.le_refl _)
  obtain ⟨a', b', c', _⟩ := newB_spec l (cntB 1 l) 1 (Nat.le_refl _)
  have hb : ∀ q, 1 ≤ q → q < newB l (cntB x l) x → l.any (fun y => y.f0 == q) = true := fun q h2 h3 => by
    by_cases hq : q < x
    · exact h q h2 hq
    · exact c q (by omega) h3
  unfold newBag
  generalize newB l (cntB x l) x = u at *
  generalize newB l (cntB 1 l) 1 = v at *
  by_cases h2 : u < v
  · have := c' u (by omega) h2; rw [b] at this; simp at this
  · by_cases h3 : v < u
    · have := hb v (by omega) h3; rw [b'] at this; simp at this
    · omega
theorem newBag_any (l : List It) : l.any (fun y => y.f0 == newBag l) = false := (newB_spec l (cntB 1 l) 1 (Nat.le_refl _)).2.1
theorem newBag_lo (l : List It) : 1 ≤ newBag l := (newB_spec l (cntB 1 l) 1 (Nat.le_refl _)).1
theorem newBag_hi (l : List It) : newBag l ≤ (l.length : Int) + 1 := by
  have := (newB_spec l (cntB 1 l) 1 (Nat.le_refl _)).2.2.2
  have h := cntB_len 1 l
  unfold newBag; omega
theorem newBag_bags {l m : List It} (h : l.map (·.f0) = m.map (·.f0)) : newBag l = newBag m := by
  have e : ∀ (n : Nat) (x : Int), newB l n x = newB m n x := by
    intro n
    induction n with
    | zero => intro x; rfl
    | succ n ih => intro x; rw [newB, newB, any_bag h, ih]
  unfold newBag; rw [cntB_bags 1 l m h, e]
theorem spec_new_in (L G : Int) (H : Bool) (l : List It) (hl : l.length ≤ 1048600) (x : Int) (r : Int) (hr : Ev (fun k => if l.any (fun y => y.f0 == x) = true then spec_l02New.l0 k (wrap64 (x + 1)) L G H l else some x) r) (d : Nat) : ∀ (i : Nat) (b : Bool), i + d = l.length → (b || (l.drop i).any (fun y => y.f0 == x)) = l.any (fun y => y.f0 == x) →
    Ev (fun k => spec_l02New.l1 k x b i L G H l) r := by
  induction d with
  | zero =>
    intro i b hi hb
    rw [List.drop_eq_nil_of_le (by omega), List.any_nil, Bool.or_false] at hb
    subst hb
    exact Ev.step (fun k => by rw [spec_l02New.l1, if_neg (show ¬ (i : Int) < (l.length : Int) by omega)]) hr
  | succ d ih =>
    intro i b hi hb
    have hlt : i < l.length := by omega
    have e1 : wrap64 ((i : Int) + 1) = ((i + 1 : Nat) : Int) := w64 (by omega) (by omega)
    rw [drop_item l i hlt, List.any_cons] at hb
    cases b with
    | true =>
      refine Ev.step (fun k => by rw [spec_l02New.l1, if_pos (show (i : Int) < (l.length : Int) by omega), if_pos rfl, e1]) ?_
      exact ih (i + 1) true (by omega) (by simpa using hb)
    | false =>
      refine Ev.step (fun k => by rw [spec_l02New.l1, if_pos (show (i : Int) < (l.length : Int) by omega), if_neg (by decide), if_pos (show (0 : Int) ≤ (i : Int) by omega), e1]) ?_
      exact ih (i + 1) _ (by omega) (by simpa using hb)
theorem spec_new_go (L G : Int) (H : Bool) (l : List It) (hl : l.length ≤ 1048600) : ∀ (n : Nat) (x : Int), cntB x l ≤ n → 1 ≤ x → x + (n : Int) ≤ 2000000 → Ev (fun k => spec_l02New.l0 k x L G H l) (newB l n x)
  | n, x, hn, h1, h2 => by
    refine Ev.step (fun k => by rw [spec_l02New.l0]) ?_
    refine spec_new_in L G H l hl x _ ?_ l.length 0 false (by omega) (by simp)
    cases e : l.any (fun y => y.f0 == x) with
    | false =>
      simp only [Bool.false_eq_true, if_false]
      refine ev_some ?_
      cases n with
      | zero => rfl
      | succ n => rw [newB, if_neg (by rw [e]; decide)]
    | true =>
      have e2 := cntB_lt x l e
      simp only [if_true]
      cases n with
      | zero => omega
      | succ n =>
        rw [newB, if_pos e, w64 (by omega) (by omega)]
        exact spec_new_go L G H l hl n (x + 1) (by omega) (by omega) (by omega)
theorem spec_new_ev (L G : Int) (H : Bool) (l : List It) (hl : l.length ≤ 1048600) : Ev (fun k => spec_l02New.f k L G H l) (newBag l) := by
  unfold spec_l02New.f
  have := cntB_len 1 l
  exact spec_new_go L G H l hl _ 1 (Nat.le_refl _) (by omega) (by omega)
theorem spec_step_loop (L G : Int) (H : Bool) (l0 : List It) (hG : 0 ≤ G ∧ G ≤ 20) : ∀ (rest done : List It) (most m0 : Int) (seen : List It), okRun G m0 seen rest = true → m0 ≤ most → most ≤ 400 → -100 ≤ m0 → (done ++ rest).length ≤ 40 →
    ((done = [] ∧ most = L) ∨ ∃ d p, done = d ++ [p] ∧ most = p.f1 - p.f2 - G ∧ p.f1 ≤ 400 ∧ 0 ≤ p.f2 ∧ p.f2 ≤ 60 ∧ 0 ≤ p.f1) →
    Ev (fun k => spec_l02Step.l0 k (done ++ rest) (done.length : Int) L G H l0) (L, G, H, done ++ stepGo G most rest)
  | [], done, most, m0, seen, _, _, _, _, _, _ => by
    refine Ev.step (fun k => by rw [spec_l02Step.l0, if_neg (by simp)]) (ev_some ?_)
    simp [stepGo]
  | x :: rest, done, most, m0, seen, h, hm, h4, hl, hlen, hp => by
    obtain ⟨h1, h2, h3, h5⟩ := okRun_cons h
    have hlt : (done.length : Int) < ((done ++ x :: rest).length : Int) := by simp; omega
    have hlen' : done.length ≤ 40 := by simp at hlen; omega
    have e1 : wrap64 ((done.length : Int) + 1) = ((done.length + 1 : Nat) : Int) := w64 (by omega) (by omega)
    have hyes : x.f1 < most → Ev (fun k => spec_l02Step.l0 k ((done ++ x :: rest).set done.length ⟨x.f0, wrap64 (x.f1 + 1), x.f2⟩) (wrap64 ((done.length : Int) + 1)) L G H l0) (L, G, H, done ++ stepGo G most (x :: rest)) := by
      intro c
      rw [set_mid, w64 (x := x.f1 + 1) (by omega) (by omega), e1]
      have := spec_step_loop L G H l0 hG rest (done ++ [⟨x.f0, x.f1 + 1, x.f2⟩]) (x.f1 + 1 - x.f2 - G) (x.f1 - x.f2 - G) (seen ++ [x]) h5 (by omega) (by omega) (by omega) (by simp at hlen ⊢; omega) (.inr ⟨done, _, rfl, rfl, by simp only; omega, by simp only; omega, by simp only; omega, by simp only; omega⟩)
      have ed : ((done ++ [(⟨x.f0, x.f1 + 1, x.f2⟩ : It)]).length : Int) = ((done.length + 1 : Nat) : Int) := by simp
      have er : (done ++ [(⟨x.f0, x.f1 + 1, x.f2⟩ : It)]) ++ stepGo G (x.f1 + 1 - x.f2 - G) rest = done ++ stepGo G most (x :: rest) := by
        rw [stepGo, if_pos c, List.append_assoc]; rfl
      rw [ed, er] at this
      exact this
    have hno : ¬ x.f1 < most → Ev (fun k => spec_l02Step.l0 k (done ++ x :: rest) (wrap64 ((done.length : Int) + 1)) L G H l0) (L, G, H, done ++ stepGo G most (x :: rest)) := by
      intro c
      rw [e1]
      have := spec_step_loop L G H l0 hG rest (done ++ [x]) (x.f1 - x.f2 - G) (x.f1 - x.f2 - G) (seen ++ [x]) h5 (by omega) (by omega) (by omega) (by simp at hlen ⊢; omega) (.inr ⟨done, _, rfl, rfl, by omega, by omega, by omega, by omega⟩)
      have ed : ((done ++ [x]).length : Int) = ((done.length + 1 : Nat) : Int) := by simp
      have er : (done ++ [x]) ++ stepGo G (x.f1 - x.f2 - G) rest = done ++ stepGo G most (x :: rest) := by
        rw [stepGo, if_neg c, List.append_assoc]; rfl
      have er2 : (done ++ [x]) ++ rest = done ++ x :: rest := by rw [List.append_assoc]; rfl
      rw [ed, er, er2] at this
      exact this
    rcases hp with ⟨rfl, rfl⟩ | ⟨d, p, rfl, rfl, b1, b2, b3, b4⟩
    · refine Ev.step (fun k => by rw [spec_l02Step.l0, if_pos hlt, if_neg (show ¬ (([] : List It).length : Int) > 0 by simp), if_pos (show (0 : Int) ≤ (([] : List It).length : Int) by simp), rd_mid]) ?_
      by_cases c : x.f1 < most
      · simp only [if_pos c]; exact hyes c
      · simp only [if_neg c]; exact hno c
    · have e2 : wrap64 (((d ++ [p]).length : Int) - 1) = (d.length : Int) := by rw [w64 (by omega) (by omega)]; simp
      refine Ev.step (fun k => by rw [spec_l02Step.l0, if_pos hlt, if_pos (show ((d ++ [p]).length : Int) > 0 by simp only [List.length_append, List.length_cons, List.length_nil]; omega), e2, if_pos (show (0 : Int) ≤ (d.length : Int) by omega), if_pos (by simp only [List.length_append, List.length_cons, List.length_nil]; omega), if_pos (show (0 : Int) ≤ ((d ++ [p]).length : Int) by omega), rd_mid, rd_mid', w64 (x := p.f1 - p.f2) (by omega) (by omega), w64 (x := p.f1 - p.f2 - G) (by omega) (by omega)]) ?_
      by_cases c : x.f1 < p.f1 - p.f2 - G
      · simp only [if_pos c]; exact hyes c
      · simp only [if_neg c]; exact hno c
theorem spec_step_ev {L G : Int} (H : Bool) {l : List It} (h : okB L G l = true) : Ev (fun k => spec_l02Step.f k L G H l) (L, G, H, stepGo G L l) := by
  have h1 := okB_len h
  unfold spec_l02Step.f
  simp only [Option.bind_some, List.nil_append, List.length_nil, Nat.zero_add, if_pos (show l.length < 5864062014805 by omega)]
  have := spec_step_loop L G H l (by omega) l [] L L [] (okB_run h) (Int.le_refl _) (by omega) (by omega) (by simpa using h1.2.2.2.2) (.inl ⟨rfl, rfl⟩)
  simpa using this

theorem fresh_ev (L G : Int) (H : Bool) (l : List It) (hl : l.length ≤ 1048600) : spec_l02Fresh.f L G H l = some (L, G, H, l) := by
  unfold spec_l02Fresh.f
  simp only [Option.bind_some, List.nil_append, List.length_nil, Nat.zero_add, if_pos (show l.length < 5864062014805 by omega)]


theorem spec_move_loop (L G : Int) (H : Bool) (N : Nat) (hN : N ≤ 5000) : ∀ (n i : Nat) (l : List It), i + n = N → okB L G l = true → Ev (fun k => spec_Move.l0 k (N : Int) (i : Int) L G H l) (L, G, H, moveM G L n l)
  | 0, i, l, hi, h => Ev.step (f := fun _ => some (L, G, H, l)) (fun k => by rw [spec_Move.l0, if_neg (by omega)]) (Ev.now _)
  | n + 1, i, l, hi, h => by
    have e1 : wrap64 ((i : Int) + 1) = ((i + 1 : Nat) : Int) := w64 (by omega) (by omega)
    refine Ev.step (fun k => by rw [spec_Move.l0, if_pos (show (i : Int) < (N : Int) by omega), e1]) ?_
    refine ev_bind _ (spec_step_ev H h) ?_
    exact spec_move_loop L G H N hN n (i + 1) (stepGo G L l) (by omega) (okB_step h)
theorem spec_move_ev (L G : Int) (H : Bool) (l : List It) (s : Int) (hl : l.length ≤ 1048600) : Ev (fun k => spec_Move.f k L G H l s) (L, G, H, moveR L G l s) := by
  unfold spec_Move.f moveR
  simp only [fresh_ev L G H l hl, Option.bind_some]
  refine ev_bind _ (spec_ok_ev L G H l) ?_
  cases h : okB L G l with
  | false =>
    simp only [if_neg (show ¬ (false = true) by decide), false_and, if_false, Bool.false_eq_true]
    exact Ev.step (fun k => by rw [spec_Move.j0, if_pos rfl]) (Ev.now _)
  | true =>
    simp only [if_true, spec_in, Option.bind_some, true_and]
    by_cases c : 0 ≤ s ∧ s ≤ 2000
    · rw [decide_eq_true c, if_pos c]
      refine Ev.step (fun k => by rw [spec_Move.j0, if_neg (by decide)]) ?_
      have := spec_move_loop L G H s.toNat (by omega) s.toNat 0 l (by omega) h
      rw [Int.toNat_of_nonneg c.1] at this
      exact this
    · rw [decide_eq_false c, if_neg c]
      exact Ev.step (fun k => by rw [spec_Move.j0, if_pos (show (!false) = true from rfl)]) (Ev.now _)
theorem impl_ok_loop (L G : Int) (H : Bool) (l : List It) (hG : 0 ≤ G ∧ G ≤ 20) (hl : l.length ≤ 40) (d : Nat) : ∀ (i : Nat) (most : Int), i + d = l.length → -100 ≤ most → most ≤ 400 →
    Ev (fun k => impl_BeltOk.l0 k most l (l.length : Int) i L G H l) (okRun G most (l.take i) (l.drop i)) := by
  induction d with
  | zero =>
    intro i most hi h0 h1
    rw [List.drop_eq_nil_of_le (by omega)]
    exact Ev.step (f := fun _ => some true) (fun k => by rw [impl_BeltOk.l0, if_neg (show ¬ (i : Int) < (l.length : Int) by omega)]) (ev_some rfl)
  | succ d ih =>
    intro i most hi h0 h1
    have hlt : i < l.length := by omega
    have e1 : wrap64 ((i : Int) + 1) = ((i + 1 : Nat) : Int) := w64 (by omega) (by omega)
    rw [drop_item l i hlt]
    generalize hx : rd_T53 l (i : Int) = x
    refine Ev.step (fun k => by rw [impl_BeltOk.l0, if_pos (show (i : Int) < (l.length : Int) by omega), if_pos (show (0 : Int) ≤ (i : Int) by omega), if_pos (show (i : Int) < (l.length : Int) by omega), if_pos (show (i : Int) ≤ (l.length : Int) by omega), hx]) ?_
    simp only [okRun, impl_isOn.f, Option.bind_some, Int.toNat_natCast]
    by_cases c1 : x.f0 < 1
    · simp only [if_pos c1]
      rw [decide_eq_false (show ¬ 1 ≤ x.f0 by omega)]
      exact ev_some (by simp)
    · simp only [if_neg c1]
      rw [decide_eq_true (show 1 ≤ x.f0 by omega)]
      cases c2 : (l.take i).any (fun y => y.f0 == x.f0) with
      | true => exact ev_some (by simp)
      | false =>
        simp only [if_neg (show ¬ (false = true) by decide)]
        by_cases c3 : 1 ≤ x.f2 ∧ x.f2 ≤ 60 ∧ x.f2 ≤ x.f1 ∧ x.f1 ≤ most
        · rw [decide_eq_true c3]
          simp only [if_neg (show ¬ x.f2 < 1 by omega), if_neg (show ¬ x.f2 > 60 by omega), if_neg (show ¬ x.f1 < x.f2 by omega), if_neg (show ¬ x.f1 > most by omega)]
          rw [w64 (x := x.f1 - x.f2) (by omega) (by omega), w64 (x := x.f1 - x.f2 - G) (by omega) (by omega), e1]
          have := ih (i + 1) (x.f1 - x.f2 - G) (by omega) (by omega) (by omega)
          rw [take_item l i hlt, hx] at this
          simpa using this
        · rw [decide_eq_false c3]
          have : (true && !false && false && okRun G (x.f1 - x.f2 - G) (l.take i ++ [x]) (l.drop (i + 1))) = false := by simp
          rw [this]
          by_cases d1 : x.f2 < 1
          · simp only [if_pos d1]; exact Ev.now _
          · by_cases d2 : x.f2 > 60
            · simp only [if_neg d1, if_pos d2]; exact Ev.now _
            · by_cases d3 : x.f1 < x.f2
              · simp only [if_neg d1, if_neg d2, if_pos d3]; exact Ev.now _
              · simp only [if_neg d1, if_neg d2, if_neg d3, if_pos (show x.f1 > most by omega)]; exact Ev.now _
theorem impl_ok_ev (L G : Int) (H : Bool) (l : List It) : Ev (fun k => impl_BeltOk.f k L G H l) (okB L G l) := by
  unfold impl_BeltOk.f
  have hf : ∀ L G H, Ev (fun k => impl_BeltOk.j0 k true L G H l) false := fun L G H => Ev.step (fun k => by rw [impl_BeltOk.j0, if_pos rfl]) (Ev.now _)
  have hb : ¬ (1 ≤ L ∧ L ≤ 400 ∧ 0 ≤ G ∧ G ≤ 20 ∧ l.length ≤ 40) → okB L G l = false := fun h => by unfold okB; rw [decide_eq_false h]; rfl
  by_cases c1 : L < 1
  · simp only [if_pos c1]; rw [hb (by omega)]; exact hf _ _ _
  · by_cases c2 : L > 400
    · simp only [if_neg c1, if_pos c2]; rw [hb (by omega)]; exact hf _ _ _
    · by_cases c3 : G < 0
      · simp only [if_neg c1, if_neg c2, if_pos c3]; rw [hb (by omega)]; exact hf _ _ _
      · by_cases c4 : G > 20
        · simp only [if_neg c1, if_neg c2, if_neg c3, if_pos c4]; rw [hb (by omega)]; exact hf _ _ _
        · simp only [if_neg c1, if_neg c2, if_neg c3, if_neg c4]
          by_cases c5 : (l.length : Int) > 40
          · rw [decide_eq_true c5, hb (by omega)]; exact hf _ _ _
          · rw [decide_eq_false c5]
            refine Ev.step (fun k => by rw [impl_BeltOk.j0, if_neg (by decide)]) ?_
            have := impl_ok_loop L G H l (by omega) (by omega) l.length 0 L (by omega) (by omega) (by omega)
            unfold okB
            rw [decide_eq_true (by omega)]
            simpa using this

theorem impl_free_ev (L G : Int) (H : Bool) (l : List It) : Ev (fun k => impl_FreeBehind.f k L G H l) (freeR L G l) := by
  unfold impl_FreeBehind.f freeR
  refine ev_bind _ (impl_ok_ev L G H l) ?_
  cases h : okB L G l with
  | false => simp only [Bool.false_eq_true, if_false]; exact Ev.now _
  | true =>
    have h1 := okB_len h
    simp only [if_true]
    refine ev_const ?_
    cases l with
    | nil => simp
    | cons x t =>
      have hne : x :: t ≠ [] := by simp
      have hl : 0 < (x :: t).length := by simp
      have hm := okB_mem h _ (rd_mem (x :: t) ((x :: t).length - 1) (by omega))
      have e : wrap64 (((x :: t).length : Int) - 1) = (((x :: t).length - 1 : Nat) : Int) := by rw [w64 (by omega) (by omega)]; omega
      rw [last_item _ hne]
      generalize hw : x :: t = w at *
      rw [if_neg (by omega), e, if_pos (by omega), if_pos (by omega), w64 (x := _ - (rd_T53 w ((w.length - 1 : Nat) : Int)).f2) (by omega) (by omega), w64 (by omega) (by omega)]
/-- What Enter returns. -/
def enterR (L G : Int) (l : List It) (bag size : Int) : List It × Bool :=
  if okB L G l = true ∧ 1 ≤ bag ∧ 1 ≤ size ∧ size ≤ 60 ∧ l.length < 40 ∧ size ≤ freeR L G l ∧ l.any (fun y => y.f0 == bag) = false then (l ++ [⟨bag, size, size⟩], true) else (l, false)
theorem enterR_len (L G : Int) (l : List It) (bag size : Int) : (enterR L G l bag size).1.length ≤ l.length + 1 := by
  unfold enterR; split <;> simp
theorem copy_ev (L G : Int) (H : Bool) (l : List It) (hl : l.length ≤ 1048600) : impl_copyBelt.f L G H l = some (L, G, H, l) := by
  unfold impl_copyBelt.f slices_Clone.f
  rw [if_pos (by omega), Option.bind_some]
theorem impl_enter_ev (L G : Int) (H : Bool) (l : List It) (bag size : Int) (hl : l.length ≤ 1048600) : Ev (fun k => impl_Enter.f k L G H l bag size) (L, G, H, enterR L G l bag size) := by
  unfold impl_Enter.f
  simp only [copy_ev L G H l hl, Option.bind_some]
  refine ev_bind _ (impl_ok_ev L G H l) ?_
  have no : ¬ (okB L G l = true ∧ 1 ≤ bag ∧ 1 ≤ size ∧ size ≤ 60 ∧ l.length < 40 ∧ size ≤ freeR L G l ∧ l.any (fun y => y.f0 == bag) = false) → enterR L G l bag size = (l, false) := fun h => by unfold enterR; rw [if_neg h]
  cases h : okB L G l with
  | false =>
    rw [no (by rw [h]; simp)]
    simp only [Bool.false_eq_true, if_false]; exact Ev.now _
  | true =>
    simp only [if_true, impl_isOn.f, Option.bind_some]
    by_cases c1 : bag < 1
    · rw [no (by omega)]; simp only [if_pos c1]; exact Ev.now _
    · simp only [if_neg c1]
      cases c2 : l.any (fun y => y.f0 == bag) with
      | true => rw [no (by rw [c2]; simp)]; simp only [if_true]; exact Ev.now _
      | false =>
        simp only [if_neg (show ¬ (false = true) by decide)]
        by_cases c3 : size < 1
        · rw [no (by omega)]; simp only [if_pos c3]; exact Ev.now _
        · by_cases c4 : size > 60
          · rw [no (by omega)]; simp only [if_neg c3, if_pos c4]; exact Ev.now _
          · by_cases c5 : (l.length : Int) ≥ 40
            · rw [no (by omega)]; simp only [if_neg c3, if_neg c4, if_pos c5]; exact Ev.now _
            · simp only [if_neg c3, if_neg c4, if_neg c5]
              refine ev_bind _ (impl_free_ev L G H l) ?_
              by_cases c6 : size > freeR L G l
              · rw [no (by omega)]; simp only [if_pos c6]; exact Ev.now _
              · have hyes : enterR L G l bag size = (l ++ [⟨bag, size, size⟩], true) := by
                  unfold enterR; rw [if_pos (show (okB L G l = true ∧ 1 ≤ bag ∧ 1 ≤ size ∧ size ≤ 60 ∧ l.length < 40 ∧ size ≤ freeR L G l ∧ l.any (fun y => y.f0 == bag) = false) from ⟨h, by omega, by omega, by omega, by omega, by omega, c2⟩)]
                rw [hyes]
                simp only [if_neg c6, if_pos (show l.length < 5864062014805 by omega)]
                exact Ev.now _
/-- All items as far on as they can be. -/
def pressGo (G : Int) : Int → List It → List It
  | _, [] => []
  | most, x :: l => ⟨x.f0, most, x.f2⟩ :: pressGo G (most - x.f2 - G) l
theorem go_press (G : Int) (hG : 0 ≤ G) : ∀ (l : List It) (m0 most : Int) (s : List It), okRun G m0 s l = true → most ≤ 400 → goN G 400 most l = pressGo G most l
  | [], _, _, _, _, _ => rfl
  | x :: l, m0, most, s, h, hm => by
    obtain ⟨_, _, h3, h4⟩ := okRun_cons h
    have e : min (x.f1 + ((400 : Nat) : Int)) most = most := by omega
    unfold goN pressGo
    rw [e, go_press G hG l _ _ _ h4 (by omega)]
theorem press_eq {L G : Int} {l : List It} (h : okB L G l = true) : moveM G L 400 l = pressGo G L l := by
  have a := okB_len h
  rw [move_eq h 400]
  exact go_press G (by omega) l L L [] (okB_run h) (by omega)
theorem impl_pressed_loop (L G : Int) (H : Bool) (hG : 0 ≤ G ∧ G ≤ 20) : ∀ (r a : List It) (most m0 : Int) (s : List It), okRun G m0 s r = true → m0 ≤ most → most ≤ 400 → (a.length + r.length : Nat) ≤ 100 →
    Ev (fun k => impl_pressed.l0 k most ((a.length + r.length : Nat) : Int) (a.length : Int) L G H (a ++ r)) (a ++ pressGo G most r)
  | [], a, most, m0, s, _, _, _, _ => Ev.step (f := fun _ => some (a ++ [])) (fun k => by rw [impl_pressed.l0, if_neg (by simp)]) (Ev.now _)
  | x :: r, a, most, m0, s, h, h0, h1, h2 => by
    obtain ⟨_, _, h3, h4⟩ := okRun_cons h
    simp only [List.length_cons] at h2
    have e1 : wrap64 ((a.length : Int) + 1) = ((a ++ [(⟨x.f0, most, x.f2⟩ : It)]).length : Int) := by rw [w64 (by omega) (by omega)]; simp
    have e2 : wrap64 (most - wrap64 (x.f2 + G)) = most - x.f2 - G := by rw [w64 (x := x.f2 + G) (by omega) (by omega), w64 (by omega) (by omega)]; omega
    refine Ev.step (fun k => by rw [impl_pressed.l0, if_pos (show (a.length : Int) < ((a.length + (x :: r).length : Nat) : Int) by simp only [List.length_cons]; omega), if_pos (show (0 : Int) ≤ (a.length : Int) by omega), if_pos (show (a.length : Int) < ((a ++ x :: r).length : Int) by simp only [List.length_append, List.length_cons]; omega), rd_mid, e1, e2, Int.toNat_natCast, set_mid]) ?_
    have := impl_pressed_loop L G H hG r (a ++ [(⟨x.f0, most, x.f2⟩ : It)]) (most - x.f2 - G) (x.f1 - x.f2 - G) (s ++ [x]) h4 (by omega) (by omega) (by simp; omega)
    rw [pressGo, show a ++ (⟨x.f0, most, x.f2⟩ : It) :: pressGo G (most - x.f2 - G) r = (a ++ [(⟨x.f0, most, x.f2⟩ : It)]) ++ pressGo G (most - x.f2 - G) r by simp]
    rw [show ((a ++ [(⟨x.f0, most, x.f2⟩ : It)]).length + r.length : Nat) = a.length + (x :: r).length by simp; omega] at this
    exact this
theorem impl_pressed_ev {L G : Int} (H : Bool) {l : List It} (h : okB L G l = true) : Ev (fun k => impl_pressed.f k L G H l) (moveM G L 400 l) := by
  have a := okB_len h
  have := impl_pressed_loop L G H (by omega) l [] L L [] (okB_run h) (by omega) (by omega) (by simp; omega)
  rw [press_eq h]
  unfold impl_pressed.f
  simpa using this
/-- How many of the sizes enter, one after the other. -/
def roomGo (L G : Int) : List It → List Int → Nat
  | _, [] => 0
  | l, s :: ss => if (moveM G L 400 l).length ≥ 40 ∨ s > freeR L G (moveM G L 400 l) then 0 else 1 + roomGo L G (moveM G L 400 l ++ [⟨newBag l, s, s⟩]) ss
def roomR (L G : Int) (l : List It) (ss : List Int) : Int := if okB L G l = true ∧ ss.any containsInts.bad = false then (roomGo L G l ss : Int) else -1
theorem move_ok {L G : Int} {l : List It} (h : okB L G l = true) : moveR L G l 400 = moveM G L 400 l := move_ok_n h 400 400 (by decide) (by decide)
theorem spec_room_loop (L G : Int) (H : Bool) (ss : List Int) (hs : ss.length ≤ 1048576) (hb : ∀ s ∈ ss, 1 ≤ s ∧ s ≤ 60) (d : Nat) : ∀ (i : Nat) (l : List It), i + d = ss.length → okB L G l = true →
    Ev (fun k => spec_RoomFor.l1 k ss i L G H (moveM G L 400 l)) ((i : Int) + (roomGo L G l (ss.drop i) : Int)) := by
  induction d with
  | zero =>
    intro i l hi h
    rw [List.drop_eq_nil_of_le (by omega)]
    refine Ev.step (f := fun _ => some (ss.length : Int)) (fun k => by rw [spec_RoomFor.l1, if_neg (show ¬ (i : Int) < (ss.length : Int) by omega)]) (ev_some ?_)
    unfold roomGo; omega
  | succ d ih =>
    intro i l hi h
    have hlt : i < ss.length := by omega
    have e1 : wrap64 ((i : Int) + 1) = ((i + 1 : Nat) : Int) := w64 (by omega) (by omega)
    have hsz := hb (rd ss (i : Int)) (by rw [rd_int ss i hlt]; exact List.getElem_mem _)
    have hok := okB_move (G := G) (L := L) 400 h
    have hlen := okB_len hok
    rw [drop_int ss i hlt, roomGo]
    refine Ev.step (fun k => by rw [spec_RoomFor.l1, if_pos (show (i : Int) < (ss.length : Int) by omega)]) ?_
    have hend : ∀ L' G' H' l', Ev (fun k => spec_RoomFor.j2 k ss i true L' G' H' l') (i : Int) := fun _ _ _ _ => Ev.step (fun k => by rw [spec_RoomFor.j2, if_pos rfl]) (Ev.now _)
    by_cases c1 : (moveM G L 400 l).length ≥ 40
    · rw [if_pos (.inl c1)]
      simp only [if_pos (show ((moveM G L 400 l).length : Int) ≥ 40 by omega)]
      have := hend L G H (moveM G L 400 l)
      simpa using this
    · simp only [if_neg (show ¬ ((moveM G L 400 l).length : Int) ≥ 40 by omega), if_pos (show (0 : Int) ≤ (i : Int) by omega)]
      refine ev_bind _ (spec_free_ev L G H _) ?_
      by_cases c2 : rd ss (i : Int) > freeR L G (moveM G L 400 l)
      · rw [if_pos (.inr c2), decide_eq_true c2]
        have := hend L G H (moveM G L 400 l)
        simpa using this
      · rw [if_neg (by omega), decide_eq_false c2]
        have hnb : newBag (moveM G L 400 l) = newBag l := newBag_bags (moveM_bags G L 400 l)
        have hok2 : okB L G (moveM G L 400 l ++ [⟨newBag l, rd ss (i : Int), rd ss (i : Int)⟩]) = true := by
          rw [← hnb]
          exact okB_snoc hok _ _ (newBag_lo _) (newBag_any _) hsz.1 hsz.2 (by omega) (by omega)
        refine Ev.step (fun k => by rw [spec_RoomFor.j2, if_neg (by decide), Option.bind_some, if_pos (by simp only [List.length_nil]; omega), Option.bind_some, List.nil_append, e1]) ?_
        refine ev_bind _ (spec_new_ev L G H _ (by omega)) ?_
        rw [hnb]
        simp only [if_pos (show (0 : Int) ≤ (i : Int) by omega), if_pos (show (i : Int) < (ss.length : Int) by omega), if_pos (show (moveM G L 400 l).length < 5864062014805 by omega)]
        refine ev_bind _ (spec_move_ev L G H _ 400 (by simp only [List.length_append, List.length_cons, List.length_nil]; omega)) ?_
        rw [move_ok hok2]
        dsimp only
        have := ih (i + 1) _ (by omega) hok2
        rw [show (i : Int) + ((1 + roomGo L G (moveM G L 400 l ++ [⟨newBag l, rd ss (i : Int), rd ss (i : Int)⟩]) (ss.drop (i + 1)) : Nat) : Int) = ((i + 1 : Nat) : Int) + (roomGo L G (moveM G L 400 l ++ [⟨newBag l, rd ss (i : Int), rd ss (i : Int)⟩]) (ss.drop (i + 1)) : Int) by omega]
        exact this
theorem spec_sizes_loop (L G : Int) (H : Bool) (ss : List Int) (hs : ss.length ≤ 1048576) (l : List It) (r : Int) (h1 : ss.any containsInts.bad = false → Ev (fun k => (spec_Move.f k L G H l 400).bind fun bt => spec_RoomFor.l1 k ss 0 bt.1 bt.2.1 bt.2.2.1 bt.2.2.2) r) (h2 : ss.any containsInts.bad = true → r = -1) (d : Nat) : ∀ (i : Nat), i + d = ss.length → ss.any containsInts.bad = (ss.drop i).any containsInts.bad →
    Ev (fun k => spec_RoomFor.l0 k ss i L G H l) r := by
  induction d with
  | zero =>
    intro i hi h
    rw [List.drop_eq_nil_of_le (by omega), List.any_nil] at h
    refine Ev.step (fun k => by rw [spec_RoomFor.l0, if_neg (show ¬ (i : Int) < (ss.length : Int) by omega)]) (h1 h)
  | succ d ih =>
    intro i hi h
    have hlt : i < ss.length := by omega
    have e1 : wrap64 ((i : Int) + 1) = ((i + 1 : Nat) : Int) := w64 (by omega) (by omega)
    rw [drop_int ss i hlt, List.any_cons] at h
    refine Ev.step (fun k => by rw [spec_RoomFor.l0, if_pos (show (i : Int) < (ss.length : Int) by omega), if_pos (show (0 : Int) ≤ (i : Int) by omega), spec_in, Option.bind_some, e1]) ?_
    by_cases c : 1 ≤ rd ss (i : Int) ∧ rd ss (i : Int) ≤ 60
    · have hb : containsInts.bad (rd ss (i : Int)) = false := by simp [containsInts.bad]; omega
      simp only [if_pos (decide_eq_true c)]
      exact ih (i + 1) (by omega) (by rw [hb, Bool.false_or] at h; exact h)
    · have hb : containsInts.bad (rd ss (i : Int)) = true := by simp [containsInts.bad]; omega
      rw [decide_eq_false c]
      simp only [if_neg (show ¬ (false = true) by decide)]
      rw [h2 (by rw [h, hb]; rfl)]
      exact Ev.now _
theorem not_bad {ss : List Int} (h : ss.any containsInts.bad = false) : ∀ s ∈ ss, 1 ≤ s ∧ s ≤ 60 := fun s hs => by
  have := List.any_eq_false.1 h s hs
  simp [containsInts.bad] at this
  omega
theorem spec_room_ev (L G : Int) (H : Bool) (l : List It) (hl : l.length ≤ 1048600) (ss : List Int) (hs : ss.length ≤ 1048576) : Ev (fun k => spec_RoomFor.f k L G H l ss) (roomR L G l ss) := by
  unfold spec_RoomFor.f
  refine ev_bind _ (spec_ok_ev L G H l) ?_
  unfold roomR
  cases h : okB L G l with
  | false => simp only [Bool.false_eq_true, if_false, false_and]; exact Ev.now _
  | true =>
    simp only [if_true, true_and]
    refine spec_sizes_loop L G H ss hs l _ (fun hb => ?_) (fun hb => by rw [if_neg (by rw [hb]; decide)]) ss.length 0 (by omega) (by simp)
    rw [if_pos hb]
    refine ev_bind _ (spec_move_ev L G H l 400 hl) ?_
    rw [move_ok h]
    have := spec_room_loop L G H ss hs (not_bad hb) ss.length 0 l (by omega) h
    simpa using this
theorem impl_bag_loop (L G : Int) (H : Bool) (ss : List Int) (l : List It) (hl : l.length ≤ 100) (x7 x8 x21 x22 : Int) (x20 : List Int) : ∀ (n : Nat) (x : Int), cntB x l ≤ n → 1 ≤ x → x + (n : Int) ≤ 2000000 → ∀ r,
    Ev (fun k => (impl_pressed.f k L G H l).bind fun t => (impl_Enter.f k L G H t (newB l n x) x8).bind fun bt => if bt.2.2.2.2 = true then impl_RoomFor.l0 k ss (newB l n x) x20 x21 (wrap64 (x22 + 1)) bt.1 bt.2.1 bt.2.2.1 bt.2.2.2.1 else some x7) r →
    Ev (fun k => impl_RoomFor.l1 k ss x x7 x8 x20 x21 x22 L G H l) r
  | n, x, hn, h1, h2, r, hr => by
    refine Ev.step (fun k => by rw [impl_RoomFor.l1, impl_isOn.f, Option.bind_some]) ?_
    cases e : l.any (fun y => y.f0 == x) with
    | false =>
      simp only [Bool.false_eq_true, if_false]
      cases n with
      | zero => exact hr
      | succ n => rw [newB, if_neg (by rw [e]; decide)] at hr; exact hr
    | true =>
      have e2 := cntB_lt x l e
      simp only [if_true]
      cases n with
      | zero => omega
      | succ n =>
        rw [newB, if_pos e] at hr
        rw [w64 (x := x + 1) (by omega) (by omega)]
        exact impl_bag_loop L G H ss l hl x7 x8 x21 x22 x20 n (x + 1) (by omega) (by omega) (by omega) r hr
theorem impl_room_loop (L G : Int) (H : Bool) (ss : List Int) (hs : ss.length ≤ 1048576) (hb : ∀ s ∈ ss, 1 ≤ s ∧ s ≤ 60) (d : Nat) : ∀ (i : Nat) (l : List It) (x : Int), i + d = ss.length → okB L G l = true → 1 ≤ x → (∀ c, 1 ≤ c → c < x → l.any (fun y => y.f0 == c) = true) → x + (cntB x l : Int) ≤ (l.length : Int) + 1 →
    Ev (fun k => impl_RoomFor.l0 k ss x ss (ss.length : Int) i L G H l) ((i : Int) + (roomGo L G l (ss.drop i) : Int)) := by
  induction d with
  | zero =>
    intro i l x hi h _ _ _
    rw [List.drop_eq_nil_of_le (by omega)]
    refine Ev.step (f := fun _ => some (ss.length : Int)) (fun k => by rw [impl_RoomFor.l0, if_neg (show ¬ (i : Int) < (ss.length : Int) by omega)]) (ev_some ?_)
    unfold roomGo; omega
  | succ d ih =>
    intro i l x hi h hx1 hx2 hx3
    have hlt : i < ss.length := by omega
    have e1 : wrap64 ((i : Int) + 1) = ((i + 1 : Nat) : Int) := w64 (by omega) (by omega)
    have hsz := hb (rd ss (i : Int)) (by rw [rd_int ss i hlt]; exact List.getElem_mem _)
    have hlen0 := okB_len h
    have hok := okB_move (G := G) (L := L) 400 h
    have hlen := okB_len hok
    have hmb := moveM_bags G L 400 l
    have hany : (moveM G L 400 l).any (fun y => y.f0 == newBag l) = false := by rw [any_bag hmb]; exact newBag_any l
    rw [drop_int ss i hlt, roomGo]
    refine Ev.step (fun k => by rw [impl_RoomFor.l0, if_pos (show (i : Int) < (ss.length : Int) by omega), if_pos (show (0 : Int) ≤ (i : Int) by omega), if_pos (show (i : Int) < (ss.length : Int) by omega)]) ?_
    refine impl_bag_loop L G H ss l (by omega) _ _ _ _ _ (cntB x l) x (Nat.le_refl _) hx1 (by omega) _ ?_
    have hsp := newB_spec l (cntB x l) x (Nat.le_refl _)
    rw [newBag_of l x hx1 hx2] at hsp ⊢
    refine ev_bind _ (impl_pressed_ev H h) ?_
    refine ev_bind _ (impl_enter_ev L G H _ (newBag l) (rd ss (i : Int)) (by omega)) ?_
    rw [e1]
    by_cases c : (moveM G L 400 l).length ≥ 40 ∨ rd ss (i : Int) > freeR L G (moveM G L 400 l)
    · have e : enterR L G (moveM G L 400 l) (newBag l) (rd ss (i : Int)) = (moveM G L 400 l, false) := by unfold enterR; rw [if_neg (by omega)]
      rw [if_pos c, e]
      simp only [Bool.false_eq_true, if_false]
      exact ev_some (by simp)
    · have e : enterR L G (moveM G L 400 l) (newBag l) (rd ss (i : Int)) = (moveM G L 400 l ++ [⟨newBag l, rd ss (i : Int), rd ss (i : Int)⟩], true) := by
        unfold enterR
        rw [if_pos (show (okB L G (moveM G L 400 l) = true ∧ 1 ≤ newBag l ∧ 1 ≤ rd ss (i : Int) ∧ rd ss (i : Int) ≤ 60 ∧ (moveM G L 400 l).length < 40 ∧ rd ss (i : Int) ≤ freeR L G (moveM G L 400 l) ∧ (moveM G L 400 l).any (fun y => y.f0 == newBag l) = false) from ⟨hok, newBag_lo l, hsz.1, hsz.2, by omega, by omega, hany⟩)]
      rw [if_neg c, e]
      simp only [if_true]
      have hok2 : okB L G (moveM G L 400 l ++ [⟨newBag l, rd ss (i : Int), rd ss (i : Int)⟩]) = true :=
        okB_snoc hok _ _ (newBag_lo _) hany hsz.1 hsz.2 (by omega) (by omega)
      have := ih (i + 1) _ (newBag l) (by omega) hok2 (newBag_lo l) (fun q h1 h2 => by
        rw [List.any_append, any_bag hmb]
        have : l.any (fun y => y.f0 == q) = true := by
          by_cases hq : q < x
          · exact hx2 q h1 hq
          · exact hsp.2.2.1 q (by omega) h2
        rw [this]; rfl) (by
          rw [cntB_app, cntB_bags (newBag l) _ _ hmb]
          have e3 : (moveM G L 400 l).length = l.length := moveM_len G L 400 l
          have e4 := cntB_len (newBag l) [(⟨newBag l, rd ss (i : Int), rd ss (i : Int)⟩ : It)]
          simp only [List.length_append, List.length_cons, List.length_nil] at e4 ⊢
          omega)
      rw [show (i : Int) + ((1 + roomGo L G (moveM G L 400 l ++ [⟨newBag l, rd ss (i : Int), rd ss (i : Int)⟩]) (ss.drop (i + 1)) : Nat) : Int) = ((i + 1 : Nat) : Int) + (roomGo L G (moveM G L 400 l ++ [⟨newBag l, rd ss (i : Int), rd ss (i : Int)⟩]) (ss.drop (i + 1)) : Int) by omega]
      exact this
theorem impl_room_ev (L G : Int) (H : Bool) (l : List It) (hl : l.length ≤ 1048600) (ss : List Int) (hs : ss.length ≤ 1048576) : Ev (fun k => impl_RoomFor.f k L G H l ss) (roomR L G l ss) := by
  unfold impl_RoomFor.f
  refine ev_bind _ (impl_ok_ev L G H l) ?_
  unfold roomR
  have hno : ∀ L' G' H' l', Ev (fun k => impl_RoomFor.j0 k ss true L' G' H' l') (-1) := fun _ _ _ _ => Ev.step (fun k => by rw [impl_RoomFor.j0, if_pos rfl]) (Ev.now _)
  cases h : okB L G l with
  | false => simp only [Bool.false_eq_true, if_false, false_and]; exact hno L G H l
  | true =>
    simp only [if_true, true_and, containsInts.f, Option.bind_some]
    cases hb : ss.any containsInts.bad with
    | true => rw [if_neg (by decide)]; exact hno L G H l
    | false =>
      rw [if_pos rfl]
      refine Ev.step (fun k => by rw [impl_RoomFor.j0, if_neg (by decide), copy_ev L G H l hl, Option.bind_some]) ?_
      have h2 := cntB_len 1 l
      have := impl_room_loop L G H ss hs (not_bad hb) ss.length 0 l 1 (by omega) h (by omega) (fun c h1 h2 => by omega) (by omega)
      simpa using this
theorem eq_ints_loop (l : List Int) (hl : l.length ≤ 1048600) (d : Nat) : ∀ i : Nat, i + d = l.length → Ev (fun k => laws_eqIntS.l0 k l l i) true := by
  induction d with
  | zero =>
    intro i hi
    exact Ev.step (fun k => by rw [laws_eqIntS.l0, if_neg (show ¬ (i : Int) < (l.length : Int) by omega)]) (Ev.now _)
  | succ d ih =>
    intro i hi
    have e1 : wrap64 ((i : Int) + 1) = ((i + 1 : Nat) : Int) := w64 (by omega) (by omega)
    refine Ev.step (fun k => by rw [laws_eqIntS.l0, if_pos (show (i : Int) < (l.length : Int) by omega), if_pos (show (0 : Int) ≤ (i : Int) by omega), if_pos (show (i : Int) < (l.length : Int) by omega), if_pos rfl, e1]) ?_
    exact ih (i + 1) (by omega)
theorem eq_ints_ev (l : List Int) (hl : l.length ≤ 1048600) : Ev (fun k => laws_eqIntS.f k l l) true := by
  unfold laws_eqIntS.f
  simp only [if_true]
  exact eq_ints_loop l hl l.length 0 (by omega)
abbrev LIt := S78
def toM (x : LIt) : It := ⟨x.f0, x.f1, x.f2⟩
theorem to_items_loop (l : List LIt) (hl : l.length ≤ 1048576) (d : Nat) : ∀ (i : Nat) (m : List It), i + d = l.length → m.length = l.length → m.take i = (l.take i).map toM → Ev (fun k => laws_toItemS.l0 k l m i) (l.map toM) := by
  induction d with
  | zero =>
    intro i m hi hm h
    refine Ev.step (fun k => by rw [laws_toItemS.l0, if_neg (show ¬ (i : Int) < (l.length : Int) by omega)]) (ev_some ?_)
    rw [List.take_of_length_le (by omega), List.take_of_length_le (by omega)] at h
    exact h
  | succ d ih =>
    intro i m hi hm h
    have e1 : wrap64 ((i : Int) + 1) = ((i + 1 : Nat) : Int) := w64 (by omega) (by omega)
    have hlt : i < l.length := by omega
    have hr : rd_T78 l (i : Int) = l[i] := by simp [rd_T78, List.getD_eq_getElem?_getD, List.getElem?_eq_getElem hlt]
    refine Ev.step (fun k => by rw [laws_toItemS.l0, if_pos (show (i : Int) < (l.length : Int) by omega), if_pos (show (0 : Int) ≤ (i : Int) by omega), laws_toItem.f, Option.bind_some, if_pos (show (i : Int) < (m.length : Int) by omega), e1, hr, Int.toNat_natCast]) ?_
    refine ih (i + 1) _ (by omega) (by simp [hm]) ?_
    rw [List.take_succ_eq_append_getElem (by simp; omega), List.take_succ_eq_append_getElem hlt, List.map_append, ← h]
    rw [List.take_set, List.set_eq_of_length_le (by simp; omega)]
    simp [toM]
theorem to_items_ev (l : List LIt) (hl : l.length ≤ 1048576) : Ev (fun k => laws_toItemS.f k l) (l.map toM) := by
  unfold laws_toItemS.f
  simp only [if_pos (show (0 : Int) ≤ (l.length : Int) by omega), Int.toNat_natCast, if_pos (show l.length ≤ 11728124029610 by omega)]
  exact to_items_loop l hl l.length 0 _ (by omega) (by simp) rfl
theorem to_belt_ev (L G : Int) (H : Bool) (l : List LIt) (hl : l.length ≤ 1048576) : Ev (fun k => laws_toBelt.f k L G H l) (L, G, H, l.map toM) := by
  unfold laws_toBelt.f
  exact ev_bind _ (to_items_ev l hl) (Ev.now _)
theorem sz_belt (L G : Int) (H : Bool) (l : List LIt) (hl : l.length ≤ 9223372036854775807) : ∃ n, laws_szBelt.f L G H l 1048576 = some n ∧ (n < 0 ∨ l.length ≤ 1048576) := by
  unfold laws_szBelt.f laws_szItemS.f
  have e : wrap64 (1048576 - (l.length : Int)) = 1048576 - (l.length : Int) := w64 (by omega) (by omega)
  rw [e]
  by_cases h : 1048576 - (l.length : Int) < 0
  · rw [if_pos h, Option.bind_some, if_pos (by omega)]
    exact ⟨-1, rfl, .inl (by omega)⟩
  · rw [if_neg h, Option.bind_some, if_neg h]
    exact ⟨_, rfl, .inr (by omega)⟩
theorem eq_item (a b c : Int) : laws_eqItem.f a b c a b c = some true := by unfold laws_eqItem.f; simp
theorem eq_items_loop (l : List It) (hl : l.length ≤ 1048600) (d : Nat) : ∀ i : Nat, i + d = l.length → Ev (fun k => laws_eqItemS.l0 k l l i) true := by
  induction d with
  | zero =>
    intro i hi
    exact Ev.step (fun k => by rw [laws_eqItemS.l0, if_neg (show ¬ (i : Int) < (l.length : Int) by omega)]) (Ev.now _)
  | succ d ih =>
    intro i hi
    have e1 : wrap64 ((i : Int) + 1) = ((i + 1 : Nat) : Int) := w64 (by omega) (by omega)
    refine Ev.step (fun k => by rw [laws_eqItemS.l0, if_pos (show (i : Int) < (l.length : Int) by omega), if_pos (show (0 : Int) ≤ (i : Int) by omega), if_pos (show (i : Int) < (l.length : Int) by omega), eq_item, Option.bind_some, if_pos rfl, e1]) ?_
    exact ih (i + 1) (by omega)
theorem eq_items_ev (l : List It) (hl : l.length ≤ 1048600) : Ev (fun k => laws_eqItemS.f k l l) true := by
  unfold laws_eqItemS.f
  simp only [if_true]
  exact eq_items_loop l hl l.length 0 (by omega)
theorem eq_belt_ev (L G : Int) (H : Bool) (l : List It) (hl : l.length ≤ 1048600) : Ev (fun k => laws_eqBelt.f k L G H l L G H l) true := by
  unfold laws_eqBelt.f
  simp only [if_true, bne_self_eq_false, if_neg (show ¬ (false = true) by decide)]
  exact ev_bind _ (eq_items_ev l hl) (by simp only [if_true]; exact Ev.now _)
theorem FnExactRoomFor : laws_FnExactRoomFor.Pure := by
  intro L G H l ss _ _ hl _ hsl _
  refine Ev.rounds ?_
  unfold laws_FnExactRoomFor.f
  by_cases hs : (ss.length : Int) > 1048576
  · simp only [if_pos hs]; exact Ev.now _
  · simp only [if_neg hs]
    obtain ⟨n, hn, hc⟩ := sz_belt L G H l hl
    simp only [hn, Option.bind_some]
    by_cases h : n < 0
    · simp only [if_pos h]; exact Ev.now _
    · have hl2 : l.length ≤ 1048576 := by omega
      have hm : (l.map toM).length ≤ 1048600 := by simp; omega
      simp only [if_neg h]
      refine ev_bind _ (to_belt_ev L G H l hl2) ?_
      refine ev_bind _ (to_ints_ev ss (by omega)) ?_
      refine ev_bind _ (spec_room_ev L G H _ hm ss (by omega)) ?_
      refine ev_bind _ (to_belt_ev L G H l hl2) ?_
      refine ev_bind _ (to_ints_ev ss (by omega)) ?_
      refine ev_bind _ (impl_room_ev L G H _ hm ss (by omega)) ?_
      simp only [if_true]
      refine ev_bind _ (to_belt_ev L G H l hl2) ?_
      refine ev_bind _ (eq_belt_ev L G H _ hm) ?_
      simp only [if_true]
      refine ev_bind _ (to_ints_ev ss (by omega)) ?_
      refine ev_bind _ (eq_ints_ev ss (by omega)) ?_
      simp only [if_true]
      exact Ev.now _

end Go.Proofs.Ytbdjbdoelbmjcaa.Pure
