-- Written by a program of this session (wip/myprint.py: the kit's print with changes): not by print.sh itself.
import Derived.Test.YtnnimbbffbfhoaaPFnAssignedx0
namespace Go.Proofs.Ytnnimbbffbfhoaa.PFnAssigned
open Go.RowKit Go.Proofs.YtnnimbbffbfhoaaW.PrintWords Go.Proofs.YtnnimbbffbfhoaaW.PrintLast Go.Proofs.YtnnimbbffbfhoaaW.PrintMore
attribute [local go_sem] max2_int min2_int max_two min_two max_three min_three max_four min_four   -- for this text's walks alone
set_option linter.unusedVariables false
set_option linter.unusedSimpArgs false

-- NOT PRINTED: function 101 (impl_Expect_101)

-- NOT PRINTED: function 54 (impl_Expect_54)

/-! ### impl_ExpectOk: function 16 -/
set_option maxHeartbeats 400000 in
theorem impl_ExpectOk.pred (a b c bag : Int) (B : Nat) (W : World) (hc : W.cell? ⟨B, 0, none⟩ = some (.int .i64 bag)) :
    Calls Try.prog 55 #[.agg #[.int .i64 a, .int .i64 b, .int .i64 c], .pointer (some ⟨B, 0, none⟩)] W fun e w' => e = .returned (.bool (a == bag)) ∧ Below W.heap.size W w' := by
  have hlt : B < W.heap.size := World.block_lt_of_cell? W _ hc
  go_enter Try.func55, Try.ntmps55
  go_wp2
  go_ret
  exact ⟨rfl, (Below.refl _ _).alloc (Nat.le_refl _) _⟩
/-- The first index at which p holds; -1 where there is none. -/
def impl_ExpectOk.idx (bag : Int) : List S47 → Int → Int
  | [], _ => -1
  | x :: l, i => if (x.f0 == bag) = true then i else impl_ExpectOk.idx bag l (i + 1)
theorem impl_ExpectOk.idx_any (bag : Int) : ∀ (l : List S47) (i : Int), 0 ≤ i → decide (impl_ExpectOk.idx bag l i ≥ 0) = l.any (fun x => x.f0 == bag)
  | [], i, h => by simp [impl_ExpectOk.idx]
  | x :: l, i, h => by
    unfold impl_ExpectOk.idx
    rw [List.any_cons]
    cases hx : (x.f0 == bag) with
    | true => simp; omega
    | false => simp only [Bool.false_or, Bool.false_eq_true, if_false]; exact impl_ExpectOk.idx_any bag l (i + 1) (by omega)
set_option maxHeartbeats 1000000 in
theorem impl_ExpectOk.index (A : Option Addr) (c : Nat) (l : List S47) (bag : Int) (B : Nat) (w : World) (hr : Kd.C k47 w A l.length l) (hcell : w.cell? ⟨B, 0, none⟩ = some (.int .i64 bag)) :
    Calls Try.prog 101 #[.slice A l.length c, .func (.func 55) #[] #[.pointer (some ⟨B, 0, none⟩)]] w fun e w' => e = .returned (.int .i64 (impl_ExpectOk.idx bag l 0)) ∧ Below w.heap.size w w' := by
  have eg := enters_of Try.func55 (by kernel_rfl) rfl
  have HR := Aside0.mk hr
  have hm : l.length ≤ 9223372036854775807 := hr.2.1
  have HC := Aside0.mk hcell
  clear hr hcell
  go_enter Try.func101, Try.ntmps101
  go_wp2
  go_loopg [5, 8] l.length (fun gg _ v8 wr => ∃ kk : Nat, kk ≤ l.length ∧ l.length - kk ≤ gg ∧ v8 = .int .i64 kk ∧ Aside0 (Below w.heap.size w wr) ∧ Aside0 (impl_ExpectOk.idx bag l 0 = impl_ExpectOk.idx bag (l.drop kk) kk))
  case atStart => exact ⟨0, Nat.zero_le _, by omega, rfl, ⟨Below.refl _ w⟩, ⟨rfl⟩⟩
  case round =>
    obtain ⟨kk, hkk, hg, rfl, HB, HI⟩ := hrel
    by_cases hlt : kk < l.length
    · have h0 : (0 : Int) ≤ (kk : Int) := by omega
      have h1 : (kk : Int) < (l.length : Int) := by omega
      obtain ⟨ad, e1, hx0, hx1, hx2⟩ := at_T47 HR.out kk h0 h1
      cases e1
      simp only [Int.toNat_natCast] at hx0 hx1 hx2
      replace hx0 := pw_cell_below HB.out hx0
      replace hx1 := pw_cell_below HB.out hx1
      replace hx2 := pw_cell_below HB.out hx2
      have hcb := pw_cell_below HB.out HC.out
      have hp := impl_ExpectOk.pred (rd_T47 l kk).f0 (rd_T47 l kk).f1 (rd_T47 l kk).f2 bag B wr hcb
      have hd : l.drop kk = rd_T47 l kk :: l.drop (kk + 1) := by
        rw [List.drop_eq_getElem_cons hlt]
        simp [rd_T47, List.getD_eq_getElem?_getD, List.getElem?_eq_getElem hlt]
      have HD := Aside0.mk hd
      clear hd hcb
      cases hq : ((rd_T47 l kk).f0 == bag) with
      | true =>
        rw [hq] at hp
        have HQ := Aside0.mk hq
        clear hq
        go_wp2_with (go_at_call 55; refine hp.mono ?_; rintro e w' ⟨rfl, hb'⟩)
        go_ret
        refine ⟨?_, below_step HB.out hb'⟩
        rw [HI.out, HD.out, impl_ExpectOk.idx, if_pos HQ.out]
        rfl
      | false =>
        rw [hq] at hp
        have HQ := Aside0.mk hq
        clear hq
        go_wp2_with (go_at_call 55; refine hp.mono ?_; rintro e w' ⟨rfl, hb'⟩)
        go_roundg (l.length - (kk + 1))
        case measure => omega
        case rel =>
          refine ⟨kk + 1, by omega, by omega, by go_num, ⟨below_step HB.out hb'⟩, ⟨?_⟩⟩
          rw [HI.out, HD.out, impl_ExpectOk.idx, if_neg (by rw [HQ.out]; decide)]
          rfl
    · have : kk = l.length := by omega
      subst this
      go_wp2
      go_ret
      refine ⟨?_, HB.out⟩
      rw [HI.out, List.drop_eq_nil_of_le (Nat.le_refl _)]
      rfl

set_option maxHeartbeats 1000000 in
theorem impl_ExpectOk.contains (A : Option Addr) (c : Nat) (l : List S47) (bag : Int) (B : Nat) (w : World) (hr : Kd.C k47 w A l.length l) (hcell : w.cell? ⟨B, 0, none⟩ = some (.int .i64 bag)) :
    Calls Try.prog 54 #[.slice A l.length c, .func (.func 55) #[] #[.pointer (some ⟨B, 0, none⟩)]] w fun e w' => e = .returned (.bool (l.any (fun x => x.f0 == bag))) ∧ Below w.heap.size w w' := by
  have hi := impl_ExpectOk.index A c l bag B w hr hcell
  rw [← impl_ExpectOk.idx_any bag l 0 (by omega)]
  clear hr hcell
  go_enter Try.func54, Try.ntmps54
  go_wp2_with (go_at_call 101; refine hi.mono ?_; rintro e w' ⟨rfl, hb'⟩)
  go_ret
  exact ⟨rfl, hb'⟩
/-- Elements behind some that are met. -/
def impl_ExpectOk.go : List S47 → List S47 → Bool
  | _, [] => true
  | seen, x :: l => if x.f0 < 1 ∨ x.f1 < 0 ∨ x.f2 < x.f1 ∨ x.f2 > 100000 ∨ seen.any (fun y => y.f0 == x.f0) = true then false else impl_ExpectOk.go (seen ++ [x]) l
def impl_ExpectOk.f (l0 : List S47) : Option Bool := some (impl_ExpectOk.go [] l0 && decide ((l0.length : Int) ≤ 6))
set_option maxHeartbeats 2000000 in
theorem impl_ExpectOk.calls (A0 : Option Addr) (c0 : Nat) (l0 : List S47) (r : Bool) (w : World) (hr0 : Kd.C k47 w A0 l0.length l0) (hc0 : l0.length ≤ c0) (h : impl_ExpectOk.f l0 = some r) :
    Calls Try.prog 16 #[.slice A0 l0.length c0] w fun e w' => e = .returned (.bool r) ∧ Below w.heap.size w w' := by
  have HH := Aside0.mk (Option.some.inj h)
  have hcon := fun A c l B W h1 h2 => impl_ExpectOk.contains A c l (rd_T47 l0 0).f0 B W h1 h2
  clear h hcon
  have HR := Aside0.mk hr0
  have HC := Aside0.mk hc0
  have hm : l0.length ≤ 9223372036854775807 := hr0.2.1
  clear hr0 hc0
  go_enter Try.func16, Try.ntmps16
  go_wp2
  go_loopg [3, 4, 7] l0.length (fun gg _ _ v7 wr => ∃ kk : Nat, kk ≤ l0.length ∧ l0.length - kk ≤ gg ∧ v7 = .int .i64 kk ∧ Aside0 (Below w.heap.size w wr) ∧ Aside0 (impl_ExpectOk.go [] l0 = impl_ExpectOk.go (l0.take kk) (l0.drop kk)))
  case atStart => exact ⟨0, Nat.zero_le _, by omega, rfl, ⟨Below.refl _ w⟩, ⟨rfl⟩⟩
  case round =>
    obtain ⟨kk, hkk, hg, rfl, HB, HI⟩ := hrel
    by_cases hlt : kk < l0.length
    · have h0 : (0 : Int) ≤ (kk : Int) := by omega
      have h1 : (kk : Int) < (l0.length : Int) := by omega
      obtain ⟨ad, e1, hx0, hx1, hx2⟩ := at_T47 HR.out kk h0 h1
      cases e1
      simp only [Int.toNat_natCast] at hx0 hx1 hx2
      replace hx0 := pw_cell_below HB.out hx0
      replace hx1 := pw_cell_below HB.out hx1
      replace hx2 := pw_cell_below HB.out hx2
      have hd : l0.drop kk = rd_T47 l0 kk :: l0.drop (kk + 1) := by
        rw [List.drop_eq_getElem_cons hlt]
        simp [rd_T47, List.getD_eq_getElem?_getD, List.getElem?_eq_getElem hlt]
      have ht : l0.take (kk + 1) = l0.take kk ++ [rd_T47 l0 kk] := by
        rw [List.take_succ_eq_append_getElem hlt]
        simp [rd_T47, List.getD_eq_getElem?_getD, List.getElem?_eq_getElem hlt]
      have hkc : kk ≤ c0 := by have := HC.out; omega
      have HD := Aside0.mk hd
      have HT := Aside0.mk ht
      have htl : (l0.take kk).length = kk := by simp; omega
      have hcr : Kd.C k47 wr (some ad) kk (l0.take kk) := by
        have := Kd.C_take (m := kk) (Kd.C_below HR.out HB.out) (by omega)
        rwa [htl] at this
      have hw : ∀ (a b c : Int), Below wr.heap.size wr (wr.alloc (.cells #[.int .i64 a, .int .i64 b, .int .i64 c] 47)) := fun a b c => (Below.refl _ _).alloc (Nat.le_refl _) _
      have hcon : ∀ (a b c : Int), Calls Try.prog 54 #[.slice (some ad) kk c0, .func (.func 55) #[] #[.pointer (some ⟨wr.heap.size, 0, none⟩)]] (wr.alloc (.cells #[.int .i64 a, .int .i64 b, .int .i64 c] 47)) fun e w' => e = .returned (.bool ((l0.take kk).any (fun x => x.f0 == a))) ∧ Below (wr.alloc (.cells #[.int .i64 a, .int .i64 b, .int .i64 c] 47)).heap.size (wr.alloc (.cells #[.int .i64 a, .int .i64 b, .int .i64 c] 47)) w' := by
        intro a b c
        have hh := impl_ExpectOk.contains (some ad) c0 (l0.take kk) a wr.heap.size (wr.alloc (.cells #[.int .i64 a, .int .i64 b, .int .i64 c] 47)) (by rw [htl]; exact Kd.C_below hcr (hw a b c)) (by go_simp)
        rw [htl] at hh
        exact hh
      have HCON := Aside0.mk hcon
      have HW := Aside0.mk hw
      clear hd ht htl hcr hcon hw
      by_cases c1 : (rd_T47 l0 kk).f0 < 1
      · have b1 : decide ((rd_T47 l0 kk).f0 < 1) = true := decide_eq_true c1
        have C1 := Aside0.mk c1
        clear c1
        go_wp2
        go_ret
        refine ⟨?_, below_step HB.out (HW.out _ _ _)⟩
        rw [← HH.out, HI.out, HD.out, impl_ExpectOk.go, if_pos (.inl C1.out)]
        rfl
      · have b1 : decide ((rd_T47 l0 kk).f0 < 1) = false := decide_eq_false c1
        have C1 := Aside0.mk c1
        clear c1
        by_cases c2 : (rd_T47 l0 kk).f1 < 0
        · have b2 : decide ((rd_T47 l0 kk).f1 < 0) = true := decide_eq_true c2
          have C2 := Aside0.mk c2
          clear c2
          go_wp2
          go_ret
          refine ⟨?_, below_step HB.out (HW.out _ _ _)⟩
          rw [← HH.out, HI.out, HD.out, impl_ExpectOk.go, if_pos (.inr (.inl C2.out))]
          rfl
        · have b2 : decide ((rd_T47 l0 kk).f1 < 0) = false := decide_eq_false c2
          have C2 := Aside0.mk c2
          clear c2
          by_cases c3 : (rd_T47 l0 kk).f2 < (rd_T47 l0 kk).f1
          · have b3 : decide ((rd_T47 l0 kk).f2 < (rd_T47 l0 kk).f1) = true := decide_eq_true c3
            have C3 := Aside0.mk c3
            clear c3
            go_wp2
            go_ret
            refine ⟨?_, below_step HB.out (HW.out _ _ _)⟩
            rw [← HH.out, HI.out, HD.out, impl_ExpectOk.go, if_pos (.inr (.inr (.inl C3.out)))]
            rfl
          · have b3 : decide ((rd_T47 l0 kk).f2 < (rd_T47 l0 kk).f1) = false := decide_eq_false c3
            have C3 := Aside0.mk c3
            clear c3
            by_cases c4 : 100000 < (rd_T47 l0 kk).f2
            · have b4 : decide (100000 < (rd_T47 l0 kk).f2) = true := decide_eq_true c4
              have C4 := Aside0.mk c4
              clear c4
              go_wp2
              go_ret
              refine ⟨?_, below_step HB.out (HW.out _ _ _)⟩
              rw [← HH.out, HI.out, HD.out, impl_ExpectOk.go, if_pos (.inr (.inr (.inr (.inl C4.out))))]
              rfl
            · have b4 : decide (100000 < (rd_T47 l0 kk).f2) = false := decide_eq_false c4
              have C4 := Aside0.mk c4
              clear c4
              have hcc := HCON.out (rd_T47 l0 kk).f0 (rd_T47 l0 kk).f1 (rd_T47 l0 kk).f2
              cases hq : (l0.take kk).any (fun x => x.f0 == (rd_T47 l0 kk).f0) with
              | true =>
                rw [hq] at hcc
                have HQ := Aside0.mk hq
                clear hq
                go_wp2_with (go_at_call 54; refine hcc.mono ?_; rintro e w' ⟨rfl, hb'⟩)
                go_ret
                refine ⟨?_, below_step (below_step HB.out (HW.out _ _ _)) hb'⟩
                rw [← HH.out, HI.out, HD.out, impl_ExpectOk.go, if_pos (.inr (.inr (.inr (.inr HQ.out))))]
                rfl
              | false =>
                rw [hq] at hcc
                have HQ := Aside0.mk hq
                clear hq
                go_wp2_with (go_at_call 54; refine hcc.mono ?_; rintro e w' ⟨rfl, hb'⟩)
                go_roundg (l0.length - (kk + 1))
                case measure => omega
                case rel =>
                  refine ⟨kk + 1, by omega, by omega, by go_num, ⟨below_step (below_step HB.out (HW.out _ _ _)) hb'⟩, ⟨?_⟩⟩
                  rw [HI.out, HD.out, impl_ExpectOk.go, HT.out, if_neg]
                  rintro (h | h | h | h | h)
                  · have := C1.out; omega
                  · have := C2.out; omega
                  · have := C3.out; omega
                  · have := C4.out; omega
                  · rw [HQ.out] at h; cases h
    · have : kk = l0.length := by omega
      subst this
      go_wp2
      go_ret
      refine ⟨?_, HB.out⟩
      rw [← HH.out, HI.out, List.drop_eq_nil_of_le (Nat.le_refl _), impl_ExpectOk.go]
      simp

/-! ### impl_isTick: function 59 -/
def impl_isTick.f (a0 : Int) : Option (Bool) := if a0 ≥ 0 then (some (decide (a0 ≤ 100000))) else (some false)
set_option maxHeartbeats 8000000 in
set_option maxRecDepth 100000 in
theorem impl_isTick.calls (a0 : Int) (r : Bool) (w : World) (h : impl_isTick.f a0 = some r) :
  Calls Try.prog 59 #[.int .i64 a0] w fun e w' => e = .returned (.bool r) ∧ Drawn0 w w' := by
 have H : (if a0 ≥ 0 then (some (decide (a0 ≤ 100000))) else (some false)) = some r := h
 clear h
 by_cases c2 : a0 ≥ 0
 ·rw [if_pos c2] at H
  have c2b0 : decide (0 ≤ a0) = true := decide_eq_true c2
  clear c2
  obtain rfl := Option.some.inj H
  go_enter Try.func59, Try.ntmps59
  go_wp2
  go_ret
  exact ⟨by first | rfl | (simp; done) | (simp [*]; done), by repeat (first | exact Drawn0.refl _ | apply Drawn0.step)⟩
 ·rw [if_neg c2] at H
  have c2b0 : decide (0 ≤ a0) = false := decide_eq_false c2
  clear c2
  obtain rfl := Option.some.inj H
  go_enter Try.func59, Try.ntmps59
  go_wp2
  go_ret
  exact ⟨by first | rfl | (simp; done) | (simp [*]; done), by repeat (first | exact Drawn0.refl _ | apply Drawn0.step)⟩

-- NOT PRINTED: function 112 (impl_Sight_112)

-- NOT PRINTED: function 102 (impl_Sight_102)

/-! ### impl_isNamed: function 60 -/
set_option maxHeartbeats 400000 in
theorem impl_isNamed.pred (a b bag : Int) (B : Nat) (W : World) (hc : W.cell? ⟨B, 0, none⟩ = some (.int .i64 bag)) :
    Calls Try.prog 103 #[.agg #[.int .i64 a, .int .i64 b], .pointer (some ⟨B, 0, none⟩)] W fun e w' => e = .returned (.bool (b == bag)) ∧ Below W.heap.size W w' := by
  have hlt : B < W.heap.size := World.block_lt_of_cell? W _ hc
  go_enter Try.func103, Try.ntmps103
  go_wp2
  go_ret
  exact ⟨rfl, (Below.refl _ _).alloc (Nat.le_refl _) _⟩
/-- The first index at which p holds; -1 where there is none. -/
def impl_isNamed.idx (bag : Int) : List S49 → Int → Int
  | [], _ => -1
  | x :: l, i => if (x.f1 == bag) = true then i else impl_isNamed.idx bag l (i + 1)
theorem impl_isNamed.idx_any (bag : Int) : ∀ (l : List S49) (i : Int), 0 ≤ i → decide (impl_isNamed.idx bag l i ≥ 0) = l.any (fun x => x.f1 == bag)
  | [], i, h => by simp [impl_isNamed.idx]
  | x :: l, i, h => by
    unfold impl_isNamed.idx
    rw [List.any_cons]
    cases hx : (x.f1 == bag) with
    | true => simp; omega
    | false => simp only [Bool.false_or, Bool.false_eq_true, if_false]; exact impl_isNamed.idx_any bag l (i + 1) (by omega)
set_option maxHeartbeats 1000000 in
theorem impl_isNamed.index (A : Option Addr) (c : Nat) (l : List S49) (bag : Int) (B : Nat) (w : World) (hr : Kd.C k49 w A l.length l) (hcell : w.cell? ⟨B, 0, none⟩ = some (.int .i64 bag)) :
    Calls Try.prog 112 #[.slice A l.length c, .func (.func 103) #[] #[.pointer (some ⟨B, 0, none⟩)]] w fun e w' => e = .returned (.int .i64 (impl_isNamed.idx bag l 0)) ∧ Below w.heap.size w w' := by
  have eg := enters_of Try.func103 (by kernel_rfl) rfl
  have HR := Aside0.mk hr
  have hm : l.length ≤ 9223372036854775807 := hr.2.1
  have HC := Aside0.mk hcell
  clear hr hcell
  go_enter Try.func112, Try.ntmps112
  go_wp2
  go_loopg [5, 8] l.length (fun gg _ v8 wr => ∃ kk : Nat, kk ≤ l.length ∧ l.length - kk ≤ gg ∧ v8 = .int .i64 kk ∧ Aside0 (Below w.heap.size w wr) ∧ Aside0 (impl_isNamed.idx bag l 0 = impl_isNamed.idx bag (l.drop kk) kk))
  case atStart => exact ⟨0, Nat.zero_le _, by omega, rfl, ⟨Below.refl _ w⟩, ⟨rfl⟩⟩
  case round =>
    obtain ⟨kk, hkk, hg, rfl, HB, HI⟩ := hrel
    by_cases hlt : kk < l.length
    · have h0 : (0 : Int) ≤ (kk : Int) := by omega
      have h1 : (kk : Int) < (l.length : Int) := by omega
      obtain ⟨ad, e1, hx0, hx1⟩ := at_T49 HR.out kk h0 h1
      cases e1
      simp only [Int.toNat_natCast] at hx0 hx1
      replace hx0 := pw_cell_below HB.out hx0
      replace hx1 := pw_cell_below HB.out hx1
      have hcb := pw_cell_below HB.out HC.out
      have hp := impl_isNamed.pred (rd_T49 l kk).f0 (rd_T49 l kk).f1 bag B wr hcb
      have hd : l.drop kk = rd_T49 l kk :: l.drop (kk + 1) := by
        rw [List.drop_eq_getElem_cons hlt]
        simp [rd_T49, List.getD_eq_getElem?_getD, List.getElem?_eq_getElem hlt]
      have HD := Aside0.mk hd
      clear hd hcb
      cases hq : ((rd_T49 l kk).f1 == bag) with
      | true =>
        rw [hq] at hp
        have HQ := Aside0.mk hq
        clear hq
        go_wp2_with (go_at_call 103; refine hp.mono ?_; rintro e w' ⟨rfl, hb'⟩)
        go_ret
        refine ⟨?_, below_step HB.out hb'⟩
        rw [HI.out, HD.out, impl_isNamed.idx, if_pos HQ.out]
        rfl
      | false =>
        rw [hq] at hp
        have HQ := Aside0.mk hq
        clear hq
        go_wp2_with (go_at_call 103; refine hp.mono ?_; rintro e w' ⟨rfl, hb'⟩)
        go_roundg (l.length - (kk + 1))
        case measure => omega
        case rel =>
          refine ⟨kk + 1, by omega, by omega, by go_num, ⟨below_step HB.out hb'⟩, ⟨?_⟩⟩
          rw [HI.out, HD.out, impl_isNamed.idx, if_neg (by rw [HQ.out]; decide)]
          rfl
    · have : kk = l.length := by omega
      subst this
      go_wp2
      go_ret
      refine ⟨?_, HB.out⟩
      rw [HI.out, List.drop_eq_nil_of_le (Nat.le_refl _)]
      rfl

set_option maxHeartbeats 1000000 in
theorem impl_isNamed.contains (A : Option Addr) (c : Nat) (l : List S49) (bag : Int) (B : Nat) (w : World) (hr : Kd.C k49 w A l.length l) (hcell : w.cell? ⟨B, 0, none⟩ = some (.int .i64 bag)) :
    Calls Try.prog 102 #[.slice A l.length c, .func (.func 103) #[] #[.pointer (some ⟨B, 0, none⟩)]] w fun e w' => e = .returned (.bool (l.any (fun x => x.f1 == bag))) ∧ Below w.heap.size w w' := by
  have hi := impl_isNamed.index A c l bag B w hr hcell
  rw [← impl_isNamed.idx_any bag l 0 (by omega)]
  clear hr hcell
  go_enter Try.func102, Try.ntmps102
  go_wp2_with (go_at_call 112; refine hi.mono ?_; rintro e w' ⟨rfl, hb'⟩)
  go_ret
  exact ⟨rfl, hb'⟩
def impl_isNamed.f (l0 : List S49) (a1 : Int) : Option Bool := some (l0.any (fun x => x.f1 == a1))
set_option maxHeartbeats 1000000 in
theorem impl_isNamed.calls (A0 : Option Addr) (c0 : Nat) (l0 : List S49) (a1 : Int) (r : Bool) (w : World) (hr0 : Kd.C k49 w A0 l0.length l0) (hc0 : l0.length ≤ c0) (h : impl_isNamed.f l0 a1 = some r) :
    Calls Try.prog 60 #[.slice A0 l0.length c0, .int .i64 a1] w fun e w' => e = .returned (.bool r) ∧ Below w.heap.size w w' := by
  obtain rfl : l0.any (fun x => x.f1 == a1) = r := Option.some.inj h
  clear h
  have hcon := fun W h1 h2 => impl_isNamed.contains A0 c0 l0 a1 w.heap.size W h1 h2
  have HR := Aside0.mk hr0
  clear hr0 hc0
  go_enter Try.func60, Try.ntmps60
  go_wp2_with (go_at_call 102; refine (hcon _ ?_ ?_).mono ?_)
  · exact Kd.C_below HR.out ((Below.refl _ _).alloc (Nat.le_refl _) _)
  · go_simp
  · rintro e w' ⟨rfl, hb'⟩
    go_wp2
    go_ret
    exact ⟨rfl, below_step ((Below.refl _ _).alloc (Nat.le_refl _) _) hb'⟩

end Go.Proofs.Ytnnimbbffbfhoaa.PFnAssigned
