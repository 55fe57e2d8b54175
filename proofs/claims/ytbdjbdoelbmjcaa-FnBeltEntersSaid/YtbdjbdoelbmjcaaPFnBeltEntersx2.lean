-- Written by a program of this session (wip/myprint.py: the kit's print with changes): not by print.sh itself.
import Derived.Test.YtbdjbdoelbmjcaaPFnBeltEntersx0
namespace Go.Proofs.Ytbdjbdoelbmjcaa.PFnBeltEnters
open Go.RowKit Go.Proofs.YtbdjbdoelbmjcaaW.PrintWords Go.Proofs.YtbdjbdoelbmjcaaW.PrintLast Go.Proofs.YtbdjbdoelbmjcaaW.PrintMore
attribute [local go_sem] max2_int min2_int max_two min_two max_three min_three max_four min_four   -- for this text's walks alone
set_option linter.unusedVariables false
set_option linter.unusedSimpArgs false

-- NOT PRINTED: function 76 (impl_Item_76)

-- NOT PRINTED: function 69 (impl_Item_69)

/-! ### impl_isOn: function 50 -/
set_option maxHeartbeats 400000 in
theorem impl_isOn.pred (a b c bag : Int) (B : Nat) (W : World) (hc : W.cell? ⟨B, 0, none⟩ = some (.int .i64 bag)) :
    Calls Try.prog 70 #[.agg #[.int .i64 a, .int .i64 b, .int .i64 c], .pointer (some ⟨B, 0, none⟩)] W fun e w' => e = .returned (.bool (a == bag)) ∧ Below W.heap.size W w' := by
  have hlt : B < W.heap.size := World.block_lt_of_cell? W _ hc
  go_enter Try.func70, Try.ntmps70
  go_wp2
  go_ret
  exact ⟨rfl, (Below.refl _ _).alloc (Nat.le_refl _) _⟩
/-- The first index at which p holds; -1 where there is none. -/
def impl_isOn.idx (bag : Int) : List S53 → Int → Int
  | [], _ => -1
  | x :: l, i => if (x.f0 == bag) = true then i else impl_isOn.idx bag l (i + 1)
theorem impl_isOn.idx_any (bag : Int) : ∀ (l : List S53) (i : Int), 0 ≤ i → decide (impl_isOn.idx bag l i ≥ 0) = l.any (fun x => x.f0 == bag)
  | [], i, h => by simp [impl_isOn.idx]
  | x :: l, i, h => by
    unfold impl_isOn.idx
    rw [List.any_cons]
    cases hx : (x.f0 == bag) with
    | true => simp; omega
    | false => simp only [Bool.false_or, Bool.false_eq_true, if_false]; exact impl_isOn.idx_any bag l (i + 1) (by omega)
set_option maxHeartbeats 1000000 in
theorem impl_isOn.index (A : Option Addr) (c : Nat) (l : List S53) (bag : Int) (B : Nat) (w : World) (hr : Kd.C k53 w A l.length l) (hcell : w.cell? ⟨B, 0, none⟩ = some (.int .i64 bag)) :
    Calls Try.prog 76 #[.slice A l.length c, .func (.func 70) #[] #[.pointer (some ⟨B, 0, none⟩)]] w fun e w' => e = .returned (.int .i64 (impl_isOn.idx bag l 0)) ∧ Below w.heap.size w w' := by
  have eg := enters_of Try.func70 (by kernel_rfl) rfl
  have HR := Aside0.mk hr
  have hm : l.length ≤ 9223372036854775807 := hr.2.1
  have HC := Aside0.mk hcell
  clear hr hcell
  go_enter Try.func76, Try.ntmps76
  go_wp2
  go_loopg [5, 8] l.length (fun gg _ v8 wr => ∃ kk : Nat, kk ≤ l.length ∧ l.length - kk ≤ gg ∧ v8 = .int .i64 kk ∧ Aside0 (Below w.heap.size w wr) ∧ Aside0 (impl_isOn.idx bag l 0 = impl_isOn.idx bag (l.drop kk) kk))
  case atStart => exact ⟨0, Nat.zero_le _, by omega, rfl, ⟨Below.refl _ w⟩, ⟨rfl⟩⟩
  case round =>
    obtain ⟨kk, hkk, hg, rfl, HB, HI⟩ := hrel
    by_cases hlt : kk < l.length
    · have h0 : (0 : Int) ≤ (kk : Int) := by omega
      have h1 : (kk : Int) < (l.length : Int) := by omega
      obtain ⟨ad, e1, hx0, hx1, hx2⟩ := at_T53 HR.out kk h0 h1
      cases e1
      simp only [Int.toNat_natCast] at hx0 hx1 hx2
      replace hx0 := pw_cell_below HB.out hx0
      replace hx1 := pw_cell_below HB.out hx1
      replace hx2 := pw_cell_below HB.out hx2
      have hcb := pw_cell_below HB.out HC.out
      have hp := impl_isOn.pred (rd_T53 l kk).f0 (rd_T53 l kk).f1 (rd_T53 l kk).f2 bag B wr hcb
      have hd : l.drop kk = rd_T53 l kk :: l.drop (kk + 1) := by
        rw [List.drop_eq_getElem_cons hlt]
        simp [rd_T53, List.getD_eq_getElem?_getD, List.getElem?_eq_getElem hlt]
      have HD := Aside0.mk hd
      clear hd hcb
      cases hq : ((rd_T53 l kk).f0 == bag) with
      | true =>
        rw [hq] at hp
        have HQ := Aside0.mk hq
        clear hq
        go_wp2_with (go_at_call 70; refine hp.mono ?_; rintro e w' ⟨rfl, hb'⟩)
        go_ret
        refine ⟨?_, below_step HB.out hb'⟩
        rw [HI.out, HD.out, impl_isOn.idx, if_pos HQ.out]
        rfl
      | false =>
        rw [hq] at hp
        have HQ := Aside0.mk hq
        clear hq
        go_wp2_with (go_at_call 70; refine hp.mono ?_; rintro e w' ⟨rfl, hb'⟩)
        go_roundg (l.length - (kk + 1))
        case measure => omega
        case rel =>
          refine ⟨kk + 1, by omega, by omega, by go_num, ⟨below_step HB.out hb'⟩, ⟨?_⟩⟩
          rw [HI.out, HD.out, impl_isOn.idx, if_neg (by rw [HQ.out]; decide)]
          rfl
    · have : kk = l.length := by omega
      subst this
      go_wp2
      go_ret
      refine ⟨?_, HB.out⟩
      rw [HI.out, List.drop_eq_nil_of_le (Nat.le_refl _)]
      rfl

set_option maxHeartbeats 1000000 in
theorem impl_isOn.contains (A : Option Addr) (c : Nat) (l : List S53) (bag : Int) (B : Nat) (w : World) (hr : Kd.C k53 w A l.length l) (hcell : w.cell? ⟨B, 0, none⟩ = some (.int .i64 bag)) :
    Calls Try.prog 69 #[.slice A l.length c, .func (.func 70) #[] #[.pointer (some ⟨B, 0, none⟩)]] w fun e w' => e = .returned (.bool (l.any (fun x => x.f0 == bag))) ∧ Below w.heap.size w w' := by
  have hi := impl_isOn.index A c l bag B w hr hcell
  rw [← impl_isOn.idx_any bag l 0 (by omega)]
  clear hr hcell
  go_enter Try.func69, Try.ntmps69
  go_wp2_with (go_at_call 76; refine hi.mono ?_; rintro e w' ⟨rfl, hb'⟩)
  go_ret
  exact ⟨rfl, hb'⟩
def impl_isOn.f (l0 : List S53) (a1 : Int) : Option Bool := some (l0.any (fun x => x.f0 == a1))
set_option maxHeartbeats 1000000 in
theorem impl_isOn.calls (A0 : Option Addr) (c0 : Nat) (l0 : List S53) (a1 : Int) (r : Bool) (w : World) (hr0 : Kd.C k53 w A0 l0.length l0) (hc0 : l0.length ≤ c0) (h : impl_isOn.f l0 a1 = some r) :
    Calls Try.prog 50 #[.slice A0 l0.length c0, .int .i64 a1] w fun e w' => e = .returned (.bool r) ∧ Below w.heap.size w w' := by
  obtain rfl : l0.any (fun x => x.f0 == a1) = r := Option.some.inj h
  clear h
  have hcon := fun W h1 h2 => impl_isOn.contains A0 c0 l0 a1 w.heap.size W h1 h2
  have HR := Aside0.mk hr0
  clear hr0 hc0
  go_enter Try.func50, Try.ntmps50
  go_wp2_with (go_at_call 69; refine (hcon _ ?_ ?_).mono ?_)
  · exact Kd.C_below HR.out ((Below.refl _ _).alloc (Nat.le_refl _) _)
  · go_simp
  · rintro e w' ⟨rfl, hb'⟩
    go_wp2
    go_ret
    exact ⟨rfl, below_step ((Below.refl _ _).alloc (Nat.le_refl _) _) hb'⟩

end Go.Proofs.Ytbdjbdoelbmjcaa.PFnBeltEnters
