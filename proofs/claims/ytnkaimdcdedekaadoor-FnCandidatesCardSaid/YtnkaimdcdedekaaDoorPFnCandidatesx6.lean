-- Written by a program of this session (wip/myprint.py: the kit's print with changes): not by print.sh itself.
import Derived.Test.YtnkaimdcdedekaaDoorPFnCandidatesx0
namespace Go.Proofs.YtnkaimdcdedekaaDoor.PFnCandidates
open Go.RowKit Go.Proofs.YtnkaimdcdedekaaDoorW.PrintWords Go.Proofs.YtnkaimdcdedekaaDoorW.PrintLast Go.Proofs.YtnkaimdcdedekaaDoorW.PrintMore
open Go renaming Act.put → uc
open Go.Proofs.YtnkaimdcdedekaaDoorW.PrintWords renaming Aside0.mk → uD, blk_cell → uF, blk_alloc → uG, blk_drewN → uH, blk_frozen → uI, blk_drew → uJ, below_alloc → uL, below_step → uO, blk_put → uP, blk_far → uQ, Kd.R_types → uW, Kd.R_mono → uX
open List renaming setIfInBounds_toArray → uA, set_cons_zero → uB, set_cons_succ → uC
attribute [local go_sem] max2_int min2_int max_two min_two max_three min_three max_four min_four   -- for this text's walks alone
set_option linter.unusedVariables false
set_option linter.unusedSimpArgs false

/-! ### laws_big: function 25 -/
def laws_big.f (l0 : List Int) : Option (Bool) := some (decide ((l0.length : Int) > 1048576))
set_option maxHeartbeats 8000000 in
set_option maxRecDepth 100000 in
theorem laws_big.calls (A0 : Option Addr) (c0 : Nat) (l0 : List Int) (r : Bool) (w : World) (hr0 : Kd.C (Kd.int .u8) w A0 l0.length l0) (hc0 : l0.length ≤ c0) (h : laws_big.f l0 = some r) :
  Calls Tryd.prog 25 #[.slice A0 l0.length c0] w fun e w' => e = .returned (.bool r) ∧ Drawn0 w w' := by
 have HR0 := uD hr0
 have HC0 := uD hc0
 clear hr0 hc0
 have H : (some (decide ((l0.length : Int) > 1048576))) = some r := h
 clear h
 obtain rfl := Option.some.inj H
 go_enter Tryd.func25, Tryd.ntmps25
 go_wp2
 go_ret
 exact ⟨by first | rfl | (simp; done) | (simp [*]; done), by repeat (first | exact Drawn0.refl _ | apply Drawn0.step)⟩

/-- A state of type 67 at block g of W; what its slices lead to came in by w0. -/
def IsS67 (w0 W : World) (g : Nat) (f0 : List Int) (f1 : Int) (f2 : Int) : Prop := ∃ A0 c0, W.heap[g]? = some (.cells #[.slice A0 f0.length c0, .int .i64 f1, .int .i64 f2] 67 (0, 0)) ∧ w0.heap.size ≤ g ∧ Kd.C (Kd.int .u8) w0 A0 f0.length f0
theorem IsS67.grown {w0 W : World} {g : Nat} {f0 : List Int} {f1 : Int} {f2 : Int} {W1 : World} {row : Option Nat} (h : IsS67 w0 W g f0 f1 f2) (hw : W.grownBy W1 row) (hne : some g ≠ row) : IsS67 w0 W1 g f0 f1 f2 := by
 obtain ⟨A0, c0, hb, hg, hr0⟩ := h
 exact ⟨A0, c0, blk_grown hb hw hne, hg, hr0⟩
theorem IsS67.own_neN {w0 W : World} {g : Nat} {f0 : List Int} {f1 : Int} {f2 : Int} {α : Type} {d : Kd α} {e : Nat} {base : Nat} {ok : Nat → Prop} {v : Value} {xs : List α} (h : IsS67 w0 W g f0 f1 f2) (ho : Kd.N d e W base ok v xs) (ht : e ≠ 67) : some g ≠ v.ownBlock := by
 obtain ⟨A0, c0, hb, hg, hr0⟩ := h
 exact Kd.N_ne ho hb ht
theorem IsS67.fresh {w0 W : World} {g : Nat} {f0 : List Int} {f1 : Int} {f2 : Int} (h : IsS67 w0 W g f0 f1 f2) : ∀ k, W.heap.size ≤ k → k ≠ g := by
 obtain ⟨A0, c0, hb, hg, hr0⟩ := h
 exact Kd.freshB hb
theorem IsS67.kept {w0 W : World} {g : Nat} {f0 : List Int} {f1 : Int} {f2 : Int} {W1 : World} {S : Nat → Prop} (h : IsS67 w0 W g f0 f1 f2) (hk : Kept W W1 S) (hne : ¬ S g) : IsS67 w0 W1 g f0 f1 f2 := by
 obtain ⟨A0, c0, hb, hg, hr0⟩ := h
 exact ⟨A0, c0, blk_kept hb hk hne, hg, hr0⟩
theorem IsS67.below {w0 W : World} {g : Nat} {f0 : List Int} {f1 : Int} {f2 : Int} {W1 : World} (h : IsS67 w0 W g f0 f1 f2) (hw : Below W.heap.size W W1) : IsS67 w0 W1 g f0 f1 f2 := h.grown (grown_of_below hw none) (by simp)
theorem IsS67.alloc {w0 W : World} {g : Nat} {f0 : List Int} {f1 : Int} {f2 : Int} (h : IsS67 w0 W g f0 f1 f2) (o : Obj) : IsS67 w0 (W.alloc o) g f0 f1 f2 := h.below (uL (Below.refl _ _) o)
theorem IsS67.drewN {w0 W : World} {g : Nat} {f0 : List Int} {f1 : Int} {f2 : Int} (h : IsS67 w0 W g f0 f1 f2) (m : Nat) : IsS67 w0 (W.drewN m) g f0 f1 f2 := h
theorem IsS67.drew {w0 W : World} {g : Nat} {f0 : List Int} {f1 : Int} {f2 : Int} (h : IsS67 w0 W g f0 f1 f2) : IsS67 w0 W.drew g f0 f1 f2 := h
theorem IsS67.at_ {w0 W : World} {g : Nat} {f0 : List Int} {f1 : Int} {f2 : Int} {w' : World} {m : Nat} (hq : W.drewN m = w') (h : IsS67 w0 W g f0 f1 f2) : IsS67 w0 w' g f0 f1 f2 := by subst hq; exact IsS67.drewN h m
theorem IsS67.apart {w0 W : World} {g : Nat} {f0 : List Int} {f1 : Int} {f2 : Int} {α : Type} {d : Kd α} {e : Nat} {base : Nat} {ok : Nat → Prop} {v : Value} {xs : List α} (h : IsS67 w0 W g f0 f1 f2) (ho : d.R e W base ok v xs) (ht : ∀ q, q ∈ e :: d.E → q ≠ 67) : d.R e W base (fun k => ok k ∧ k ≠ g) v xs := by
 obtain ⟨A0, c0, hb, hg, hr0⟩ := h
 exact uW ho hb ht
theorem IsS67.own_ne {w0 W : World} {g : Nat} {f0 : List Int} {f1 : Int} {f2 : Int} {α : Type} {d : Kd α} {e : Nat} {base : Nat} {ok : Nat → Prop} {v : Value} {xs : List α} (h : IsS67 w0 W g f0 f1 f2) (ho : d.R e W base ok v xs) (ht : e ≠ 67) : some g ≠ v.ownBlock := by
 obtain ⟨A0, c0, hb, hg, hr0⟩ := h
 exact Kd.R_ne ho hb ht
theorem IsS67.apartQ {w0 W : World} {g : Nat} {f0 : List Int} {f1 : Int} {f2 : Int} {α : Type} {d : Kd α} {e : Nat} {base : Nat} {ok : Nat → Prop} {v : Value} {xs : List α} (h : IsS67 w0 W g f0 f1 f2) (ho : d.Q e W base ok v xs) (ht : ∀ q, q ∈ e :: d.E → q ≠ 67) : d.Q e W base (fun k => ok k ∧ k ≠ g) v xs := by
 obtain ⟨A0, c0, hb, hg, hr0⟩ := h
 exact Kd.Q_types ho hb ht
theorem IsS67.own_neQ {w0 W : World} {g : Nat} {f0 : List Int} {f1 : Int} {f2 : Int} {α : Type} {d : Kd α} {e : Nat} {base : Nat} {ok : Nat → Prop} {v : Value} {xs : List α} (h : IsS67 w0 W g f0 f1 f2) (ho : d.Q e W base ok v xs) (ht : e ≠ 67) : some g ≠ v.ownBlock := by
 obtain ⟨A0, c0, hb, hg, hr0⟩ := h
 exact Kd.Q_ne ho hb ht
theorem IsS67.apartS {w0 W : World} {g : Nat} {f0 : List Int} {f1 : Int} {f2 : Int} {α : Type} {d : Kd α} {e : Nat} {base : Nat} {ok : Nat → Prop} {v : Value} {xs : List α} (h : IsS67 w0 W g f0 f1 f2) (ho : d.S e W base ok v xs) (ht : ∀ q, q ∈ e :: d.E → q ≠ 67) : d.S e W base (fun k => ok k ∧ k ≠ g) v xs := by
 obtain ⟨A0, c0, hb, hg, hr0⟩ := h
 exact Kd.S_types ho hb ht
theorem IsS67.own_neS {w0 W : World} {g : Nat} {f0 : List Int} {f1 : Int} {f2 : Int} {α : Type} {d : Kd α} {e : Nat} {base : Nat} {ok : Nat → Prop} {v : Value} {xs : List α} (h : IsS67 w0 W g f0 f1 f2) (ho : d.S e W base ok v xs) (ht : e ≠ 67) : some g ≠ v.ownBlock := by
 obtain ⟨A0, c0, hb, hg, hr0⟩ := h
 exact Kd.S_ne ho hb ht
theorem IsS67.lt {w0 W : World} {g : Nat} {f0 : List Int} {f1 : Int} {f2 : Int} (h : IsS67 w0 W g f0 f1 f2) : g < W.heap.size := by
 obtain ⟨A0, c0, hb, hg, hr0⟩ := h
 exact blk_lt hb
theorem IsS67.ge {w0 W : World} {g : Nat} {f0 : List Int} {f1 : Int} {f2 : Int} (h : IsS67 w0 W g f0 f1 f2) : w0.heap.size ≤ g := by
 obtain ⟨A0, c0, hb, hg, hr0⟩ := h
 exact hg
theorem IsS67.ne_blk {w0 W : World} {g : Nat} {f0 : List Int} {f1 : Int} {f2 : Int} {a : Nat} {cs : Array Value} {t : TypeId} {fr : Nat × Nat} (h : IsS67 w0 W g f0 f1 f2) (hb2 : W.heap[a]? = some (.cells cs t fr)) (ht : t ≠ 67) : g ≠ a := by
 obtain ⟨A0, c0, hb, hg, hr0⟩ := h
 rintro rfl
 rw [hb] at hb2
 injection hb2 with hb2
 injection hb2 with _ ht2
 exact ht ht2.symm
theorem IsS67.far {w0 W : World} {g : Nat} {f0 : List Int} {f1 : Int} {f2 : Int} {p : Addr} (h : IsS67 w0 W g f0 f1 f2) (hne : g ≠ p.block) (u : Value) : IsS67 w0 (W.setCell p u) g f0 f1 f2 := by
 obtain ⟨A0, c0, hb, hg, hr0⟩ := h
 exact ⟨A0, c0, uQ hb hne u, hg, hr0⟩
theorem cellS67_0 {W : World} {g : Nat} {A0 : Option Addr} {c0 : Nat} {f0 : List Int} {f1 : Int} {f2 : Int} (h : W.heap[g]? = some (.cells #[.slice A0 f0.length c0, .int .i64 f1, .int .i64 f2] 67 (0, 0))) : W.cell? ⟨g, 0, none⟩ = some (.slice A0 f0.length c0) := (uF h 0).trans rfl
theorem cellS67_1 {W : World} {g : Nat} {A0 : Option Addr} {c0 : Nat} {f0 : List Int} {f1 : Int} {f2 : Int} (h : W.heap[g]? = some (.cells #[.slice A0 f0.length c0, .int .i64 f1, .int .i64 f2] 67 (0, 0))) : W.cell? ⟨g, 1, none⟩ = some (.int .i64 f1) := (uF h 1).trans rfl
theorem IsS67.set_1 {w0 W : World} {g : Nat} {f0 : List Int} {f1 : Int} {f2 : Int} (h : IsS67 w0 W g f0 f1 f2) (x : Int) : IsS67 w0 (W.setCell ⟨g, 1, none⟩ (.int .i64 x)) g f0 x f2 := by
 obtain ⟨A0, c0, hb, hg, hr0⟩ := h
 exact ⟨A0, c0, by simpa using blk_set hb 1 (.int .i64 x), hg, hr0⟩
theorem cellS67_2 {W : World} {g : Nat} {A0 : Option Addr} {c0 : Nat} {f0 : List Int} {f1 : Int} {f2 : Int} (h : W.heap[g]? = some (.cells #[.slice A0 f0.length c0, .int .i64 f1, .int .i64 f2] 67 (0, 0))) : W.cell? ⟨g, 2, none⟩ = some (.int .i64 f2) := (uF h 2).trans rfl
theorem IsS67.set_2 {w0 W : World} {g : Nat} {f0 : List Int} {f1 : Int} {f2 : Int} (h : IsS67 w0 W g f0 f1 f2) (x : Int) : IsS67 w0 (W.setCell ⟨g, 2, none⟩ (.int .i64 x)) g f0 f1 x := by
 obtain ⟨A0, c0, hb, hg, hr0⟩ := h
 exact ⟨A0, c0, by simpa using blk_set hb 2 (.int .i64 x), hg, hr0⟩
theorem IsS67.new (w0 W : World) (A0 : Option Addr) (c0 : Nat) (f0 : List Int) (f1 : Int) (f2 : Int) (hB : Below w0.heap.size w0 W) (hr0 : Kd.C (Kd.int .u8) w0 A0 f0.length f0) : IsS67 w0 (W.alloc (.cells #[.slice A0 f0.length c0, .int .i64 f1, .int .i64 f2] 67)) W.heap.size f0 f1 f2 := ⟨A0, c0, by simpa using heap_alloc_new W _, hB.size, hr0⟩

theorem IsS67.p {w0 W W1 : World} {g : Nat} {f0 f0' : List Int} {f1 f1' : Int} {f2 f2' : Int} (x : Aside0 (IsS67 w0 W1 g f0 f1 f2)) (h : IsS67 w0 W1 g f0 f1 f2 → IsS67 w0 W g f0' f1' f2' := by intro h_; repeat (first | (with_reducible first | exact h_ | apply IsS67.alloc | apply IsS67.drewN | apply IsS67.drew | apply IsS67.set_1 | apply IsS67.set_2 | refine IsS67.far ?_ (Aside0.out (by assumption)) _) | exact h_)) : IsS67 w0 W g f0' f1' f2' := h x.out
/-! ### spec_l01Byte: function 65 -/
def spec_l01Byte.f (s0_0 : List Int) (s0_1 : Int) (s0_2 : Int) : Option (Int × Int × Int) := if s0_1 < (s0_0.length : Int) then (if 0 ≤ s0_1 then (some (Go.bits .and .i64 (wrap64 ((Go.bits .and .i64 (Go.bits .xor .i64 ((wrap64 ((wrap64 (s0_2 * 6364136223846793005)) + 1442695040888963407)) / 8589934592) ((wrap64 ((wrap64 (s0_2 * 6364136223846793005)) + 1442695040888963407)) / 35184372088832)) 255) + (wrap64 (rd s0_0 s0_1)))) 255, wrap64 (s0_1 + 1), wrap64 ((wrap64 (s0_2 * 6364136223846793005)) + 1442695040888963407))) else (none)) else (some (Go.bits .and .i64 (Go.bits .xor .i64 ((wrap64 ((wrap64 (s0_2 * 6364136223846793005)) + 1442695040888963407)) / 8589934592) ((wrap64 ((wrap64 (s0_2 * 6364136223846793005)) + 1442695040888963407)) / 35184372088832)) 255, s0_1, wrap64 ((wrap64 (s0_2 * 6364136223846793005)) + 1442695040888963407)))
set_option maxHeartbeats 8000000 in
set_option maxRecDepth 100000 in
theorem spec_l01Byte.calls (g : Nat) (s0_0 : List Int) (s0_1 : Int) (s0_2 : Int) (r1 : Int) (r2 : Int) (r3 : Int) (w0 w : World) (hI : IsS67 w0 w g s0_0 s0_1 s0_2) (hB : Below w0.heap.size w0 w) (h : spec_l01Byte.f s0_0 s0_1 s0_2 = some (r1, r2, r3)) :
  Calls Tryd.prog 65 #[.pointer (some ⟨g, 0, none⟩)] w fun e w' => e = .returned (.int .i64 r1) ∧ IsS67 w0 w' g s0_0 r2 r3 ∧ Below w0.heap.size w0 w' ∧ KeepBut w w' g none := by
 have HI0 := uD hI
 have HK := uD (KeepBut.refl w g none)
 have HL := uD hB.size
 clear hI
 have HW0 := uD hB.size
 have HB := uD hB
 clear hB
 have H : (if s0_1 < (s0_0.length : Int) then (if 0 ≤ s0_1 then (some (Go.bits .and .i64 (wrap64 ((Go.bits .and .i64 (Go.bits .xor .i64 ((wrap64 ((wrap64 (s0_2 * 6364136223846793005)) + 1442695040888963407)) / 8589934592) ((wrap64 ((wrap64 (s0_2 * 6364136223846793005)) + 1442695040888963407)) / 35184372088832)) 255) + (wrap64 (rd s0_0 s0_1)))) 255, wrap64 (s0_1 + 1), wrap64 ((wrap64 (s0_2 * 6364136223846793005)) + 1442695040888963407))) else (none)) else (some (Go.bits .and .i64 (Go.bits .xor .i64 ((wrap64 ((wrap64 (s0_2 * 6364136223846793005)) + 1442695040888963407)) / 8589934592) ((wrap64 ((wrap64 (s0_2 * 6364136223846793005)) + 1442695040888963407)) / 35184372088832)) 255, s0_1, wrap64 ((wrap64 (s0_2 * 6364136223846793005)) + 1442695040888963407)))) = some (r1, r2, r3) := h
 clear h
 by_cases c2 : s0_1 < (s0_0.length : Int)
 ·rw [if_pos c2] at H
  have c2b0 : decide (s0_1 < (s0_0.length : Int)) = true := decide_eq_true c2
  clear c2
  by_cases c3 : 0 ≤ s0_1
  ·rw [if_pos c3] at H
   have c3b0 : decide (0 ≤ s0_1) = true := decide_eq_true c3
   clear c3
   simp only [Option.some.injEq, Prod.mk.injEq] at H
   obtain ⟨rfl, rfl, rfl⟩ := H
   obtain ⟨ASz4_0, cSz4_0, HGz4, hgz4, HSz4_0⟩ := HI0.out
   have hcz4_0 := cellS67_0 HGz4
   have hcz4_1 := cellS67_1 HGz4
   have hcz4_2 := cellS67_2 HGz4
   have hfz4_1 := uI HGz4 1
   have hfz4_2 := uI HGz4 2
   clear HGz4 hgz4
   have p143 : 0 ≤ (s0_1 : Int) := of_decide_eq_true (by first | (with_reducible assumption) | assumption)
   have q143 : s0_1 < (s0_0.length : Int) := of_decide_eq_true (by first | (with_reducible assumption) | assumption)
   obtain ⟨ad143, e143, hx143_0⟩ := Kd.at_int HSz4_0 s0_1 p143 q143
   cases e143
   have hn143_0 : ad143.block ≠ g := Nat.ne_of_lt (Nat.lt_of_lt_of_le (by have := World.block_lt_of_cell? _ _ hx143_0; first | rwa [add_block] at this | exact this) (IsS67.ge HI0.out))
   replace hx143_0 := pw_cell_below HB.out hx143_0
   replace hx143_0 := (cell_far (p := ⟨g, 2, none⟩) (by first | (rw [add_block]; exact hn143_0) | (show (Addr.add _ _).block ≠ _; rw [add_block]; exact hn143_0) | exact hn143_0) (.int .i64 (wrap64 ((wrap64 (s0_2 * 6364136223846793005)) + 1442695040888963407)))).trans hx143_0
   (try have hy143_0 := fun (n_ : Nat) => (show (((w.drewN n_).setCell ⟨g, 2, none⟩ (.int .i64 (wrap64 ((wrap64 (s0_2 * 6364136223846793005)) + 1442695040888963407))))).cell? _ = some _ from hx143_0))
   clear hn143_0
   replace p143 := eq_true p143
   replace q143 := eq_true q143
   go_enter Tryd.func65, Tryd.ntmps65
   go_wp2
   repeat (go_quiet (fail); try go_wp2)
   go_ret
   exact ⟨by first | rfl | (simp [errW_none, errW_some] <;> rfl) | (simp [*, errW_none, errW_some] <;> rfl), IsS67.p HI0, pB HB (IsS67.ge HI0.out), ph HK⟩
  ·rw [if_neg c3] at H
   exact absurd H (by simp)
 ·rw [if_neg c2] at H
  have c2b0 : decide (s0_1 < (s0_0.length : Int)) = false := decide_eq_false c2
  clear c2
  simp only [Option.some.injEq, Prod.mk.injEq] at H
  obtain ⟨rfl, rfl, rfl⟩ := H
  obtain ⟨ASz5_0, cSz5_0, HGz5, hgz5, HSz5_0⟩ := HI0.out
  have hcz5_0 := cellS67_0 HGz5
  have hcz5_1 := cellS67_1 HGz5
  have hcz5_2 := cellS67_2 HGz5
  have hfz5_1 := uI HGz5 1
  have hfz5_2 := uI HGz5 2
  clear HGz5 hgz5
  go_enter Tryd.func65, Tryd.ntmps65
  go_wp2
  repeat (go_quiet (fail); try go_wp2)
  go_ret
  exact ⟨by first | rfl | (simp [errW_none, errW_some] <;> rfl) | (simp [*, errW_none, errW_some] <;> rfl), IsS67.p HI0, pB HB (IsS67.ge HI0.out), ph HK⟩

/-! ### spec_l01Below: function 57 -/
def spec_l01Below.f (s0_0 : List Int) (s0_1 : Int) (s0_2 : Int) (a1 : Int) : Option (Int × Int × Int) := if a1 ≤ 0 then (some (0, s0_1, s0_2)) else (if a1 ≤ 256 then ((spec_l01Byte.f s0_0 s0_1 s0_2).bind fun bt144 => (if a1 = 0 then (none) else (some (Int.tmod bt144.1 a1, bt144.2.1, bt144.2.2)))) else ((spec_l01Byte.f s0_0 s0_1 s0_2).bind fun bt147 => ((spec_l01Byte.f s0_0 bt147.2.1 bt147.2.2).bind fun bt150 => ((spec_l01Byte.f s0_0 bt150.2.1 bt150.2.2).bind fun bt153 => ((spec_l01Byte.f s0_0 bt153.2.1 bt153.2.2).bind fun bt156 => (if a1 = 0 then (none) else (some (Int.tmod (wrap64 ((wrap64 ((wrap64 ((wrap64 (bt147.1 * 16777216)) + (wrap64 (bt150.1 * 65536)))) + (wrap64 (bt153.1 * 256)))) + bt156.1)) a1, bt156.2.1, bt156.2.2))))))))
set_option maxHeartbeats 8000000 in
set_option maxRecDepth 100000 in
theorem spec_l01Below.calls (g : Nat) (s0_0 : List Int) (s0_1 : Int) (s0_2 : Int) (a1 : Int) (r1 : Int) (r2 : Int) (r3 : Int) (w0 w : World) (hI : IsS67 w0 w g s0_0 s0_1 s0_2) (hB : Below w0.heap.size w0 w) (h : spec_l01Below.f s0_0 s0_1 s0_2 a1 = some (r1, r2, r3)) :
  Calls Tryd.prog 57 #[.pointer (some ⟨g, 0, none⟩), .int .i64 a1] w fun e w' => e = .returned (.int .i64 r1) ∧ IsS67 w0 w' g s0_0 r2 r3 ∧ Below w0.heap.size w0 w' ∧ KeepBut w w' g none := by
 have HI0 := uD hI
 have HK := uD (KeepBut.refl w g none)
 have HL := uD hB.size
 clear hI
 have HW0 := uD hB.size
 have HB := uD hB
 clear hB
 have H : (if a1 ≤ 0 then (some (0, s0_1, s0_2)) else (if a1 ≤ 256 then ((spec_l01Byte.f s0_0 s0_1 s0_2).bind fun bt144 => (if a1 = 0 then (none) else (some (Int.tmod bt144.1 a1, bt144.2.1, bt144.2.2)))) else ((spec_l01Byte.f s0_0 s0_1 s0_2).bind fun bt147 => ((spec_l01Byte.f s0_0 bt147.2.1 bt147.2.2).bind fun bt150 => ((spec_l01Byte.f s0_0 bt150.2.1 bt150.2.2).bind fun bt153 => ((spec_l01Byte.f s0_0 bt153.2.1 bt153.2.2).bind fun bt156 => (if a1 = 0 then (none) else (some (Int.tmod (wrap64 ((wrap64 ((wrap64 ((wrap64 (bt147.1 * 16777216)) + (wrap64 (bt150.1 * 65536)))) + (wrap64 (bt153.1 * 256)))) + bt156.1)) a1, bt156.2.1, bt156.2.2))))))))) = some (r1, r2, r3) := h
 clear h
 by_cases c3 : a1 ≤ 0
 ·rw [if_pos c3] at H
  have c3b0 : decide (a1 ≤ 0) = true := decide_eq_true c3
  clear c3
  simp only [Option.some.injEq, Prod.mk.injEq] at H
  obtain ⟨rfl, rfl, rfl⟩ := H
  go_enter Tryd.func57, Tryd.ntmps57
  go_wp2
  go_ret
  exact ⟨by first | rfl | (simp [errW_none, errW_some] <;> rfl) | (simp [*, errW_none, errW_some] <;> rfl), IsS67.p HI0, pB HB (IsS67.ge HI0.out), ph HK⟩
 ·rw [if_neg c3] at H
  have c3b0 : decide (a1 ≤ 0) = false := decide_eq_false c3
  clear c3
  by_cases c4 : a1 ≤ 256
  ·rw [if_pos c4] at H
   have c4b0 : decide (a1 ≤ 256) = true := decide_eq_true c4
   clear c4
   replace H := Option.bind_eq_some_iff.mp H
   obtain ⟨⟨t144, t145, t146⟩, A50, H⟩ := H
   replace H : (if a1 = 0 then (none) else (some (Int.tmod t144 a1, t145, t146))) = some (r1, r2, r3) := H
   have A5 := uD A50
   clear A50
   by_cases c6 : a1 = 0
   ·rw [if_pos c6] at H
    exact absurd H (by simp)
   ·rw [if_neg c6] at H
    have c6b0 : (a1 == 0) = false := beq_eq_false_iff_ne.mpr c6
    have c6b1 : (a1 != 0) = true := bne_iff_ne.mpr c6
    simp only [Option.some.injEq, Prod.mk.injEq] at H
    obtain ⟨rfl, rfl, rfl⟩ := H
    go_enter Tryd.func57, Tryd.ntmps57
    go_wp2_with (first | ((with_reducible refine gate_callee (f := 65) rfl ?_); refine gl (some 14) Tryd.func65 #[.pointer (some ⟨g, 0, none⟩)] ?_; (with_reducible refine (spec_l01Byte.calls g s0_0 s0_1 s0_2 t144 t145 t146 w0 _ ?side1 ?side2 A5.out).mono ?_); (case side1 => exact IsS67.p HI0); (case side2 => exact pB HB (IsS67.ge HI0.out)); rintro e w7 ⟨rfl, hi, hb, hk⟩; refine ⟨_, rfl, ?_⟩; replace HK := uD (KeepBut.trans (ph HK) hk (.inl rfl)); replace HB := uD (hb); replace HI0 := uD (hi); (try clear hb); (try clear hb2); (try clear hk); (try clear hi)))
    go_ret
    exact ⟨by first | rfl | (simp [errW_none, errW_some] <;> rfl) | (simp [*, errW_none, errW_some] <;> rfl), IsS67.p HI0, pB HB (IsS67.ge HI0.out), ph HK⟩
  ·rw [if_neg c4] at H
   have c4b0 : decide (a1 ≤ 256) = false := decide_eq_false c4
   clear c4
   replace H := Option.bind_eq_some_iff.mp H
   obtain ⟨⟨t147, t148, t149⟩, A80, H⟩ := H
   replace H : ((spec_l01Byte.f s0_0 t148 t149).bind fun bt150 => ((spec_l01Byte.f s0_0 bt150.2.1 bt150.2.2).bind fun bt153 => ((spec_l01Byte.f s0_0 bt153.2.1 bt153.2.2).bind fun bt156 => (if a1 = 0 then (none) else (some (Int.tmod (wrap64 ((wrap64 ((wrap64 ((wrap64 (t147 * 16777216)) + (wrap64 (bt150.1 * 65536)))) + (wrap64 (bt153.1 * 256)))) + bt156.1)) a1, bt156.2.1, bt156.2.2)))))) = some (r1, r2, r3) := H
   have A8 := uD A80
   clear A80
   replace H := Option.bind_eq_some_iff.mp H
   obtain ⟨⟨t150, t151, t152⟩, A90, H⟩ := H
   replace H : ((spec_l01Byte.f s0_0 t151 t152).bind fun bt153 => ((spec_l01Byte.f s0_0 bt153.2.1 bt153.2.2).bind fun bt156 => (if a1 = 0 then (none) else (some (Int.tmod (wrap64 ((wrap64 ((wrap64 ((wrap64 (t147 * 16777216)) + (wrap64 (t150 * 65536)))) + (wrap64 (bt153.1 * 256)))) + bt156.1)) a1, bt156.2.1, bt156.2.2))))) = some (r1, r2, r3) := H
   have A9 := uD A90
   clear A90
   replace H := Option.bind_eq_some_iff.mp H
   obtain ⟨⟨t153, t154, t155⟩, A100, H⟩ := H
   replace H : ((spec_l01Byte.f s0_0 t154 t155).bind fun bt156 => (if a1 = 0 then (none) else (some (Int.tmod (wrap64 ((wrap64 ((wrap64 ((wrap64 (t147 * 16777216)) + (wrap64 (t150 * 65536)))) + (wrap64 (t153 * 256)))) + bt156.1)) a1, bt156.2.1, bt156.2.2)))) = some (r1, r2, r3) := H
   have A10 := uD A100
   clear A100
   replace H := Option.bind_eq_some_iff.mp H
   obtain ⟨⟨t156, t157, t158⟩, A110, H⟩ := H
   replace H : (if a1 = 0 then (none) else (some (Int.tmod (wrap64 ((wrap64 ((wrap64 ((wrap64 (t147 * 16777216)) + (wrap64 (t150 * 65536)))) + (wrap64 (t153 * 256)))) + t156)) a1, t157, t158))) = some (r1, r2, r3) := H
   have A11 := uD A110
   clear A110
   by_cases c12 : a1 = 0
   ·rw [if_pos c12] at H
    exact absurd H (by simp)
   ·rw [if_neg c12] at H
    have c12b0 : (a1 == 0) = false := beq_eq_false_iff_ne.mpr c12
    have c12b1 : (a1 != 0) = true := bne_iff_ne.mpr c12
    simp only [Option.some.injEq, Prod.mk.injEq] at H
    obtain ⟨rfl, rfl, rfl⟩ := H
    go_enter Tryd.func57, Tryd.ntmps57
    go_wp2_with (first | ((with_reducible refine gate_callee (f := 65) rfl ?_); refine gl (some 18) Tryd.func65 #[.pointer (some ⟨g, 0, none⟩)] ?_; (with_reducible refine (spec_l01Byte.calls g s0_0 s0_1 s0_2 t147 t148 t149 w0 _ ?side1 ?side2 A8.out).mono ?_); (case side1 => exact IsS67.p HI0); (case side2 => exact pB HB (IsS67.ge HI0.out)); rintro e w13 ⟨rfl, hi, hb, hk⟩; refine ⟨_, rfl, ?_⟩; replace HK := uD (KeepBut.trans (ph HK) hk (.inl rfl)); replace HB := uD (hb); replace HI0 := uD (hi); (try clear hb); (try clear hb2); (try clear hk); (try clear hi)) | ((with_reducible refine gate_callee (f := 65) rfl ?_); refine gl (some 20) Tryd.func65 #[.pointer (some ⟨g, 0, none⟩)] ?_; (with_reducible refine (spec_l01Byte.calls g s0_0 t148 t149 t150 t151 t152 w0 _ ?side1 ?side2 A9.out).mono ?_); (case side1 => exact IsS67.p HI0); (case side2 => exact pB HB (IsS67.ge HI0.out)); rintro e w14 ⟨rfl, hi, hb, hk⟩; refine ⟨_, rfl, ?_⟩; replace HK := uD (KeepBut.trans (ph HK) hk (.inl rfl)); replace HB := uD (hb); replace HI0 := uD (hi); (try clear hb); (try clear hb2); (try clear hk); (try clear hi)) | ((with_reducible refine gate_callee (f := 65) rfl ?_); refine gl (some 22) Tryd.func65 #[.pointer (some ⟨g, 0, none⟩)] ?_; (with_reducible refine (spec_l01Byte.calls g s0_0 t151 t152 t153 t154 t155 w0 _ ?side1 ?side2 A10.out).mono ?_); (case side1 => exact IsS67.p HI0); (case side2 => exact pB HB (IsS67.ge HI0.out)); rintro e w15 ⟨rfl, hi, hb, hk⟩; refine ⟨_, rfl, ?_⟩; replace HK := uD (KeepBut.trans (ph HK) hk (.inl rfl)); replace HB := uD (hb); replace HI0 := uD (hi); (try clear hb); (try clear hb2); (try clear hk); (try clear hi)) | ((with_reducible refine gate_callee (f := 65) rfl ?_); refine gl (some 24) Tryd.func65 #[.pointer (some ⟨g, 0, none⟩)] ?_; (with_reducible refine (spec_l01Byte.calls g s0_0 t154 t155 t156 t157 t158 w0 _ ?side1 ?side2 A11.out).mono ?_); (case side1 => exact IsS67.p HI0); (case side2 => exact pB HB (IsS67.ge HI0.out)); rintro e w16 ⟨rfl, hi, hb, hk⟩; refine ⟨_, rfl, ?_⟩; replace HK := uD (KeepBut.trans (ph HK) hk (.inl rfl)); replace HB := uD (hb); replace HI0 := uD (hi); (try clear hb); (try clear hb2); (try clear hk); (try clear hi)))
    go_ret
    exact ⟨by first | rfl | (simp [errW_none, errW_some] <;> rfl) | (simp [*, errW_none, errW_some] <;> rfl), IsS67.p HI0, pB HB (IsS67.ge HI0.out), ph HK⟩

/-! ### spec_l01Once: function 56 -/
def spec_l01Once.f (s0_0 : List Int) (s0_1 : Int) (s0_2 : Int) (a1 : Int) : Option (Bool × Int × Int) := (spec_l01Below.f s0_0 s0_1 s0_2 a1).bind fun bt159 => (some ((bt159.1 == 0), bt159.2.1, bt159.2.2))
set_option maxHeartbeats 8000000 in
set_option maxRecDepth 100000 in
theorem spec_l01Once.calls (g : Nat) (s0_0 : List Int) (s0_1 : Int) (s0_2 : Int) (a1 : Int) (r1 : Bool) (r2 : Int) (r3 : Int) (w0 w : World) (hI : IsS67 w0 w g s0_0 s0_1 s0_2) (hB : Below w0.heap.size w0 w) (h : spec_l01Once.f s0_0 s0_1 s0_2 a1 = some (r1, r2, r3)) :
  Calls Tryd.prog 56 #[.pointer (some ⟨g, 0, none⟩), .int .i64 a1] w fun e w' => e = .returned (.bool r1) ∧ IsS67 w0 w' g s0_0 r2 r3 ∧ Below w0.heap.size w0 w' ∧ KeepBut w w' g none := by
 have HI0 := uD hI
 have HK := uD (KeepBut.refl w g none)
 have HL := uD hB.size
 clear hI
 have HW0 := uD hB.size
 have HB := uD hB
 clear hB
 have H : ((spec_l01Below.f s0_0 s0_1 s0_2 a1).bind fun bt159 => (some ((bt159.1 == 0), bt159.2.1, bt159.2.2))) = some (r1, r2, r3) := h
 clear h
 replace H := Option.bind_eq_some_iff.mp H
 obtain ⟨⟨t159, t160, t161⟩, A30, H⟩ := H
 replace H : (some ((t159 == 0), t160, t161)) = some (r1, r2, r3) := H
 have A3 := uD A30
 clear A30
 simp only [Option.some.injEq, Prod.mk.injEq] at H
 obtain ⟨rfl, rfl, rfl⟩ := H
 go_enter Tryd.func56, Tryd.ntmps56
 go_wp2_with (first | ((with_reducible refine gate_callee (f := 57) rfl ?_); refine gl (some 7) Tryd.func57 #[.pointer (some ⟨g, 0, none⟩), .int .i64 a1] ?_; (with_reducible refine (spec_l01Below.calls g s0_0 s0_1 s0_2 a1 t159 t160 t161 w0 _ ?side1 ?side2 A3.out).mono ?_); (case side1 => exact IsS67.p HI0); (case side2 => exact pB HB (IsS67.ge HI0.out)); rintro e w4 ⟨rfl, hi, hb, hk⟩; refine ⟨_, rfl, ?_⟩; replace HK := uD (KeepBut.trans (ph HK) hk (.inl rfl)); replace HB := uD (hb); replace HI0 := uD (hi); (try clear hb); (try clear hb2); (try clear hk); (try clear hi)))
 go_ret
 exact ⟨by first | rfl | (simp [errW_none, errW_some] <;> rfl) | (simp [*, errW_none, errW_some] <;> rfl), IsS67.p HI0, pB HB (IsS67.ge HI0.out), ph HK⟩

/-! ### spec_l01PickInt: function 61 -/
def spec_l01PickInt.f (s0_0 : List Int) (s0_1 : Int) (s0_2 : Int) (l1 : List Int) : Option (Int × Int × Int) := (spec_l01Below.f s0_0 s0_1 s0_2 (l1.length : Int)).bind fun bt162 => (if 0 ≤ bt162.1 then (if bt162.1 < (l1.length : Int) then (some (rd l1 bt162.1, bt162.2.1, bt162.2.2)) else (none)) else (none))
set_option maxHeartbeats 8000000 in
set_option maxRecDepth 100000 in
theorem spec_l01PickInt.calls (g : Nat) (s0_0 : List Int) (s0_1 : Int) (s0_2 : Int) (A1 : Option Addr) (c1 : Nat) (l1 : List Int) (r1 : Int) (r2 : Int) (r3 : Int) (w0 w : World) (hI : IsS67 w0 w g s0_0 s0_1 s0_2) (hB : Below w0.heap.size w0 w) (hr1 : Kd.C (Kd.int .i64) w A1 l1.length l1) (hc1 : l1.length ≤ c1) (hf1 : ∀ ad, A1 = some ad → 0 < l1.length → ad.block ≠ g) (h : spec_l01PickInt.f s0_0 s0_1 s0_2 l1 = some (r1, r2, r3)) :
  Calls Tryd.prog 61 #[.pointer (some ⟨g, 0, none⟩), .slice A1 l1.length c1] w fun e w' => e = .returned (.int .i64 r1) ∧ IsS67 w0 w' g s0_0 r2 r3 ∧ Below w0.heap.size w0 w' ∧ KeepBut w w' g none := by
 have HR1 := uD hr1
 have HC1 := uD hc1
 clear hr1 hc1
 have HI0 := uD hI
 have HK := uD (KeepBut.refl w g none)
 have HL := uD hB.size
 clear hI
 have HW0 := uD hB.size
 have HB := uD hB
 clear hB
 have H : ((spec_l01Below.f s0_0 s0_1 s0_2 (l1.length : Int)).bind fun bt162 => (if 0 ≤ bt162.1 then (if bt162.1 < (l1.length : Int) then (some (rd l1 bt162.1, bt162.2.1, bt162.2.2)) else (none)) else (none))) = some (r1, r2, r3) := h
 clear h
 replace H := Option.bind_eq_some_iff.mp H
 obtain ⟨⟨t162, t163, t164⟩, A30, H⟩ := H
 replace H : (if 0 ≤ t162 then (if t162 < (l1.length : Int) then (some (rd l1 t162, t163, t164)) else (none)) else (none)) = some (r1, r2, r3) := H
 have A3 := uD A30
 clear A30
 by_cases c4 : 0 ≤ t162
 ·rw [if_pos c4] at H
  have c4b0 : decide (0 ≤ t162) = true := decide_eq_true c4
  clear c4
  by_cases c5 : t162 < (l1.length : Int)
  ·rw [if_pos c5] at H
   have c5b0 : decide (t162 < (l1.length : Int)) = true := decide_eq_true c5
   clear c5
   simp only [Option.some.injEq, Prod.mk.injEq] at H
   obtain ⟨rfl, rfl, rfl⟩ := H
   go_enter Tryd.func61, Tryd.ntmps61
   go_wp2_with (first | ((with_reducible refine gate_callee (f := 57) rfl ?_); refine gl (some 9) Tryd.func57 #[.pointer (some ⟨g, 0, none⟩), .int .i64 (l1.length : Int)] ?_; (with_reducible refine (spec_l01Below.calls g s0_0 s0_1 s0_2 (l1.length : Int) t162 t163 t164 w0 _ ?side1 ?side2 A3.out).mono ?_); (case side1 => exact IsS67.p HI0); (case side2 => exact pB HB (IsS67.ge HI0.out)); rintro e w6 ⟨rfl, hi, hb, hk⟩; refine ⟨_, rfl, ?_⟩; replace HK := uD (KeepBut.trans (ph HK) hk (.inl rfl)); replace HB := uD (hb); replace HI0 := uD (hi); (try clear hb); (try clear hb2); (try clear hk); (try clear hi); have p165 : 0 ≤ (t162 : Int) := of_decide_eq_true (by first | (with_reducible assumption) | assumption); have q165 : t162 < (l1.length : Int) := of_decide_eq_true (by first | (with_reducible assumption) | assumption); obtain ⟨ad165, e165, hx165_0⟩ := Kd.at_int HR1.out t162 p165 q165; cases e165; replace hx165_0 := keep_cell HK.out hx165_0 (by first | (rw [add_block]; exact hf1 _ rfl (by omega)) | exact hf1 _ rfl (by omega) | exact hf1 ad165 rfl (by omega)); replace p165 := eq_true p165; replace q165 := eq_true q165))
   go_ret
   exact ⟨by first | rfl | (simp [errW_none, errW_some] <;> rfl) | (simp [*, errW_none, errW_some] <;> rfl), IsS67.p HI0, pB HB (IsS67.ge HI0.out), ph HK⟩
  ·rw [if_neg c5] at H
   exact absurd H (by simp)
 ·rw [if_neg c4] at H
  exact absurd H (by simp)

/-! ### spec_l01Tag: function 53 -/
def spec_l01Tag.j0 : Nat → List Int → Int → Int → Int → Int → Int → Option (Int × Int × Int × Int × Int)
 | 0, _, _, _, _, _, _ => none
 | k + 1, x1000, x1001, x1002, x177000, x177001, x177002 => (spec_l01Once.f x1000 x1001 x1002 12).bind fun bt186 => (if bt186.1 = true then ((spec_l01PickInt.f x1000 bt186.2.1 bt186.2.2 (([1, 7, 999] : List Int))).bind fun bt192 => (some (x177000, bt192.1, x177002, bt192.2.1, bt192.2.2))) else (some (x177000, x177001, x177002, bt186.2.1, bt186.2.2)))
def spec_l01Tag.f (k : Nat) (s0_0 : List Int) (s0_1 : Int) (s0_2 : Int) : Option (Int × Int × Int × Int × Int) := (spec_l01Below.f s0_0 s0_1 s0_2 10).bind fun bt167 => ((spec_l01Below.f s0_0 bt167.2.1 bt167.2.2 999).bind fun bt170 => ((spec_l01Below.f s0_0 bt170.2.1 bt170.2.2 1000000).bind fun bt173 => ((spec_l01Once.f s0_0 bt173.2.1 bt173.2.2 8).bind fun bt177 => (if bt177.1 = true then ((spec_l01PickInt.f s0_0 bt177.2.1 bt177.2.2 (([0, 1, 999999] : List Int))).bind fun bt183 => (spec_l01Tag.j0 k s0_0 bt183.2.1 bt183.2.2 bt167.1 (wrap64 (1 + bt170.1)) bt183.1)) else (spec_l01Tag.j0 k s0_0 bt177.2.1 bt177.2.2 bt167.1 (wrap64 (1 + bt170.1)) bt173.1)))))
theorem spec_l01Tag.mono_l : ∀ k, (∀ y0 y1 y2 y3 y4 y5, LeO (spec_l01Tag.j0 k y0 y1 y2 y3 y4 y5) (spec_l01Tag.j0 (k + 1) y0 y1 y2 y3 y4 y5))
 | 0 => fun _ _ _ _ _ _ r h => by simp [spec_l01Tag.j0] at h
 | k + 1 => by
  have ih0 := spec_l01Tag.mono_l k
  ·intro y0 y1 y2 y3 y4 y5
   unfold spec_l01Tag.j0
   repeat' first
   | (with_reducible exact ih0 _ _ _ _ _ _)
   | (with_reducible exact LeO.refl _)
   | (with_reducible exact LeO.none _)
   | (with_reducible refine LeO.ite ?_ ?_)
   | (with_reducible refine LeO.bind ?_ (fun _ => ?_))
   | exact ih0 _ _ _ _ _ _
   | exact LeO.none _
   | refine LeO.ite ?_ ?_
   | refine LeO.bind ?_ (fun _ => ?_)
theorem spec_l01Tag.mono : ∀ a0 a1 a2 k, LeO (spec_l01Tag.f k a0 a1 a2) (spec_l01Tag.f (k + 1) a0 a1 a2) := by
 intro a0 a1 a2 k
 have ih0 := spec_l01Tag.mono_l k
 unfold spec_l01Tag.f
 repeat' first
   | (with_reducible exact ih0 _ _ _ _ _ _)
   | (with_reducible exact LeO.refl _)
   | (with_reducible exact LeO.none _)
   | (with_reducible refine LeO.ite ?_ ?_)
   | (with_reducible refine LeO.bind ?_ (fun _ => ?_))
   | exact ih0 _ _ _ _ _ _
   | exact LeO.none _
   | refine LeO.ite ?_ ?_
   | refine LeO.bind ?_ (fun _ => ?_)
set_option maxHeartbeats 8000000 in
set_option maxRecDepth 100000 in
theorem spec_l01Tag.calls (k : Nat) (g : Nat) (s0_0 : List Int) (s0_1 : Int) (s0_2 : Int) (r1 : Int) (r2 : Int) (r3 : Int) (r4 : Int) (r5 : Int) (w0 w : World) (hI : IsS67 w0 w g s0_0 s0_1 s0_2) (hB : Below w0.heap.size w0 w) (h : spec_l01Tag.f k s0_0 s0_1 s0_2 = some (r1, r2, r3, r4, r5)) :
  Calls Tryd.prog 53 #[.pointer (some ⟨g, 0, none⟩)] w fun e w' => e = .returned (.agg #[.int .i64 r1, .int .i64 r2, .int .i64 r3]) ∧ IsS67 w0 w' g s0_0 r4 r5 ∧ Below w0.heap.size w0 w' ∧ KeepBut w w' g none := by
 have hu25 := Tryd.underlying25
 have HI0 := uD hI
 have HK := uD (KeepBut.refl w g none)
 have HL := uD hB.size
 clear hI
 have HW0 := uD hB.size
 have HB := uD hB
 clear hB
 have H : ((spec_l01Below.f s0_0 s0_1 s0_2 10).bind fun bt167 => ((spec_l01Below.f s0_0 bt167.2.1 bt167.2.2 999).bind fun bt170 => ((spec_l01Below.f s0_0 bt170.2.1 bt170.2.2 1000000).bind fun bt173 => ((spec_l01Once.f s0_0 bt173.2.1 bt173.2.2 8).bind fun bt177 => (if bt177.1 = true then ((spec_l01PickInt.f s0_0 bt177.2.1 bt177.2.2 (([0, 1, 999999] : List Int))).bind fun bt183 => (spec_l01Tag.j0 k s0_0 bt183.2.1 bt183.2.2 bt167.1 (wrap64 (1 + bt170.1)) bt183.1)) else (spec_l01Tag.j0 k s0_0 bt177.2.1 bt177.2.2 bt167.1 (wrap64 (1 + bt170.1)) bt173.1)))))) = some (r1, r2, r3, r4, r5) := h
 clear h
 replace H := Option.bind_eq_some_iff.mp H
 obtain ⟨⟨t167, t168, t169⟩, A20, H⟩ := H
 replace H : ((spec_l01Below.f s0_0 t168 t169 999).bind fun bt170 => ((spec_l01Below.f s0_0 bt170.2.1 bt170.2.2 1000000).bind fun bt173 => ((spec_l01Once.f s0_0 bt173.2.1 bt173.2.2 8).bind fun bt177 => (if bt177.1 = true then ((spec_l01PickInt.f s0_0 bt177.2.1 bt177.2.2 (([0, 1, 999999] : List Int))).bind fun bt183 => (spec_l01Tag.j0 k s0_0 bt183.2.1 bt183.2.2 t167 (wrap64 (1 + bt170.1)) bt183.1)) else (spec_l01Tag.j0 k s0_0 bt177.2.1 bt177.2.2 t167 (wrap64 (1 + bt170.1)) bt173.1))))) = some (r1, r2, r3, r4, r5) := H
 have A2 := uD A20
 clear A20
 replace H := Option.bind_eq_some_iff.mp H
 obtain ⟨⟨t170, t171, t172⟩, A30, H⟩ := H
 replace H : ((spec_l01Below.f s0_0 t171 t172 1000000).bind fun bt173 => ((spec_l01Once.f s0_0 bt173.2.1 bt173.2.2 8).bind fun bt177 => (if bt177.1 = true then ((spec_l01PickInt.f s0_0 bt177.2.1 bt177.2.2 (([0, 1, 999999] : List Int))).bind fun bt183 => (spec_l01Tag.j0 k s0_0 bt183.2.1 bt183.2.2 t167 (wrap64 (1 + t170)) bt183.1)) else (spec_l01Tag.j0 k s0_0 bt177.2.1 bt177.2.2 t167 (wrap64 (1 + t170)) bt173.1)))) = some (r1, r2, r3, r4, r5) := H
 have A3 := uD A30
 clear A30
 replace H := Option.bind_eq_some_iff.mp H
 obtain ⟨⟨t173, t174, t175⟩, A40, H⟩ := H
 replace H : ((spec_l01Once.f s0_0 t174 t175 8).bind fun bt177 => (if bt177.1 = true then ((spec_l01PickInt.f s0_0 bt177.2.1 bt177.2.2 (([0, 1, 999999] : List Int))).bind fun bt183 => (spec_l01Tag.j0 k s0_0 bt183.2.1 bt183.2.2 t167 (wrap64 (1 + t170)) bt183.1)) else (spec_l01Tag.j0 k s0_0 bt177.2.1 bt177.2.2 t167 (wrap64 (1 + t170)) t173))) = some (r1, r2, r3, r4, r5) := H
 have A4 := uD A40
 clear A40
 replace H := Option.bind_eq_some_iff.mp H
 obtain ⟨⟨t177, t178, t179⟩, A50, H⟩ := H
 replace H : (if t177 = true then ((spec_l01PickInt.f s0_0 t178 t179 (([0, 1, 999999] : List Int))).bind fun bt183 => (spec_l01Tag.j0 k s0_0 bt183.2.1 bt183.2.2 t167 (wrap64 (1 + t170)) bt183.1)) else (spec_l01Tag.j0 k s0_0 t178 t179 t167 (wrap64 (1 + t170)) t173)) = some (r1, r2, r3, r4, r5) := H
 have A5 := uD A50
 clear A50
 have HC6 := uD H
 clear H
 go_enter Tryd.func53, Tryd.ntmps53
 go_upto_if 13 with (first | ((with_reducible refine gate_dst (N := 2) rfl ?_); refine bx 2 #[.int .i64 0, .int .i64 0, .int .i64 0] 25 ?_; intro gb166 hg w7 hbox hb; replace HB := uD (uO (pB HB (IsS67.ge HI0.out)) hb); have BK166 := uD (hbox); have GW166 := uD ((by rw [hg]; exact (keep_size (w := w) (g := g) (row := none) (ph HK)) : w.heap.size ≤ gb166)); have GE166 := uD ((Nat.le_trans HW0.out (by rw [hg]; exact (keep_size (w := w) (g := g) (row := none) (ph HK)) : w.heap.size ≤ gb166) : w0.heap.size ≤ gb166)); replace HK := uD (KeepBut.trans (ph HK) (KeepBut.of_below hb g none) (.inl rfl)); have NB0_166 := uD ((by rw [hg]; exact Nat.ne_of_lt (IsS67.lt (show IsS67 w0 _ g s0_0 s0_1 s0_2 from IsS67.p HI0)) : g ≠ gb166)); have NB166_0 := uD ((by rw [hg]; exact Nat.ne_of_gt (IsS67.lt (show IsS67 w0 _ g s0_0 s0_1 s0_2 from IsS67.p HI0)) : gb166 ≠ g)); replace HI0 := uD (IsS67.below (IsS67.p HI0) hb); clear hb hbox hg) | ((with_reducible refine gate_callee (f := 57) rfl ?_); refine gl (some 5) Tryd.func57 #[.pointer (some ⟨g, 0, none⟩), .int .i64 10] ?_; (with_reducible refine (spec_l01Below.calls g s0_0 s0_1 s0_2 10 t167 t168 t169 w0 _ ?side1 ?side2 A2.out).mono ?_); (case side1 => exact IsS67.p HI0); (case side2 => exact pB HB (IsS67.ge HI0.out)); rintro e w8 ⟨rfl, hi, hb, hk⟩; refine ⟨_, rfl, ?_⟩; replace BK166 := uD (KeepBut.blk hk (pk BK166) NB166_0.out (by simp)); replace HK := uD (KeepBut.trans (ph HK) hk (.inl rfl)); replace HB := uD (hb); replace HI0 := uD (hi); (try clear hb); (try clear hb2); (try clear hk); (try clear hi)) | ((with_reducible refine gate_callee (f := 57) rfl ?_); refine gl (some 7) Tryd.func57 #[.pointer (some ⟨g, 0, none⟩), .int .i64 999] ?_; (with_reducible refine (spec_l01Below.calls g s0_0 t168 t169 999 t170 t171 t172 w0 _ ?side1 ?side2 A3.out).mono ?_); (case side1 => exact IsS67.p HI0); (case side2 => exact pB HB (IsS67.ge HI0.out)); rintro e w9 ⟨rfl, hi, hb, hk⟩; refine ⟨_, rfl, ?_⟩; replace BK166 := uD (KeepBut.blk hk (pk BK166) NB166_0.out (by simp)); replace HK := uD (KeepBut.trans (ph HK) hk (.inl rfl)); replace HB := uD (hb); replace HI0 := uD (hi); (try clear hb); (try clear hb2); (try clear hk); (try clear hi)) | ((with_reducible refine gate_callee (f := 57) rfl ?_); refine gl (some 10) Tryd.func57 #[.pointer (some ⟨g, 0, none⟩), .int .i64 1000000] ?_; (with_reducible refine (spec_l01Below.calls g s0_0 t171 t172 1000000 t173 t174 t175 w0 _ ?side1 ?side2 A4.out).mono ?_); (case side1 => exact IsS67.p HI0); (case side2 => exact pB HB (IsS67.ge HI0.out)); rintro e w10 ⟨rfl, hi, hb, hk⟩; refine ⟨_, rfl, ?_⟩; replace BK166 := uD (KeepBut.blk hk (pk BK166) NB166_0.out (by simp)); replace HK := uD (KeepBut.trans (ph HK) hk (.inl rfl)); replace HB := uD (hb); replace HI0 := uD (hi); (try clear hb); (try clear hb2); (try clear hk); (try clear hi)) | ((with_reducible refine gate_dst (N := 3) rfl ?_); refine bx 3 #[.int .i64 0, .int .i64 0, .int .i64 0] 25 ?_; intro gb176 hg w11 hbox hb; replace HB := uD (uO (pB HB (IsS67.ge HI0.out)) hb); have BK176 := uD (hbox); have GW176 := uD ((by rw [hg]; exact (keep_size (w := w) (g := g) (row := none) (ph HK)) : w.heap.size ≤ gb176)); have GE176 := uD ((Nat.le_trans HW0.out (by rw [hg]; exact (keep_size (w := w) (g := g) (row := none) (ph HK)) : w.heap.size ≤ gb176) : w0.heap.size ≤ gb176)); replace HK := uD (KeepBut.trans (ph HK) (KeepBut.of_below hb g none) (.inl rfl)); have NB166_176 := uD ((by rw [hg]; exact Nat.ne_of_lt (blk_lt (pk BK166)) : gb166 ≠ gb176)); have NB176_166 := uD ((by rw [hg]; exact Nat.ne_of_gt (blk_lt (pk BK166)) : gb176 ≠ gb166)); replace BK166 := uD (blk_below (pk BK166) hb); have NB0_176 := uD ((by rw [hg]; exact Nat.ne_of_lt (IsS67.lt (show IsS67 w0 _ g s0_0 t174 t175 from IsS67.p HI0)) : g ≠ gb176)); have NB176_0 := uD ((by rw [hg]; exact Nat.ne_of_gt (IsS67.lt (show IsS67 w0 _ g s0_0 t174 t175 from IsS67.p HI0)) : gb176 ≠ g)); replace HI0 := uD (IsS67.below (IsS67.p HI0) hb); clear hb hbox hg; have hnb12 := NB176_166.out; have hnc12 := NB166_176.out; have hnb13 := NB176_0.out; have hnc13 := NB0_176.out; obtain ⟨hcz14_0, hcz14_1, hcz14_2, hfz14_0, hfz14_1, hfz14_2⟩ := cz3 BK176) | ((with_reducible refine gate_callee (f := 56) rfl ?_); refine gl (some 13) Tryd.func56 #[.pointer (some ⟨g, 0, none⟩), .int .i64 8] ?_; (with_reducible refine (spec_l01Once.calls g s0_0 t174 t175 8 t177 t178 t179 w0 _ ?side1 ?side2 A5.out).mono ?_); (case side1 => exact IsS67.p HI0); (case side2 => exact pB HB (IsS67.ge HI0.out)); rintro e w15 ⟨rfl, hi, hb, hk⟩; refine ⟨_, rfl, ?_⟩; replace BK166 := uD (KeepBut.blk hk (g' := gb166) (o := .cells #[.int .i64 0, .int .i64 0, .int .i64 0] 25 (0, 0)) (by exact ps BK166) NB166_0.out (by simp)); replace BK176 := uD (KeepBut.blk hk (g' := gb176) (o := .cells #[.int .i64 t167, .int .i64 (wrap64 (1 + t170)), .int .i64 t173] 25 (0, 0)) (by (with_reducible repeat first|apply uH|apply uJ|apply uG); refine uP (cs := #[.int .i64 t167, .int .i64 (wrap64 (1 + t170)), .int .i64 0]) ?_ 2 _ rfl; (with_reducible repeat first|apply uH|apply uJ|apply uG); refine uP (cs := #[.int .i64 t167, .int .i64 0, .int .i64 0]) ?_ 1 _ rfl; (with_reducible repeat first|apply uH|apply uJ|apply uG); refine uP (cs := #[.int .i64 0, .int .i64 0, .int .i64 0]) ?_ 0 _ rfl; (with_reducible repeat first|apply uH|apply uJ|apply uG); exact BK176.out) NB176_0.out (by simp)); replace HK := uD (KeepBut.trans (ph HK) hk (.inl rfl)); replace HB := uD (hb); replace HI0 := uD (hi); (try clear hb); (try clear hb2); (try clear hk); (try clear hi)))
 (try simp only [uc, uA, uB, uC])
 go_cut [] (fun wc => ∃ (kq : Nat) (x1001_5 : Int) (x1002_5 : Int) (x177002_5 : Int), Aside0 (spec_l01Tag.j0 kq s0_0 x1001_5 x1002_5 t167 (wrap64 (1 + t170)) x177002_5 = some (r1, r2, r3, r4, r5)) ∧ Aside0 (kq ≤ k) ∧ Aside0 (wc.heap[gb166]? = some (.cells #[.int .i64 0, .int .i64 0, .int .i64 0] 25 (0, 0))) ∧ Aside0 (wc.heap[gb176]? = some (.cells #[.int .i64 t167, .int .i64 (wrap64 (1 + t170)), .int .i64 x177002_5] 25 (0, 0))) ∧ Aside0 (IsS67 w0 wc g s0_0 x1001_5 x1002_5) ∧ Aside0 (KeepBut w wc g none) ∧ Aside0 (Below w0.heap.size w0 wc))
 case first =>
  have H := HC6.out
  clear HC6
  by_cases c16 : t177 = true
  ·subst c16
   have H1 : ((spec_l01PickInt.f s0_0 t178 t179 (([0, 1, 999999] : List Int))).bind fun bt183 => (spec_l01Tag.j0 k s0_0 bt183.2.1 bt183.2.2 t167 (wrap64 (1 + t170)) bt183.1)) = some (r1, r2, r3, r4, r5) := by rw [if_pos rfl] at H; first | done | exact H
   clear H
   have H := H1
   clear H1
   obtain ⟨y180, hy180⟩ : ∃ y_ : List Int, y_ = (([0, 1, 999999] : List Int)) := ⟨_, rfl⟩
   replace H : ((spec_l01PickInt.f s0_0 t178 t179 y180).bind fun bt183 => (spec_l01Tag.j0 k s0_0 bt183.2.1 bt183.2.2 t167 (wrap64 (1 + t170)) bt183.1)) = some (r1, r2, r3, r4, r5) := by first | (rw [hy180]; with_reducible exact H) | (have H2_ := (Option.bind_some _ _).symm.trans H; rw [hy180]; with_reducible exact H2_) | (have H2_ := (Option.bind_some _ _).symm.trans H; with_reducible exact H2_) | with_reducible exact H | (rw [hy180]; exact H) | exact H
   have Ny180 := uD hy180
   clear hy180
   replace H := Option.bind_eq_some_iff.mp H
   obtain ⟨⟨t183, t184, t185⟩, A170, H⟩ := H
   replace H : (spec_l01Tag.j0 k s0_0 t184 t185 t167 (wrap64 (1 + t170)) t183) = some (r1, r2, r3, r4, r5) := H
   have A17 := uD A170
   clear A170
   have H' := uD H
   clear H
   go_wp2_with (first | ((with_reducible refine gate_dst (N := 15) rfl ?_); refine Kd.R_lit (Kd.int .i64) _ 3 ?hg (N := 15) ?hd (xs := ([0, 1, 999999] : List Int)) (inner := [.int .i64 0, .int .i64 1, .int .i64 999999]) (ok := fun _ => True) (okp := fun _ => True) ?hr ?hp (fun _ hk => hk) trivial (Below.refl _ _) (Nat.le_refl _) (by simp) ?_; (case hd => rfl); (case hg => rfl); (case hr => first | (go_simp; done) | (go_simp; rfl)); (case hp => exact (Reps.one (show Kd.M (Kd.int .i64) _ _ _ 0 [.int .i64 0] from rfl) (Reps.one (show Kd.M (Kd.int .i64) _ _ _ 1 [.int .i64 1] from rfl) (Reps.one (show Kd.M (Kd.int .i64) _ _ _ 999999 [.int .i64 999999] from rfl) (Reps.none _ _))))); intro v181 w18 ho19 hb hg_ hnew_; clear hg_ hnew_; (first | rw [← Ny180.out] at ho19 | (simp only [Int.reduceToNat] at ho19; rw [← Ny180.out] at ho19)); have HO182 := uD (Kd.R_lower ho19 (keep_size (w := w) (g := g) (row := none) (ph HK))); replace BK166 := uD (blk_below (pk BK166) hb); replace BK176 := uD (blk_below (pk BK176) hb); replace HK := uD (KeepBut.trans (ph HK) (KeepBut.of_below hb g none) (.inl rfl)); replace HB := uD (uO (pB HB (IsS67.ge HI0.out)) hb); replace HI0 := uD (IsS67.below (IsS67.p HI0) hb); clear hb ho19; obtain ⟨Ao20, co20, eo20⟩ := Kd.R_slice HO182.out; subst eo20) | ((with_reducible refine gate_callee (f := 61) rfl ?_); refine gl (some 16) Tryd.func61 #[.pointer (some ⟨g, 0, none⟩), .slice Ao20 y180.length co20] ?_; (with_reducible refine (spec_l01PickInt.calls g s0_0 t178 t179 _ _ y180 t183 t184 t185 w0 _ ?side1 ?side2 ?side3 ?side4 ?side5 A17.out).mono ?_); (case side1 => exact IsS67.p HI0); (case side2 => exact pB HB (IsS67.ge HI0.out)); (case side3 => exact pc ((Kd.R_reads' HO182.out).2.2)); (case side4 => exact (Kd.R_reads' HO182.out).2.1); (case side5 => exact far_slice (IsS67.own_ne HI0.out HO182.out (by decide))); rintro e w21 ⟨rfl, hi, hb, hk⟩; refine ⟨_, rfl, ?_⟩; replace BK166 := uD (KeepBut.blk hk (pk BK166) NB166_0.out (by simp)); replace BK176 := uD (KeepBut.blk hk (pk BK176) NB176_0.out (by simp)); replace HO182 := uD (uX (Kd.R_keep (IsS67.apart (show IsS67 w0 _ g s0_0 t178 t179 from IsS67.p HI0) (pr HO182) (by decide)) hk (fun _ h => h.2)) (fun _ h => h.1)); replace HK := uD (KeepBut.trans (ph HK) hk (.inl rfl)); replace HB := uD (hb); replace HI0 := uD (hi); (try clear hb); (try clear hb2); (try clear hk); (try clear hi); have hnb22 := NB176_166.out; have hnc22 := NB166_176.out; have hnb23 := NB176_0.out; have hnc23 := NB0_176.out; obtain ⟨hcz24_0, hcz24_1, hcz24_2, hfz24_0, hfz24_1, hfz24_2⟩ := cz3 BK176))
   go_meet
   case rel => exact ⟨_, (t184), (t185), (t183), H', ⟨by first | omega | exact Nat.le_refl _⟩, ⟨by exact ps BK166⟩, ⟨by (with_reducible repeat first|apply uH|apply uJ|apply uG); refine uP (cs := #[.int .i64 t167, .int .i64 (wrap64 (1 + t170)), .int .i64 t173]) ?_ 2 _ rfl; (with_reducible repeat first|apply uH|apply uJ|apply uG); exact BK176.out⟩, ⟨IsS67.p HI0⟩, ⟨ph HK⟩, ⟨pB HB (IsS67.ge HI0.out)⟩⟩
  ·replace c16 := Bool.eq_false_iff.mpr c16
   subst c16
   have H1 : (spec_l01Tag.j0 k s0_0 t178 t179 t167 (wrap64 (1 + t170)) t173) = some (r1, r2, r3, r4, r5) := by rw [if_neg (show ¬ (false = true) by decide)] at H; first | done | exact H
   clear H
   have H := H1
   clear H1
   have H' := uD H
   clear H
   go_wp2
   go_meet
   case rel => exact ⟨_, (t178), (t179), (t173), H', ⟨by first | omega | exact Nat.le_refl _⟩, ⟨by (with_reducible repeat first|apply uH|apply uJ|apply uG); exact BK166.out⟩, ⟨by (with_reducible repeat first|apply uH|apply uJ|apply uG); exact BK176.out⟩, ⟨IsS67.p HI0⟩, ⟨ph HK⟩, ⟨pB HB (IsS67.ge HI0.out)⟩⟩
 case rest =>
  clear HC6
  try clear c1
  try clear c2
  try clear p2
  try clear c5
  try clear c6
  try clear p6
  try clear c12
  try clear c13
  try clear c16
  try clear c22
  try clear c23
  try clear hcz14_0
  try clear hcz14_1
  try clear hcz14_2
  try clear hcz24_0
  try clear hcz24_1
  try clear hcz24_2
  try clear hfz14_0
  try clear hfz14_1
  try clear hfz14_2
  try clear hfz24_0
  try clear hfz24_1
  try clear hfz24_2
  obtain ⟨kq, x1001_5, x1002_5, x177002_5, HA, HJ5, BK166, BK176, HI0, HK, HB⟩ := hcut
  cases kq with
  | zero => exact absurd HA.out (by simp [spec_l01Tag.j0])
  | succ kj5 =>
   have H := HA.out
   clear HA
   simp only [spec_l01Tag.j0] at H
   replace H := Option.bind_eq_some_iff.mp H
   obtain ⟨⟨t186, t187, t188⟩, A250, H⟩ := H
   replace H : (if t186 = true then ((spec_l01PickInt.f s0_0 t187 t188 (([1, 7, 999] : List Int))).bind fun bt192 => (some (t167, bt192.1, x177002_5, bt192.2.1, bt192.2.2))) else (some (t167, (wrap64 (1 + t170)), x177002_5, t187, t188))) = some (r1, r2, r3, r4, r5) := H
   have A25 := uD A250
   clear A250
   by_cases c26 : t186 = true
   ·subst c26
    have H1 : ((spec_l01PickInt.f s0_0 t187 t188 (([1, 7, 999] : List Int))).bind fun bt192 => (some (t167, bt192.1, x177002_5, bt192.2.1, bt192.2.2))) = some (r1, r2, r3, r4, r5) := by rw [if_pos rfl] at H; first | done | exact H
    clear H
    have H := H1
    clear H1
    obtain ⟨y189, hy189⟩ : ∃ y_ : List Int, y_ = (([1, 7, 999] : List Int)) := ⟨_, rfl⟩
    replace H : ((spec_l01PickInt.f s0_0 t187 t188 y189).bind fun bt192 => (some (t167, bt192.1, x177002_5, bt192.2.1, bt192.2.2))) = some (r1, r2, r3, r4, r5) := by first | (rw [hy189]; with_reducible exact H) | (have H2_ := (Option.bind_some _ _).symm.trans H; rw [hy189]; with_reducible exact H2_) | (have H2_ := (Option.bind_some _ _).symm.trans H; with_reducible exact H2_) | with_reducible exact H | (rw [hy189]; exact H) | exact H
    have Ny189 := uD hy189
    clear hy189
    replace H := Option.bind_eq_some_iff.mp H
    obtain ⟨⟨t192, t193, t194⟩, A270, H⟩ := H
    replace H : (some (t167, t192, x177002_5, t193, t194)) = some (r1, r2, r3, r4, r5) := H
    have A27 := uD A270
    clear A270
    simp only [Option.some.injEq, Prod.mk.injEq] at H
    obtain ⟨rfl, rfl, rfl, rfl, rfl⟩ := H
    go_wp2_with (first | ((with_reducible refine gate_callee (f := 56) rfl ?_); refine gl (some 19) Tryd.func56 #[.pointer (some ⟨g, 0, none⟩), .int .i64 12] ?_; (with_reducible refine (spec_l01Once.calls g s0_0 x1001_5 x1002_5 12 true t187 t188 w0 _ ?side1 ?side2 A25.out).mono ?_); (case side1 => exact IsS67.p HI0); (case side2 => exact pB HB (IsS67.ge HI0.out)); rintro e w28 ⟨rfl, hi, hb, hk⟩; refine ⟨_, rfl, ?_⟩; replace BK166 := uD (KeepBut.blk hk (pk BK166) NB166_0.out (by simp)); replace BK176 := uD (KeepBut.blk hk (pk BK176) NB176_0.out (by simp)); replace HK := uD (KeepBut.trans (ph HK) hk (.inl rfl)); replace HB := uD (hb); replace HI0 := uD (hi); (try clear hb); (try clear hb2); (try clear hk); (try clear hi)) | ((with_reducible refine gate_dst (N := 21) rfl ?_); refine Kd.R_lit (Kd.int .i64) _ 3 ?hg (N := 21) ?hd (xs := ([1, 7, 999] : List Int)) (inner := [.int .i64 1, .int .i64 7, .int .i64 999]) (ok := fun _ => True) (okp := fun _ => True) ?hr ?hp (fun _ hk => hk) trivial (Below.refl _ _) (Nat.le_refl _) (by simp) ?_; (case hd => rfl); (case hg => rfl); (case hr => first | (go_simp; done) | (go_simp; rfl)); (case hp => exact (Reps.one (show Kd.M (Kd.int .i64) _ _ _ 1 [.int .i64 1] from rfl) (Reps.one (show Kd.M (Kd.int .i64) _ _ _ 7 [.int .i64 7] from rfl) (Reps.one (show Kd.M (Kd.int .i64) _ _ _ 999 [.int .i64 999] from rfl) (Reps.none _ _))))); intro v190 w29 ho30 hb hg_ hnew_; clear hg_ hnew_; (first | rw [← Ny189.out] at ho30 | (simp only [Int.reduceToNat] at ho30; rw [← Ny189.out] at ho30)); have HO191 := uD (Kd.R_lower ho30 (keep_size (w := w) (g := g) (row := none) (ph HK))); replace BK166 := uD (blk_below (pk BK166) hb); replace BK176 := uD (blk_below (pk BK176) hb); replace HK := uD (KeepBut.trans (ph HK) (KeepBut.of_below hb g none) (.inl rfl)); replace HB := uD (uO (pB HB (IsS67.ge HI0.out)) hb); replace HI0 := uD (IsS67.below (IsS67.p HI0) hb); clear hb ho30; obtain ⟨Ao31, co31, eo31⟩ := Kd.R_slice HO191.out; subst eo31) | ((with_reducible refine gate_callee (f := 61) rfl ?_); refine gl (some 22) Tryd.func61 #[.pointer (some ⟨g, 0, none⟩), .slice Ao31 y189.length co31] ?_; (with_reducible refine (spec_l01PickInt.calls g s0_0 t187 t188 _ _ y189 t192 t193 t194 w0 _ ?side1 ?side2 ?side3 ?side4 ?side5 A27.out).mono ?_); (case side1 => exact IsS67.p HI0); (case side2 => exact pB HB (IsS67.ge HI0.out)); (case side3 => exact pc ((Kd.R_reads' HO191.out).2.2)); (case side4 => exact (Kd.R_reads' HO191.out).2.1); (case side5 => exact far_slice (IsS67.own_ne HI0.out HO191.out (by decide))); rintro e w32 ⟨rfl, hi, hb, hk⟩; refine ⟨_, rfl, ?_⟩; replace BK166 := uD (KeepBut.blk hk (pk BK166) NB166_0.out (by simp)); replace BK176 := uD (KeepBut.blk hk (pk BK176) NB176_0.out (by simp)); replace HO191 := uD (uX (Kd.R_keep (IsS67.apart (show IsS67 w0 _ g s0_0 t187 t188 from IsS67.p HI0) (pr HO191) (by decide)) hk (fun _ h => h.2)) (fun _ h => h.1)); replace HK := uD (KeepBut.trans (ph HK) hk (.inl rfl)); replace HB := uD (hb); replace HI0 := uD (hi); (try clear hb); (try clear hb2); (try clear hk); (try clear hi); have hnb33 := NB176_166.out; have hnc33 := NB166_176.out; have hnb34 := NB176_0.out; have hnc34 := NB0_176.out; obtain ⟨hcz35_0, hcz35_1, hcz35_2, hfz35_0, hfz35_1, hfz35_2⟩ := cz3 BK176; have hnb36 := NB166_0.out; have hnc36 := NB0_166.out; obtain ⟨hcz37_0, hcz37_1, hcz37_2, hfz37_0, hfz37_1, hfz37_2⟩ := cz3 BK166))
    refine bodyPost_ret (results_cell_row rfl _ _ gb166 25 #[.int .i64 t167, .int .i64 t192, .int .i64 x177002_5] (0, 0) _ rfl (by (with_reducible repeat first|apply uH|apply uJ|apply uG); refine uP (cs := #[.int .i64 t167, .int .i64 t192, .int .i64 0]) ?_ 2 _ rfl; (with_reducible repeat first|apply uH|apply uJ|apply uG); refine uP (cs := #[.int .i64 t167, .int .i64 0, .int .i64 0]) ?_ 1 _ rfl; (with_reducible repeat first|apply uH|apply uJ|apply uG); refine uP (cs := #[.int .i64 0, .int .i64 0, .int .i64 0]) ?_ 0 _ rfl; exact ps BK166) Tryd.underlying25 rfl (by kernel_rfl)) rfl ?_
    exact ⟨by first | rfl | (simp [errW_none, errW_some] <;> rfl) | (simp [*, errW_none, errW_some] <;> rfl), IsS67.p HI0, pB HB (IsS67.ge HI0.out), ph HK⟩
   ·replace c26 := Bool.eq_false_iff.mpr c26
    subst c26
    have H1 : (some (t167, (wrap64 (1 + t170)), x177002_5, t187, t188)) = some (r1, r2, r3, r4, r5) := by rw [if_neg (show ¬ (false = true) by decide)] at H; first | done | exact H
    clear H
    have H := H1
    clear H1
    simp only [Option.some.injEq, Prod.mk.injEq] at H
    obtain ⟨rfl, rfl, rfl, rfl, rfl⟩ := H
    go_wp2_with (first | ((with_reducible refine gate_callee (f := 56) rfl ?_); refine gl (some 19) Tryd.func56 #[.pointer (some ⟨g, 0, none⟩), .int .i64 12] ?_; (with_reducible refine (spec_l01Once.calls g s0_0 x1001_5 x1002_5 12 false t187 t188 w0 _ ?side1 ?side2 A25.out).mono ?_); (case side1 => exact IsS67.p HI0); (case side2 => exact pB HB (IsS67.ge HI0.out)); rintro e w38 ⟨rfl, hi, hb, hk⟩; refine ⟨_, rfl, ?_⟩; replace BK166 := uD (KeepBut.blk hk (pk BK166) NB166_0.out (by simp)); replace BK176 := uD (KeepBut.blk hk (pk BK176) NB176_0.out (by simp)); replace HK := uD (KeepBut.trans (ph HK) hk (.inl rfl)); replace HB := uD (hb); replace HI0 := uD (hi); (try clear hb); (try clear hb2); (try clear hk); (try clear hi); have hnb39 := NB176_166.out; have hnc39 := NB166_176.out; have hnb40 := NB176_0.out; have hnc40 := NB0_176.out; obtain ⟨hcz41_0, hcz41_1, hcz41_2, hfz41_0, hfz41_1, hfz41_2⟩ := cz3 BK176; have hnb42 := NB166_0.out; have hnc42 := NB0_166.out; obtain ⟨hcz43_0, hcz43_1, hcz43_2, hfz43_0, hfz43_1, hfz43_2⟩ := cz3 BK166))
    refine bodyPost_ret (results_cell_row rfl _ _ gb166 25 #[.int .i64 t167, .int .i64 (wrap64 (1 + t170)), .int .i64 x177002_5] (0, 0) _ rfl (by (with_reducible repeat first|apply uH|apply uJ|apply uG); refine uP (cs := #[.int .i64 t167, .int .i64 (wrap64 (1 + t170)), .int .i64 0]) ?_ 2 _ rfl; (with_reducible repeat first|apply uH|apply uJ|apply uG); refine uP (cs := #[.int .i64 t167, .int .i64 0, .int .i64 0]) ?_ 1 _ rfl; (with_reducible repeat first|apply uH|apply uJ|apply uG); refine uP (cs := #[.int .i64 0, .int .i64 0, .int .i64 0]) ?_ 0 _ rfl; (with_reducible repeat first|apply uH|apply uJ|apply uG); exact BK166.out) Tryd.underlying25 rfl (by kernel_rfl)) rfl ?_
    exact ⟨by first | rfl | (simp [errW_none, errW_some] <;> rfl) | (simp [*, errW_none, errW_some] <;> rfl), IsS67.p HI0, pB HB (IsS67.ge HI0.out), ph HK⟩

/-! ### spec_l01Pick: function 62 -/
def spec_l01Pick.f (s0_0 : List Int) (s0_1 : Int) (s0_2 : Int) (l1 : List ByteArray) : Option (ByteArray × Int × Int) := (spec_l01Below.f s0_0 s0_1 s0_2 (l1.length : Int)).bind fun bt195 => (if 0 ≤ bt195.1 then (if bt195.1 < (l1.length : Int) then (some (rdOf ByteArray.empty l1 bt195.1, bt195.2.1, bt195.2.2)) else (none)) else (none))
set_option maxHeartbeats 8000000 in
set_option maxRecDepth 100000 in
theorem spec_l01Pick.calls (g : Nat) (s0_0 : List Int) (s0_1 : Int) (s0_2 : Int) (A1 : Option Addr) (c1 : Nat) (l1 : List ByteArray) (r1 : ByteArray) (r2 : Int) (r3 : Int) (w0 w : World) (hI : IsS67 w0 w g s0_0 s0_1 s0_2) (hB : Below w0.heap.size w0 w) (hr1 : Kd.C Kd.string w A1 l1.length l1) (hc1 : l1.length ≤ c1) (hf1 : ∀ ad, A1 = some ad → 0 < l1.length → ad.block ≠ g) (h : spec_l01Pick.f s0_0 s0_1 s0_2 l1 = some (r1, r2, r3)) :
  Calls Tryd.prog 62 #[.pointer (some ⟨g, 0, none⟩), .slice A1 l1.length c1] w fun e w' => e = .returned (.string r1) ∧ IsS67 w0 w' g s0_0 r2 r3 ∧ Below w0.heap.size w0 w' ∧ KeepBut w w' g none := by
 have HR1 := uD hr1
 have HC1 := uD hc1
 clear hr1 hc1
 have HI0 := uD hI
 have HK := uD (KeepBut.refl w g none)
 have HL := uD hB.size
 clear hI
 have HW0 := uD hB.size
 have HB := uD hB
 clear hB
 have H : ((spec_l01Below.f s0_0 s0_1 s0_2 (l1.length : Int)).bind fun bt195 => (if 0 ≤ bt195.1 then (if bt195.1 < (l1.length : Int) then (some (rdOf ByteArray.empty l1 bt195.1, bt195.2.1, bt195.2.2)) else (none)) else (none))) = some (r1, r2, r3) := h
 clear h
 replace H := Option.bind_eq_some_iff.mp H
 obtain ⟨⟨t195, t196, t197⟩, A30, H⟩ := H
 replace H : (if 0 ≤ t195 then (if t195 < (l1.length : Int) then (some (rdOf ByteArray.empty l1 t195, t196, t197)) else (none)) else (none)) = some (r1, r2, r3) := H
 have A3 := uD A30
 clear A30
 by_cases c4 : 0 ≤ t195
 ·rw [if_pos c4] at H
  have c4b0 : decide (0 ≤ t195) = true := decide_eq_true c4
  clear c4
  by_cases c5 : t195 < (l1.length : Int)
  ·rw [if_pos c5] at H
   have c5b0 : decide (t195 < (l1.length : Int)) = true := decide_eq_true c5
   clear c5
   simp only [Option.some.injEq, Prod.mk.injEq] at H
   obtain ⟨rfl, rfl, rfl⟩ := H
   go_enter Tryd.func62, Tryd.ntmps62
   go_wp2_with (first | ((with_reducible refine gate_callee (f := 57) rfl ?_); refine gl (some 9) Tryd.func57 #[.pointer (some ⟨g, 0, none⟩), .int .i64 (l1.length : Int)] ?_; (with_reducible refine (spec_l01Below.calls g s0_0 s0_1 s0_2 (l1.length : Int) t195 t196 t197 w0 _ ?side1 ?side2 A3.out).mono ?_); (case side1 => exact IsS67.p HI0); (case side2 => exact pB HB (IsS67.ge HI0.out)); rintro e w6 ⟨rfl, hi, hb, hk⟩; refine ⟨_, rfl, ?_⟩; replace HK := uD (KeepBut.trans (ph HK) hk (.inl rfl)); replace HB := uD (hb); replace HI0 := uD (hi); (try clear hb); (try clear hb2); (try clear hk); (try clear hi); have p198 : 0 ≤ (t195 : Int) := of_decide_eq_true (by first | (with_reducible assumption) | assumption); have q198 : t195 < (l1.length : Int) := of_decide_eq_true (by first | (with_reducible assumption) | assumption); obtain ⟨ad198, e198, hx198_0⟩ := Kd.at_string HR1.out t195 p198 q198; cases e198; replace hx198_0 := keep_cell HK.out hx198_0 (by first | (rw [add_block]; exact hf1 _ rfl (by omega)) | exact hf1 _ rfl (by omega) | exact hf1 ad198 rfl (by omega)); replace p198 := eq_true p198; replace q198 := eq_true q198))
   go_ret
   exact ⟨by first | rfl | (simp [errW_none, errW_some] <;> rfl) | (simp [*, errW_none, errW_some] <;> rfl), IsS67.p HI0, pB HB (IsS67.ge HI0.out), ph HK⟩
  ·rw [if_neg c5] at H
   exact absurd H (by simp)
 ·rw [if_neg c4] at H
  exact absurd H (by simp)

end Go.Proofs.YtnkaimdcdedekaaDoor.PFnCandidates
