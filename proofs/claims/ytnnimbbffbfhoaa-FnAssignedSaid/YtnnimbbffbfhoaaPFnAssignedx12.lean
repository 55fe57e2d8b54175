-- Written by a program of this session (wip/myprint.py: the kit's print with changes): not by print.sh itself.
import Derived.Test.YtnnimbbffbfhoaaPFnAssignedx0
namespace Go.Proofs.Ytnnimbbffbfhoaa.PFnAssigned
open Go.RowKit Go.Proofs.YtnnimbbffbfhoaaW.PrintWords Go.Proofs.YtnnimbbffbfhoaaW.PrintLast Go.Proofs.YtnnimbbffbfhoaaW.PrintMore
open Go.Proofs.YtnnimbbffbfhoaaW.PrintLast renaming i64_w → uZ
open Go.Proofs.YtnnimbbffbfhoaaW.PrintWords renaming Aside0.mk → uD, pw_below_drewN → uE, blk_cell → uF, blk_alloc → uG, blk_drewN → uH, blk_frozen → uI, blk_drew → uJ, below_drew1 → uK, below_alloc → uL, below_set → uM, below_size → uN, below_step → uO, blk_put → uP, blk_far → uQ, Kd.R_drewN → uS, Kd.R_drew → uT, Kd.R_alloc → uU, Kd.R_far → uV, Kd.R_types → uW, Kd.R_mono → uX
attribute [local go_sem] max2_int min2_int max_two min_two max_three min_three max_four min_four   -- for this text's walks alone
set_option linter.unusedVariables false
set_option linter.unusedSimpArgs false

/-! ### laws_big: function 34 -/
def laws_big.f (l0 : List Int) : Option (Bool) := some (decide ((l0.length : Int) > 1048576))
set_option maxHeartbeats 8000000 in
set_option maxRecDepth 100000 in
theorem laws_big.calls (A0 : Option Addr) (c0 : Nat) (l0 : List Int) (r : Bool) (w : World) (hr0 : Kd.C (Kd.int .u8) w A0 l0.length l0) (hc0 : l0.length ≤ c0) (h : laws_big.f l0 = some r) :
  Calls Try.prog 34 #[.slice A0 l0.length c0] w fun e w' => e = .returned (.bool r) ∧ Drawn0 w w' := by
 have HR0 := uD hr0
 have HC0 := uD hc0
 clear hr0 hc0
 have H : (some (decide ((l0.length : Int) > 1048576))) = some r := h
 clear h
 obtain rfl := Option.some.inj H
 go_enter Try.func34, Try.ntmps34
 go_wp2
 go_ret
 exact ⟨by first | rfl | (simp; done) | (simp [*]; done), by repeat (first | exact Drawn0.refl _ | apply Drawn0.step)⟩

/-- A state of type 127 at block g of W; what its slices lead to came in by w0. -/
def IsS127 (w0 W : World) (g : Nat) (f0 : List Int) (f1 : Int) (f2 : Int) : Prop := ∃ A0 c0, W.heap[g]? = some (.cells #[.slice A0 f0.length c0, .int .i64 f1, .int .i64 f2] 127 (0, 0)) ∧ w0.heap.size ≤ g ∧ Kd.C (Kd.int .u8) w0 A0 f0.length f0
theorem IsS127.grown {w0 W : World} {g : Nat} {f0 : List Int} {f1 : Int} {f2 : Int} {W1 : World} {row : Option Nat} (h : IsS127 w0 W g f0 f1 f2) (hw : W.grownBy W1 row) (hne : some g ≠ row) : IsS127 w0 W1 g f0 f1 f2 := by
 obtain ⟨A0, c0, hb, hg, hr0⟩ := h
 exact ⟨A0, c0, blk_grown hb hw hne, hg, hr0⟩
theorem IsS127.own_neN {w0 W : World} {g : Nat} {f0 : List Int} {f1 : Int} {f2 : Int} {α : Type} {d : Kd α} {e : Nat} {base : Nat} {ok : Nat → Prop} {v : Value} {xs : List α} (h : IsS127 w0 W g f0 f1 f2) (ho : Kd.N d e W base ok v xs) (ht : e ≠ 127) : some g ≠ v.ownBlock := by
 obtain ⟨A0, c0, hb, hg, hr0⟩ := h
 exact Kd.N_ne ho hb ht
theorem IsS127.fresh {w0 W : World} {g : Nat} {f0 : List Int} {f1 : Int} {f2 : Int} (h : IsS127 w0 W g f0 f1 f2) : ∀ k, W.heap.size ≤ k → k ≠ g := by
 obtain ⟨A0, c0, hb, hg, hr0⟩ := h
 exact Kd.freshB hb
theorem IsS127.kept {w0 W : World} {g : Nat} {f0 : List Int} {f1 : Int} {f2 : Int} {W1 : World} {S : Nat → Prop} (h : IsS127 w0 W g f0 f1 f2) (hk : Kept W W1 S) (hne : ¬ S g) : IsS127 w0 W1 g f0 f1 f2 := by
 obtain ⟨A0, c0, hb, hg, hr0⟩ := h
 exact ⟨A0, c0, blk_kept hb hk hne, hg, hr0⟩
theorem IsS127.below {w0 W : World} {g : Nat} {f0 : List Int} {f1 : Int} {f2 : Int} {W1 : World} (h : IsS127 w0 W g f0 f1 f2) (hw : Below W.heap.size W W1) : IsS127 w0 W1 g f0 f1 f2 := h.grown (grown_of_below hw none) (by simp)
theorem IsS127.alloc {w0 W : World} {g : Nat} {f0 : List Int} {f1 : Int} {f2 : Int} (h : IsS127 w0 W g f0 f1 f2) (o : Obj) : IsS127 w0 (W.alloc o) g f0 f1 f2 := h.below (uL (Below.refl _ _) o)
theorem IsS127.drewN {w0 W : World} {g : Nat} {f0 : List Int} {f1 : Int} {f2 : Int} (h : IsS127 w0 W g f0 f1 f2) (m : Nat) : IsS127 w0 (W.drewN m) g f0 f1 f2 := h
theorem IsS127.drew {w0 W : World} {g : Nat} {f0 : List Int} {f1 : Int} {f2 : Int} (h : IsS127 w0 W g f0 f1 f2) : IsS127 w0 W.drew g f0 f1 f2 := h
theorem IsS127.at_ {w0 W : World} {g : Nat} {f0 : List Int} {f1 : Int} {f2 : Int} {w' : World} {m : Nat} (hq : W.drewN m = w') (h : IsS127 w0 W g f0 f1 f2) : IsS127 w0 w' g f0 f1 f2 := by subst hq; exact IsS127.drewN h m
theorem IsS127.apart {w0 W : World} {g : Nat} {f0 : List Int} {f1 : Int} {f2 : Int} {α : Type} {d : Kd α} {e : Nat} {base : Nat} {ok : Nat → Prop} {v : Value} {xs : List α} (h : IsS127 w0 W g f0 f1 f2) (ho : d.R e W base ok v xs) (ht : ∀ q, q ∈ e :: d.E → q ≠ 127) : d.R e W base (fun k => ok k ∧ k ≠ g) v xs := by
 obtain ⟨A0, c0, hb, hg, hr0⟩ := h
 exact uW ho hb ht
theorem IsS127.own_ne {w0 W : World} {g : Nat} {f0 : List Int} {f1 : Int} {f2 : Int} {α : Type} {d : Kd α} {e : Nat} {base : Nat} {ok : Nat → Prop} {v : Value} {xs : List α} (h : IsS127 w0 W g f0 f1 f2) (ho : d.R e W base ok v xs) (ht : e ≠ 127) : some g ≠ v.ownBlock := by
 obtain ⟨A0, c0, hb, hg, hr0⟩ := h
 exact Kd.R_ne ho hb ht
theorem IsS127.apartQ {w0 W : World} {g : Nat} {f0 : List Int} {f1 : Int} {f2 : Int} {α : Type} {d : Kd α} {e : Nat} {base : Nat} {ok : Nat → Prop} {v : Value} {xs : List α} (h : IsS127 w0 W g f0 f1 f2) (ho : d.Q e W base ok v xs) (ht : ∀ q, q ∈ e :: d.E → q ≠ 127) : d.Q e W base (fun k => ok k ∧ k ≠ g) v xs := by
 obtain ⟨A0, c0, hb, hg, hr0⟩ := h
 exact Kd.Q_types ho hb ht
theorem IsS127.own_neQ {w0 W : World} {g : Nat} {f0 : List Int} {f1 : Int} {f2 : Int} {α : Type} {d : Kd α} {e : Nat} {base : Nat} {ok : Nat → Prop} {v : Value} {xs : List α} (h : IsS127 w0 W g f0 f1 f2) (ho : d.Q e W base ok v xs) (ht : e ≠ 127) : some g ≠ v.ownBlock := by
 obtain ⟨A0, c0, hb, hg, hr0⟩ := h
 exact Kd.Q_ne ho hb ht
theorem IsS127.apartS {w0 W : World} {g : Nat} {f0 : List Int} {f1 : Int} {f2 : Int} {α : Type} {d : Kd α} {e : Nat} {base : Nat} {ok : Nat → Prop} {v : Value} {xs : List α} (h : IsS127 w0 W g f0 f1 f2) (ho : d.S e W base ok v xs) (ht : ∀ q, q ∈ e :: d.E → q ≠ 127) : d.S e W base (fun k => ok k ∧ k ≠ g) v xs := by
 obtain ⟨A0, c0, hb, hg, hr0⟩ := h
 exact Kd.S_types ho hb ht
theorem IsS127.own_neS {w0 W : World} {g : Nat} {f0 : List Int} {f1 : Int} {f2 : Int} {α : Type} {d : Kd α} {e : Nat} {base : Nat} {ok : Nat → Prop} {v : Value} {xs : List α} (h : IsS127 w0 W g f0 f1 f2) (ho : d.S e W base ok v xs) (ht : e ≠ 127) : some g ≠ v.ownBlock := by
 obtain ⟨A0, c0, hb, hg, hr0⟩ := h
 exact Kd.S_ne ho hb ht
theorem IsS127.lt {w0 W : World} {g : Nat} {f0 : List Int} {f1 : Int} {f2 : Int} (h : IsS127 w0 W g f0 f1 f2) : g < W.heap.size := by
 obtain ⟨A0, c0, hb, hg, hr0⟩ := h
 exact blk_lt hb
theorem IsS127.ge {w0 W : World} {g : Nat} {f0 : List Int} {f1 : Int} {f2 : Int} (h : IsS127 w0 W g f0 f1 f2) : w0.heap.size ≤ g := by
 obtain ⟨A0, c0, hb, hg, hr0⟩ := h
 exact hg
theorem IsS127.ne_blk {w0 W : World} {g : Nat} {f0 : List Int} {f1 : Int} {f2 : Int} {a : Nat} {cs : Array Value} {t : TypeId} {fr : Nat × Nat} (h : IsS127 w0 W g f0 f1 f2) (hb2 : W.heap[a]? = some (.cells cs t fr)) (ht : t ≠ 127) : g ≠ a := by
 obtain ⟨A0, c0, hb, hg, hr0⟩ := h
 rintro rfl
 rw [hb] at hb2
 injection hb2 with hb2
 injection hb2 with _ ht2
 exact ht ht2.symm
theorem IsS127.far {w0 W : World} {g : Nat} {f0 : List Int} {f1 : Int} {f2 : Int} {p : Addr} (h : IsS127 w0 W g f0 f1 f2) (hne : g ≠ p.block) (u : Value) : IsS127 w0 (W.setCell p u) g f0 f1 f2 := by
 obtain ⟨A0, c0, hb, hg, hr0⟩ := h
 exact ⟨A0, c0, uQ hb hne u, hg, hr0⟩
theorem cellS127_0 {W : World} {g : Nat} {A0 : Option Addr} {c0 : Nat} {f0 : List Int} {f1 : Int} {f2 : Int} (h : W.heap[g]? = some (.cells #[.slice A0 f0.length c0, .int .i64 f1, .int .i64 f2] 127 (0, 0))) : W.cell? ⟨g, 0, none⟩ = some (.slice A0 f0.length c0) := (uF h 0).trans rfl
theorem cellS127_1 {W : World} {g : Nat} {A0 : Option Addr} {c0 : Nat} {f0 : List Int} {f1 : Int} {f2 : Int} (h : W.heap[g]? = some (.cells #[.slice A0 f0.length c0, .int .i64 f1, .int .i64 f2] 127 (0, 0))) : W.cell? ⟨g, 1, none⟩ = some (.int .i64 f1) := (uF h 1).trans rfl
theorem IsS127.set_1 {w0 W : World} {g : Nat} {f0 : List Int} {f1 : Int} {f2 : Int} (h : IsS127 w0 W g f0 f1 f2) (x : Int) : IsS127 w0 (W.setCell ⟨g, 1, none⟩ (.int .i64 x)) g f0 x f2 := by
 obtain ⟨A0, c0, hb, hg, hr0⟩ := h
 exact ⟨A0, c0, by simpa using blk_set hb 1 (.int .i64 x), hg, hr0⟩
theorem cellS127_2 {W : World} {g : Nat} {A0 : Option Addr} {c0 : Nat} {f0 : List Int} {f1 : Int} {f2 : Int} (h : W.heap[g]? = some (.cells #[.slice A0 f0.length c0, .int .i64 f1, .int .i64 f2] 127 (0, 0))) : W.cell? ⟨g, 2, none⟩ = some (.int .i64 f2) := (uF h 2).trans rfl
theorem IsS127.set_2 {w0 W : World} {g : Nat} {f0 : List Int} {f1 : Int} {f2 : Int} (h : IsS127 w0 W g f0 f1 f2) (x : Int) : IsS127 w0 (W.setCell ⟨g, 2, none⟩ (.int .i64 x)) g f0 f1 x := by
 obtain ⟨A0, c0, hb, hg, hr0⟩ := h
 exact ⟨A0, c0, by simpa using blk_set hb 2 (.int .i64 x), hg, hr0⟩
theorem IsS127.new (w0 W : World) (A0 : Option Addr) (c0 : Nat) (f0 : List Int) (f1 : Int) (f2 : Int) (hB : Below w0.heap.size w0 W) (hr0 : Kd.C (Kd.int .u8) w0 A0 f0.length f0) : IsS127 w0 (W.alloc (.cells #[.slice A0 f0.length c0, .int .i64 f1, .int .i64 f2] 127)) W.heap.size f0 f1 f2 := ⟨A0, c0, by simpa using heap_alloc_new W _, hB.size, hr0⟩

/-! ### spec_l01New: function 71 -/
def spec_l01New.l0 : Nat → List Int → Int → Int → Option (List Int × Int × Int)
 | 0, _, _, _ => none
 | k + 1, x0, x3, x4 => if x4 < (x0.length : Int) then (if x4 < 4000 then (if 0 ≤ x4 then (spec_l01New.l0 k x0 (Go.bits .and .i64 (wrap64 ((wrap64 ((wrap64 (x3 * 131)) + (wrap64 (rd x0 x4)))) + 7)) 1073741823) (wrap64 (x4 + 1))) else (none)) else (some (x0, 0, x3))) else (some (x0, 0, x3))
def spec_l01New.f (k : Nat) (l0 : List Int) : Option (List Int × Int × Int) := spec_l01New.l0 k l0 (wrap64 (33193 + (l0.length : Int))) 0
theorem spec_l01New.mono_l : ∀ k, (∀ y0 y1 y2, LeO (spec_l01New.l0 k y0 y1 y2) (spec_l01New.l0 (k + 1) y0 y1 y2))
 | 0 => fun _ _ _ r h => by simp [spec_l01New.l0] at h
 | k + 1 => by
  have ih0 := spec_l01New.mono_l k
  ·intro y0 y1 y2
   unfold spec_l01New.l0
   repeat' first
   | (with_reducible exact ih0 _ _ _)
   | (with_reducible exact LeO.refl _)
   | (with_reducible exact LeO.none _)
   | (with_reducible refine LeO.ite ?_ ?_)
   | (with_reducible refine LeO.bind ?_ (fun _ => ?_))
   | exact ih0 _ _ _
   | exact LeO.none _
   | refine LeO.ite ?_ ?_
   | refine LeO.bind ?_ (fun _ => ?_)
theorem spec_l01New.mono : ∀ a0 k, LeO (spec_l01New.f k a0) (spec_l01New.f (k + 1) a0) := by
 intro a0 k
 have ih0 := spec_l01New.mono_l k
 unfold spec_l01New.f
 repeat' first
   | (with_reducible exact ih0 _ _ _)
   | (with_reducible exact LeO.refl _)
   | (with_reducible exact LeO.none _)
   | (with_reducible refine LeO.ite ?_ ?_)
   | (with_reducible refine LeO.bind ?_ (fun _ => ?_))
   | exact ih0 _ _ _
   | exact LeO.none _
   | refine LeO.ite ?_ ?_
   | refine LeO.bind ?_ (fun _ => ?_)
set_option maxHeartbeats 8000000 in
set_option maxRecDepth 100000 in
theorem spec_l01New.calls (k : Nat) (A0 : Option Addr) (c0 : Nat) (l0 : List Int) (r1 : List Int) (r2 : Int) (r3 : Int) (w0 w : World) (hB : Below w0.heap.size w0 w) (hr0 : Kd.C (Kd.int .u8) w0 A0 l0.length l0) (hc0 : l0.length ≤ c0) (h : spec_l01New.f k l0 = some (r1, r2, r3)) :
  Calls Try.prog 71 #[.slice A0 l0.length c0] w fun e w' => ∃ g_ : Nat, e = .returned (.pointer (some ⟨g_, 0, none⟩)) ∧ IsS127 w0 w' g_ r1 r2 r3 ∧ Below w0.heap.size w0 w' ∧ Below w.heap.size w w' := by
 have hu127 := Try.underlying127
 have HR0 := uD hr0
 have HC0 := uD hc0
 clear hr0 hc0
 have HBW := uD (Below.refl w.heap.size w)
 have HW0 := uD hB.size
 have HB := uD hB
 clear hB
 have H : (spec_l01New.l0 k l0 (wrap64 (33193 + (l0.length : Int))) 0) = some (r1, r2, r3) := h
 clear h
 have H' := uD H
 clear H
 go_enter Try.func71, Try.ntmps71
 go_wp2
 go_loopg [3, 4] k (fun kq v3 v4 w' => ∃ (x3_1 : Int) (x4_1 : Int), v3 = .int .i64 x3_1 ∧ v4 = .int .i64 x4_1 ∧ Aside0 (spec_l01New.l0 kq l0 x3_1 x4_1 = some (r1, r2, r3)) ∧ Aside0 (kq ≤ k) ∧ Aside0 (Below w0.heap.size w0 w') ∧ Aside0 (Below w.heap.size w w'))
 case atStart => exact ⟨(wrap64 (33193 + (l0.length : Int))), (0), (by first | rfl | (simp; done) | (simp [*]; done)), (by first | rfl | (simp; done) | (simp [*]; done)), H', ⟨Nat.le_refl _⟩, ⟨pb HB⟩, ⟨by repeat (first | (with_reducible first | exact HBW.out | apply uL | apply uE | apply uK) | exact HBW.out)⟩⟩
 case round =>
  clear H'
  obtain ⟨x3_1, x4_1, rfl, rfl, HA, HK1, HB, HBW⟩ := hrel
  cases gk with
  | zero => exact absurd HA.out (by simp [spec_l01New.l0])
  | succ k1 =>
   have H := HA.out
   clear HA
   simp only [spec_l01New.l0] at H
   by_cases c2 : x4_1 < (l0.length : Int)
   ·rw [if_pos c2] at H
    have c2b0 : decide (x4_1 < (l0.length : Int)) = true := decide_eq_true c2
    clear c2
    by_cases c3 : x4_1 < 4000
    ·rw [if_pos c3] at H
     have c3b0 : decide (x4_1 < 4000) = true := decide_eq_true c3
     clear c3
     by_cases c4 : 0 ≤ x4_1
     ·rw [if_pos c4] at H
      have c4b0 : decide (0 ≤ x4_1) = true := decide_eq_true c4
      clear c4
      have H' := uD H
      clear H
      have p202 : 0 ≤ (x4_1 : Int) := of_decide_eq_true (by first | (with_reducible assumption) | assumption)
      have q202 : x4_1 < (l0.length : Int) := of_decide_eq_true (by first | (with_reducible assumption) | assumption)
      obtain ⟨ad202, e202, hx202_0⟩ := Kd.at_int HR0.out x4_1 p202 q202
      cases e202
      replace hx202_0 := pw_cell_below HB.out hx202_0
      replace p202 := eq_true p202
      replace q202 := eq_true q202
      go_wp2
      go_roundg k1
      case measure => have := HK1.out; omega
      case rel => exact ⟨(Go.bits .and .i64 (wrap64 ((wrap64 ((wrap64 (x3_1 * 131)) + (wrap64 (rd l0 x4_1)))) + 7)) 1073741823), (wrap64 (x4_1 + 1)), (by first | rfl | (simp; done) | (simp [*]; done)), (by first | rfl | (simp; done) | (simp [*]; done)), H', ⟨by have := HK1.out; omega⟩, ⟨pb HB⟩, ⟨by repeat (first | (with_reducible first | exact HBW.out | apply uL | apply uE | apply uK) | exact HBW.out)⟩⟩
     ·rw [if_neg c4] at H
      exact absurd H (by simp)
    ·rw [if_neg c3] at H
     have c3b0 : decide (x4_1 < 4000) = false := decide_eq_false c3
     clear c3
     simp only [Option.some.injEq, Prod.mk.injEq] at H
     obtain ⟨rfl, rfl, rfl⟩ := H
     go_wp2_with (first | ((with_reducible refine gate_dst (N := 31) rfl ?_); refine box_event ?hg (N := 31) ?hd (cs := #[.slice A0 l0.length c0, .int .i64 0, .int .i64 x3_1]) (t := 127) ?hr ?_; (case hd => rfl); (case hg => rfl); (case hr => first | (go_simp; done) | (go_simp; rfl)); intro gb203 hg w5 hbox hb; replace HB := uD (uO (pb HB) hb); have BK203 := uD (hbox); have GW203 := uD ((by rw [hg]; exact (uN (by repeat (first | (with_reducible first | exact HBW.out | apply uL | apply uE | apply uK) | exact HBW.out))) : w.heap.size ≤ gb203)); have GE203 := uD ((Nat.le_trans HW0.out (by rw [hg]; exact (uN (by repeat (first | (with_reducible first | exact HBW.out | apply uL | apply uE | apply uK) | exact HBW.out))) : w.heap.size ≤ gb203) : w0.heap.size ≤ gb203)); replace HBW := uD (uO HBW.out hb); clear hb hbox hg))
     go_ret
     exact ⟨_, rfl, (show IsS127 w0 _ gb203 l0 0 x3_1 from ⟨_, _, by (with_reducible repeat first|apply uH|apply uJ|apply uG); exact BK203.out, GE203.out, HR0.out⟩), pb HB, by repeat (first | (with_reducible first | exact HBW.out | apply uL | apply uE | apply uK | refine uM ?_ GW203.out) | exact HBW.out)⟩
   ·rw [if_neg c2] at H
    have c2b0 : decide (x4_1 < (l0.length : Int)) = false := decide_eq_false c2
    clear c2
    simp only [Option.some.injEq, Prod.mk.injEq] at H
    obtain ⟨rfl, rfl, rfl⟩ := H
    go_wp2_with (first | ((with_reducible refine gate_dst (N := 31) rfl ?_); refine box_event ?hg (N := 31) ?hd (cs := #[.slice A0 l0.length c0, .int .i64 0, .int .i64 x3_1]) (t := 127) ?hr ?_; (case hd => rfl); (case hg => rfl); (case hr => first | (go_simp; done) | (go_simp; rfl)); intro gb204 hg w6 hbox hb; replace HB := uD (uO (pb HB) hb); have BK204 := uD (hbox); have GW204 := uD ((by rw [hg]; exact (uN (by repeat (first | (with_reducible first | exact HBW.out | apply uL | apply uE | apply uK) | exact HBW.out))) : w.heap.size ≤ gb204)); have GE204 := uD ((Nat.le_trans HW0.out (by rw [hg]; exact (uN (by repeat (first | (with_reducible first | exact HBW.out | apply uL | apply uE | apply uK) | exact HBW.out))) : w.heap.size ≤ gb204) : w0.heap.size ≤ gb204)); replace HBW := uD (uO HBW.out hb); clear hb hbox hg))
    go_ret
    exact ⟨_, rfl, (show IsS127 w0 _ gb204 l0 0 x3_1 from ⟨_, _, by (with_reducible repeat first|apply uH|apply uJ|apply uG); exact BK204.out, GE204.out, HR0.out⟩), pb HB, by repeat (first | (with_reducible first | exact HBW.out | apply uL | apply uE | apply uK | refine uM ?_ GW204.out) | exact HBW.out)⟩

/-! ### spec_l01Byte: function 107 -/
def spec_l01Byte.f (s0_0 : List Int) (s0_1 : Int) (s0_2 : Int) : Option (Int × Int × Int) := if s0_1 < (s0_0.length : Int) then (if 0 ≤ s0_1 then (some (Go.bits .and .i64 (wrap64 ((Go.bits .and .i64 (Go.bits .xor .i64 ((wrap64 ((wrap64 (s0_2 * 6364136223846793005)) + 1442695040888963407)) / 8589934592) ((wrap64 ((wrap64 (s0_2 * 6364136223846793005)) + 1442695040888963407)) / 35184372088832)) 255) + (wrap64 (rd s0_0 s0_1)))) 255, wrap64 (s0_1 + 1), wrap64 ((wrap64 (s0_2 * 6364136223846793005)) + 1442695040888963407))) else (none)) else (some (Go.bits .and .i64 (Go.bits .xor .i64 ((wrap64 ((wrap64 (s0_2 * 6364136223846793005)) + 1442695040888963407)) / 8589934592) ((wrap64 ((wrap64 (s0_2 * 6364136223846793005)) + 1442695040888963407)) / 35184372088832)) 255, s0_1, wrap64 ((wrap64 (s0_2 * 6364136223846793005)) + 1442695040888963407)))
set_option maxHeartbeats 8000000 in
set_option maxRecDepth 100000 in
theorem spec_l01Byte.calls (g : Nat) (s0_0 : List Int) (s0_1 : Int) (s0_2 : Int) (r1 : Int) (r2 : Int) (r3 : Int) (w0 w : World) (hI : IsS127 w0 w g s0_0 s0_1 s0_2) (hB : Below w0.heap.size w0 w) (h : spec_l01Byte.f s0_0 s0_1 s0_2 = some (r1, r2, r3)) :
  Calls Try.prog 107 #[.pointer (some ⟨g, 0, none⟩)] w fun e w' => e = .returned (.int .i64 r1) ∧ IsS127 w0 w' g s0_0 r2 r3 ∧ Below w0.heap.size w0 w' ∧ KeepBut w w' g none := by
 have HI0 := uD hI
 have HK := uD (KeepBut.refl w g none)
 have HL := uD hB.size
 clear hI
 have HW0 := uD hB.size
 have HB := uD hB
 clear hB
 have H : (if s0_1 < (s0_0.length : Int) then (if 0 ≤ s0_1 then (some (Go.bits .and .i64 (wrap64 ((Go.bits .and .i64 (Go.bits .xor .i64 ((wrap64 ((wrap64 (s0_2 * 6364136223846793005)) + 1442695040888963407)) / 8589934592) ((wrap64 ((wrap64 (s0_2 * 6364136223846793005)) + 1442695040888963407)) / 35184372088832)) 255) + (wrap64 (rd s0_0 s0_1)))) 255, wrap64 (s0_1 + 1), wrap64 ((wrap64 (s0_2 * 6364136223846793005)) + 1442695040888963407))) else (none)) else (some (Go.bits .and .i64 (Go.bits .xor .i64 ((wrap64 ((wrap64 (s0_2 * 6364136223846793005)) + 1442695040888963407)) / 8589934592) ((wrap64 ((wrap64 (s0_2 * 6364136223846793005)) + 1442695040888963407)) / 35184372088832)) 255, s0_1, wrap64 ((wrap64 (s0_2 * 6364136223846793005)) + 1442695040888963407)))) = some (r1, r2, r3) := h
 clear h
 by_cases c2 : s0_1 < (s0_0.length : Int)
 ·rw [if_pos c2] at H
  have c2b0 : decide (s0_1 < (s0_0.length : Int)) = true := decide_eq_true c2
  clear c2
  by_cases c3 : 0 ≤ s0_1
  ·rw [if_pos c3] at H
   have c3b0 : decide (0 ≤ s0_1) = true := decide_eq_true c3
   clear c3
   simp only [Option.some.injEq, Prod.mk.injEq] at H
   obtain ⟨rfl, rfl, rfl⟩ := H
   obtain ⟨ASz4_0, cSz4_0, HGz4, hgz4, HSz4_0⟩ := HI0.out
   have hcz4_0 := cellS127_0 HGz4
   have hcz4_1 := cellS127_1 HGz4
   have hcz4_2 := cellS127_2 HGz4
   have hfz4_1 := uI HGz4 1
   have hfz4_2 := uI HGz4 2
   clear HGz4 hgz4
   have p205 : 0 ≤ (s0_1 : Int) := of_decide_eq_true (by first | (with_reducible assumption) | assumption)
   have q205 : s0_1 < (s0_0.length : Int) := of_decide_eq_true (by first | (with_reducible assumption) | assumption)
   obtain ⟨ad205, e205, hx205_0⟩ := Kd.at_int HSz4_0 s0_1 p205 q205
   cases e205
   have hn205_0 : ad205.block ≠ g := Nat.ne_of_lt (Nat.lt_of_lt_of_le (by have := World.block_lt_of_cell? _ _ hx205_0; first | rwa [add_block] at this | exact this) (IsS127.ge HI0.out))
   replace hx205_0 := pw_cell_below HB.out hx205_0
   replace hx205_0 := (cell_far (p := ⟨g, 2, none⟩) (by first | (rw [add_block]; exact hn205_0) | (show (Addr.add _ _).block ≠ _; rw [add_block]; exact hn205_0) | exact hn205_0) (.int .i64 (wrap64 ((wrap64 (s0_2 * 6364136223846793005)) + 1442695040888963407)))).trans hx205_0
   (try have hy205_0 := fun (n_ : Nat) => (show (((w.drewN n_).setCell ⟨g, 2, none⟩ (.int .i64 (wrap64 ((wrap64 (s0_2 * 6364136223846793005)) + 1442695040888963407))))).cell? _ = some _ from hx205_0))
   clear hn205_0
   replace p205 := eq_true p205
   replace q205 := eq_true q205
   go_enter Try.func107, Try.ntmps107
   go_wp2
   repeat (go_quiet (fail); try go_wp2)
   go_ret
   exact ⟨by first | rfl | (simp [errW_none, errW_some] <;> rfl) | (simp [*, errW_none, errW_some] <;> rfl), by repeat (first | (with_reducible first | exact HI0.out | apply IsS127.alloc | apply IsS127.drewN | apply IsS127.drew | apply IsS127.set_1 | apply IsS127.set_2) | exact HI0.out), by repeat (first | (with_reducible first | exact HB.out | apply uL | apply uE | apply uK | refine uM ?_ (IsS127.ge HI0.out)) | exact HB.out), ph HK⟩
  ·rw [if_neg c3] at H
   exact absurd H (by simp)
 ·rw [if_neg c2] at H
  have c2b0 : decide (s0_1 < (s0_0.length : Int)) = false := decide_eq_false c2
  clear c2
  simp only [Option.some.injEq, Prod.mk.injEq] at H
  obtain ⟨rfl, rfl, rfl⟩ := H
  obtain ⟨ASz5_0, cSz5_0, HGz5, hgz5, HSz5_0⟩ := HI0.out
  have hcz5_0 := cellS127_0 HGz5
  have hcz5_1 := cellS127_1 HGz5
  have hcz5_2 := cellS127_2 HGz5
  have hfz5_1 := uI HGz5 1
  have hfz5_2 := uI HGz5 2
  clear HGz5 hgz5
  go_enter Try.func107, Try.ntmps107
  go_wp2
  repeat (go_quiet (fail); try go_wp2)
  go_ret
  exact ⟨by first | rfl | (simp [errW_none, errW_some] <;> rfl) | (simp [*, errW_none, errW_some] <;> rfl), by repeat (first | (with_reducible first | exact HI0.out | apply IsS127.alloc | apply IsS127.drewN | apply IsS127.drew | apply IsS127.set_1 | apply IsS127.set_2) | exact HI0.out), by repeat (first | (with_reducible first | exact HB.out | apply uL | apply uE | apply uK | refine uM ?_ (IsS127.ge HI0.out)) | exact HB.out), ph HK⟩

/-! ### spec_l01Below: function 83 -/
def spec_l01Below.f (s0_0 : List Int) (s0_1 : Int) (s0_2 : Int) (a1 : Int) : Option (Int × Int × Int) := if a1 ≤ 0 then (some (0, s0_1, s0_2)) else (if a1 ≤ 256 then ((spec_l01Byte.f s0_0 s0_1 s0_2).bind fun bt206 => (if a1 = 0 then (none) else (some (Int.tmod bt206.1 a1, bt206.2.1, bt206.2.2)))) else ((spec_l01Byte.f s0_0 s0_1 s0_2).bind fun bt209 => ((spec_l01Byte.f s0_0 bt209.2.1 bt209.2.2).bind fun bt212 => ((spec_l01Byte.f s0_0 bt212.2.1 bt212.2.2).bind fun bt215 => ((spec_l01Byte.f s0_0 bt215.2.1 bt215.2.2).bind fun bt218 => (if a1 = 0 then (none) else (some (Int.tmod (wrap64 ((wrap64 ((wrap64 ((wrap64 (bt209.1 * 16777216)) + (wrap64 (bt212.1 * 65536)))) + (wrap64 (bt215.1 * 256)))) + bt218.1)) a1, bt218.2.1, bt218.2.2))))))))
set_option maxHeartbeats 8000000 in
set_option maxRecDepth 100000 in
theorem spec_l01Below.calls (g : Nat) (s0_0 : List Int) (s0_1 : Int) (s0_2 : Int) (a1 : Int) (r1 : Int) (r2 : Int) (r3 : Int) (w0 w : World) (hI : IsS127 w0 w g s0_0 s0_1 s0_2) (hB : Below w0.heap.size w0 w) (h : spec_l01Below.f s0_0 s0_1 s0_2 a1 = some (r1, r2, r3)) :
  Calls Try.prog 83 #[.pointer (some ⟨g, 0, none⟩), .int .i64 a1] w fun e w' => e = .returned (.int .i64 r1) ∧ IsS127 w0 w' g s0_0 r2 r3 ∧ Below w0.heap.size w0 w' ∧ KeepBut w w' g none := by
 have HI0 := uD hI
 have HK := uD (KeepBut.refl w g none)
 have HL := uD hB.size
 clear hI
 have HW0 := uD hB.size
 have HB := uD hB
 clear hB
 have H : (if a1 ≤ 0 then (some (0, s0_1, s0_2)) else (if a1 ≤ 256 then ((spec_l01Byte.f s0_0 s0_1 s0_2).bind fun bt206 => (if a1 = 0 then (none) else (some (Int.tmod bt206.1 a1, bt206.2.1, bt206.2.2)))) else ((spec_l01Byte.f s0_0 s0_1 s0_2).bind fun bt209 => ((spec_l01Byte.f s0_0 bt209.2.1 bt209.2.2).bind fun bt212 => ((spec_l01Byte.f s0_0 bt212.2.1 bt212.2.2).bind fun bt215 => ((spec_l01Byte.f s0_0 bt215.2.1 bt215.2.2).bind fun bt218 => (if a1 = 0 then (none) else (some (Int.tmod (wrap64 ((wrap64 ((wrap64 ((wrap64 (bt209.1 * 16777216)) + (wrap64 (bt212.1 * 65536)))) + (wrap64 (bt215.1 * 256)))) + bt218.1)) a1, bt218.2.1, bt218.2.2))))))))) = some (r1, r2, r3) := h
 clear h
 by_cases c3 : a1 ≤ 0
 ·rw [if_pos c3] at H
  have c3b0 : decide (a1 ≤ 0) = true := decide_eq_true c3
  clear c3
  simp only [Option.some.injEq, Prod.mk.injEq] at H
  obtain ⟨rfl, rfl, rfl⟩ := H
  go_enter Try.func83, Try.ntmps83
  go_wp2
  go_ret
  exact ⟨by first | rfl | (simp [errW_none, errW_some] <;> rfl) | (simp [*, errW_none, errW_some] <;> rfl), by repeat (first | (with_reducible first | exact HI0.out | apply IsS127.alloc | apply IsS127.drewN | apply IsS127.drew | apply IsS127.set_1 | apply IsS127.set_2) | exact HI0.out), by repeat (first | (with_reducible first | exact HB.out | apply uL | apply uE | apply uK | refine uM ?_ (IsS127.ge HI0.out)) | exact HB.out), ph HK⟩
 ·rw [if_neg c3] at H
  have c3b0 : decide (a1 ≤ 0) = false := decide_eq_false c3
  clear c3
  by_cases c4 : a1 ≤ 256
  ·rw [if_pos c4] at H
   have c4b0 : decide (a1 ≤ 256) = true := decide_eq_true c4
   clear c4
   replace H := Option.bind_eq_some_iff.mp H
   obtain ⟨⟨t206, t207, t208⟩, A50, H⟩ := H
   replace H : (if a1 = 0 then (none) else (some (Int.tmod t206 a1, t207, t208))) = some (r1, r2, r3) := H
   have A5 := uD A50
   clear A50
   by_cases c6 : a1 = 0
   ·rw [if_pos c6] at H
    exact absurd H (by simp)
   ·rw [if_neg c6] at H
    have c6b0 : (a1 == 0) = false := beq_eq_false_iff_ne.mpr c6
    have c6b1 : (a1 != 0) = true := bne_iff_ne.mpr c6
    simp only [Option.some.injEq, Prod.mk.injEq] at H
    obtain ⟨rfl, rfl, rfl⟩ := H
    go_enter Try.func83, Try.ntmps83
    go_wp2_with (first | ((with_reducible refine gate_callee (f := 107) rfl ?_); refine goesL_ (some 14) rfl rfl Try.func107 (by kernel_rfl) rfl #[.pointer (some ⟨g, 0, none⟩)] rfl (by (try simp only [List.map_toArray, List.map_cons, List.map_nil]); first | done | rfl | (simp only [List.length_drop, List.length_take]; rfl)) ?_; (with_reducible refine (spec_l01Byte.calls g s0_0 s0_1 s0_2 t206 t207 t208 w0 _ ?side1 ?side2 A5.out).mono ?_); (case side1 => repeat (first | (with_reducible first | exact HI0.out | apply IsS127.alloc | apply IsS127.drewN | apply IsS127.drew | apply IsS127.set_1 | apply IsS127.set_2) | exact HI0.out)); (case side2 => repeat (first | (with_reducible first | exact HB.out | apply uL | apply uE | apply uK | refine uM ?_ (IsS127.ge HI0.out)) | exact HB.out)); rintro e w7 ⟨rfl, hi, hb, hk⟩; refine ⟨_, rfl, ?_⟩; replace HK := uD (KeepBut.trans (ph HK) hk (.inl rfl)); replace HB := uD (hb); replace HI0 := uD (hi); (try clear hb); (try clear hb2); (try clear hk); (try clear hi)))
    go_ret
    exact ⟨by first | rfl | (simp [errW_none, errW_some] <;> rfl) | (simp [*, errW_none, errW_some] <;> rfl), by repeat (first | (with_reducible first | exact HI0.out | apply IsS127.alloc | apply IsS127.drewN | apply IsS127.drew | apply IsS127.set_1 | apply IsS127.set_2) | exact HI0.out), by repeat (first | (with_reducible first | exact HB.out | apply uL | apply uE | apply uK | refine uM ?_ (IsS127.ge HI0.out)) | exact HB.out), ph HK⟩
  ·rw [if_neg c4] at H
   have c4b0 : decide (a1 ≤ 256) = false := decide_eq_false c4
   clear c4
   replace H := Option.bind_eq_some_iff.mp H
   obtain ⟨⟨t209, t210, t211⟩, A80, H⟩ := H
   replace H : ((spec_l01Byte.f s0_0 t210 t211).bind fun bt212 => ((spec_l01Byte.f s0_0 bt212.2.1 bt212.2.2).bind fun bt215 => ((spec_l01Byte.f s0_0 bt215.2.1 bt215.2.2).bind fun bt218 => (if a1 = 0 then (none) else (some (Int.tmod (wrap64 ((wrap64 ((wrap64 ((wrap64 (t209 * 16777216)) + (wrap64 (bt212.1 * 65536)))) + (wrap64 (bt215.1 * 256)))) + bt218.1)) a1, bt218.2.1, bt218.2.2)))))) = some (r1, r2, r3) := H
   have A8 := uD A80
   clear A80
   replace H := Option.bind_eq_some_iff.mp H
   obtain ⟨⟨t212, t213, t214⟩, A90, H⟩ := H
   replace H : ((spec_l01Byte.f s0_0 t213 t214).bind fun bt215 => ((spec_l01Byte.f s0_0 bt215.2.1 bt215.2.2).bind fun bt218 => (if a1 = 0 then (none) else (some (Int.tmod (wrap64 ((wrap64 ((wrap64 ((wrap64 (t209 * 16777216)) + (wrap64 (t212 * 65536)))) + (wrap64 (bt215.1 * 256)))) + bt218.1)) a1, bt218.2.1, bt218.2.2))))) = some (r1, r2, r3) := H
   have A9 := uD A90
   clear A90
   replace H := Option.bind_eq_some_iff.mp H
   obtain ⟨⟨t215, t216, t217⟩, A100, H⟩ := H
   replace H : ((spec_l01Byte.f s0_0 t216 t217).bind fun bt218 => (if a1 = 0 then (none) else (some (Int.tmod (wrap64 ((wrap64 ((wrap64 ((wrap64 (t209 * 16777216)) + (wrap64 (t212 * 65536)))) + (wrap64 (t215 * 256)))) + bt218.1)) a1, bt218.2.1, bt218.2.2)))) = some (r1, r2, r3) := H
   have A10 := uD A100
   clear A100
   replace H := Option.bind_eq_some_iff.mp H
   obtain ⟨⟨t218, t219, t220⟩, A110, H⟩ := H
   replace H : (if a1 = 0 then (none) else (some (Int.tmod (wrap64 ((wrap64 ((wrap64 ((wrap64 (t209 * 16777216)) + (wrap64 (t212 * 65536)))) + (wrap64 (t215 * 256)))) + t218)) a1, t219, t220))) = some (r1, r2, r3) := H
   have A11 := uD A110
   clear A110
   by_cases c12 : a1 = 0
   ·rw [if_pos c12] at H
    exact absurd H (by simp)
   ·rw [if_neg c12] at H
    have c12b0 : (a1 == 0) = false := beq_eq_false_iff_ne.mpr c12
    have c12b1 : (a1 != 0) = true := bne_iff_ne.mpr c12
    simp only [Option.some.injEq, Prod.mk.injEq] at H
    obtain ⟨rfl, rfl, rfl⟩ := H
    go_enter Try.func83, Try.ntmps83
    go_wp2_with (first | ((with_reducible refine gate_callee (f := 107) rfl ?_); refine goesL_ (some 18) rfl rfl Try.func107 (by kernel_rfl) rfl #[.pointer (some ⟨g, 0, none⟩)] rfl (by (try simp only [List.map_toArray, List.map_cons, List.map_nil]); first | done | rfl | (simp only [List.length_drop, List.length_take]; rfl)) ?_; (with_reducible refine (spec_l01Byte.calls g s0_0 s0_1 s0_2 t209 t210 t211 w0 _ ?side1 ?side2 A8.out).mono ?_); (case side1 => repeat (first | (with_reducible first | exact HI0.out | apply IsS127.alloc | apply IsS127.drewN | apply IsS127.drew | apply IsS127.set_1 | apply IsS127.set_2) | exact HI0.out)); (case side2 => repeat (first | (with_reducible first | exact HB.out | apply uL | apply uE | apply uK | refine uM ?_ (IsS127.ge HI0.out)) | exact HB.out)); rintro e w13 ⟨rfl, hi, hb, hk⟩; refine ⟨_, rfl, ?_⟩; replace HK := uD (KeepBut.trans (ph HK) hk (.inl rfl)); replace HB := uD (hb); replace HI0 := uD (hi); (try clear hb); (try clear hb2); (try clear hk); (try clear hi)) | ((with_reducible refine gate_callee (f := 107) rfl ?_); refine goesL_ (some 20) rfl rfl Try.func107 (by kernel_rfl) rfl #[.pointer (some ⟨g, 0, none⟩)] rfl (by (try simp only [List.map_toArray, List.map_cons, List.map_nil]); first | done | rfl | (simp only [List.length_drop, List.length_take]; rfl)) ?_; (with_reducible refine (spec_l01Byte.calls g s0_0 t210 t211 t212 t213 t214 w0 _ ?side1 ?side2 A9.out).mono ?_); (case side1 => repeat (first | (with_reducible first | exact HI0.out | apply IsS127.alloc | apply IsS127.drewN | apply IsS127.drew | apply IsS127.set_1 | apply IsS127.set_2) | exact HI0.out)); (case side2 => repeat (first | (with_reducible first | exact HB.out | apply uL | apply uE | apply uK | refine uM ?_ (IsS127.ge HI0.out)) | exact HB.out)); rintro e w14 ⟨rfl, hi, hb, hk⟩; refine ⟨_, rfl, ?_⟩; replace HK := uD (KeepBut.trans (ph HK) hk (.inl rfl)); replace HB := uD (hb); replace HI0 := uD (hi); (try clear hb); (try clear hb2); (try clear hk); (try clear hi)) | ((with_reducible refine gate_callee (f := 107) rfl ?_); refine goesL_ (some 22) rfl rfl Try.func107 (by kernel_rfl) rfl #[.pointer (some ⟨g, 0, none⟩)] rfl (by (try simp only [List.map_toArray, List.map_cons, List.map_nil]); first | done | rfl | (simp only [List.length_drop, List.length_take]; rfl)) ?_; (with_reducible refine (spec_l01Byte.calls g s0_0 t213 t214 t215 t216 t217 w0 _ ?side1 ?side2 A10.out).mono ?_); (case side1 => repeat (first | (with_reducible first | exact HI0.out | apply IsS127.alloc | apply IsS127.drewN | apply IsS127.drew | apply IsS127.set_1 | apply IsS127.set_2) | exact HI0.out)); (case side2 => repeat (first | (with_reducible first | exact HB.out | apply uL | apply uE | apply uK | refine uM ?_ (IsS127.ge HI0.out)) | exact HB.out)); rintro e w15 ⟨rfl, hi, hb, hk⟩; refine ⟨_, rfl, ?_⟩; replace HK := uD (KeepBut.trans (ph HK) hk (.inl rfl)); replace HB := uD (hb); replace HI0 := uD (hi); (try clear hb); (try clear hb2); (try clear hk); (try clear hi)) | ((with_reducible refine gate_callee (f := 107) rfl ?_); refine goesL_ (some 24) rfl rfl Try.func107 (by kernel_rfl) rfl #[.pointer (some ⟨g, 0, none⟩)] rfl (by (try simp only [List.map_toArray, List.map_cons, List.map_nil]); first | done | rfl | (simp only [List.length_drop, List.length_take]; rfl)) ?_; (with_reducible refine (spec_l01Byte.calls g s0_0 t216 t217 t218 t219 t220 w0 _ ?side1 ?side2 A11.out).mono ?_); (case side1 => repeat (first | (with_reducible first | exact HI0.out | apply IsS127.alloc | apply IsS127.drewN | apply IsS127.drew | apply IsS127.set_1 | apply IsS127.set_2) | exact HI0.out)); (case side2 => repeat (first | (with_reducible first | exact HB.out | apply uL | apply uE | apply uK | refine uM ?_ (IsS127.ge HI0.out)) | exact HB.out)); rintro e w16 ⟨rfl, hi, hb, hk⟩; refine ⟨_, rfl, ?_⟩; replace HK := uD (KeepBut.trans (ph HK) hk (.inl rfl)); replace HB := uD (hb); replace HI0 := uD (hi); (try clear hb); (try clear hb2); (try clear hk); (try clear hi)))
    go_ret
    exact ⟨by first | rfl | (simp [errW_none, errW_some] <;> rfl) | (simp [*, errW_none, errW_some] <;> rfl), by repeat (first | (with_reducible first | exact HI0.out | apply IsS127.alloc | apply IsS127.drewN | apply IsS127.drew | apply IsS127.set_1 | apply IsS127.set_2) | exact HI0.out), by repeat (first | (with_reducible first | exact HB.out | apply uL | apply uE | apply uK | refine uM ?_ (IsS127.ge HI0.out)) | exact HB.out), ph HK⟩

/-! ### spec_l01Once: function 88 -/
def spec_l01Once.f (s0_0 : List Int) (s0_1 : Int) (s0_2 : Int) (a1 : Int) : Option (Bool × Int × Int) := (spec_l01Below.f s0_0 s0_1 s0_2 a1).bind fun bt221 => (some ((bt221.1 == 0), bt221.2.1, bt221.2.2))
set_option maxHeartbeats 8000000 in
set_option maxRecDepth 100000 in
theorem spec_l01Once.calls (g : Nat) (s0_0 : List Int) (s0_1 : Int) (s0_2 : Int) (a1 : Int) (r1 : Bool) (r2 : Int) (r3 : Int) (w0 w : World) (hI : IsS127 w0 w g s0_0 s0_1 s0_2) (hB : Below w0.heap.size w0 w) (h : spec_l01Once.f s0_0 s0_1 s0_2 a1 = some (r1, r2, r3)) :
  Calls Try.prog 88 #[.pointer (some ⟨g, 0, none⟩), .int .i64 a1] w fun e w' => e = .returned (.bool r1) ∧ IsS127 w0 w' g s0_0 r2 r3 ∧ Below w0.heap.size w0 w' ∧ KeepBut w w' g none := by
 have HI0 := uD hI
 have HK := uD (KeepBut.refl w g none)
 have HL := uD hB.size
 clear hI
 have HW0 := uD hB.size
 have HB := uD hB
 clear hB
 have H : ((spec_l01Below.f s0_0 s0_1 s0_2 a1).bind fun bt221 => (some ((bt221.1 == 0), bt221.2.1, bt221.2.2))) = some (r1, r2, r3) := h
 clear h
 replace H := Option.bind_eq_some_iff.mp H
 obtain ⟨⟨t221, t222, t223⟩, A30, H⟩ := H
 replace H : (some ((t221 == 0), t222, t223)) = some (r1, r2, r3) := H
 have A3 := uD A30
 clear A30
 simp only [Option.some.injEq, Prod.mk.injEq] at H
 obtain ⟨rfl, rfl, rfl⟩ := H
 go_enter Try.func88, Try.ntmps88
 go_wp2_with (first | ((with_reducible refine gate_callee (f := 83) rfl ?_); refine goesL_ (some 7) rfl rfl Try.func83 (by kernel_rfl) rfl #[.pointer (some ⟨g, 0, none⟩), .int .i64 a1] rfl (by (try simp only [List.map_toArray, List.map_cons, List.map_nil]); first | done | rfl | (simp only [List.length_drop, List.length_take]; rfl)) ?_; (with_reducible refine (spec_l01Below.calls g s0_0 s0_1 s0_2 a1 t221 t222 t223 w0 _ ?side1 ?side2 A3.out).mono ?_); (case side1 => repeat (first | (with_reducible first | exact HI0.out | apply IsS127.alloc | apply IsS127.drewN | apply IsS127.drew | apply IsS127.set_1 | apply IsS127.set_2) | exact HI0.out)); (case side2 => repeat (first | (with_reducible first | exact HB.out | apply uL | apply uE | apply uK | refine uM ?_ (IsS127.ge HI0.out)) | exact HB.out)); rintro e w4 ⟨rfl, hi, hb, hk⟩; refine ⟨_, rfl, ?_⟩; replace HK := uD (KeepBut.trans (ph HK) hk (.inl rfl)); replace HB := uD (hb); replace HI0 := uD (hi); (try clear hb); (try clear hb2); (try clear hk); (try clear hi)))
 go_ret
 exact ⟨by first | rfl | (simp [errW_none, errW_some] <;> rfl) | (simp [*, errW_none, errW_some] <;> rfl), by repeat (first | (with_reducible first | exact HI0.out | apply IsS127.alloc | apply IsS127.drewN | apply IsS127.drew | apply IsS127.set_1 | apply IsS127.set_2) | exact HI0.out), by repeat (first | (with_reducible first | exact HB.out | apply uL | apply uE | apply uK | refine uM ?_ (IsS127.ge HI0.out)) | exact HB.out), ph HK⟩

/-! ### spec_l01PickInt: function 89 -/
def spec_l01PickInt.f (s0_0 : List Int) (s0_1 : Int) (s0_2 : Int) (l1 : List Int) : Option (Int × Int × Int) := (spec_l01Below.f s0_0 s0_1 s0_2 (l1.length : Int)).bind fun bt224 => (if 0 ≤ bt224.1 then (if bt224.1 < (l1.length : Int) then (some (rd l1 bt224.1, bt224.2.1, bt224.2.2)) else (none)) else (none))
set_option maxHeartbeats 8000000 in
set_option maxRecDepth 100000 in
theorem spec_l01PickInt.calls (g : Nat) (s0_0 : List Int) (s0_1 : Int) (s0_2 : Int) (A1 : Option Addr) (c1 : Nat) (l1 : List Int) (r1 : Int) (r2 : Int) (r3 : Int) (w0 w : World) (hI : IsS127 w0 w g s0_0 s0_1 s0_2) (hB : Below w0.heap.size w0 w) (hr1 : Kd.C (Kd.int .i64) w A1 l1.length l1) (hc1 : l1.length ≤ c1) (hf1 : ∀ ad, A1 = some ad → 0 < l1.length → ad.block ≠ g) (h : spec_l01PickInt.f s0_0 s0_1 s0_2 l1 = some (r1, r2, r3)) :
  Calls Try.prog 89 #[.pointer (some ⟨g, 0, none⟩), .slice A1 l1.length c1] w fun e w' => e = .returned (.int .i64 r1) ∧ IsS127 w0 w' g s0_0 r2 r3 ∧ Below w0.heap.size w0 w' ∧ KeepBut w w' g none := by
 have HR1 := uD hr1
 have HC1 := uD hc1
 clear hr1 hc1
 have HI0 := uD hI
 have HK := uD (KeepBut.refl w g none)
 have HL := uD hB.size
 clear hI
 have HW0 := uD hB.size
 have HB := uD hB
 clear hB
 have H : ((spec_l01Below.f s0_0 s0_1 s0_2 (l1.length : Int)).bind fun bt224 => (if 0 ≤ bt224.1 then (if bt224.1 < (l1.length : Int) then (some (rd l1 bt224.1, bt224.2.1, bt224.2.2)) else (none)) else (none))) = some (r1, r2, r3) := h
 clear h
 replace H := Option.bind_eq_some_iff.mp H
 obtain ⟨⟨t224, t225, t226⟩, A30, H⟩ := H
 replace H : (if 0 ≤ t224 then (if t224 < (l1.length : Int) then (some (rd l1 t224, t225, t226)) else (none)) else (none)) = some (r1, r2, r3) := H
 have A3 := uD A30
 clear A30
 by_cases c4 : 0 ≤ t224
 ·rw [if_pos c4] at H
  have c4b0 : decide (0 ≤ t224) = true := decide_eq_true c4
  clear c4
  by_cases c5 : t224 < (l1.length : Int)
  ·rw [if_pos c5] at H
   have c5b0 : decide (t224 < (l1.length : Int)) = true := decide_eq_true c5
   clear c5
   simp only [Option.some.injEq, Prod.mk.injEq] at H
   obtain ⟨rfl, rfl, rfl⟩ := H
   go_enter Try.func89, Try.ntmps89
   go_wp2_with (first | ((with_reducible refine gate_callee (f := 83) rfl ?_); refine goesL_ (some 9) rfl rfl Try.func83 (by kernel_rfl) rfl #[.pointer (some ⟨g, 0, none⟩), .int .i64 (l1.length : Int)] rfl (by (try simp only [List.map_toArray, List.map_cons, List.map_nil]); first | done | rfl | (simp only [List.length_drop, List.length_take]; rfl)) ?_; (with_reducible refine (spec_l01Below.calls g s0_0 s0_1 s0_2 (l1.length : Int) t224 t225 t226 w0 _ ?side1 ?side2 A3.out).mono ?_); (case side1 => repeat (first | (with_reducible first | exact HI0.out | apply IsS127.alloc | apply IsS127.drewN | apply IsS127.drew | apply IsS127.set_1 | apply IsS127.set_2) | exact HI0.out)); (case side2 => repeat (first | (with_reducible first | exact HB.out | apply uL | apply uE | apply uK | refine uM ?_ (IsS127.ge HI0.out)) | exact HB.out)); rintro e w6 ⟨rfl, hi, hb, hk⟩; refine ⟨_, rfl, ?_⟩; replace HK := uD (KeepBut.trans (ph HK) hk (.inl rfl)); replace HB := uD (hb); replace HI0 := uD (hi); (try clear hb); (try clear hb2); (try clear hk); (try clear hi); have p227 : 0 ≤ (t224 : Int) := of_decide_eq_true (by first | (with_reducible assumption) | assumption); have q227 : t224 < (l1.length : Int) := of_decide_eq_true (by first | (with_reducible assumption) | assumption); obtain ⟨ad227, e227, hx227_0⟩ := Kd.at_int HR1.out t224 p227 q227; cases e227; replace hx227_0 := keep_cell HK.out hx227_0 (by first | (rw [add_block]; exact hf1 _ rfl (by omega)) | exact hf1 _ rfl (by omega) | exact hf1 ad227 rfl (by omega)); replace p227 := eq_true p227; replace q227 := eq_true q227))
   go_ret
   exact ⟨by first | rfl | (simp [errW_none, errW_some] <;> rfl) | (simp [*, errW_none, errW_some] <;> rfl), by repeat (first | (with_reducible first | exact HI0.out | apply IsS127.alloc | apply IsS127.drewN | apply IsS127.drew | apply IsS127.set_1 | apply IsS127.set_2) | exact HI0.out), by repeat (first | (with_reducible first | exact HB.out | apply uL | apply uE | apply uK | refine uM ?_ (IsS127.ge HI0.out)) | exact HB.out), ph HK⟩
  ·rw [if_neg c5] at H
   exact absurd H (by simp)
 ·rw [if_neg c4] at H
  exact absurd H (by simp)

/-! ### spec_l03Expects: function 72 -/
def spec_l03Expects.l0 : Nat → List (S47) → Int → List Int → Int → Int → Option ((List (S47)) × Int × Int)
 | 0, _, _, _, _, _ => none
 | k + 1, x3, x4, x1000, x1001, x1002 => if x4 > 0 then ((spec_l01Below.f x1000 x1001 x1002 20).bind fun bt234 => ((spec_l01Below.f x1000 bt234.2.1 bt234.2.2 3).bind fun bt237 => ((spec_l01PickInt.f x1000 bt237.2.1 bt237.2.2 (([0, 1, 2, 3, 5, 9, 14] : List Int))).bind fun bt243 => (if x3.length < 5864062014805 then (spec_l03Expects.l0 k (x3 ++ [(⟨wrap64 ((wrap64 (1 + (wrap64 (3 * (x3.length : Int))))) + bt237.1), bt234.1, wrap64 (bt234.1 + bt243.1)⟩ : S47)]) (wrap64 (x4 - 1)) x1000 bt243.2.1 bt243.2.2) else (none))))) else (if (x3.length : Int) > 1 then ((spec_l01Once.f x1000 x1001 x1002 2).bind fun bt249 => (if bt249.1 = true then (if 0 < (x3.length : Int) then (if 0 ≤ (wrap64 ((x3.length : Int) - 1)) then (if (wrap64 ((x3.length : Int) - 1)) < (x3.length : Int) then (some (((x3.set (0 : Int).toNat (⟨(rd_T47 x3 (wrap64 ((x3.length : Int) - 1))).f0, (rd_T47 x3 (wrap64 ((x3.length : Int) - 1))).f1, (rd_T47 x3 (wrap64 ((x3.length : Int) - 1))).f2⟩ : S47)).set ((wrap64 ((x3.length : Int) - 1)) : Int).toNat (⟨(rd_T47 x3 0).f0, (rd_T47 x3 0).f1, (rd_T47 x3 0).f2⟩ : S47)), bt249.2.1, bt249.2.2)) else (none)) else (none)) else (none)) else (some (x3, bt249.2.1, bt249.2.2)))) else (some (x3, x1001, x1002)))
def spec_l03Expects.f (k : Nat) (s0_0 : List Int) (s0_1 : Int) (s0_2 : Int) : Option ((List (S47)) × Int × Int) := (spec_l01Below.f s0_0 s0_1 s0_2 6).bind fun bt231 => (spec_l03Expects.l0 k (([] : List (S47))) bt231.1 s0_0 bt231.2.1 bt231.2.2)
theorem spec_l03Expects.mono_l : ∀ k, (∀ y0 y1 y2 y3 y4, LeO (spec_l03Expects.l0 k y0 y1 y2 y3 y4) (spec_l03Expects.l0 (k + 1) y0 y1 y2 y3 y4))
 | 0 => fun _ _ _ _ _ r h => by simp [spec_l03Expects.l0] at h
 | k + 1 => by
  have ih0 := spec_l03Expects.mono_l k
  ·intro y0 y1 y2 y3 y4
   unfold spec_l03Expects.l0
   repeat' first
   | (with_reducible exact ih0 _ _ _ _ _)
   | (with_reducible exact LeO.refl _)
   | (with_reducible exact LeO.none _)
   | (with_reducible refine LeO.ite ?_ ?_)
   | (with_reducible refine LeO.bind ?_ (fun _ => ?_))
   | exact ih0 _ _ _ _ _
   | exact LeO.none _
   | refine LeO.ite ?_ ?_
   | refine LeO.bind ?_ (fun _ => ?_)
theorem spec_l03Expects.mono : ∀ a0 a1 a2 k, LeO (spec_l03Expects.f k a0 a1 a2) (spec_l03Expects.f (k + 1) a0 a1 a2) := by
 intro a0 a1 a2 k
 have ih0 := spec_l03Expects.mono_l k
 unfold spec_l03Expects.f
 repeat' first
   | (with_reducible exact ih0 _ _ _ _ _)
   | (with_reducible exact LeO.refl _)
   | (with_reducible exact LeO.none _)
   | (with_reducible refine LeO.ite ?_ ?_)
   | (with_reducible refine LeO.bind ?_ (fun _ => ?_))
   | exact ih0 _ _ _ _ _
   | exact LeO.none _
   | refine LeO.ite ?_ ?_
   | refine LeO.bind ?_ (fun _ => ?_)
set_option maxHeartbeats 8000000 in
set_option maxRecDepth 100000 in
theorem spec_l03Expects.calls (k : Nat) (g : Nat) (s0_0 : List Int) (s0_1 : Int) (s0_2 : Int) (r1 : List (S47)) (r2 : Int) (r3 : Int) (w0 w : World) (hI : IsS127 w0 w g s0_0 s0_1 s0_2) (hB : Below w0.heap.size w0 w) (h : spec_l03Expects.f k s0_0 s0_1 s0_2 = some (r1, r2, r3)) :
  Calls Try.prog 72 #[.pointer (some ⟨g, 0, none⟩)] w fun e w' => ∃ v0_ : Value, e = .returned (v0_) ∧ Kd.R k47 47 w' w.heap.size (fun _ => True) v0_ r1 ∧ IsS127 w0 w' g s0_0 r2 r3 ∧ Below w0.heap.size w0 w' ∧ KeepBut w w' g none := by
 have hu47 := Try.underlying47
 have HI0 := uD hI
 have HK := uD (KeepBut.refl w g none)
 have HL := uD hB.size
 clear hI
 have HW0 := uD hB.size
 have HB := uD hB
 clear hB
 have H : ((spec_l01Below.f s0_0 s0_1 s0_2 6).bind fun bt231 => (spec_l03Expects.l0 k (([] : List (S47))) bt231.1 s0_0 bt231.2.1 bt231.2.2)) = some (r1, r2, r3) := h
 clear h
 obtain ⟨y228, hy228⟩ : ∃ y_ : List (S47), y_ = (([] : List (S47))) := ⟨_, rfl⟩
 replace H : ((spec_l01Below.f s0_0 s0_1 s0_2 6).bind fun bt231 => (spec_l03Expects.l0 k y228 bt231.1 s0_0 bt231.2.1 bt231.2.2)) = some (r1, r2, r3) := by first | (rw [hy228]; with_reducible exact H) | (have H2_ := (Option.bind_some _ _).symm.trans H; rw [hy228]; with_reducible exact H2_) | (have H2_ := (Option.bind_some _ _).symm.trans H; with_reducible exact H2_) | with_reducible exact H | (rw [hy228]; exact H) | exact H
 have Ny228 := uD hy228
 clear hy228
 replace H := Option.bind_eq_some_iff.mp H
 obtain ⟨⟨t231, t232, t233⟩, A20, H⟩ := H
 replace H : (spec_l03Expects.l0 k y228 t231 s0_0 t232 t233) = some (r1, r2, r3) := H
 have A2 := uD A20
 clear A20
 have H' := uD H
 clear H
 go_enter Try.func72, Try.ntmps72
 go_wp2_with (first | ((with_reducible refine gate_dst (N := 7) rfl ?_); refine Kd.R_lit k47 _ 47 ?hg (N := 7) ?hd (xs := ([] : List (S47))) (inner := []) (ok := fun _ => True) (okp := fun _ => True) ?hr ?hp (fun _ hk => hk) trivial (Below.refl _ _) (Nat.le_refl _) (by simp) ?_; (case hd => rfl); (case hg => rfl); (case hr => first | (go_simp; done) | (go_simp; rfl)); (case hp => exact (Reps.none _ _)); intro v229 w3 ho4 hb hg_ hnew_; clear hg_ hnew_; (first | rw [← Ny228.out] at ho4 | (simp only [Int.reduceToNat] at ho4; rw [← Ny228.out] at ho4)); have HO230 := uD (Kd.R_lower ho4 (keep_size (w := w) (g := g) (row := none) (ph HK))); replace HK := uD (KeepBut.trans (ph HK) (KeepBut.of_below hb g none) (.inl rfl)); replace HB := uD (uO (by repeat (first | (with_reducible first | exact HB.out | apply uL | apply uE | apply uK | refine uM ?_ (IsS127.ge HI0.out)) | exact HB.out)) hb); replace HI0 := uD (IsS127.below (by repeat (first | (with_reducible first | exact HI0.out | apply IsS127.alloc | apply IsS127.drewN | apply IsS127.drew | apply IsS127.set_1 | apply IsS127.set_2) | exact HI0.out)) hb); clear hb ho4) | ((with_reducible refine gate_callee (f := 83) rfl ?_); refine goesL_ (some 9) rfl rfl Try.func83 (by kernel_rfl) rfl #[.pointer (some ⟨g, 0, none⟩), .int .i64 6] rfl (by (try simp only [List.map_toArray, List.map_cons, List.map_nil]); first | done | rfl | (simp only [List.length_drop, List.length_take]; rfl)) ?_; (with_reducible refine (spec_l01Below.calls g s0_0 s0_1 s0_2 6 t231 t232 t233 w0 _ ?side1 ?side2 A2.out).mono ?_); (case side1 => repeat (first | (with_reducible first | exact HI0.out | apply IsS127.alloc | apply IsS127.drewN | apply IsS127.drew | apply IsS127.set_1 | apply IsS127.set_2) | exact HI0.out)); (case side2 => repeat (first | (with_reducible first | exact HB.out | apply uL | apply uE | apply uK | refine uM ?_ (IsS127.ge HI0.out)) | exact HB.out)); rintro e w5 ⟨rfl, hi, hb, hk⟩; refine ⟨_, rfl, ?_⟩; replace HO230 := uD (uX (Kd.R_keep (IsS127.apart (show IsS127 w0 _ g s0_0 s0_1 s0_2 from by repeat (first | (with_reducible first | exact HI0.out | apply IsS127.alloc | apply IsS127.drewN | apply IsS127.drew | apply IsS127.set_1 | apply IsS127.set_2) | exact HI0.out)) (pr HO230) (by decide)) hk (fun _ h => h.2)) (fun _ h => h.1)); replace HK := uD (KeepBut.trans (ph HK) hk (.inl rfl)); replace HB := uD (hb); replace HI0 := uD (hi); (try clear hb); (try clear hb2); (try clear hk); (try clear hi)))
 go_loopg [3, 4] k (fun kq v3 v4 w' => ∃ (x3_1 : List (S47)) (x4_1 : Int) (x1001_1 : Int) (x1002_1 : Int), v4 = .int .i64 x4_1 ∧ Aside0 (spec_l03Expects.l0 kq x3_1 x4_1 s0_0 x1001_1 x1002_1 = some (r1, r2, r3)) ∧ Aside0 (kq ≤ k) ∧ Aside0 (Kd.R k47 47 w' w.heap.size (fun _ => True) v3 x3_1) ∧ Aside0 (IsS127 w0 w' g s0_0 x1001_1 x1002_1) ∧ Aside0 (KeepBut w w' g none) ∧ Aside0 (Below w0.heap.size w0 w'))
 case atStart => exact ⟨(y228), (t231), (t232), (t233), (by first | rfl | (simp; done) | (simp [*]; done)), H', ⟨Nat.le_refl _⟩, ⟨by (with_reducible repeat (first | apply uU | apply uS | apply uT)); exact HO230.out⟩, ⟨by repeat (first | (with_reducible first | exact HI0.out | apply IsS127.alloc | apply IsS127.drewN | apply IsS127.drew | apply IsS127.set_1 | apply IsS127.set_2) | exact HI0.out)⟩, ⟨ph HK⟩, ⟨by repeat (first | (with_reducible first | exact HB.out | apply uL | apply uE | apply uK | refine uM ?_ (IsS127.ge HI0.out)) | exact HB.out)⟩⟩
 case round =>
  clear H'
  try clear p2
  obtain ⟨x3_1, x4_1, x1001_1, x1002_1, rfl, HA, HK1, HO_3, HI0, HK, HB⟩ := hrel
  cases gk with
  | zero => exact absurd HA.out (by simp [spec_l03Expects.l0])
  | succ k1 =>
   have H := HA.out
   clear HA
   simp only [spec_l03Expects.l0] at H
   by_cases c6 : x4_1 > 0
   ·rw [if_pos c6] at H
    have c6b0 : decide (0 < x4_1) = true := decide_eq_true c6
    clear c6
    replace H := Option.bind_eq_some_iff.mp H
    obtain ⟨⟨t234, t235, t236⟩, A70, H⟩ := H
    replace H : ((spec_l01Below.f s0_0 t235 t236 3).bind fun bt237 => ((spec_l01PickInt.f s0_0 bt237.2.1 bt237.2.2 (([0, 1, 2, 3, 5, 9, 14] : List Int))).bind fun bt243 => (if x3_1.length < 5864062014805 then (spec_l03Expects.l0 k1 (x3_1 ++ [(⟨wrap64 ((wrap64 (1 + (wrap64 (3 * (x3_1.length : Int))))) + bt237.1), t234, wrap64 (t234 + bt243.1)⟩ : S47)]) (wrap64 (x4_1 - 1)) s0_0 bt243.2.1 bt243.2.2) else (none)))) = some (r1, r2, r3) := H
    have A7 := uD A70
    clear A70
    replace H := Option.bind_eq_some_iff.mp H
    obtain ⟨⟨t237, t238, t239⟩, A80, H⟩ := H
    replace H : ((spec_l01PickInt.f s0_0 t238 t239 (([0, 1, 2, 3, 5, 9, 14] : List Int))).bind fun bt243 => (if x3_1.length < 5864062014805 then (spec_l03Expects.l0 k1 (x3_1 ++ [(⟨wrap64 ((wrap64 (1 + (wrap64 (3 * (x3_1.length : Int))))) + t237), t234, wrap64 (t234 + bt243.1)⟩ : S47)]) (wrap64 (x4_1 - 1)) s0_0 bt243.2.1 bt243.2.2) else (none))) = some (r1, r2, r3) := H
    have A8 := uD A80
    clear A80
    obtain ⟨y240, hy240⟩ : ∃ y_ : List Int, y_ = (([0, 1, 2, 3, 5, 9, 14] : List Int)) := ⟨_, rfl⟩
    replace H : ((spec_l01PickInt.f s0_0 t238 t239 y240).bind fun bt243 => (if x3_1.length < 5864062014805 then (spec_l03Expects.l0 k1 (x3_1 ++ [(⟨wrap64 ((wrap64 (1 + (wrap64 (3 * (x3_1.length : Int))))) + t237), t234, wrap64 (t234 + bt243.1)⟩ : S47)]) (wrap64 (x4_1 - 1)) s0_0 bt243.2.1 bt243.2.2) else (none))) = some (r1, r2, r3) := by first | (rw [hy240]; with_reducible exact H) | (have H2_ := (Option.bind_some _ _).symm.trans H; rw [hy240]; with_reducible exact H2_) | (have H2_ := (Option.bind_some _ _).symm.trans H; with_reducible exact H2_) | with_reducible exact H | (rw [hy240]; exact H) | exact H
    have Ny240 := uD hy240
    clear hy240
    replace H := Option.bind_eq_some_iff.mp H
    obtain ⟨⟨t243, t244, t245⟩, A90, H⟩ := H
    replace H : (if x3_1.length < 5864062014805 then (spec_l03Expects.l0 k1 (x3_1 ++ [(⟨wrap64 ((wrap64 (1 + (wrap64 (3 * (x3_1.length : Int))))) + t237), t234, wrap64 (t234 + t243)⟩ : S47)]) (wrap64 (x4_1 - 1)) s0_0 t244 t245) else (none)) = some (r1, r2, r3) := H
    have A9 := uD A90
    clear A90
    by_cases c10 : x3_1.length < 5864062014805
    ·rw [if_pos c10] at H
     have LMc10 := uD c10
     clear c10
     obtain ⟨y246, hy246⟩ : ∃ y_ : List (S47), y_ = (x3_1 ++ [(⟨wrap64 ((wrap64 (1 + (wrap64 (3 * (x3_1.length : Int))))) + t237), t234, wrap64 (t234 + t243)⟩ : S47)]) := ⟨_, rfl⟩
     replace H : (spec_l03Expects.l0 k1 y246 (wrap64 (x4_1 - 1)) s0_0 t244 t245) = some (r1, r2, r3) := by first | (rw [hy246]; with_reducible exact H) | (have H2_ := (Option.bind_some _ _).symm.trans H; rw [hy246]; with_reducible exact H2_) | (have H2_ := (Option.bind_some _ _).symm.trans H; with_reducible exact H2_) | with_reducible exact H | (rw [hy246]; exact H) | exact H
     have Ny246 := uD hy246
     clear hy246
     have H' := uD H
     clear H
     go_wp2_with (first | ((with_reducible refine gate_callee (f := 83) rfl ?_); refine goesL_ (some 15) rfl rfl Try.func83 (by kernel_rfl) rfl #[.pointer (some ⟨g, 0, none⟩), .int .i64 20] rfl (by (try simp only [List.map_toArray, List.map_cons, List.map_nil]); first | done | rfl | (simp only [List.length_drop, List.length_take]; rfl)) ?_; (with_reducible refine (spec_l01Below.calls g s0_0 x1001_1 x1002_1 20 t234 t235 t236 w0 _ ?side1 ?side2 A7.out).mono ?_); (case side1 => repeat (first | (with_reducible first | exact HI0.out | apply IsS127.alloc | apply IsS127.drewN | apply IsS127.drew | apply IsS127.set_1 | apply IsS127.set_2) | exact HI0.out)); (case side2 => repeat (first | (with_reducible first | exact HB.out | apply uL | apply uE | apply uK | refine uM ?_ (IsS127.ge HI0.out)) | exact HB.out)); rintro e w11 ⟨rfl, hi, hb, hk⟩; refine ⟨_, rfl, ?_⟩; replace HO_3 := uD (uX (Kd.R_keep (IsS127.apart (show IsS127 w0 _ g s0_0 x1001_1 x1002_1 from by repeat (first | (with_reducible first | exact HI0.out | apply IsS127.alloc | apply IsS127.drewN | apply IsS127.drew | apply IsS127.set_1 | apply IsS127.set_2) | exact HI0.out)) (pr HO_3) (by decide)) hk (fun _ h => h.2)) (fun _ h => h.1)); replace HK := uD (KeepBut.trans (ph HK) hk (.inl rfl)); replace HB := uD (hb); replace HI0 := uD (hi); (try clear hb); (try clear hb2); (try clear hk); (try clear hi); obtain ⟨Ao12, co12, eo12⟩ := Kd.R_slice HO_3.out; subst eo12) | ((with_reducible refine gate_callee (f := 83) rfl ?_); refine goesL_ (some 22) rfl rfl Try.func83 (by kernel_rfl) rfl #[.pointer (some ⟨g, 0, none⟩), .int .i64 3] rfl (by (try simp only [List.map_toArray, List.map_cons, List.map_nil]); first | done | rfl | (simp only [List.length_drop, List.length_take]; rfl)) ?_; (with_reducible refine (spec_l01Below.calls g s0_0 t235 t236 3 t237 t238 t239 w0 _ ?side1 ?side2 A8.out).mono ?_); (case side1 => repeat (first | (with_reducible first | exact HI0.out | apply IsS127.alloc | apply IsS127.drewN | apply IsS127.drew | apply IsS127.set_1 | apply IsS127.set_2) | exact HI0.out)); (case side2 => repeat (first | (with_reducible first | exact HB.out | apply uL | apply uE | apply uK | refine uM ?_ (IsS127.ge HI0.out)) | exact HB.out)); rintro e w13 ⟨rfl, hi, hb, hk⟩; refine ⟨_, rfl, ?_⟩; replace HO_3 := uD (uX (Kd.R_keep (IsS127.apart (show IsS127 w0 _ g s0_0 t235 t236 from by repeat (first | (with_reducible first | exact HI0.out | apply IsS127.alloc | apply IsS127.drewN | apply IsS127.drew | apply IsS127.set_1 | apply IsS127.set_2) | exact HI0.out)) (pr HO_3) (by decide)) hk (fun _ h => h.2)) (fun _ h => h.1)); replace HK := uD (KeepBut.trans (ph HK) hk (.inl rfl)); replace HB := uD (hb); replace HI0 := uD (hi); (try clear hb); (try clear hb2); (try clear hk); (try clear hi)) | ((with_reducible refine gate_dst (N := 27) rfl ?_); refine Kd.R_lit (Kd.int .i64) _ 3 ?hg (N := 27) ?hd (xs := ([0, 1, 2, 3, 5, 9, 14] : List Int)) (inner := [.int .i64 0, .int .i64 1, .int .i64 2, .int .i64 3, .int .i64 5, .int .i64 9, .int .i64 14]) (ok := fun _ => True) (okp := fun _ => True) ?hr ?hp (fun _ hk => hk) trivial (Below.refl _ _) (Nat.le_refl _) (by simp) ?_; (case hd => rfl); (case hg => rfl); (case hr => first | (go_simp; done) | (go_simp; rfl)); (case hp => exact (Reps.one (show Kd.M (Kd.int .i64) _ _ _ 0 [.int .i64 0] from rfl) (Reps.one (show Kd.M (Kd.int .i64) _ _ _ 1 [.int .i64 1] from rfl) (Reps.one (show Kd.M (Kd.int .i64) _ _ _ 2 [.int .i64 2] from rfl) (Reps.one (show Kd.M (Kd.int .i64) _ _ _ 3 [.int .i64 3] from rfl) (Reps.one (show Kd.M (Kd.int .i64) _ _ _ 5 [.int .i64 5] from rfl) (Reps.one (show Kd.M (Kd.int .i64) _ _ _ 9 [.int .i64 9] from rfl) (Reps.one (show Kd.M (Kd.int .i64) _ _ _ 14 [.int .i64 14] from rfl) (Reps.none _ _))))))))); intro v241 w14 ho15 hb hg_ hnew_; clear hg_ hnew_; (first | rw [← Ny240.out] at ho15 | (simp only [Int.reduceToNat] at ho15; rw [← Ny240.out] at ho15)); replace HO_3 := uD (Kd.R_below (pr HO_3) hb); have HO242 := uD (Kd.R_lower ho15 (keep_size (w := w) (g := g) (row := none) (ph HK))); replace HK := uD (KeepBut.trans (ph HK) (KeepBut.of_below hb g none) (.inl rfl)); replace HB := uD (uO (by repeat (first | (with_reducible first | exact HB.out | apply uL | apply uE | apply uK | refine uM ?_ (IsS127.ge HI0.out)) | exact HB.out)) hb); replace HI0 := uD (IsS127.below (by repeat (first | (with_reducible first | exact HI0.out | apply IsS127.alloc | apply IsS127.drewN | apply IsS127.drew | apply IsS127.set_1 | apply IsS127.set_2) | exact HI0.out)) hb); clear hb ho15; obtain ⟨Ao16, co16, eo16⟩ := Kd.R_slice HO242.out; subst eo16) | ((with_reducible refine gate_callee (f := 89) rfl ?_); refine goesL_ (some 28) rfl rfl Try.func89 (by kernel_rfl) rfl #[.pointer (some ⟨g, 0, none⟩), .slice Ao16 y240.length co16] rfl (by (try simp only [List.map_toArray, List.map_cons, List.map_nil]); first | done | rfl | (simp only [List.length_drop, List.length_take]; rfl)) ?_; (with_reducible refine (spec_l01PickInt.calls g s0_0 t238 t239 _ _ y240 t243 t244 t245 w0 _ ?side1 ?side2 ?side3 ?side4 ?side5 A9.out).mono ?_); (case side1 => repeat (first | (with_reducible first | exact HI0.out | apply IsS127.alloc | apply IsS127.drewN | apply IsS127.drew | apply IsS127.set_1 | apply IsS127.set_2) | exact HI0.out)); (case side2 => repeat (first | (with_reducible first | exact HB.out | apply uL | apply uE | apply uK | refine uM ?_ (IsS127.ge HI0.out)) | exact HB.out)); (case side3 => repeat (first | exact (Kd.R_reads' HO242.out).2.2 | (with_reducible refine Kd.C_alloc ?_ _) | (with_reducible refine Kd.C_drewN ?_ _) | (with_reducible refine Kd.C_drew ?_))); (case side4 => exact (Kd.R_reads' HO242.out).2.1); (case side5 => exact far_slice (IsS127.own_ne HI0.out HO242.out (by decide))); rintro e w17 ⟨rfl, hi, hb, hk⟩; refine ⟨_, rfl, ?_⟩; replace HO_3 := uD (uX (Kd.R_keep (IsS127.apart (show IsS127 w0 _ g s0_0 t238 t239 from by repeat (first | (with_reducible first | exact HI0.out | apply IsS127.alloc | apply IsS127.drewN | apply IsS127.drew | apply IsS127.set_1 | apply IsS127.set_2) | exact HI0.out)) (pr HO_3) (by decide)) hk (fun _ h => h.2)) (fun _ h => h.1)); replace HO242 := uD (uX (Kd.R_keep (IsS127.apart (show IsS127 w0 _ g s0_0 t238 t239 from by repeat (first | (with_reducible first | exact HI0.out | apply IsS127.alloc | apply IsS127.drewN | apply IsS127.drew | apply IsS127.set_1 | apply IsS127.set_2) | exact HI0.out)) (pr HO242) (by decide)) hk (fun _ h => h.2)) (fun _ h => h.1)); replace HK := uD (KeepBut.trans (ph HK) hk (.inl rfl)); replace HB := uD (hb); replace HI0 := uD (hi); (try clear hb); (try clear hb2); (try clear hk); (try clear hi)) | ((with_reducible refine gate_builtin (b := .append) (xs := #[.tmp 16, .tmp 31]) rfl ?_); at_builtin; refine Kd.R_append k47 w.heap.size rfl (.tmp 16) (.tmp 31) 25 47 (.agg #[(.int .i64 0), (.int .i64 0), (.int .i64 0)]) 24 rfl Try.underlying25 info47 rfl (by decide) (by omega) (.slice Ao12 x3_1.length co12) x3_1 (⟨wrap64 ((wrap64 (1 + (wrap64 (3 * (x3_1.length : Int))))) + t237), t234, wrap64 (t234 + t243)⟩ : S47) [.int .i64 (wrap64 ((wrap64 (1 + (wrap64 (3 * (x3_1.length : Int))))) + t237)), .int .i64 t234, .int .i64 (wrap64 (t234 + t243))] (fun _ => True) (fun _ => False) rfl rfl ?aP (fun _ hk => hk.elim) ?aF ?aO (Below.refl _ _) ?aS ?aL ?_; (case aP => exact k47_mkM _ _ _ (⟨wrap64 ((wrap64 (1 + (wrap64 (3 * (x3_1.length : Int))))) + t237), t234, wrap64 (t234 + t243)⟩ : S47)); (case aF => exact (fun _ _ => trivial)); (case aO => exact (pr HO_3)); (case aS => exact (keep_size (w := w) (g := g) (row := none) (ph HK))); (case aL => have := LMc10.out; omega); intro v247 w18 ho hb hg hat; rw [← Ny246.out] at ho; replace HO242 := uD (Kd.R_over' (pr HO242) (Kd.R_typed (pr HO_3)) (by decide) hg); replace HB := uD (below_weaken (by repeat (first | (with_reducible first | exact HB.out | apply uL | apply uE | apply uK | refine uM ?_ (IsS127.ge HI0.out)) | exact HB.out)) HL.out hb); replace HI0 := uD (IsS127.grown (by repeat (first | (with_reducible first | exact HI0.out | apply IsS127.alloc | apply IsS127.drewN | apply IsS127.drew | apply IsS127.set_1 | apply IsS127.set_2) | exact HI0.out)) hg (IsS127.own_ne HI0.out HO_3.out (by decide))); replace HK := uD (KeepBut.trans (ph HK) (KeepBut.of_grown hg g) (Kd.R_base2 HO_3.out)); have HO248 := uD (ho); clear HO_3; clear ho hb hg hat))
     go_roundg k1
     case measure => have := HK1.out; omega
     case rel => exact ⟨(y246), (wrap64 (x4_1 - 1)), (t244), (t245), (by first | rfl | (simp; done) | (simp [*]; done)), H', ⟨by have := HK1.out; omega⟩, ⟨by (with_reducible repeat (first | apply uU | apply uS | apply uT)); exact HO248.out⟩, ⟨by repeat (first | (with_reducible first | exact HI0.out | apply IsS127.alloc | apply IsS127.drewN | apply IsS127.drew | apply IsS127.set_1 | apply IsS127.set_2) | exact HI0.out)⟩, ⟨ph HK⟩, ⟨by repeat (first | (with_reducible first | exact HB.out | apply uL | apply uE | apply uK | refine uM ?_ (IsS127.ge HI0.out)) | exact HB.out)⟩⟩
    ·rw [if_neg c10] at H
     exact absurd H (by simp)
   ·rw [if_neg c6] at H
    have c6b0 : decide (0 < x4_1) = false := decide_eq_false c6
    clear c6
    by_cases c19 : (x3_1.length : Int) > 1
    ·rw [if_pos c19] at H
     have c19b0 : decide (1 < (x3_1.length : Int)) = true := decide_eq_true c19
     have c19b1 : decide (1 < x3_1.length) = true := decide_eq_true (by omega)
     clear c19
     replace H := Option.bind_eq_some_iff.mp H
     obtain ⟨⟨t249, t250, t251⟩, A200, H⟩ := H
     replace H : (if t249 = true then (if 0 < (x3_1.length : Int) then (if 0 ≤ (wrap64 ((x3_1.length : Int) - 1)) then (if (wrap64 ((x3_1.length : Int) - 1)) < (x3_1.length : Int) then (some (((x3_1.set (0 : Int).toNat (⟨(rd_T47 x3_1 (wrap64 ((x3_1.length : Int) - 1))).f0, (rd_T47 x3_1 (wrap64 ((x3_1.length : Int) - 1))).f1, (rd_T47 x3_1 (wrap64 ((x3_1.length : Int) - 1))).f2⟩ : S47)).set ((wrap64 ((x3_1.length : Int) - 1)) : Int).toNat (⟨(rd_T47 x3_1 0).f0, (rd_T47 x3_1 0).f1, (rd_T47 x3_1 0).f2⟩ : S47)), t250, t251)) else (none)) else (none)) else (none)) else (some (x3_1, t250, t251))) = some (r1, r2, r3) := H
     have A20 := uD A200
     clear A200
     by_cases c21 : t249 = true
     ·subst c21
      have H1 : (if 0 < (x3_1.length : Int) then (if 0 ≤ (wrap64 ((x3_1.length : Int) - 1)) then (if (wrap64 ((x3_1.length : Int) - 1)) < (x3_1.length : Int) then (some (((x3_1.set (0 : Int).toNat (⟨(rd_T47 x3_1 (wrap64 ((x3_1.length : Int) - 1))).f0, (rd_T47 x3_1 (wrap64 ((x3_1.length : Int) - 1))).f1, (rd_T47 x3_1 (wrap64 ((x3_1.length : Int) - 1))).f2⟩ : S47)).set ((wrap64 ((x3_1.length : Int) - 1)) : Int).toNat (⟨(rd_T47 x3_1 0).f0, (rd_T47 x3_1 0).f1, (rd_T47 x3_1 0).f2⟩ : S47)), t250, t251)) else (none)) else (none)) else (none)) = some (r1, r2, r3) := by rw [if_pos rfl] at H; first | done | exact H
      clear H
      have H := H1
      clear H1
      by_cases c22 : 0 < (x3_1.length : Int)
      ·rw [if_pos c22] at H
       have c22b0 : decide (0 < (x3_1.length : Int)) = true := decide_eq_true c22
       have c22b1 : decide (0 < x3_1.length) = true := decide_eq_true (by omega)
       clear c22
       obtain ⟨ji23, hji23⟩ : ∃ j_ : Int, (wrap64 ((x3_1.length : Int) - 1)) = j_ := ⟨_, rfl⟩
       replace H : (if 0 ≤ (ji23) then (if (ji23) < (x3_1.length : Int) then (some (((x3_1.set (0 : Int).toNat (⟨(rd_T47 x3_1 (ji23)).f0, (rd_T47 x3_1 (ji23)).f1, (rd_T47 x3_1 (ji23)).f2⟩ : S47)).set ((ji23) : Int).toNat (⟨(rd_T47 x3_1 0).f0, (rd_T47 x3_1 0).f1, (rd_T47 x3_1 0).f2⟩ : S47)), t250, t251)) else (none)) else (none)) = some (r1, r2, r3) := by first | (rw [hji23] at H; exact H) | (simp only [hji23] at H ⊢; exact H)
       (try rw [hji23] at A20)
       have hji23w : (IntKind.i64.wrap ((x3_1.length : Int) - 1)) = ji23 := (uZ _).trans hji23
       by_cases c24 : 0 ≤ (ji23)
       ·rw [if_pos c24] at H
        have c24b0 : decide (0 ≤ (ji23)) = true := decide_eq_true c24
        clear c24
        by_cases c25 : (ji23) < (x3_1.length : Int)
        ·rw [if_pos c25] at H
         have c25b0 : decide ((ji23) < (x3_1.length : Int)) = true := decide_eq_true c25
         clear c25
         obtain ⟨y255, hy255⟩ : ∃ y_ : List (S47), y_ = (x3_1.set (0 : Int).toNat (⟨(rd_T47 x3_1 (ji23)).f0, (rd_T47 x3_1 (ji23)).f1, (rd_T47 x3_1 (ji23)).f2⟩ : S47)) := ⟨_, rfl⟩
         replace H : (some ((y255.set ((ji23) : Int).toNat (⟨(rd_T47 x3_1 0).f0, (rd_T47 x3_1 0).f1, (rd_T47 x3_1 0).f2⟩ : S47)), t250, t251)) = some (r1, r2, r3) := by first | (rw [hy255]; with_reducible exact H) | (have H2_ := (Option.bind_some _ _).symm.trans H; rw [hy255]; with_reducible exact H2_) | (have H2_ := (Option.bind_some _ _).symm.trans H; with_reducible exact H2_) | with_reducible exact H | (rw [hy255]; exact H) | exact H
         have Ny255 := uD hy255
         clear hy255
         obtain ⟨y256, hy256⟩ : ∃ y_ : List (S47), y_ = (y255.set ((ji23) : Int).toNat (⟨(rd_T47 x3_1 0).f0, (rd_T47 x3_1 0).f1, (rd_T47 x3_1 0).f2⟩ : S47)) := ⟨_, rfl⟩
         replace H : (some (y256, t250, t251)) = some (r1, r2, r3) := by first | (rw [hy256]; with_reducible exact H) | (have H2_ := (Option.bind_some _ _).symm.trans H; rw [hy256]; with_reducible exact H2_) | (have H2_ := (Option.bind_some _ _).symm.trans H; with_reducible exact H2_) | with_reducible exact H | (rw [hy256]; exact H) | exact H
         have Ny256 := uD hy256
         clear hy256
         simp only [Option.some.injEq, Prod.mk.injEq] at H
         obtain ⟨rfl, rfl, rfl⟩ := H
         obtain ⟨Ao28, co28, eo28⟩ := Kd.R_slice HO_3.out
         subst eo28
         go_wp2_with (first | (go_at_call 88; (with_reducible refine (spec_l01Once.calls g s0_0 x1001_1 x1002_1 2 true t250 t251 w0 _ ?side1 ?side2 A20.out).mono ?_); (case side1 => repeat (first | (with_reducible first | exact HI0.out | apply IsS127.alloc | apply IsS127.drewN | apply IsS127.drew | apply IsS127.set_1 | apply IsS127.set_2) | exact HI0.out)); (case side2 => repeat (first | (with_reducible first | exact HB.out | apply uL | apply uE | apply uK | refine uM ?_ (IsS127.ge HI0.out)) | exact HB.out)); rintro e w29 ⟨rfl, hi, hb, hk⟩; replace HO_3 := uD (uX (Kd.R_keep (IsS127.apart (show IsS127 w0 _ g s0_0 x1001_1 x1002_1 from by repeat (first | (with_reducible first | exact HI0.out | apply IsS127.alloc | apply IsS127.drewN | apply IsS127.drew | apply IsS127.set_1 | apply IsS127.set_2) | exact HI0.out)) (pr HO_3) (by decide)) hk (fun _ h => h.2)) (fun _ h => h.1)); replace HK := uD (KeepBut.trans (ph HK) hk (.inl rfl)); replace HB := uD (hb); replace HI0 := uD (hi); (try clear hb); (try clear hb2); (try clear hk); (try clear hi); have p252 : 0 ≤ (0 : Int) := (by omega); have q252 : 0 < (x3_1.length : Int) := of_decide_eq_true (by first | (with_reducible assumption) | assumption); obtain ⟨ad252, e252, hx252_0, hx252_1, hx252_2⟩ := at_T47 (Kd.R_reads' HO_3.out).2.2 0 p252 q252; cases e252; have qi252 : (0 < x3_1.length) = True := eq_true (by omega); (try rw [show ((0 : Int)).toNat = 0 from rfl] at hx252_0); (try rw [show 0 * 3 = 0 from rfl] at hx252_0); (try rw [Addr.add_zero'] at hx252_0); (try rw [show ((0 : Int)).toNat = 0 from rfl] at hx252_1); (try rw [show 0 * 3 = 0 from rfl] at hx252_1); (try rw [Addr.add_zero'] at hx252_1); (try rw [show ((0 : Int)).toNat = 0 from rfl] at hx252_2); (try rw [show 0 * 3 = 0 from rfl] at hx252_2); (try rw [Addr.add_zero'] at hx252_2); replace p252 := eq_true p252; replace q252 := eq_true q252) | ((with_reducible refine gate_dst (N := 6) rfl ?_); refine box_event ?hg (N := 6) ?hd (cs := #[.int .i64 0, .int .i64 0, .int .i64 0]) (t := 47) ?hr ?_; (case hd => rfl); (case hg => rfl); (case hr => first | (go_simp; done) | (go_simp; rfl)); intro gb253 hg w30 hbox hb; replace HO_3 := uD (Kd.R_below (Kd.R_elderB (pr HO_3) gb253 (Nat.le_of_eq hg.symm)) hb); replace HB := uD (uO (by repeat (first | (with_reducible first | exact HB.out | apply uL | apply uE | apply uK | refine uM ?_ (IsS127.ge HI0.out)) | exact HB.out)) hb); have BK253 := uD (hbox); have GW253 := uD ((by rw [hg]; exact (keep_size (w := w) (g := g) (row := none) (ph HK)) : w.heap.size ≤ gb253)); have GE253 := uD ((Nat.le_trans HW0.out (by rw [hg]; exact (keep_size (w := w) (g := g) (row := none) (ph HK)) : w.heap.size ≤ gb253) : w0.heap.size ≤ gb253)); replace HK := uD (KeepBut.trans (ph HK) (KeepBut.of_below hb g none) (.inl rfl)); have NB0_253 := uD ((by rw [hg]; exact Nat.ne_of_lt (IsS127.lt (show IsS127 w0 _ g s0_0 t250 t251 from by repeat (first | (with_reducible first | exact HI0.out | apply IsS127.alloc | apply IsS127.drewN | apply IsS127.drew | apply IsS127.set_1 | apply IsS127.set_2) | exact HI0.out))) : g ≠ gb253)); have NB253_0 := uD ((by rw [hg]; exact Nat.ne_of_gt (IsS127.lt (show IsS127 w0 _ g s0_0 t250 t251 from by repeat (first | (with_reducible first | exact HI0.out | apply IsS127.alloc | apply IsS127.drewN | apply IsS127.drew | apply IsS127.set_1 | apply IsS127.set_2) | exact HI0.out))) : gb253 ≠ g)); replace HI0 := uD (IsS127.below (by repeat (first | (with_reducible first | exact HI0.out | apply IsS127.alloc | apply IsS127.drewN | apply IsS127.drew | apply IsS127.set_1 | apply IsS127.set_2) | exact HI0.out)) hb); clear hb hbox hg; have hnb31 := NB253_0.out; have hnc31 := NB0_253.out; obtain ⟨hcz32_0, hcz32_1, hcz32_2, hfz32_0, hfz32_1, hfz32_2⟩ := cz3 BK253) | ((with_reducible refine gate_store (t := 47) (p := 6) rfl ?_); refine store_event (t := 47) (p := 6) (v := ?vo_w33) (w1 := (((w30.setCell ⟨gb253, 0, none⟩ (.int .i64 ((rd_T47 x3_1 0).f0))).setCell ⟨gb253, 1, none⟩ (.int .i64 ((rd_T47 x3_1 0).f1))).setCell ⟨gb253, 2, none⟩ (.int .i64 ((rd_T47 x3_1 0).f2)))) ?hg ?ho ?hn ?hr ?_; (case ho => rfl); (case hg => rfl); (case hn => rfl); (case hr => first | (go_simp; done) | (go_simp; rfl)); intro w33 hw; have n0_ : Aside0 (Kd.R k47 47 w33 w.heap.size (fun k_ => k_ ≠ gb253) (.slice (some ad252) x3_1.length co28) x3_1) := ⟨(by rw [hw]; exact (by (with_reducible repeat (first | apply uU | apply uS | apply uT)); exact uX (uV (p := ⟨gb253, 2, none⟩) (uV (p := ⟨gb253, 1, none⟩) (uV (p := ⟨gb253, 0, none⟩) (uX HO_3.out (fun k_ hk => (⟨hk, hk.2⟩ : _ ∧ k_ ≠ gb253))) (fun _ hk => hk.2) (.int .i64 ((rd_T47 x3_1 0).f0))) (fun _ hk => hk.2) (.int .i64 ((rd_T47 x3_1 0).f1))) (fun _ hk => hk.2) (.int .i64 ((rd_T47 x3_1 0).f2))) (fun _ hk => hk.1.2)))⟩; have n1_ : Aside0 (w33.heap[gb253]? = some (.cells #[.int .i64 ((rd_T47 x3_1 0).f0), .int .i64 ((rd_T47 x3_1 0).f1), .int .i64 ((rd_T47 x3_1 0).f2)] 47 (0, 0))) := ⟨(by rw [hw]; exact (by (with_reducible repeat first|apply uH|apply uJ|apply uG); refine uP (cs := #[.int .i64 ((rd_T47 x3_1 0).f0), .int .i64 ((rd_T47 x3_1 0).f1), .int .i64 0]) ?_ 2 _ rfl; (with_reducible repeat first|apply uH|apply uJ|apply uG); refine uP (cs := #[.int .i64 ((rd_T47 x3_1 0).f0), .int .i64 0, .int .i64 0]) ?_ 1 _ rfl; (with_reducible repeat first|apply uH|apply uJ|apply uG); refine uP (cs := #[.int .i64 0, .int .i64 0, .int .i64 0]) ?_ 0 _ rfl; (with_reducible repeat first|apply uH|apply uJ|apply uG); exact BK253.out))⟩; have n2_ : Aside0 (IsS127 w0 w33 g s0_0 t250 t251) := ⟨(by rw [hw]; exact (by repeat (first | (with_reducible first | exact HI0.out | apply IsS127.alloc | apply IsS127.drewN | apply IsS127.drew | apply IsS127.set_1 | apply IsS127.set_2 | refine IsS127.far ?_ NB0_253.out _) | exact HI0.out)))⟩; have n3_ : Aside0 (KeepBut w w33 g none) := ⟨(by rw [hw]; exact (ph HK))⟩; have n4_ : Aside0 (Below w0.heap.size w0 w33) := ⟨(by rw [hw]; exact (by repeat (first | (with_reducible first | exact HB.out | apply uL | apply uE | apply uK | refine uM ?_ (IsS127.ge HI0.out) | refine uM ?_ GE253.out) | exact HB.out)))⟩; clear hw; clear HO_3; clear BK253; clear HI0; clear HK; clear HB; have HO_3 := n0_; have BK253 := n1_; have HI0 := n2_; have HK := n3_; have HB := n4_; clear n0_ n1_ n2_ n3_ n4_; have p254 : 0 ≤ ((ji23) : Int) := of_decide_eq_true (by first | (with_reducible assumption) | assumption); have q254 : (ji23) < (x3_1.length : Int) := of_decide_eq_true (by first | (with_reducible assumption) | assumption); obtain ⟨ad254, e254, hx254_0, hx254_1, hx254_2⟩ := at_T47 (Kd.R_reads' HO_3.out).2.2 (ji23) p254 q254; obtain rfl : ad252 = ad254 := (by injection e254); replace p254 := eq_true p254; replace q254 := eq_true q254; have p26 : 0 ≤ (0 : Int) := (by omega); have q26 : (0 : Int) < ((x3_1.length : Int) : Int) := of_decide_eq_true (by first | (with_reducible assumption) | assumption); have qi26 : (0 < x3_1.length) = True := eq_true (by omega); obtain ⟨go26, co26, eo26, gb26, gl26, cl26, HG26⟩ := Kd.R_form HO_3.out (by omega); (first | cases eo26 | (injection eo26 with ea_ en_ ec_; (first | subst ea_ | (injection ea_ with ea_; subst ea_)); subst ec_; clear en_)); have GB26 := uD gb26; have GG26 := uD HG26; clear gb26 gl26 HG26; (first | simp only [add_plain] at hx252_0 | skip); (first | simp only [add_plain] at hx252_1 | skip); (first | simp only [add_plain] at hx252_2 | skip); (first | simp only [add_plain] at hx254_0 | skip); (first | simp only [add_plain] at hx254_1 | skip); (first | simp only [add_plain] at hx254_2 | skip); obtain ⟨ce26, hcl26, hM26, hcc26, hfr26⟩ := Kd.R_elem HO_3.out z47 (0 : Int) p26 q26; obtain rfl := k47_openM hM26; have hx26_0 : w33.cell? ⟨go26, (0 : Int).toNat * 3, none⟩ = some (.int .i64 ((rd_T47 x3_1 0).f0)) := hcc26 0 _ rfl; have hx26_1 : w33.cell? ⟨go26, (0 : Int).toNat * 3 + 1, none⟩ = some (.int .i64 ((rd_T47 x3_1 0).f1)) := hcc26 1 _ rfl; have hx26_2 : w33.cell? ⟨go26, (0 : Int).toNat * 3 + 2, none⟩ = some (.int .i64 ((rd_T47 x3_1 0).f2)) := hcc26 2 _ rfl; have hf26_0 : w33.frozen? ⟨go26, (0 : Int).toNat * 3, none⟩ = false := hfr26 0; have hf26_1 : w33.frozen? ⟨go26, (0 : Int).toNat * 3 + 1, none⟩ = false := hfr26 1; have hf26_2 : w33.frozen? ⟨go26, (0 : Int).toNat * 3 + 2, none⟩ = false := hfr26 2; clear hcl26 hcc26 hfr26 hM26; (try rw [show ((0 : Int)).toNat = 0 from rfl] at hx26_0); (try simp only [Nat.reduceMul, Nat.zero_mul, Nat.zero_add, Nat.reduceAdd] at hx26_0); (try rw [show ((0 : Int)).toNat = 0 from rfl] at hf26_0); (try simp only [Nat.reduceMul, Nat.zero_mul, Nat.zero_add, Nat.reduceAdd] at hf26_0); (try rw [show ((0 : Int)).toNat = 0 from rfl] at hx26_1); (try simp only [Nat.reduceMul, Nat.zero_mul, Nat.zero_add, Nat.reduceAdd] at hx26_1); (try rw [show ((0 : Int)).toNat = 0 from rfl] at hf26_1); (try simp only [Nat.reduceMul, Nat.zero_mul, Nat.zero_add, Nat.reduceAdd] at hf26_1); (try rw [show ((0 : Int)).toNat = 0 from rfl] at hx26_2); (try simp only [Nat.reduceMul, Nat.zero_mul, Nat.zero_add, Nat.reduceAdd] at hx26_2); (try rw [show ((0 : Int)).toNat = 0 from rfl] at hf26_2); (try simp only [Nat.reduceMul, Nat.zero_mul, Nat.zero_add, Nat.reduceAdd] at hf26_2); replace p26 := eq_true p26; replace q26 := eq_true q26; have HX34 := uD (show Kd.R k47 47 w33 w.heap.size (fun k_ => k_ ≠ gb253) (.slice (some ⟨go26, 0, none⟩) x3_1.length co28) x3_1 from (pr HO_3)); obtain ⟨ce34, hcl34, hM34, hcc34, hfr34⟩ := Kd.R_elem HX34.out z47 (0 : Int) (by omega) (by have h_ : (0 : Int) < ((x3_1.length : Int) : Int) := of_decide_eq_true (by first | (with_reducible assumption) | assumption); first | exact h_ | (have e_ := (Kd.R_reads' HO_3.out).1; omega) | simpa using h_); obtain rfl := k47_openM hM34; have HP34 := Kd.R_seg HX34.out (0 : Int) (by omega) (by have h_ : (0 : Int) < ((x3_1.length : Int) : Int) := of_decide_eq_true (by first | (with_reducible assumption) | assumption); first | exact h_ | (have e_ := (Kd.R_reads' HO_3.out).1; omega) | simpa using h_) (seg := [.int .i64 ((rd_T47 x3_1 (ji23)).f0), .int .i64 ((rd_T47 x3_1 (ji23)).f1), .int .i64 ((rd_T47 x3_1 (ji23)).f2)]) (j := 0) hcl34 hcc34 (show 3 ≤ 3 from by decide) (x' := (⟨(rd_T47 x3_1 (ji23)).f0, (rd_T47 x3_1 (ji23)).f1, (rd_T47 x3_1 (ji23)).f2⟩ : S47)) (k47_mkM _ _ _ (⟨(rd_T47 x3_1 (ji23)).f0, (rd_T47 x3_1 (ji23)).f1, (rd_T47 x3_1 (ji23)).f2⟩ : S47) ) (fun _ hk => hk); have hx34_0 := hcc34 0 _ rfl; (try simp only [show (k47).sz = 3 from rfl, Nat.mul_one, Nat.add_zero] at hx34_0); (try rw [show ((0 : Int)).toNat = 0 from rfl] at hx34_0); (try simp only [Nat.reduceMul, Nat.zero_mul, Nat.zero_add, Nat.reduceAdd] at hx34_0); have hf34_0 := hfr34 0; (try simp only [show (k47).sz = 3 from rfl, Nat.mul_one, Nat.add_zero] at hf34_0); (try rw [show ((0 : Int)).toNat = 0 from rfl] at hf34_0); (try simp only [Nat.reduceMul, Nat.zero_mul, Nat.zero_add, Nat.reduceAdd] at hf34_0); have hx34_1 := hcc34 1 _ rfl; (try simp only [show (k47).sz = 3 from rfl, Nat.mul_one, Nat.add_zero] at hx34_1); (try rw [show ((0 : Int)).toNat = 0 from rfl] at hx34_1); (try simp only [Nat.reduceMul, Nat.zero_mul, Nat.zero_add, Nat.reduceAdd] at hx34_1); have hf34_1 := hfr34 1; (try simp only [show (k47).sz = 3 from rfl, Nat.mul_one, Nat.add_zero] at hf34_1); (try rw [show ((0 : Int)).toNat = 0 from rfl] at hf34_1); (try simp only [Nat.reduceMul, Nat.zero_mul, Nat.zero_add, Nat.reduceAdd] at hf34_1); have hx34_2 := hcc34 2 _ rfl; (try simp only [show (k47).sz = 3 from rfl, Nat.mul_one, Nat.add_zero] at hx34_2); (try rw [show ((0 : Int)).toNat = 0 from rfl] at hx34_2); (try simp only [Nat.reduceMul, Nat.zero_mul, Nat.zero_add, Nat.reduceAdd] at hx34_2); have hf34_2 := hfr34 2; (try simp only [show (k47).sz = 3 from rfl, Nat.mul_one, Nat.add_zero] at hf34_2); (try rw [show ((0 : Int)).toNat = 0 from rfl] at hf34_2); (try simp only [Nat.reduceMul, Nat.zero_mul, Nat.zero_add, Nat.reduceAdd] at hf34_2); clear hcl34 hcc34 hfr34 hM34) | ((with_reducible refine gate_store (t := 47) (p := 50) rfl ?_); refine store_event (t := 47) (p := 50) (v := ?vo_w35) (w1 := (((w33.setCell ⟨go26, 0, none⟩ (.int .i64 ((rd_T47 x3_1 (ji23)).f0))).setCell ⟨go26, 1, none⟩ (.int .i64 ((rd_T47 x3_1 (ji23)).f1))).setCell ⟨go26, 2, none⟩ (.int .i64 ((rd_T47 x3_1 (ji23)).f2)))) ?hg ?ho ?hn ?hr ?_; (case ho => rfl); (case hg => rfl); (case hn => rfl); (case hr => first | (go_simp; done) | (go_simp; rfl)); intro w35 hw; have hg : w33.grownBy w35 (some go26) := (by rw [hw]; exact HP34.2); have hp_ : Kd.R k47 47 w35 w.heap.size (fun k_ => k_ ≠ gb253) (.slice (some ⟨go26, 0, none⟩) x3_1.length co28) y255 := (by rw [hw, Ny255.out]; exact HP34.1); clear HP34; replace HI0 := uD (IsS127.grown (by repeat (first | (with_reducible first | exact HI0.out | apply IsS127.alloc | apply IsS127.drewN | apply IsS127.drew | apply IsS127.set_1 | apply IsS127.set_2 | refine IsS127.far ?_ NB0_253.out _) | exact HI0.out)) hg (IsS127.own_ne HI0.out HO_3.out (by decide))); replace BK253 := uD (blk_grown (pk BK253) hg (Kd.R_away HO_3.out (fun _ hk => hk))); replace HB := uD ((by rw [hw]; exact uM (uM (uM (HB.out) (Nat.le_trans HL.out GB26.out)) (Nat.le_trans HL.out GB26.out)) (Nat.le_trans HL.out GB26.out) : Below w0.heap.size w0 w35)); replace HK := uD (KeepBut.trans (ph HK) (KeepBut.of_grown hg g) (Kd.R_base2 HO_3.out)); replace HO_3 := uD (hp_); clear hg hw hp_; obtain ⟨hcz36_0, hcz36_1, hcz36_2, hfz36_0, hfz36_1, hfz36_2⟩ := cz3 BK253; have p27 : 0 ≤ ((ji23) : Int) := of_decide_eq_true (by first | (with_reducible assumption) | assumption); have q27 : ((ji23) : Int) < ((x3_1.length : Int) : Int) := of_decide_eq_true (by first | (with_reducible assumption) | assumption); obtain ⟨ce27, hcl27, hM27, hcc27, hfr27⟩ := Kd.R_elem HO_3.out z47 ((ji23) : Int) p27 q27; obtain rfl := k47_openM hM27; have hx27_0 : w35.cell? ⟨go26, ((ji23) : Int).toNat * 3, none⟩ = some (.int .i64 ((rd_T47 y255 (ji23)).f0)) := hcc27 0 _ rfl; have hx27_1 : w35.cell? ⟨go26, ((ji23) : Int).toNat * 3 + 1, none⟩ = some (.int .i64 ((rd_T47 y255 (ji23)).f1)) := hcc27 1 _ rfl; have hx27_2 : w35.cell? ⟨go26, ((ji23) : Int).toNat * 3 + 2, none⟩ = some (.int .i64 ((rd_T47 y255 (ji23)).f2)) := hcc27 2 _ rfl; have hf27_0 : w35.frozen? ⟨go26, ((ji23) : Int).toNat * 3, none⟩ = false := hfr27 0; have hf27_1 : w35.frozen? ⟨go26, ((ji23) : Int).toNat * 3 + 1, none⟩ = false := hfr27 1; have hf27_2 : w35.frozen? ⟨go26, ((ji23) : Int).toNat * 3 + 2, none⟩ = false := hfr27 2; clear hcl27 hcc27 hfr27 hM27; replace p27 := eq_true p27; replace q27 := eq_true q27; have HX37 := uD (show Kd.R k47 47 w35 w.heap.size (fun k_ => k_ ≠ gb253) (.slice (some ⟨go26, 0, none⟩) x3_1.length co28) y255 from (pr HO_3)); obtain ⟨ce37, hcl37, hM37, hcc37, hfr37⟩ := Kd.R_elem HX37.out z47 ((ji23) : Int) (of_decide_eq_true (by first | (with_reducible assumption) | assumption)) (by have h_ : ((ji23) : Int) < ((x3_1.length : Int) : Int) := of_decide_eq_true (by first | (with_reducible assumption) | assumption); first | exact h_ | (have e_ := (Kd.R_reads' HO_3.out).1; omega) | simpa using h_); obtain rfl := k47_openM hM37; have HP37 := Kd.R_seg HX37.out ((ji23) : Int) (of_decide_eq_true (by first | (with_reducible assumption) | assumption)) (by have h_ : ((ji23) : Int) < ((x3_1.length : Int) : Int) := of_decide_eq_true (by first | (with_reducible assumption) | assumption); first | exact h_ | (have e_ := (Kd.R_reads' HO_3.out).1; omega) | simpa using h_) (seg := [.int .i64 ((rd_T47 x3_1 0).f0), .int .i64 ((rd_T47 x3_1 0).f1), .int .i64 ((rd_T47 x3_1 0).f2)]) (j := 0) hcl37 hcc37 (show 3 ≤ 3 from by decide) (x' := (⟨(rd_T47 x3_1 0).f0, (rd_T47 x3_1 0).f1, (rd_T47 x3_1 0).f2⟩ : S47)) (k47_mkM _ _ _ (⟨(rd_T47 x3_1 0).f0, (rd_T47 x3_1 0).f1, (rd_T47 x3_1 0).f2⟩ : S47) ) (fun _ hk => hk); have hx37_0 := hcc37 0 _ rfl; (try simp only [show (k47).sz = 3 from rfl, Nat.mul_one, Nat.add_zero] at hx37_0); have hf37_0 := hfr37 0; (try simp only [show (k47).sz = 3 from rfl, Nat.mul_one, Nat.add_zero] at hf37_0); have hx37_1 := hcc37 1 _ rfl; (try simp only [show (k47).sz = 3 from rfl, Nat.mul_one, Nat.add_zero] at hx37_1); have hf37_1 := hfr37 1; (try simp only [show (k47).sz = 3 from rfl, Nat.mul_one, Nat.add_zero] at hf37_1); have hx37_2 := hcc37 2 _ rfl; (try simp only [show (k47).sz = 3 from rfl, Nat.mul_one, Nat.add_zero] at hx37_2); have hf37_2 := hfr37 2; (try simp only [show (k47).sz = 3 from rfl, Nat.mul_one, Nat.add_zero] at hf37_2); clear hcl37 hcc37 hfr37 hM37) | ((with_reducible refine gate_store (t := 47) (p := 56) rfl ?_); refine store_event (t := 47) (p := 56) (v := ?vo_w38) (w1 := (((w35.setCell ⟨go26, ((ji23) : Int).toNat * 3, none⟩ (.int .i64 ((rd_T47 x3_1 0).f0))).setCell ⟨go26, ((ji23) : Int).toNat * 3 + 1, none⟩ (.int .i64 ((rd_T47 x3_1 0).f1))).setCell ⟨go26, ((ji23) : Int).toNat * 3 + 2, none⟩ (.int .i64 ((rd_T47 x3_1 0).f2)))) ?hg ?ho ?hn ?hr ?_; (case ho => rfl); (case hg => rfl); (case hn => rfl); (case hr => first | (go_simp; done) | (go_simp; rfl)); intro w38 hw; have hg : w35.grownBy w38 (some go26) := (by rw [hw]; exact HP37.2); have hp_ : Kd.R k47 47 w38 w.heap.size (fun k_ => k_ ≠ gb253) (.slice (some ⟨go26, 0, none⟩) x3_1.length co28) y256 := (by rw [hw, Ny256.out]; exact HP37.1); clear HP37; replace HI0 := uD (IsS127.grown (by repeat (first | (with_reducible first | exact HI0.out | apply IsS127.alloc | apply IsS127.drewN | apply IsS127.drew | apply IsS127.set_1 | apply IsS127.set_2 | refine IsS127.far ?_ NB0_253.out _) | exact HI0.out)) hg (IsS127.own_ne HI0.out HO_3.out (by decide))); replace BK253 := uD (blk_grown (pk BK253) hg (Kd.R_away HO_3.out (fun _ hk => hk))); replace HB := uD ((by rw [hw]; exact uM (uM (uM (HB.out) (Nat.le_trans HL.out GB26.out)) (Nat.le_trans HL.out GB26.out)) (Nat.le_trans HL.out GB26.out) : Below w0.heap.size w0 w38)); replace HK := uD (KeepBut.trans (ph HK) (KeepBut.of_grown hg g) (Kd.R_base2 HO_3.out)); replace HO_3 := uD (hp_); clear hg hw hp_))
         go_ret
         exact ⟨_, by first | rfl | (simp [errW_none, errW_some] <;> rfl) | (simp only [← hji23]; first | rfl | (simp [errW_none, errW_some] <;> rfl)) | (simp [*, errW_none, errW_some] <;> rfl), by (with_reducible repeat (first | apply uU | apply uS | apply uT)); exact uX HO_3.out (fun _ hk => trivial), by repeat (first | (with_reducible first | exact HI0.out | apply IsS127.alloc | apply IsS127.drewN | apply IsS127.drew | apply IsS127.set_1 | apply IsS127.set_2 | refine IsS127.far ?_ NB0_253.out _) | exact HI0.out), by repeat (first | (with_reducible first | exact HB.out | apply uL | apply uE | apply uK | refine uM ?_ (IsS127.ge HI0.out) | refine uM ?_ GE253.out) | exact HB.out), ph HK⟩
        ·rw [if_neg c25] at H
         exact absurd H (by simp)
       ·rw [if_neg c24] at H
        exact absurd H (by simp)
      ·rw [if_neg c22] at H
       exact absurd H (by simp)
     ·replace c21 := Bool.eq_false_iff.mpr c21
      subst c21
      have H1 : (some (x3_1, t250, t251)) = some (r1, r2, r3) := by rw [if_neg (show ¬ (false = true) by decide)] at H; first | done | exact H
      clear H
      have H := H1
      clear H1
      simp only [Option.some.injEq, Prod.mk.injEq] at H
      obtain ⟨rfl, rfl, rfl⟩ := H
      obtain ⟨Ao39, co39, eo39⟩ := Kd.R_slice HO_3.out
      subst eo39
      go_wp2_with (first | (go_at_call 88; (with_reducible refine (spec_l01Once.calls g s0_0 x1001_1 x1002_1 2 false t250 t251 w0 _ ?side1 ?side2 A20.out).mono ?_); (case side1 => repeat (first | (with_reducible first | exact HI0.out | apply IsS127.alloc | apply IsS127.drewN | apply IsS127.drew | apply IsS127.set_1 | apply IsS127.set_2) | exact HI0.out)); (case side2 => repeat (first | (with_reducible first | exact HB.out | apply uL | apply uE | apply uK | refine uM ?_ (IsS127.ge HI0.out)) | exact HB.out)); rintro e w40 ⟨rfl, hi, hb, hk⟩; replace HO_3 := uD (uX (Kd.R_keep (IsS127.apart (show IsS127 w0 _ g s0_0 x1001_1 x1002_1 from by repeat (first | (with_reducible first | exact HI0.out | apply IsS127.alloc | apply IsS127.drewN | apply IsS127.drew | apply IsS127.set_1 | apply IsS127.set_2) | exact HI0.out)) (pr HO_3) (by decide)) hk (fun _ h => h.2)) (fun _ h => h.1)); replace HK := uD (KeepBut.trans (ph HK) hk (.inl rfl)); replace HB := uD (hb); replace HI0 := uD (hi); (try clear hb); (try clear hb2); (try clear hk); (try clear hi)))
      go_ret
      exact ⟨_, by first | rfl | (simp [errW_none, errW_some] <;> rfl) | (simp [*, errW_none, errW_some] <;> rfl), by (with_reducible repeat (first | apply uU | apply uS | apply uT)); exact HO_3.out, by repeat (first | (with_reducible first | exact HI0.out | apply IsS127.alloc | apply IsS127.drewN | apply IsS127.drew | apply IsS127.set_1 | apply IsS127.set_2) | exact HI0.out), by repeat (first | (with_reducible first | exact HB.out | apply uL | apply uE | apply uK | refine uM ?_ (IsS127.ge HI0.out)) | exact HB.out), ph HK⟩
    ·rw [if_neg c19] at H
     have c19b0 : decide (1 < (x3_1.length : Int)) = false := decide_eq_false c19
     have c19b1 : decide (1 < x3_1.length) = false := decide_eq_false (by omega)
     clear c19
     simp only [Option.some.injEq, Prod.mk.injEq] at H
     obtain ⟨rfl, rfl, rfl⟩ := H
     obtain ⟨Ao41, co41, eo41⟩ := Kd.R_slice HO_3.out
     subst eo41
     go_wp2
     go_ret
     exact ⟨_, by first | rfl | (simp [errW_none, errW_some] <;> rfl) | (simp [*, errW_none, errW_some] <;> rfl), by (with_reducible repeat (first | apply uU | apply uS | apply uT)); exact HO_3.out, by repeat (first | (with_reducible first | exact HI0.out | apply IsS127.alloc | apply IsS127.drewN | apply IsS127.drew | apply IsS127.set_1 | apply IsS127.set_2) | exact HI0.out), by repeat (first | (with_reducible first | exact HB.out | apply uL | apply uE | apply uK | refine uM ?_ (IsS127.ge HI0.out)) | exact HB.out), ph HK⟩

/-! ### spec_l03Sights: function 73 -/
def spec_l03Sights.l0 : Nat → List (S49) → Int → Int → List Int → Int → Int → Option ((List (S49)) × Int × Int)
 | 0, _, _, _, _, _, _ => none
 | k + 1, x3, x4, x5, x1000, x1001, x1002 => if x5 > 0 then ((spec_l01Once.f x1000 x1001 x1002 4).bind fun bt266 => (if bt266.1 = true then ((spec_l01Below.f x1000 bt266.2.1 bt266.2.2 3).bind fun bt269 => (if x3.length < 8796093022208 then ((spec_l01PickInt.f x1000 bt269.2.1 bt269.2.2 (([0, 0, 1, 2, 3, 6] : List Int))).bind fun bt278 => (spec_l03Sights.l0 k (x3 ++ [(⟨x4, wrap64 ((wrap64 ((wrap64 (3 * (x3.length : Int))) + 1)) + bt269.1)⟩ : S49)]) (wrap64 (x4 + bt278.1)) (wrap64 (x5 - 1)) x1000 bt278.2.1 bt278.2.2)) else (none))) else (if x3.length < 8796093022208 then ((spec_l01PickInt.f x1000 bt266.2.1 bt266.2.2 (([0, 0, 1, 2, 3, 6] : List Int))).bind fun bt287 => (spec_l03Sights.l0 k (x3 ++ [(⟨x4, 0⟩ : S49)]) (wrap64 (x4 + bt287.1)) (wrap64 (x5 - 1)) x1000 bt287.2.1 bt287.2.2)) else (none)))) else (some (x3, x1001, x1002))
def spec_l03Sights.f (k : Nat) (s0_0 : List Int) (s0_1 : Int) (s0_2 : Int) : Option ((List (S49)) × Int × Int) := (spec_l01Below.f s0_0 s0_1 s0_2 8).bind fun bt260 => ((spec_l01Below.f s0_0 bt260.2.1 bt260.2.2 6).bind fun bt263 => (spec_l03Sights.l0 k (([] : List (S49))) bt260.1 bt263.1 s0_0 bt263.2.1 bt263.2.2))
theorem spec_l03Sights.mono_l : ∀ k, (∀ y0 y1 y2 y3 y4 y5, LeO (spec_l03Sights.l0 k y0 y1 y2 y3 y4 y5) (spec_l03Sights.l0 (k + 1) y0 y1 y2 y3 y4 y5))
 | 0 => fun _ _ _ _ _ _ r h => by simp [spec_l03Sights.l0] at h
 | k + 1 => by
  have ih0 := spec_l03Sights.mono_l k
  ·intro y0 y1 y2 y3 y4 y5
   unfold spec_l03Sights.l0
   repeat' first
   | (with_reducible exact ih0 _ _ _ _ _ _)
   | (with_reducible exact LeO.refl _)
   | (with_reducible exact LeO.none _)
   | (with_reducible refine LeO.ite ?_ ?_)
   | (with_reducible refine LeO.bind ?_ (fun _ => ?_))
   | exact ih0 _ _ _ _ _ _
   | exact LeO.none _
   | refine LeO.ite ?_ ?_
   | refine LeO.bind ?_ (fun _ => ?_)
theorem spec_l03Sights.mono : ∀ a0 a1 a2 k, LeO (spec_l03Sights.f k a0 a1 a2) (spec_l03Sights.f (k + 1) a0 a1 a2) := by
 intro a0 a1 a2 k
 have ih0 := spec_l03Sights.mono_l k
 unfold spec_l03Sights.f
 repeat' first
   | (with_reducible exact ih0 _ _ _ _ _ _)
   | (with_reducible exact LeO.refl _)
   | (with_reducible exact LeO.none _)
   | (with_reducible refine LeO.ite ?_ ?_)
   | (with_reducible refine LeO.bind ?_ (fun _ => ?_))
   | exact ih0 _ _ _ _ _ _
   | exact LeO.none _
   | refine LeO.ite ?_ ?_
   | refine LeO.bind ?_ (fun _ => ?_)
set_option maxHeartbeats 8000000 in
set_option maxRecDepth 100000 in
theorem spec_l03Sights.calls (k : Nat) (g : Nat) (s0_0 : List Int) (s0_1 : Int) (s0_2 : Int) (r1 : List (S49)) (r2 : Int) (r3 : Int) (w0 w : World) (hI : IsS127 w0 w g s0_0 s0_1 s0_2) (hB : Below w0.heap.size w0 w) (h : spec_l03Sights.f k s0_0 s0_1 s0_2 = some (r1, r2, r3)) :
  Calls Try.prog 73 #[.pointer (some ⟨g, 0, none⟩)] w fun e w' => ∃ v0_ : Value, e = .returned (v0_) ∧ Kd.R k49 49 w' w.heap.size (fun _ => True) v0_ r1 ∧ IsS127 w0 w' g s0_0 r2 r3 ∧ Below w0.heap.size w0 w' ∧ KeepBut w w' g none := by
 have hu49 := Try.underlying49
 have HI0 := uD hI
 have HK := uD (KeepBut.refl w g none)
 have HL := uD hB.size
 clear hI
 have HW0 := uD hB.size
 have HB := uD hB
 clear hB
 have H : ((spec_l01Below.f s0_0 s0_1 s0_2 8).bind fun bt260 => ((spec_l01Below.f s0_0 bt260.2.1 bt260.2.2 6).bind fun bt263 => (spec_l03Sights.l0 k (([] : List (S49))) bt260.1 bt263.1 s0_0 bt263.2.1 bt263.2.2))) = some (r1, r2, r3) := h
 clear h
 obtain ⟨y257, hy257⟩ : ∃ y_ : List (S49), y_ = (([] : List (S49))) := ⟨_, rfl⟩
 replace H : ((spec_l01Below.f s0_0 s0_1 s0_2 8).bind fun bt260 => ((spec_l01Below.f s0_0 bt260.2.1 bt260.2.2 6).bind fun bt263 => (spec_l03Sights.l0 k y257 bt260.1 bt263.1 s0_0 bt263.2.1 bt263.2.2))) = some (r1, r2, r3) := by first | (rw [hy257]; with_reducible exact H) | (have H2_ := (Option.bind_some _ _).symm.trans H; rw [hy257]; with_reducible exact H2_) | (have H2_ := (Option.bind_some _ _).symm.trans H; with_reducible exact H2_) | with_reducible exact H | (rw [hy257]; exact H) | exact H
 have Ny257 := uD hy257
 clear hy257
 replace H := Option.bind_eq_some_iff.mp H
 obtain ⟨⟨t260, t261, t262⟩, A20, H⟩ := H
 replace H : ((spec_l01Below.f s0_0 t261 t262 6).bind fun bt263 => (spec_l03Sights.l0 k y257 t260 bt263.1 s0_0 bt263.2.1 bt263.2.2)) = some (r1, r2, r3) := H
 have A2 := uD A20
 clear A20
 replace H := Option.bind_eq_some_iff.mp H
 obtain ⟨⟨t263, t264, t265⟩, A30, H⟩ := H
 replace H : (spec_l03Sights.l0 k y257 t260 t263 s0_0 t264 t265) = some (r1, r2, r3) := H
 have A3 := uD A30
 clear A30
 have H' := uD H
 clear H
 go_enter Try.func73, Try.ntmps73
 go_wp2_with (first | ((with_reducible refine gate_dst (N := 7) rfl ?_); refine Kd.R_lit k49 _ 49 ?hg (N := 7) ?hd (xs := ([] : List (S49))) (inner := []) (ok := fun _ => True) (okp := fun _ => True) ?hr ?hp (fun _ hk => hk) trivial (Below.refl _ _) (Nat.le_refl _) (by simp) ?_; (case hd => rfl); (case hg => rfl); (case hr => first | (go_simp; done) | (go_simp; rfl)); (case hp => exact (Reps.none _ _)); intro v258 w4 ho5 hb hg_ hnew_; clear hg_ hnew_; (first | rw [← Ny257.out] at ho5 | (simp only [Int.reduceToNat] at ho5; rw [← Ny257.out] at ho5)); have HO259 := uD (Kd.R_lower ho5 (keep_size (w := w) (g := g) (row := none) (ph HK))); replace HK := uD (KeepBut.trans (ph HK) (KeepBut.of_below hb g none) (.inl rfl)); replace HB := uD (uO (by repeat (first | (with_reducible first | exact HB.out | apply uL | apply uE | apply uK | refine uM ?_ (IsS127.ge HI0.out)) | exact HB.out)) hb); replace HI0 := uD (IsS127.below (by repeat (first | (with_reducible first | exact HI0.out | apply IsS127.alloc | apply IsS127.drewN | apply IsS127.drew | apply IsS127.set_1 | apply IsS127.set_2) | exact HI0.out)) hb); clear hb ho5) | ((with_reducible refine gate_callee (f := 83) rfl ?_); refine goesL_ (some 9) rfl rfl Try.func83 (by kernel_rfl) rfl #[.pointer (some ⟨g, 0, none⟩), .int .i64 8] rfl (by (try simp only [List.map_toArray, List.map_cons, List.map_nil]); first | done | rfl | (simp only [List.length_drop, List.length_take]; rfl)) ?_; (with_reducible refine (spec_l01Below.calls g s0_0 s0_1 s0_2 8 t260 t261 t262 w0 _ ?side1 ?side2 A2.out).mono ?_); (case side1 => repeat (first | (with_reducible first | exact HI0.out | apply IsS127.alloc | apply IsS127.drewN | apply IsS127.drew | apply IsS127.set_1 | apply IsS127.set_2) | exact HI0.out)); (case side2 => repeat (first | (with_reducible first | exact HB.out | apply uL | apply uE | apply uK | refine uM ?_ (IsS127.ge HI0.out)) | exact HB.out)); rintro e w6 ⟨rfl, hi, hb, hk⟩; refine ⟨_, rfl, ?_⟩; replace HO259 := uD (uX (Kd.R_keep (IsS127.apart (show IsS127 w0 _ g s0_0 s0_1 s0_2 from by repeat (first | (with_reducible first | exact HI0.out | apply IsS127.alloc | apply IsS127.drewN | apply IsS127.drew | apply IsS127.set_1 | apply IsS127.set_2) | exact HI0.out)) (pr HO259) (by decide)) hk (fun _ h => h.2)) (fun _ h => h.1)); replace HK := uD (KeepBut.trans (ph HK) hk (.inl rfl)); replace HB := uD (hb); replace HI0 := uD (hi); (try clear hb); (try clear hb2); (try clear hk); (try clear hi)) | ((with_reducible refine gate_callee (f := 83) rfl ?_); refine goesL_ (some 11) rfl rfl Try.func83 (by kernel_rfl) rfl #[.pointer (some ⟨g, 0, none⟩), .int .i64 6] rfl (by (try simp only [List.map_toArray, List.map_cons, List.map_nil]); first | done | rfl | (simp only [List.length_drop, List.length_take]; rfl)) ?_; (with_reducible refine (spec_l01Below.calls g s0_0 t261 t262 6 t263 t264 t265 w0 _ ?side1 ?side2 A3.out).mono ?_); (case side1 => repeat (first | (with_reducible first | exact HI0.out | apply IsS127.alloc | apply IsS127.drewN | apply IsS127.drew | apply IsS127.set_1 | apply IsS127.set_2) | exact HI0.out)); (case side2 => repeat (first | (with_reducible first | exact HB.out | apply uL | apply uE | apply uK | refine uM ?_ (IsS127.ge HI0.out)) | exact HB.out)); rintro e w7 ⟨rfl, hi, hb, hk⟩; refine ⟨_, rfl, ?_⟩; replace HO259 := uD (uX (Kd.R_keep (IsS127.apart (show IsS127 w0 _ g s0_0 t261 t262 from by repeat (first | (with_reducible first | exact HI0.out | apply IsS127.alloc | apply IsS127.drewN | apply IsS127.drew | apply IsS127.set_1 | apply IsS127.set_2) | exact HI0.out)) (pr HO259) (by decide)) hk (fun _ h => h.2)) (fun _ h => h.1)); replace HK := uD (KeepBut.trans (ph HK) hk (.inl rfl)); replace HB := uD (hb); replace HI0 := uD (hi); (try clear hb); (try clear hb2); (try clear hk); (try clear hi)))
 go_loopg [3, 4, 5] k (fun kq v3 v4 v5 w' => ∃ (x3_1 : List (S49)) (x4_1 : Int) (x5_1 : Int) (x1001_1 : Int) (x1002_1 : Int), v4 = .int .i64 x4_1 ∧ v5 = .int .i64 x5_1 ∧ Aside0 (spec_l03Sights.l0 kq x3_1 x4_1 x5_1 s0_0 x1001_1 x1002_1 = some (r1, r2, r3)) ∧ Aside0 (kq ≤ k) ∧ Aside0 (Kd.R k49 49 w' w.heap.size (fun _ => True) v3 x3_1) ∧ Aside0 (IsS127 w0 w' g s0_0 x1001_1 x1002_1) ∧ Aside0 (KeepBut w w' g none) ∧ Aside0 (Below w0.heap.size w0 w'))
 case atStart => exact ⟨(y257), (t260), (t263), (t264), (t265), (by first | rfl | (simp; done) | (simp [*]; done)), (by first | rfl | (simp; done) | (simp [*]; done)), H', ⟨Nat.le_refl _⟩, ⟨by (with_reducible repeat (first | apply uU | apply uS | apply uT)); exact HO259.out⟩, ⟨by repeat (first | (with_reducible first | exact HI0.out | apply IsS127.alloc | apply IsS127.drewN | apply IsS127.drew | apply IsS127.set_1 | apply IsS127.set_2) | exact HI0.out)⟩, ⟨ph HK⟩, ⟨by repeat (first | (with_reducible first | exact HB.out | apply uL | apply uE | apply uK | refine uM ?_ (IsS127.ge HI0.out)) | exact HB.out)⟩⟩
 case round =>
  clear H'
  try clear p2
  try clear c7
  obtain ⟨x3_1, x4_1, x5_1, x1001_1, x1002_1, rfl, rfl, HA, HK1, HO_3, HI0, HK, HB⟩ := hrel
  cases gk with
  | zero => exact absurd HA.out (by simp [spec_l03Sights.l0])
  | succ k1 =>
   have H := HA.out
   clear HA
   simp only [spec_l03Sights.l0] at H
   by_cases c8 : x5_1 > 0
   ·rw [if_pos c8] at H
    have c8b0 : decide (0 < x5_1) = true := decide_eq_true c8
    clear c8
    replace H := Option.bind_eq_some_iff.mp H
    obtain ⟨⟨t266, t267, t268⟩, A90, H⟩ := H
    replace H : (if t266 = true then ((spec_l01Below.f s0_0 t267 t268 3).bind fun bt269 => (if x3_1.length < 8796093022208 then ((spec_l01PickInt.f s0_0 bt269.2.1 bt269.2.2 (([0, 0, 1, 2, 3, 6] : List Int))).bind fun bt278 => (spec_l03Sights.l0 k1 (x3_1 ++ [(⟨x4_1, wrap64 ((wrap64 ((wrap64 (3 * (x3_1.length : Int))) + 1)) + bt269.1)⟩ : S49)]) (wrap64 (x4_1 + bt278.1)) (wrap64 (x5_1 - 1)) s0_0 bt278.2.1 bt278.2.2)) else (none))) else (if x3_1.length < 8796093022208 then ((spec_l01PickInt.f s0_0 t267 t268 (([0, 0, 1, 2, 3, 6] : List Int))).bind fun bt287 => (spec_l03Sights.l0 k1 (x3_1 ++ [(⟨x4_1, 0⟩ : S49)]) (wrap64 (x4_1 + bt287.1)) (wrap64 (x5_1 - 1)) s0_0 bt287.2.1 bt287.2.2)) else (none))) = some (r1, r2, r3) := H
    have A9 := uD A90
    clear A90
    by_cases c10 : t266 = true
    ·subst c10
     have H1 : ((spec_l01Below.f s0_0 t267 t268 3).bind fun bt269 => (if x3_1.length < 8796093022208 then ((spec_l01PickInt.f s0_0 bt269.2.1 bt269.2.2 (([0, 0, 1, 2, 3, 6] : List Int))).bind fun bt278 => (spec_l03Sights.l0 k1 (x3_1 ++ [(⟨x4_1, wrap64 ((wrap64 ((wrap64 (3 * (x3_1.length : Int))) + 1)) + bt269.1)⟩ : S49)]) (wrap64 (x4_1 + bt278.1)) (wrap64 (x5_1 - 1)) s0_0 bt278.2.1 bt278.2.2)) else (none))) = some (r1, r2, r3) := by rw [if_pos rfl] at H; first | done | exact H
     clear H
     have H := H1
     clear H1
     replace H := Option.bind_eq_some_iff.mp H
     obtain ⟨⟨t269, t270, t271⟩, A110, H⟩ := H
     replace H : (if x3_1.length < 8796093022208 then ((spec_l01PickInt.f s0_0 t270 t271 (([0, 0, 1, 2, 3, 6] : List Int))).bind fun bt278 => (spec_l03Sights.l0 k1 (x3_1 ++ [(⟨x4_1, wrap64 ((wrap64 ((wrap64 (3 * (x3_1.length : Int))) + 1)) + t269)⟩ : S49)]) (wrap64 (x4_1 + bt278.1)) (wrap64 (x5_1 - 1)) s0_0 bt278.2.1 bt278.2.2)) else (none)) = some (r1, r2, r3) := H
     have A11 := uD A110
     clear A110
     by_cases c12 : x3_1.length < 8796093022208
     ·rw [if_pos c12] at H
      have LMc12 := uD c12
      clear c12
      obtain ⟨y272, hy272⟩ : ∃ y_ : List (S49), y_ = (x3_1 ++ [(⟨x4_1, wrap64 ((wrap64 ((wrap64 (3 * (x3_1.length : Int))) + 1)) + t269)⟩ : S49)]) := ⟨_, rfl⟩
      replace H : ((spec_l01PickInt.f s0_0 t270 t271 (([0, 0, 1, 2, 3, 6] : List Int))).bind fun bt278 => (spec_l03Sights.l0 k1 y272 (wrap64 (x4_1 + bt278.1)) (wrap64 (x5_1 - 1)) s0_0 bt278.2.1 bt278.2.2)) = some (r1, r2, r3) := by first | (rw [hy272]; with_reducible exact H) | (have H2_ := (Option.bind_some _ _).symm.trans H; rw [hy272]; with_reducible exact H2_) | (have H2_ := (Option.bind_some _ _).symm.trans H; with_reducible exact H2_) | with_reducible exact H | (rw [hy272]; exact H) | exact H
      have Ny272 := uD hy272
      clear hy272
      obtain ⟨y275, hy275⟩ : ∃ y_ : List Int, y_ = (([0, 0, 1, 2, 3, 6] : List Int)) := ⟨_, rfl⟩
      replace H : ((spec_l01PickInt.f s0_0 t270 t271 y275).bind fun bt278 => (spec_l03Sights.l0 k1 y272 (wrap64 (x4_1 + bt278.1)) (wrap64 (x5_1 - 1)) s0_0 bt278.2.1 bt278.2.2)) = some (r1, r2, r3) := by first | (rw [hy275]; with_reducible exact H) | (have H2_ := (Option.bind_some _ _).symm.trans H; rw [hy275]; with_reducible exact H2_) | (have H2_ := (Option.bind_some _ _).symm.trans H; with_reducible exact H2_) | with_reducible exact H | (rw [hy275]; exact H) | exact H
      have Ny275 := uD hy275
      clear hy275
      replace H := Option.bind_eq_some_iff.mp H
      obtain ⟨⟨t278, t279, t280⟩, A130, H⟩ := H
      replace H : (spec_l03Sights.l0 k1 y272 (wrap64 (x4_1 + t278)) (wrap64 (x5_1 - 1)) s0_0 t279 t280) = some (r1, r2, r3) := H
      have A13 := uD A130
      clear A130
      have H' := uD H
      clear H
      go_wp2_with (first | ((with_reducible refine gate_callee (f := 88) rfl ?_); refine goesL_ (some 17) rfl rfl Try.func88 (by kernel_rfl) rfl #[.pointer (some ⟨g, 0, none⟩), .int .i64 4] rfl (by (try simp only [List.map_toArray, List.map_cons, List.map_nil]); first | done | rfl | (simp only [List.length_drop, List.length_take]; rfl)) ?_; (with_reducible refine (spec_l01Once.calls g s0_0 x1001_1 x1002_1 4 true t267 t268 w0 _ ?side1 ?side2 A9.out).mono ?_); (case side1 => repeat (first | (with_reducible first | exact HI0.out | apply IsS127.alloc | apply IsS127.drewN | apply IsS127.drew | apply IsS127.set_1 | apply IsS127.set_2) | exact HI0.out)); (case side2 => repeat (first | (with_reducible first | exact HB.out | apply uL | apply uE | apply uK | refine uM ?_ (IsS127.ge HI0.out)) | exact HB.out)); rintro e w14 ⟨rfl, hi, hb, hk⟩; refine ⟨_, rfl, ?_⟩; replace HO_3 := uD (uX (Kd.R_keep (IsS127.apart (show IsS127 w0 _ g s0_0 x1001_1 x1002_1 from by repeat (first | (with_reducible first | exact HI0.out | apply IsS127.alloc | apply IsS127.drewN | apply IsS127.drew | apply IsS127.set_1 | apply IsS127.set_2) | exact HI0.out)) (pr HO_3) (by decide)) hk (fun _ h => h.2)) (fun _ h => h.1)); replace HK := uD (KeepBut.trans (ph HK) hk (.inl rfl)); replace HB := uD (hb); replace HI0 := uD (hi); (try clear hb); (try clear hb2); (try clear hk); (try clear hi); obtain ⟨Ao15, co15, eo15⟩ := Kd.R_slice HO_3.out; subst eo15) | ((with_reducible refine gate_callee (f := 83) rfl ?_); refine goesL_ (some 23) rfl rfl Try.func83 (by kernel_rfl) rfl #[.pointer (some ⟨g, 0, none⟩), .int .i64 3] rfl (by (try simp only [List.map_toArray, List.map_cons, List.map_nil]); first | done | rfl | (simp only [List.length_drop, List.length_take]; rfl)) ?_; (with_reducible refine (spec_l01Below.calls g s0_0 t267 t268 3 t269 t270 t271 w0 _ ?side1 ?side2 A11.out).mono ?_); (case side1 => repeat (first | (with_reducible first | exact HI0.out | apply IsS127.alloc | apply IsS127.drewN | apply IsS127.drew | apply IsS127.set_1 | apply IsS127.set_2) | exact HI0.out)); (case side2 => repeat (first | (with_reducible first | exact HB.out | apply uL | apply uE | apply uK | refine uM ?_ (IsS127.ge HI0.out)) | exact HB.out)); rintro e w16 ⟨rfl, hi, hb, hk⟩; refine ⟨_, rfl, ?_⟩; replace HO_3 := uD (uX (Kd.R_keep (IsS127.apart (show IsS127 w0 _ g s0_0 t267 t268 from by repeat (first | (with_reducible first | exact HI0.out | apply IsS127.alloc | apply IsS127.drewN | apply IsS127.drew | apply IsS127.set_1 | apply IsS127.set_2) | exact HI0.out)) (pr HO_3) (by decide)) hk (fun _ h => h.2)) (fun _ h => h.1)); replace HK := uD (KeepBut.trans (ph HK) hk (.inl rfl)); replace HB := uD (hb); replace HI0 := uD (hi); (try clear hb); (try clear hb2); (try clear hk); (try clear hi)) | ((with_reducible refine gate_builtin (b := .append) (xs := #[.tmp 25, .tmp 29]) rfl ?_); at_builtin; refine Kd.R_append k49 w.heap.size rfl (.tmp 25) (.tmp 29) 32 49 (.agg #[(.int .i64 0), (.int .i64 0)]) 16 rfl Try.underlying32 info49 rfl (by decide) (by omega) (.slice Ao15 x3_1.length co15) x3_1 (⟨x4_1, wrap64 ((wrap64 ((wrap64 (3 * (x3_1.length : Int))) + 1)) + t269)⟩ : S49) [.int .i64 x4_1, .int .i64 (wrap64 ((wrap64 ((wrap64 (3 * (x3_1.length : Int))) + 1)) + t269))] (fun _ => True) (fun _ => False) rfl rfl ?aP (fun _ hk => hk.elim) ?aF ?aO (Below.refl _ _) ?aS ?aL ?_; (case aP => exact k49_mkM _ _ _ (⟨x4_1, wrap64 ((wrap64 ((wrap64 (3 * (x3_1.length : Int))) + 1)) + t269)⟩ : S49)); (case aF => exact (fun _ _ => trivial)); (case aO => exact (pr HO_3)); (case aS => exact (keep_size (w := w) (g := g) (row := none) (ph HK))); (case aL => have := LMc12.out; omega); intro v273 w17 ho hb hg hat; rw [← Ny272.out] at ho; replace HB := uD (below_weaken (by repeat (first | (with_reducible first | exact HB.out | apply uL | apply uE | apply uK | refine uM ?_ (IsS127.ge HI0.out)) | exact HB.out)) HL.out hb); replace HI0 := uD (IsS127.grown (by repeat (first | (with_reducible first | exact HI0.out | apply IsS127.alloc | apply IsS127.drewN | apply IsS127.drew | apply IsS127.set_1 | apply IsS127.set_2) | exact HI0.out)) hg (IsS127.own_ne HI0.out HO_3.out (by decide))); replace HK := uD (KeepBut.trans (ph HK) (KeepBut.of_grown hg g) (Kd.R_base2 HO_3.out)); have HO274 := uD (ho); clear HO_3; clear ho hb hg hat) | ((with_reducible refine gate_dst (N := 33) rfl ?_); refine Kd.R_lit (Kd.int .i64) _ 3 ?hg (N := 33) ?hd (xs := ([0, 0, 1, 2, 3, 6] : List Int)) (inner := [.int .i64 0, .int .i64 0, .int .i64 1, .int .i64 2, .int .i64 3, .int .i64 6]) (ok := fun _ => True) (okp := fun _ => True) ?hr ?hp (fun _ hk => hk) trivial (Below.refl _ _) (Nat.le_refl _) (by simp) ?_; (case hd => rfl); (case hg => rfl); (case hr => first | (go_simp; done) | (go_simp; rfl)); (case hp => exact (Reps.one (show Kd.M (Kd.int .i64) _ _ _ 0 [.int .i64 0] from rfl) (Reps.one (show Kd.M (Kd.int .i64) _ _ _ 0 [.int .i64 0] from rfl) (Reps.one (show Kd.M (Kd.int .i64) _ _ _ 1 [.int .i64 1] from rfl) (Reps.one (show Kd.M (Kd.int .i64) _ _ _ 2 [.int .i64 2] from rfl) (Reps.one (show Kd.M (Kd.int .i64) _ _ _ 3 [.int .i64 3] from rfl) (Reps.one (show Kd.M (Kd.int .i64) _ _ _ 6 [.int .i64 6] from rfl) (Reps.none _ _)))))))); intro v276 w18 ho19 hb hg_ hnew_; clear hg_ hnew_; (first | rw [← Ny275.out] at ho19 | (simp only [Int.reduceToNat] at ho19; rw [← Ny275.out] at ho19)); replace HO274 := uD (Kd.R_below (pr HO274) hb); have HO277 := uD (Kd.R_lower ho19 (keep_size (w := w) (g := g) (row := none) (ph HK))); replace HK := uD (KeepBut.trans (ph HK) (KeepBut.of_below hb g none) (.inl rfl)); replace HB := uD (uO (by repeat (first | (with_reducible first | exact HB.out | apply uL | apply uE | apply uK | refine uM ?_ (IsS127.ge HI0.out)) | exact HB.out)) hb); replace HI0 := uD (IsS127.below (by repeat (first | (with_reducible first | exact HI0.out | apply IsS127.alloc | apply IsS127.drewN | apply IsS127.drew | apply IsS127.set_1 | apply IsS127.set_2) | exact HI0.out)) hb); clear hb ho19; obtain ⟨Ao20, co20, eo20⟩ := Kd.R_slice HO277.out; subst eo20) | ((with_reducible refine gate_callee (f := 89) rfl ?_); refine goesL_ (some 34) rfl rfl Try.func89 (by kernel_rfl) rfl #[.pointer (some ⟨g, 0, none⟩), .slice Ao20 y275.length co20] rfl (by (try simp only [List.map_toArray, List.map_cons, List.map_nil]); first | done | rfl | (simp only [List.length_drop, List.length_take]; rfl)) ?_; (with_reducible refine (spec_l01PickInt.calls g s0_0 t270 t271 _ _ y275 t278 t279 t280 w0 _ ?side1 ?side2 ?side3 ?side4 ?side5 A13.out).mono ?_); (case side1 => repeat (first | (with_reducible first | exact HI0.out | apply IsS127.alloc | apply IsS127.drewN | apply IsS127.drew | apply IsS127.set_1 | apply IsS127.set_2) | exact HI0.out)); (case side2 => repeat (first | (with_reducible first | exact HB.out | apply uL | apply uE | apply uK | refine uM ?_ (IsS127.ge HI0.out)) | exact HB.out)); (case side3 => repeat (first | exact (Kd.R_reads' HO277.out).2.2 | (with_reducible refine Kd.C_alloc ?_ _) | (with_reducible refine Kd.C_drewN ?_ _) | (with_reducible refine Kd.C_drew ?_))); (case side4 => exact (Kd.R_reads' HO277.out).2.1); (case side5 => exact far_slice (IsS127.own_ne HI0.out HO277.out (by decide))); rintro e w21 ⟨rfl, hi, hb, hk⟩; refine ⟨_, rfl, ?_⟩; replace HO274 := uD (uX (Kd.R_keep (IsS127.apart (show IsS127 w0 _ g s0_0 t270 t271 from by repeat (first | (with_reducible first | exact HI0.out | apply IsS127.alloc | apply IsS127.drewN | apply IsS127.drew | apply IsS127.set_1 | apply IsS127.set_2) | exact HI0.out)) (pr HO274) (by decide)) hk (fun _ h => h.2)) (fun _ h => h.1)); replace HO277 := uD (uX (Kd.R_keep (IsS127.apart (show IsS127 w0 _ g s0_0 t270 t271 from by repeat (first | (with_reducible first | exact HI0.out | apply IsS127.alloc | apply IsS127.drewN | apply IsS127.drew | apply IsS127.set_1 | apply IsS127.set_2) | exact HI0.out)) (pr HO277) (by decide)) hk (fun _ h => h.2)) (fun _ h => h.1)); replace HK := uD (KeepBut.trans (ph HK) hk (.inl rfl)); replace HB := uD (hb); replace HI0 := uD (hi); (try clear hb); (try clear hb2); (try clear hk); (try clear hi)))
      go_roundg k1
      case measure => have := HK1.out; omega
      case rel => exact ⟨(y272), (wrap64 (x4_1 + t278)), (wrap64 (x5_1 - 1)), (t279), (t280), (by first | rfl | (simp; done) | (simp [*]; done)), (by first | rfl | (simp; done) | (simp [*]; done)), H', ⟨by have := HK1.out; omega⟩, ⟨by (with_reducible repeat (first | apply uU | apply uS | apply uT)); exact HO274.out⟩, ⟨by repeat (first | (with_reducible first | exact HI0.out | apply IsS127.alloc | apply IsS127.drewN | apply IsS127.drew | apply IsS127.set_1 | apply IsS127.set_2) | exact HI0.out)⟩, ⟨ph HK⟩, ⟨by repeat (first | (with_reducible first | exact HB.out | apply uL | apply uE | apply uK | refine uM ?_ (IsS127.ge HI0.out)) | exact HB.out)⟩⟩
     ·rw [if_neg c12] at H
      exact absurd H (by simp)
    ·replace c10 := Bool.eq_false_iff.mpr c10
     subst c10
     have H1 : (if x3_1.length < 8796093022208 then ((spec_l01PickInt.f s0_0 t267 t268 (([0, 0, 1, 2, 3, 6] : List Int))).bind fun bt287 => (spec_l03Sights.l0 k1 (x3_1 ++ [(⟨x4_1, 0⟩ : S49)]) (wrap64 (x4_1 + bt287.1)) (wrap64 (x5_1 - 1)) s0_0 bt287.2.1 bt287.2.2)) else (none)) = some (r1, r2, r3) := by rw [if_neg (show ¬ (false = true) by decide)] at H; first | done | exact H
     clear H
     have H := H1
     clear H1
     by_cases c22 : x3_1.length < 8796093022208
     ·rw [if_pos c22] at H
      have LMc22 := uD c22
      clear c22
      obtain ⟨y281, hy281⟩ : ∃ y_ : List (S49), y_ = (x3_1 ++ [(⟨x4_1, 0⟩ : S49)]) := ⟨_, rfl⟩
      replace H : ((spec_l01PickInt.f s0_0 t267 t268 (([0, 0, 1, 2, 3, 6] : List Int))).bind fun bt287 => (spec_l03Sights.l0 k1 y281 (wrap64 (x4_1 + bt287.1)) (wrap64 (x5_1 - 1)) s0_0 bt287.2.1 bt287.2.2)) = some (r1, r2, r3) := by first | (rw [hy281]; with_reducible exact H) | (have H2_ := (Option.bind_some _ _).symm.trans H; rw [hy281]; with_reducible exact H2_) | (have H2_ := (Option.bind_some _ _).symm.trans H; with_reducible exact H2_) | with_reducible exact H | (rw [hy281]; exact H) | exact H
      have Ny281 := uD hy281
      clear hy281
      obtain ⟨y284, hy284⟩ : ∃ y_ : List Int, y_ = (([0, 0, 1, 2, 3, 6] : List Int)) := ⟨_, rfl⟩
      replace H : ((spec_l01PickInt.f s0_0 t267 t268 y284).bind fun bt287 => (spec_l03Sights.l0 k1 y281 (wrap64 (x4_1 + bt287.1)) (wrap64 (x5_1 - 1)) s0_0 bt287.2.1 bt287.2.2)) = some (r1, r2, r3) := by first | (rw [hy284]; with_reducible exact H) | (have H2_ := (Option.bind_some _ _).symm.trans H; rw [hy284]; with_reducible exact H2_) | (have H2_ := (Option.bind_some _ _).symm.trans H; with_reducible exact H2_) | with_reducible exact H | (rw [hy284]; exact H) | exact H
      have Ny284 := uD hy284
      clear hy284
      replace H := Option.bind_eq_some_iff.mp H
      obtain ⟨⟨t287, t288, t289⟩, A230, H⟩ := H
      replace H : (spec_l03Sights.l0 k1 y281 (wrap64 (x4_1 + t287)) (wrap64 (x5_1 - 1)) s0_0 t288 t289) = some (r1, r2, r3) := H
      have A23 := uD A230
      clear A230
      have H' := uD H
      clear H
      go_wp2_with (first | ((with_reducible refine gate_callee (f := 88) rfl ?_); refine goesL_ (some 17) rfl rfl Try.func88 (by kernel_rfl) rfl #[.pointer (some ⟨g, 0, none⟩), .int .i64 4] rfl (by (try simp only [List.map_toArray, List.map_cons, List.map_nil]); first | done | rfl | (simp only [List.length_drop, List.length_take]; rfl)) ?_; (with_reducible refine (spec_l01Once.calls g s0_0 x1001_1 x1002_1 4 false t267 t268 w0 _ ?side1 ?side2 A9.out).mono ?_); (case side1 => repeat (first | (with_reducible first | exact HI0.out | apply IsS127.alloc | apply IsS127.drewN | apply IsS127.drew | apply IsS127.set_1 | apply IsS127.set_2) | exact HI0.out)); (case side2 => repeat (first | (with_reducible first | exact HB.out | apply uL | apply uE | apply uK | refine uM ?_ (IsS127.ge HI0.out)) | exact HB.out)); rintro e w24 ⟨rfl, hi, hb, hk⟩; refine ⟨_, rfl, ?_⟩; replace HO_3 := uD (uX (Kd.R_keep (IsS127.apart (show IsS127 w0 _ g s0_0 x1001_1 x1002_1 from by repeat (first | (with_reducible first | exact HI0.out | apply IsS127.alloc | apply IsS127.drewN | apply IsS127.drew | apply IsS127.set_1 | apply IsS127.set_2) | exact HI0.out)) (pr HO_3) (by decide)) hk (fun _ h => h.2)) (fun _ h => h.1)); replace HK := uD (KeepBut.trans (ph HK) hk (.inl rfl)); replace HB := uD (hb); replace HI0 := uD (hi); (try clear hb); (try clear hb2); (try clear hk); (try clear hi)) | ((with_reducible refine gate_builtin (b := .append) (xs := #[.tmp 25, .tmp 29]) rfl ?_); at_builtin; refine Kd.R_append k49 w.heap.size rfl (.tmp 25) (.tmp 29) 32 49 (.agg #[(.int .i64 0), (.int .i64 0)]) 16 rfl Try.underlying32 info49 rfl (by decide) (by omega) u3 x3_1 (⟨x4_1, 0⟩ : S49) [.int .i64 x4_1, .int .i64 0] (fun _ => True) (fun _ => False) rfl rfl ?aP (fun _ hk => hk.elim) ?aF ?aO (Below.refl _ _) ?aS ?aL ?_; (case aP => exact k49_mkM _ _ _ (⟨x4_1, 0⟩ : S49)); (case aF => exact (fun _ _ => trivial)); (case aO => exact (pr HO_3)); (case aS => exact (keep_size (w := w) (g := g) (row := none) (ph HK))); (case aL => have := LMc22.out; omega); intro v282 w25 ho hb hg hat; rw [← Ny281.out] at ho; replace HB := uD (below_weaken (by repeat (first | (with_reducible first | exact HB.out | apply uL | apply uE | apply uK | refine uM ?_ (IsS127.ge HI0.out)) | exact HB.out)) HL.out hb); replace HI0 := uD (IsS127.grown (by repeat (first | (with_reducible first | exact HI0.out | apply IsS127.alloc | apply IsS127.drewN | apply IsS127.drew | apply IsS127.set_1 | apply IsS127.set_2) | exact HI0.out)) hg (IsS127.own_ne HI0.out HO_3.out (by decide))); replace HK := uD (KeepBut.trans (ph HK) (KeepBut.of_grown hg g) (Kd.R_base2 HO_3.out)); have HO283 := uD (ho); clear HO_3; clear ho hb hg hat) | ((with_reducible refine gate_dst (N := 33) rfl ?_); refine Kd.R_lit (Kd.int .i64) _ 3 ?hg (N := 33) ?hd (xs := ([0, 0, 1, 2, 3, 6] : List Int)) (inner := [.int .i64 0, .int .i64 0, .int .i64 1, .int .i64 2, .int .i64 3, .int .i64 6]) (ok := fun _ => True) (okp := fun _ => True) ?hr ?hp (fun _ hk => hk) trivial (Below.refl _ _) (Nat.le_refl _) (by simp) ?_; (case hd => rfl); (case hg => rfl); (case hr => first | (go_simp; done) | (go_simp; rfl)); (case hp => exact (Reps.one (show Kd.M (Kd.int .i64) _ _ _ 0 [.int .i64 0] from rfl) (Reps.one (show Kd.M (Kd.int .i64) _ _ _ 0 [.int .i64 0] from rfl) (Reps.one (show Kd.M (Kd.int .i64) _ _ _ 1 [.int .i64 1] from rfl) (Reps.one (show Kd.M (Kd.int .i64) _ _ _ 2 [.int .i64 2] from rfl) (Reps.one (show Kd.M (Kd.int .i64) _ _ _ 3 [.int .i64 3] from rfl) (Reps.one (show Kd.M (Kd.int .i64) _ _ _ 6 [.int .i64 6] from rfl) (Reps.none _ _)))))))); intro v285 w26 ho27 hb hg_ hnew_; clear hg_ hnew_; (first | rw [← Ny284.out] at ho27 | (simp only [Int.reduceToNat] at ho27; rw [← Ny284.out] at ho27)); replace HO283 := uD (Kd.R_below (pr HO283) hb); have HO286 := uD (Kd.R_lower ho27 (keep_size (w := w) (g := g) (row := none) (ph HK))); replace HK := uD (KeepBut.trans (ph HK) (KeepBut.of_below hb g none) (.inl rfl)); replace HB := uD (uO (by repeat (first | (with_reducible first | exact HB.out | apply uL | apply uE | apply uK | refine uM ?_ (IsS127.ge HI0.out)) | exact HB.out)) hb); replace HI0 := uD (IsS127.below (by repeat (first | (with_reducible first | exact HI0.out | apply IsS127.alloc | apply IsS127.drewN | apply IsS127.drew | apply IsS127.set_1 | apply IsS127.set_2) | exact HI0.out)) hb); clear hb ho27; obtain ⟨Ao28, co28, eo28⟩ := Kd.R_slice HO286.out; subst eo28) | ((with_reducible refine gate_callee (f := 89) rfl ?_); refine goesL_ (some 34) rfl rfl Try.func89 (by kernel_rfl) rfl #[.pointer (some ⟨g, 0, none⟩), .slice Ao28 y284.length co28] rfl (by (try simp only [List.map_toArray, List.map_cons, List.map_nil]); first | done | rfl | (simp only [List.length_drop, List.length_take]; rfl)) ?_; (with_reducible refine (spec_l01PickInt.calls g s0_0 t267 t268 _ _ y284 t287 t288 t289 w0 _ ?side1 ?side2 ?side3 ?side4 ?side5 A23.out).mono ?_); (case side1 => repeat (first | (with_reducible first | exact HI0.out | apply IsS127.alloc | apply IsS127.drewN | apply IsS127.drew | apply IsS127.set_1 | apply IsS127.set_2) | exact HI0.out)); (case side2 => repeat (first | (with_reducible first | exact HB.out | apply uL | apply uE | apply uK | refine uM ?_ (IsS127.ge HI0.out)) | exact HB.out)); (case side3 => repeat (first | exact (Kd.R_reads' HO286.out).2.2 | (with_reducible refine Kd.C_alloc ?_ _) | (with_reducible refine Kd.C_drewN ?_ _) | (with_reducible refine Kd.C_drew ?_))); (case side4 => exact (Kd.R_reads' HO286.out).2.1); (case side5 => exact far_slice (IsS127.own_ne HI0.out HO286.out (by decide))); rintro e w29 ⟨rfl, hi, hb, hk⟩; refine ⟨_, rfl, ?_⟩; replace HO283 := uD (uX (Kd.R_keep (IsS127.apart (show IsS127 w0 _ g s0_0 t267 t268 from by repeat (first | (with_reducible first | exact HI0.out | apply IsS127.alloc | apply IsS127.drewN | apply IsS127.drew | apply IsS127.set_1 | apply IsS127.set_2) | exact HI0.out)) (pr HO283) (by decide)) hk (fun _ h => h.2)) (fun _ h => h.1)); replace HO286 := uD (uX (Kd.R_keep (IsS127.apart (show IsS127 w0 _ g s0_0 t267 t268 from by repeat (first | (with_reducible first | exact HI0.out | apply IsS127.alloc | apply IsS127.drewN | apply IsS127.drew | apply IsS127.set_1 | apply IsS127.set_2) | exact HI0.out)) (pr HO286) (by decide)) hk (fun _ h => h.2)) (fun _ h => h.1)); replace HK := uD (KeepBut.trans (ph HK) hk (.inl rfl)); replace HB := uD (hb); replace HI0 := uD (hi); (try clear hb); (try clear hb2); (try clear hk); (try clear hi)))
      go_roundg k1
      case measure => have := HK1.out; omega
      case rel => exact ⟨(y281), (wrap64 (x4_1 + t287)), (wrap64 (x5_1 - 1)), (t288), (t289), (by first | rfl | (simp; done) | (simp [*]; done)), (by first | rfl | (simp; done) | (simp [*]; done)), H', ⟨by have := HK1.out; omega⟩, ⟨by (with_reducible repeat (first | apply uU | apply uS | apply uT)); exact HO283.out⟩, ⟨by repeat (first | (with_reducible first | exact HI0.out | apply IsS127.alloc | apply IsS127.drewN | apply IsS127.drew | apply IsS127.set_1 | apply IsS127.set_2) | exact HI0.out)⟩, ⟨ph HK⟩, ⟨by repeat (first | (with_reducible first | exact HB.out | apply uL | apply uE | apply uK | refine uM ?_ (IsS127.ge HI0.out)) | exact HB.out)⟩⟩
     ·rw [if_neg c22] at H
      exact absurd H (by simp)
   ·rw [if_neg c8] at H
    have c8b0 : decide (0 < x5_1) = false := decide_eq_false c8
    clear c8
    simp only [Option.some.injEq, Prod.mk.injEq] at H
    obtain ⟨rfl, rfl, rfl⟩ := H
    go_wp2
    go_ret
    exact ⟨_, by first | rfl | (simp [errW_none, errW_some] <;> rfl) | (simp [*, errW_none, errW_some] <;> rfl), by (with_reducible repeat (first | apply uU | apply uS | apply uT)); exact HO_3.out, by repeat (first | (with_reducible first | exact HI0.out | apply IsS127.alloc | apply IsS127.drewN | apply IsS127.drew | apply IsS127.set_1 | apply IsS127.set_2) | exact HI0.out), by repeat (first | (with_reducible first | exact HB.out | apply uL | apply uE | apply uK | refine uM ?_ (IsS127.ge HI0.out)) | exact HB.out), ph HK⟩

/-! ### spec_DrawExpects: function 35 -/
def spec_DrawExpects.f (k : Nat) (l0 : List Int) : Option ((List (S47)) × (List (S49))) := (spec_l01New.f k l0).bind fun bt290 => ((spec_l03Expects.f k bt290.1 bt290.2.1 bt290.2.2).bind fun bt294 => ((spec_l03Sights.f k bt290.1 bt294.2.1 bt294.2.2).bind fun bt299 => (some (bt294.1, bt299.1))))
theorem spec_DrawExpects.mono : ∀ a0 k, LeO (spec_DrawExpects.f k a0) (spec_DrawExpects.f (k + 1) a0) := by
 intro a0 k
 unfold spec_DrawExpects.f
 repeat' first
   | (with_reducible exact spec_l01New.mono _ _)
   | (with_reducible exact spec_l03Expects.mono _ _ _ _)
   | (with_reducible exact spec_l03Sights.mono _ _ _ _)
   | (with_reducible exact LeO.refl _)
   | (with_reducible exact LeO.none _)
   | (with_reducible refine LeO.ite ?_ ?_)
   | (with_reducible refine LeO.bind ?_ (fun _ => ?_))
   | exact spec_l01New.mono _ _
   | exact spec_l03Expects.mono _ _ _ _
   | exact spec_l03Sights.mono _ _ _ _
   | exact LeO.none _
   | refine LeO.ite ?_ ?_
   | refine LeO.bind ?_ (fun _ => ?_)
set_option maxHeartbeats 8000000 in
set_option maxRecDepth 100000 in
theorem spec_DrawExpects.calls (k : Nat) (A0 : Option Addr) (c0 : Nat) (l0 : List Int) (r1 : List (S47)) (r2 : List (S49)) (w : World) (hr0 : Kd.C (Kd.int .u8) w A0 l0.length l0) (hc0 : l0.length ≤ c0) (h : spec_DrawExpects.f k l0 = some (r1, r2)) :
  Calls Try.prog 35 #[.slice A0 l0.length c0] w fun e w' => ∃ v0_ v1_ : Value, e = .returned (.tuple #[v0_, v1_]) ∧ Kd.R k47 47 w' w.heap.size (fun _ => True) v0_ r1 ∧ Kd.R k49 49 w' w.heap.size (fun _ => True) v1_ r2 ∧ Below w.heap.size w w' := by
 have HR0 := uD hr0
 have HC0 := uD hc0
 clear hr0 hc0
 have HB := uD (Below.refl w.heap.size w)
 have H : ((spec_l01New.f k l0).bind fun bt290 => ((spec_l03Expects.f k bt290.1 bt290.2.1 bt290.2.2).bind fun bt294 => ((spec_l03Sights.f k bt290.1 bt294.2.1 bt294.2.2).bind fun bt299 => (some (bt294.1, bt299.1))))) = some (r1, r2) := h
 clear h
 replace H := Option.bind_eq_some_iff.mp H
 obtain ⟨⟨t290, t291, t292⟩, A20, H⟩ := H
 replace H : ((spec_l03Expects.f k t290 t291 t292).bind fun bt294 => ((spec_l03Sights.f k t290 bt294.2.1 bt294.2.2).bind fun bt299 => (some (bt294.1, bt299.1)))) = some (r1, r2) := H
 have A2 := uD A20
 clear A20
 replace H := Option.bind_eq_some_iff.mp H
 obtain ⟨⟨t294, t297, t298⟩, A30, H⟩ := H
 replace H : ((spec_l03Sights.f k t290 t297 t298).bind fun bt299 => (some (t294, bt299.1))) = some (r1, r2) := H
 have A3 := uD A30
 clear A30
 replace H := Option.bind_eq_some_iff.mp H
 obtain ⟨⟨t299, t302, t303⟩, A40, H⟩ := H
 replace H : (some (t294, t299)) = some (r1, r2) := H
 have A4 := uD A40
 clear A40
 simp only [Option.some.injEq, Prod.mk.injEq] at H
 obtain ⟨rfl, rfl⟩ := H
 go_enter Try.func35, Try.ntmps35
 go_wp2_with (first | ((with_reducible refine gate_callee (f := 71) rfl ?_); refine goesL_ (some 7) rfl rfl Try.func71 (by kernel_rfl) rfl #[.slice A0 l0.length c0] rfl (by (try simp only [List.map_toArray, List.map_cons, List.map_nil]); first | done | rfl | (simp only [List.length_drop, List.length_take]; rfl)) ?_; (with_reducible refine (spec_l01New.calls k _ _ l0 t290 t291 t292 w _ ?side1 ?side2 ?side3 A2.out).mono ?_); (case side1 => repeat (first | (with_reducible first | exact HB.out | apply uL | apply uE | apply uK) | exact HB.out)); (case side2 => exact HR0.out); (case side3 => exact HC0.out); rintro e w5 ⟨g293, rfl, hi, hb, hb2⟩; refine ⟨_, rfl, ?_⟩; replace HB := uD (hb); have HI293 := uD (hi); (try clear hb); (try clear hb2); (try clear hk); (try clear hi)) | ((with_reducible refine gate_callee (f := 72) rfl ?_); refine goesL_ (some 9) rfl rfl Try.func72 (by kernel_rfl) rfl #[.pointer (some ⟨g293, 0, none⟩)] rfl (by (try simp only [List.map_toArray, List.map_cons, List.map_nil]); first | done | rfl | (simp only [List.length_drop, List.length_take]; rfl)) ?_; (with_reducible refine (spec_l03Expects.calls k g293 t290 t291 t292 t294 t297 t298 w _ ?side1 ?side2 A3.out).mono ?_); (case side1 => repeat (first | (with_reducible first | exact HI293.out | apply IsS127.alloc | apply IsS127.drewN | apply IsS127.drew | apply IsS127.set_1 | apply IsS127.set_2) | exact HI293.out)); (case side2 => repeat (first | (with_reducible first | exact HB.out | apply uL | apply uE | apply uK | refine uM ?_ (IsS127.ge HI293.out)) | exact HB.out)); rintro e w6 ⟨v295, rfl, ho0, hi, hb, hk⟩; refine ⟨_, rfl, ?_⟩; have HO296 := uD (Kd.R_lower ho0 (uN (by repeat (first | (with_reducible first | exact HB.out | apply uL | apply uE | apply uK | refine uM ?_ (IsS127.ge HI293.out)) | exact HB.out)))); replace HB := uD (hb); replace HI293 := uD (hi); (try clear hb); (try clear hb2); (try clear hk); (try clear hi); (try clear ho0)) | ((with_reducible refine gate_callee (f := 73) rfl ?_); refine goesL_ (some 12) rfl rfl Try.func73 (by kernel_rfl) rfl #[.pointer (some ⟨g293, 0, none⟩)] rfl (by (try simp only [List.map_toArray, List.map_cons, List.map_nil]); first | done | rfl | (simp only [List.length_drop, List.length_take]; rfl)) ?_; (with_reducible refine (spec_l03Sights.calls k g293 t290 t297 t298 t299 t302 t303 w _ ?side1 ?side2 A4.out).mono ?_); (case side1 => repeat (first | (with_reducible first | exact HI293.out | apply IsS127.alloc | apply IsS127.drewN | apply IsS127.drew | apply IsS127.set_1 | apply IsS127.set_2) | exact HI293.out)); (case side2 => repeat (first | (with_reducible first | exact HB.out | apply uL | apply uE | apply uK | refine uM ?_ (IsS127.ge HI293.out)) | exact HB.out)); rintro e w7 ⟨v300, rfl, ho0, hi, hb, hk⟩; refine ⟨_, rfl, ?_⟩; replace HO296 := uD (uX (Kd.R_keep (IsS127.apart (show IsS127 w _ g293 t290 t297 t298 from by repeat (first | (with_reducible first | exact HI293.out | apply IsS127.alloc | apply IsS127.drewN | apply IsS127.drew | apply IsS127.set_1 | apply IsS127.set_2) | exact HI293.out)) (pr HO296) (by decide)) hk (fun _ h => h.2)) (fun _ h => h.1)); have HO301 := uD (Kd.R_lower ho0 (uN (by repeat (first | (with_reducible first | exact HB.out | apply uL | apply uE | apply uK | refine uM ?_ (IsS127.ge HI293.out)) | exact HB.out)))); replace HB := uD (hb); replace HI293 := uD (hi); (try clear hb); (try clear hb2); (try clear hk); (try clear hi); (try clear ho0)))
 go_ret2
 exact ⟨_, _, by first | rfl | (simp [errW_none, errW_some] <;> rfl) | (simp [*, errW_none, errW_some] <;> rfl), by (with_reducible repeat (first | apply uU | apply uS | apply uT)); exact HO296.out, by (with_reducible repeat (first | apply uU | apply uS | apply uT)); exact HO301.out, by repeat (first | (with_reducible first | exact HB.out | apply uL | apply uE | apply uK | refine uM ?_ (IsS127.ge HI293.out)) | exact HB.out)⟩

end Go.Proofs.Ytnnimbbffbfhoaa.PFnAssigned
