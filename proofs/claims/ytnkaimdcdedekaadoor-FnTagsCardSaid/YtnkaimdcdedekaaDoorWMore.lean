-- Of the kit's print's words those that this seat's texts use (wip/myprint.py took the others out): not print.sh's own.
-- PRINTED WORDS (module Derived/Print/More.lean): go-gate-2's additions: an AI agent of Go's test side, Tue Nov 17 2026; no person has read it. Lean checks it.
import Derived.Lib.SmallJoins
import Derived.Lib.LaidTab
import Derived.Lib.ItoaNum
import Derived.Lib.ConvBytes
import Derived.Laws.BytesArg
import Derived.Laws.AppendOwn
import Derived.Test.YtnkaimdcdedekaaDoorWWords
import Derived.Test.YtnkaimdcdedekaaDoorWLast
import Derived.Test.YtnkaimdcdedekaaDoorWQPut
import Derived.Test.YtnkaimdcdedekaaDoorWApart
import Derived.Test.YtnkaimdcdedekaaDoorWZeros
import Derived.Test.YtnkaimdcdedekaaDoorWFoot
import Derived.Test.YtnkaimdcdedekaaDoorWKept
import Derived.Test.YtnkaimdcdedekaaDoorWNEv
namespace Go.Proofs.YtnkaimdcdedekaaDoorW.PrintMore
open Go.RowKit Go.Proofs.YtnkaimdcdedekaaDoorW.PrintWords
namespace Kd
open Go.Proofs.YtnkaimdcdedekaaDoorW.PrintWords.Kd
end Kd

namespace Kd
open Go.Proofs.YtnkaimdcdedekaaDoorW.PrintWords.Kd
section
variable {α : Type} {d : Kd α} {e base g N : Nat} {ok : Nat → Prop} {W w1 : World} {u v : Value} {xs : List α}
end
end Kd
theorem max2_int (k k' : IntKind) (x y : Int) : Builtin.max2 (.int k x) (.int k' y) = pure (.int k (if x < y then y else x)) := by simp only [Builtin.max2, gt_iff_lt]
theorem min2_int (k k' : IntKind) (x y : Int) : Builtin.min2 (.int k x) (.int k' y) = pure (.int k (if y < x then y else x)) := by simp only [Builtin.min2]
theorem max_two (ats : Array TypeId) (ty : TypeId) (a b : Value) : Builtin.max_ ats ty #[a, b] = (Builtin.max2 a b >>= fun s => pure s) := by simp only [Builtin.max_, List.foldlM_cons, List.foldlM_nil]
theorem min_two (ats : Array TypeId) (ty : TypeId) (a b : Value) : Builtin.min_ ats ty #[a, b] = (Builtin.min2 a b >>= fun s => pure s) := by simp only [Builtin.min_, List.foldlM_cons, List.foldlM_nil]
theorem max_three (ats : Array TypeId) (ty : TypeId) (a b c : Value) : Builtin.max_ ats ty #[a, b, c] = (Builtin.max2 a b >>= fun s => Builtin.max2 s c >>= fun s => pure s) := by simp only [Builtin.max_, List.foldlM_cons, List.foldlM_nil]
theorem min_three (ats : Array TypeId) (ty : TypeId) (a b c : Value) : Builtin.min_ ats ty #[a, b, c] = (Builtin.min2 a b >>= fun s => Builtin.min2 s c >>= fun s => pure s) := by simp only [Builtin.min_, List.foldlM_cons, List.foldlM_nil]
theorem max_four (ats : Array TypeId) (ty : TypeId) (a b c d : Value) : Builtin.max_ ats ty #[a, b, c, d] = (Builtin.max2 a b >>= fun s => Builtin.max2 s c >>= fun s => Builtin.max2 s d >>= fun s => pure s) := by simp only [Builtin.max_, List.foldlM_cons, List.foldlM_nil]
theorem min_four (ats : Array TypeId) (ty : TypeId) (a b c d : Value) : Builtin.min_ ats ty #[a, b, c, d] = (Builtin.min2 a b >>= fun s => Builtin.min2 s c >>= fun s => Builtin.min2 s d >>= fun s => pure s) := by simp only [Builtin.min_, List.foldlM_cons, List.foldlM_nil]
end Go.Proofs.YtnkaimdcdedekaaDoorW.PrintMore
namespace Go.Proofs.YtnkaimdcdedekaaDoorW.PrintWords
open Go.RowKit
section
variable {P : Program} {ops : Array Oper} {rest : List Oper} {o : Oper} {a : Act} {Q : Exit → Act → World → Prop} {W : World}
theorem gate_callee {f : FuncId} {as : Array Operand} {ts : Array TypeId} (_ho : o.op = .call { callee := .value (.func f), args := as, argTypes := ts }) (h : wpList P ops Q (o :: rest) a W) : wpList P ops Q (o :: rest) a W := h
theorem gate_builtin {b : Builtin} {xs : Array Operand} {ts : Array TypeId} (_ho : o.op = .call { callee := .builtin b, args := xs, argTypes := ts }) (h : wpList P ops Q (o :: rest) a W) : wpList P ops Q (o :: rest) a W := h
end
def mx (a b : Int) : Int := if a < b then b else a
def mn (a b : Int) : Int := if b < a then b else a
theorem drewN_self (w : World) (n : Nat) : w.drewN n = w.drewN n := rfl
namespace Kd
section
variable {α : Type} {d : Kd α} {e base : Nat} {ok : Nat → Prop} {W w1 : World} {v : Value} {xs : List α}
end
section
variable {α : Type} {d : Kd α} {e base g n cap : Nat} {ok oki okp : Nat → Prop} {W : World} {xs : List α} {i : Int} {c : List Value}
end
section
variable {α : Type} {d : Kd α} {e base b b' g N : Nat} {ok ok1 : Nat → Prop} {W W2 w1 : World} {u v : Value} {xs ys : List α} {S : Nat → Prop}
theorem Q_tight (hE : d.E = []) (h : d.Q e W base ok v xs) : d.Q e W base (fun k => some k = v.ownBlock) v xs := by
  obtain ⟨h0, inner, ho, hr⟩ := h
  refine ⟨fun k hk => hk.symm, inner, ho, hr.imp_ (fun p c hp => d.M_mono (fun k hk => ?_) (d.M_bound hp))⟩
  obtain ⟨_, _, _, q, hq, _⟩ := hk
  rw [hE] at hq
  cases hq
theorem R_reok (hE : d.E = []) (h : d.R e W base ok1 v xs) (hok : ∀ k, v.ownBlock = some k → ok k) : d.R e W base ok v xs := R_mono (R_tight hE h) (fun k hk => hok k hk.symm)
theorem R_keptB (h : d.R e W base ok v xs) (hk : Kept W W2 S) (hne : ∀ k, ok k → ¬ S k) : d.R e W2 base (fun k => ok k ∧ (¬ S k ∧ k < W.heap.size)) v xs :=
  R_kept (R_mono (R_bound h) (fun k hk => ⟨hk.1, hne k hk.1, hk.2.2.1⟩)) hk (fun _ hk => hk.2.1)
theorem Q_keptB (h : d.Q e W base ok v xs) (hk : Kept W W2 S) (hne : ∀ k, ok k → ¬ S k) : d.Q e W2 base (fun k => ok k ∧ (¬ S k ∧ k < W.heap.size)) v xs :=
  Q_kept (Q_mono (Q_bound h) (fun k hk => ⟨hk.1, hne k hk.1, hk.2.2.1⟩)) hk (fun _ hk => hk.2.1)
end
end Kd
end Go.Proofs.YtnkaimdcdedekaaDoorW.PrintWords
namespace Go.Proofs.YtnkaimdcdedekaaDoorW.PrintWords
open Go.RowKit
namespace Kd
def V {α : Type} (d : Kd α) (_e : Nat) (W : World) (_base : Nat) (ok : Nat → Prop) (v : Value) (xs : List α) : Prop := ∃ A c, v = .slice A xs.length c ∧ xs.length ≤ c ∧ F d W ok A xs.length xs
section
variable {α β : Type} {d : Kd α} {e base base' n m c g N' lo hi : Nat} {ok ok' S : Nat → Prop} {w W w1 : World} {A : Option Addr} {ad : Addr} {u v v1 : Value} {xs : List α}
theorem V_nil (d : Kd α) (e : Nat) (W : World) (base : Nat) (ok : Nat → Prop) : V d e W base ok (.slice none 0 0) [] := ⟨none, 0, rfl, Nat.le_refl _, F_nil d W ok⟩
end
end Kd
end Go.Proofs.YtnkaimdcdedekaaDoorW.PrintWords
namespace Go.Proofs.YtnkaimdcdedekaaDoorW.PrintMore
open Go.RowKit Go.Proofs.YtnkaimdcdedekaaDoorW.PrintWords
theorem pk {p q : Prop} (x : Aside0 q) (h : q → p := by intro h_; (with_reducible repeat (first | refine blk_drewN ?_ _ | refine blk_drew ?_ | refine blk_alloc ?_ _)); exact h_) : p := h x.out
theorem pr {p q : Prop} (x : Aside0 q) (h : q → p := by intro h_; (with_reducible repeat (first | apply Kd.R_alloc | apply Kd.R_drewN | apply Kd.R_drew)); exact h_) : p := h x.out
theorem pq {p q : Prop} (x : Aside0 q) (h : q → p := by intro h_; (with_reducible repeat (first | apply Kd.Q_alloc | apply Kd.Q_drewN | apply Kd.Q_drew)); exact h_) : p := h x.out
theorem pb {p q : Prop} (x : Aside0 q) (h : q → p := by intro h_; repeat (first | (with_reducible first | exact h_ | apply below_alloc | apply pw_below_drewN | apply below_drew1 | refine below_set ?_ (Aside0.out (by assumption))) | exact h_)) : p := h x.out
theorem pB {p q r : Prop} (x : Aside0 q) (y : r) (h : q → r → p := by intro h_ k_; repeat (first | (with_reducible first | exact h_ | apply below_alloc | apply pw_below_drewN | apply below_drew1 | refine below_set ?_ k_ | refine below_set ?_ (Aside0.out (by assumption))) | exact h_)) : p := h x.out y
theorem pc {p q : Prop} (x : q) (h : q → p := by intro h_; repeat (first | exact h_ | (with_reducible refine Kd.C_alloc ?_ _) | (with_reducible refine Kd.C_drewN ?_ _) | (with_reducible refine Kd.C_drew ?_))) : p := h x
theorem ps {p q : Prop} (x : Aside0 q) (h : q → p := by intro h_; repeat (first | (with_reducible first | exact h_ | refine blk_drewN ?_ _ | refine blk_drew ?_ | refine blk_alloc ?_ _) | refine blk_far ?_ (Aside0.out (by assumption)) _ | exact h_)) : p := h x.out
theorem ph {w W1 W : World} {g : Nat} {row : Option Nat} (x : Aside0 (KeepBut w W1 g row)) (h : KeepBut w W1 g row → KeepBut w W g row := by intro h_; repeat (first | (with_reducible first | exact h_ | apply KeepBut.set_ | apply keep_drewN | apply keep_drew | apply keep_alloc | refine keep_far ?_ (Aside0.out (by assumption)) _) | exact h_)) : KeepBut w W g row := h x.out

theorem one_sz (b : UInt8) : (⟨#[b]⟩ : ByteArray).size = 1 := rfl
theorem vr_ {P : Program} {w W : World} {n : String} {cs : Array Value} (h : w.var? P n = some cs) (hb : Below w.heap.size w W) : W.var? P n = some cs := by
  cases hg : P.globalNamed n with
  | none => simp [World.var?, hg] at h
  | some g => exact Go.Joins.var_stays hg h hb (Nat.le_refl _)
def Tab1 (P : Program) (w : World) : Prop := Go.Lib.TabIs P w "internal/strconv.uint64pow10" .u64 Go.Lib.pow10Tab
def Tab2 (P : Program) (w : World) : Prop := Tab1 P w ∧ (∃ tp p, w.var? P "strconv.ErrSyntax" = some #[.iface tp p]) ∧ ∃ tp p, w.var? P "strconv.ErrRange" = some #[.iface tp p]
theorem tb11 {P : Program} {w W : World} (x : Aside0 (Tab1 P w)) (hb : Below w.heap.size w W) : Tab1 P W := vr_ x.out hb
theorem tb22 {P : Program} {w W : World} (x : Aside0 (Tab2 P w)) (hb : Below w.heap.size w W) : Tab2 P W := ⟨vr_ x.out.1 hb, x.out.2.1.imp fun _ h => h.imp fun _ h => vr_ h hb, x.out.2.2.imp fun _ h => h.imp fun _ h => vr_ h hb⟩
theorem tb21 {P : Program} {w W : World} (x : Aside0 (Tab2 P w)) (hb : Below w.heap.size w W) : Tab1 P W := (tb22 x hb).1

def numsOf (s : ByteArray) : List Int := s.data.toList.map (fun b => (b.toNat : Int))
def Fb (t : TypeId) (w : World) (g : Nat) (xs : List Int) : Prop := ∃ (cur : Array Value) (m : Nat), w.heap[g]? = some (.cells cur t (m, m + 1)) ∧ xs.length ≤ m ∧ cur.size = m ∧ ∀ j, j < xs.length → cur[j]? = some (.int .u8 (xs.getD j 0))
theorem Fb.move {t : TypeId} {w w1 : World} {g : Nat} {xs : List Int} (h : Fb t w g xs) (e : w1.heap[g]? = w.heap[g]?) : Fb t w1 g xs := by
  obtain ⟨cur, m, h1, h2⟩ := h
  exact ⟨cur, m, e.trans h1, h2⟩
theorem Fb.lt {t : TypeId} {w : World} {g : Nat} {xs : List Int} (h : Fb t w g xs) : g < w.heap.size := by
  obtain ⟨cur, m, h1, _⟩ := h
  exact blk_lt h1
theorem Fb.below {t : TypeId} {w w1 : World} {g : Nat} {xs : List Int} (h : Fb t w g xs) (hb : Below w.heap.size w w1) : Fb t w1 g xs := h.move (hb.block g h.lt)
theorem Fb.alloc {t : TypeId} {w : World} {g : Nat} {xs : List Int} (h : Fb t w g xs) (o : Obj) : Fb t (w.alloc o) g xs := h.below (below_alloc (Below.refl _ _) o)
theorem Fb.drew {t : TypeId} {w : World} {g : Nat} {xs : List Int} (h : Fb t w g xs) : Fb t w.drew g xs := h
theorem Fb.drewN {t : TypeId} {w : World} {g : Nat} {xs : List Int} (h : Fb t w g xs) (n : Nat) : Fb t (w.drewN n) g xs := h.below (pw_below_drewN (Below.refl _ _) n)
theorem Fb.far {t : TypeId} {w : World} {g : Nat} {xs : List Int} (h : Fb t w g xs) {p : Addr} (hp : g ≠ p.block) (u : Value) : Fb t (w.setCell p u) g xs := h.move (Below.heap_setCell w p u g hp)
theorem Fb.grown {t : TypeId} {w w1 : World} {g : Nat} {xs : List Int} {row : Option Nat} (h : Fb t w g xs) (hg : w.grownBy w1 row) (hne : some g ≠ row) : Fb t w1 g xs := h.move (hg.block g h.lt hne)
theorem Fb.ne {t t2 : TypeId} {w : World} {g g2 : Nat} {xs : List Int} {cs : Array Value} (h : Fb t w g xs) (h2 : w.heap[g2]? = some (.cells cs t2 (0, 0))) : g ≠ g2 := by
  obtain ⟨cur, m, h1, _⟩ := h
  rintro rfl
  rw [h1] at h2
  cases h2
theorem Fb.cell {t : TypeId} {w : World} {g : Nat} {xs : List Int} (h : Fb t w g xs) (i : Int) (h0 : 0 ≤ i) (h1 : i < (xs.length : Int)) : w.cell? ⟨g, i.toNat, none⟩ = some (.int .u8 (rd xs i)) ∧ w.frozen? ⟨g, i.toNat, none⟩ = false := by
  obtain ⟨cur, m, e, hm, hs, hc⟩ := h
  refine ⟨?_, ?_⟩
  · unfold World.cell?
    rw [e]
    exact hc i.toNat (by omega)
  · unfold World.frozen?
    rw [e]
    simp
    omega
theorem fb_put {w : World} {g : Nat} {t : TypeId} {cs : Array Value} {fz : Nat × Nat} (h : w.heap[g]? = some (.cells cs t fz)) (i : Nat) (u : Value) : (w.setCell ⟨g, i, none⟩ u).heap[g]? = some (.cells (cs.setIfInBounds i u) t fz) := by
  simp [World.setCell, Array.getElem?_modify, h]
theorem Fb.put {t : TypeId} {w : World} {g : Nat} {xs : List Int} (h : Fb t w g xs) (i : Int) (x : Int) (_h0 : 0 ≤ i) (_h1 : i < (xs.length : Int)) : Fb t (w.setCell ⟨g, i.toNat, none⟩ (.int .u8 x)) g (xs.set i.toNat x) := by
  obtain ⟨cur, m, e, hm, hs, hc⟩ := h
  refine ⟨cur.setIfInBounds i.toNat (.int .u8 x), m, fb_put e _ _, by simpa using hm, by simpa using hs, fun j hj => ?_⟩
  rw [List.length_set] at hj
  by_cases c : i.toNat = j
  · subst c
    rw [Array.getElem?_setIfInBounds_self_of_lt (by omega)]
    simp [List.getD_eq_getElem?_getD, hj]
  · have := hc j hj
    simp only [List.getD_eq_getElem?_getD] at this ⊢
    rw [List.getElem?_set_ne c, Array.getElem?_setIfInBounds_ne c]
    exact this
theorem Fb.string {P : Program} {src dst t : TypeId} {w : World} {g : Nat} {xs : List Int} (hs : P.underlying src = some (.slice t)) (he : P.underlying t = some (.int .u8)) (hd : P.underlying dst = some .string) (h : Fb t w g xs) (c : Nat) : (convert src dst (.slice (some ⟨g, 0, none⟩) xs.length c)).run P w = .ok (.string (strOfNums xs)) w := by
  refine run_convert_bytes_arg w src t hs he g 0 xs.length c xs rfl (fun i hi => ?_) dst hd
  have := (h.cell (i : Int) (by omega) (by omega)).1
  rw [Int.toNat_natCast] at this
  rw [Nat.zero_add, this]
  simp [rd]
theorem Fb.conv {P : Program} {ops : Array Oper} {rest : List Oper} {o : Oper} {a : Act} {Q : Exit → Act → World → Prop} {W : World} {t : TypeId} (s : ByteArray) (xs : List Int) (hx : xs = numsOf s) (hgd : o.guard = none)
    (hrun : (execOp a.eval o).run P W = .ok (.value (.slice (some ⟨W.heap.size, 0, none⟩) s.size (grownCap W s.size 0 t))) (Go.Lib.bytesWorld W t s))
    (h : ∀ g c w1, g = W.heap.size → xs.length ≤ c → Fb t w1 g xs → Below W.heap.size W w1 → wpList P ops Q rest (a.put o.dst (.slice (some ⟨g, 0, none⟩) xs.length c)) w1) : wpList P ops Q (o :: rest) a W := by
  have hl : xs.length = s.size := by rw [hx]; simp [numsOf]
  refine Kd.event_run hgd hrun ?_
  rw [← hl]
  refine h W.heap.size _ _ rfl ?_ ⟨_, _, Go.Lib.bytesWorld_at_new W t s, ?_, rfl, fun j hj => ?_⟩ ⟨rfl, rfl, rfl, ?_, fun i hi => Go.Lib.bytesWorld_at_old W t s i hi⟩
  · rw [hl]; exact grownCap_ge _ _ _ _
  · rw [hl]; simp [Go.Lib.bytesCells]
  · subst hx
    rw [hl] at hj
    have hj' : j < s.data.size := hj
    simp [Go.Lib.bytesCells, Array.getElem?_append, numsOf, List.getD_eq_getElem?_getD]
    rw [if_pos hj, Array.getElem?_eq_getElem hj']
    rfl
  · rw [Go.Lib.bytesWorld_size]; omega
theorem cz1 {w : World} {g : Nat} {t : TypeId} {c0 : Value} (x : Aside0 (w.heap[g]? = some (.cells #[c0] t (0, 0)))) : w.cell? ⟨g, 0, none⟩ = some c0 ∧ w.frozen? ⟨g, 0, none⟩ = false := ⟨(blk_cell x.out 0).trans rfl, blk_frozen x.out 0⟩
theorem cz2 {w : World} {g : Nat} {t : TypeId} {c0 c1 : Value} (x : Aside0 (w.heap[g]? = some (.cells #[c0, c1] t (0, 0)))) : w.cell? ⟨g, 0, none⟩ = some c0 ∧ w.cell? ⟨g, 1, none⟩ = some c1 ∧ w.frozen? ⟨g, 0, none⟩ = false ∧ w.frozen? ⟨g, 1, none⟩ = false := ⟨(blk_cell x.out 0).trans rfl, (blk_cell x.out 1).trans rfl, blk_frozen x.out 0, blk_frozen x.out 1⟩
theorem cz3 {w : World} {g : Nat} {t : TypeId} {c0 c1 c2 : Value} (x : Aside0 (w.heap[g]? = some (.cells #[c0, c1, c2] t (0, 0)))) : w.cell? ⟨g, 0, none⟩ = some c0 ∧ w.cell? ⟨g, 1, none⟩ = some c1 ∧ w.cell? ⟨g, 2, none⟩ = some c2 ∧ w.frozen? ⟨g, 0, none⟩ = false ∧ w.frozen? ⟨g, 1, none⟩ = false ∧ w.frozen? ⟨g, 2, none⟩ = false := ⟨(blk_cell x.out 0).trans rfl, (blk_cell x.out 1).trans rfl, (blk_cell x.out 2).trans rfl, blk_frozen x.out 0, blk_frozen x.out 1, blk_frozen x.out 2⟩
theorem cz4 {w : World} {g : Nat} {t : TypeId} {c0 c1 c2 c3 : Value} (x : Aside0 (w.heap[g]? = some (.cells #[c0, c1, c2, c3] t (0, 0)))) : w.cell? ⟨g, 0, none⟩ = some c0 ∧ w.cell? ⟨g, 1, none⟩ = some c1 ∧ w.cell? ⟨g, 2, none⟩ = some c2 ∧ w.cell? ⟨g, 3, none⟩ = some c3 ∧ w.frozen? ⟨g, 0, none⟩ = false ∧ w.frozen? ⟨g, 1, none⟩ = false ∧ w.frozen? ⟨g, 2, none⟩ = false ∧ w.frozen? ⟨g, 3, none⟩ = false := ⟨(blk_cell x.out 0).trans rfl, (blk_cell x.out 1).trans rfl, (blk_cell x.out 2).trans rfl, (blk_cell x.out 3).trans rfl, blk_frozen x.out 0, blk_frozen x.out 1, blk_frozen x.out 2, blk_frozen x.out 3⟩
theorem cz5 {w : World} {g : Nat} {t : TypeId} {c0 c1 c2 c3 c4 : Value} (x : Aside0 (w.heap[g]? = some (.cells #[c0, c1, c2, c3, c4] t (0, 0)))) : w.cell? ⟨g, 0, none⟩ = some c0 ∧ w.cell? ⟨g, 1, none⟩ = some c1 ∧ w.cell? ⟨g, 2, none⟩ = some c2 ∧ w.cell? ⟨g, 3, none⟩ = some c3 ∧ w.cell? ⟨g, 4, none⟩ = some c4 ∧ w.frozen? ⟨g, 0, none⟩ = false ∧ w.frozen? ⟨g, 1, none⟩ = false ∧ w.frozen? ⟨g, 2, none⟩ = false ∧ w.frozen? ⟨g, 3, none⟩ = false ∧ w.frozen? ⟨g, 4, none⟩ = false := ⟨(blk_cell x.out 0).trans rfl, (blk_cell x.out 1).trans rfl, (blk_cell x.out 2).trans rfl, (blk_cell x.out 3).trans rfl, (blk_cell x.out 4).trans rfl, blk_frozen x.out 0, blk_frozen x.out 1, blk_frozen x.out 2, blk_frozen x.out 3, blk_frozen x.out 4⟩
theorem cz6 {w : World} {g : Nat} {t : TypeId} {c0 c1 c2 c3 c4 c5 : Value} (x : Aside0 (w.heap[g]? = some (.cells #[c0, c1, c2, c3, c4, c5] t (0, 0)))) : w.cell? ⟨g, 0, none⟩ = some c0 ∧ w.cell? ⟨g, 1, none⟩ = some c1 ∧ w.cell? ⟨g, 2, none⟩ = some c2 ∧ w.cell? ⟨g, 3, none⟩ = some c3 ∧ w.cell? ⟨g, 4, none⟩ = some c4 ∧ w.cell? ⟨g, 5, none⟩ = some c5 ∧ w.frozen? ⟨g, 0, none⟩ = false ∧ w.frozen? ⟨g, 1, none⟩ = false ∧ w.frozen? ⟨g, 2, none⟩ = false ∧ w.frozen? ⟨g, 3, none⟩ = false ∧ w.frozen? ⟨g, 4, none⟩ = false ∧ w.frozen? ⟨g, 5, none⟩ = false := ⟨(blk_cell x.out 0).trans rfl, (blk_cell x.out 1).trans rfl, (blk_cell x.out 2).trans rfl, (blk_cell x.out 3).trans rfl, (blk_cell x.out 4).trans rfl, (blk_cell x.out 5).trans rfl, blk_frozen x.out 0, blk_frozen x.out 1, blk_frozen x.out 2, blk_frozen x.out 3, blk_frozen x.out 4, blk_frozen x.out 5⟩
end Go.Proofs.YtnkaimdcdedekaaDoorW.PrintMore
