-- Written by a program of this session (wip/myprint.py: the kit's print with changes): not by print.sh itself.
import Derived.Test.YtbdjbdoelbmjcaaPFnBeltEntersx0
import Derived.Test.YtbdjbdoelbmjcaaPFnBeltEntersx2
import Derived.Test.YtbdjbdoelbmjcaaPFnBeltEntersx3
import Derived.Test.YtbdjbdoelbmjcaaPFnBeltEntersx4
import Derived.Test.YtbdjbdoelbmjcaaPFnBeltEntersx5
import Derived.Test.YtbdjbdoelbmjcaaPFnBeltEntersx6
namespace Go.Proofs.Ytbdjbdoelbmjcaa.PFnBeltEnters
open Go.RowKit Go.Proofs.YtbdjbdoelbmjcaaW.PrintWords Go.Proofs.YtbdjbdoelbmjcaaW.PrintLast Go.Proofs.YtbdjbdoelbmjcaaW.PrintMore
open Go renaming Act.put → uc
open Go.Proofs.YtbdjbdoelbmjcaaW.PrintLast renaming i64_w → uZ, i32_w → ua
open Go.Proofs.YtbdjbdoelbmjcaaW.PrintWords renaming Aside0.mk → uD, blk_alloc → uG, blk_drewN → uH, blk_drew → uJ, below_size → uN, below_step → uO, blk_put → uP, results_ct → uR, Kd.R_drewN → uS, Kd.R_drew → uT, Kd.R_alloc → uU, Kd.R_far → uV, Kd.R_types → uW, Kd.R_mono → uX
open List renaming setIfInBounds_toArray → uA, set_cons_zero → uB, set_cons_succ → uC
attribute [local go_sem] max2_int min2_int max_two min_two max_three min_three max_four min_four   -- for this text's walks alone
set_option linter.unusedVariables false
set_option linter.unusedSimpArgs false

/-! ### spec_Enter: function 30 -/
mutual
def spec_Enter.j0 : Nat → Int → Int → Bool → Int → Int → Bool → List (S53) → Option (Int × Int × Bool × (List (S53)) × Bool)
 | 0, _, _, _, _, _, _, _ => none
 | k + 1, x1, x2, x34, x225000, x225001, x225002, x225003 => if x34 = true then (some (x225000, x225001, x225002, x225003, false)) else (spec_Enter.l0 k x1 x2 0 x225000 x225001 x225002 x225003)
def spec_Enter.l0 : Nat → Int → Int → Int → Int → Int → Bool → List (S53) → Option (Int × Int × Bool × (List (S53)) × Bool)
 | 0, _, _, _, _, _, _, _ => none
 | k + 1, x1, x2, x8, x225000, x225001, x225002, x225003 => if x8 < (x225003.length : Int) then (if 0 ≤ x8 then (if ((rd_T53 x225003 x8).f0) = x1 then (some (x225000, x225001, x225002, x225003, false)) else (spec_Enter.l0 k x1 x2 (wrap64 (x8 + 1)) x225000 x225001 x225002 x225003)) else (none)) else ((some (([] : List (S53)) : List (S53))).bind fun y236 => (if y236.length + x225003.length < 5864062014805 then ((some (y236 ++ x225003 : List (S53))).bind fun y239 => (if y239.length < 5864062014805 then (some (x225000, x225001, x225002, (y239 ++ [(⟨x1, x2, x2⟩ : S53)]), true)) else (none))) else (none)))
end
def spec_Enter.f (k : Nat) (a0_0 : Int) (a0_1 : Int) (a0_2 : Bool) (l0_3 : List (S53)) (a1 : Int) (a2 : Int) : Option (Int × Int × Bool × (List (S53)) × Bool) := (spec_l02Fresh.f a0_0 a0_1 a0_2 l0_3).bind fun bt226 => ((spec_BeltOk.f k bt226.1 bt226.2.1 bt226.2.2.1 bt226.2.2.2).bind fun t232 => (if t232 = true then (if a1 < 1 then (spec_Enter.j0 k a1 a2 true bt226.1 bt226.2.1 bt226.2.2.1 bt226.2.2.2) else ((spec_l01In.f a2 1 60).bind fun t233 => (if t233 = true then (if (bt226.2.2.2.length : Int) ≥ 40 then (spec_Enter.j0 k a1 a2 true bt226.1 bt226.2.1 bt226.2.2.1 bt226.2.2.2) else ((spec_FreeBehind.f k bt226.1 bt226.2.1 bt226.2.2.1 bt226.2.2.2).bind fun t234 => (spec_Enter.j0 k a1 a2 (decide (a2 > t234)) bt226.1 bt226.2.1 bt226.2.2.1 bt226.2.2.2))) else (spec_Enter.j0 k a1 a2 true bt226.1 bt226.2.1 bt226.2.2.1 bt226.2.2.2)))) else (spec_Enter.j0 k a1 a2 true bt226.1 bt226.2.1 bt226.2.2.1 bt226.2.2.2)))
theorem spec_Enter.mono_l : ∀ k, (∀ y0 y1 y2 y3 y4 y5 y6, LeO (spec_Enter.j0 k y0 y1 y2 y3 y4 y5 y6) (spec_Enter.j0 (k + 1) y0 y1 y2 y3 y4 y5 y6)) ∧ (∀ y0 y1 y2 y3 y4 y5 y6, LeO (spec_Enter.l0 k y0 y1 y2 y3 y4 y5 y6) (spec_Enter.l0 (k + 1) y0 y1 y2 y3 y4 y5 y6))
 | 0 => ⟨fun _ _ _ _ _ _ _ r h => by simp [spec_Enter.j0] at h, fun _ _ _ _ _ _ _ r h => by simp [spec_Enter.l0] at h⟩
 | k + 1 => by
  obtain ⟨ih0, ih1⟩ := spec_Enter.mono_l k
  refine ⟨?_, ?_⟩
  ·intro y0 y1 y2 y3 y4 y5 y6
   unfold spec_Enter.j0
   repeat' first
   | (with_reducible exact ih0 _ _ _ _ _ _ _)
   | (with_reducible exact ih1 _ _ _ _ _ _ _)
   | (with_reducible exact spec_BeltOk.mono _ _ _ _ _)
   | (with_reducible exact spec_FreeBehind.mono _ _ _ _ _)
   | (with_reducible exact LeO.refl _)
   | (with_reducible exact LeO.none _)
   | (with_reducible refine LeO.ite ?_ ?_)
   | (with_reducible refine LeO.bind ?_ (fun _ => ?_))
   | exact ih0 _ _ _ _ _ _ _
   | exact ih1 _ _ _ _ _ _ _
   | exact spec_BeltOk.mono _ _ _ _ _
   | exact spec_FreeBehind.mono _ _ _ _ _
   | exact LeO.none _
   | refine LeO.ite ?_ ?_
   | refine LeO.bind ?_ (fun _ => ?_)
  ·intro y0 y1 y2 y3 y4 y5 y6
   unfold spec_Enter.l0
   repeat' first
   | (with_reducible exact ih0 _ _ _ _ _ _ _)
   | (with_reducible exact ih1 _ _ _ _ _ _ _)
   | (with_reducible exact spec_BeltOk.mono _ _ _ _ _)
   | (with_reducible exact spec_FreeBehind.mono _ _ _ _ _)
   | (with_reducible exact LeO.refl _)
   | (with_reducible exact LeO.none _)
   | (with_reducible refine LeO.ite ?_ ?_)
   | (with_reducible refine LeO.bind ?_ (fun _ => ?_))
   | exact ih0 _ _ _ _ _ _ _
   | exact ih1 _ _ _ _ _ _ _
   | exact spec_BeltOk.mono _ _ _ _ _
   | exact spec_FreeBehind.mono _ _ _ _ _
   | exact LeO.none _
   | refine LeO.ite ?_ ?_
   | refine LeO.bind ?_ (fun _ => ?_)
theorem spec_Enter.mono : ∀ a0 a1 a2 a3 a4 a5 k, LeO (spec_Enter.f k a0 a1 a2 a3 a4 a5) (spec_Enter.f (k + 1) a0 a1 a2 a3 a4 a5) := by
 intro a0 a1 a2 a3 a4 a5 k
 obtain ⟨ih0, ih1⟩ := spec_Enter.mono_l k
 unfold spec_Enter.f
 repeat' first
   | (with_reducible exact ih0 _ _ _ _ _ _ _)
   | (with_reducible exact ih1 _ _ _ _ _ _ _)
   | (with_reducible exact spec_BeltOk.mono _ _ _ _ _)
   | (with_reducible exact spec_FreeBehind.mono _ _ _ _ _)
   | (with_reducible exact LeO.refl _)
   | (with_reducible exact LeO.none _)
   | (with_reducible refine LeO.ite ?_ ?_)
   | (with_reducible refine LeO.bind ?_ (fun _ => ?_))
   | exact ih0 _ _ _ _ _ _ _
   | exact ih1 _ _ _ _ _ _ _
   | exact spec_BeltOk.mono _ _ _ _ _
   | exact spec_FreeBehind.mono _ _ _ _ _
   | exact LeO.none _
   | refine LeO.ite ?_ ?_
   | refine LeO.bind ?_ (fun _ => ?_)
set_option maxHeartbeats 8000000 in
set_option maxRecDepth 100000 in
theorem spec_Enter.calls (k : Nat) (a0_0 : Int) (a0_1 : Int) (a0_2 : Bool) (A0_3 : Option Addr) (c0_3 : Nat) (l0_3 : List (S53)) (a1 : Int) (a2 : Int) (r1 : Int) (r2 : Int) (r3 : Bool) (r4 : List (S53)) (r5 : Bool) (w : World) (hr0_3 : Kd.C k53 w A0_3 l0_3.length l0_3) (hc0_3 : l0_3.length ≤ c0_3) (h : spec_Enter.f k a0_0 a0_1 a0_2 l0_3 a1 a2 = some (r1, r2, r3, r4, r5)) :
  Calls Try.prog 30 #[.agg #[.int .i64 a0_0, .int .i64 a0_1, .bool a0_2, .slice A0_3 l0_3.length c0_3], .int .i64 a1, .int .i64 a2] w fun e w' => ∃ v3_ : Value, e = .returned (.tuple #[.agg #[.int .i64 r1, .int .i64 r2, .bool r3, v3_], .bool r5]) ∧ Kd.R k53 53 w' w.heap.size (fun _ => True) v3_ r4 ∧ Below w.heap.size w w' := by
 have hu29 := Try.underlying29
 have hu53 := Try.underlying53
 have HR0_3 := uD hr0_3
 have HC0_3 := uD hc0_3
 clear hr0_3 hc0_3
 have HB := uD (Below.refl w.heap.size w)
 have H : ((spec_l02Fresh.f a0_0 a0_1 a0_2 l0_3).bind fun bt226 => ((spec_BeltOk.f k bt226.1 bt226.2.1 bt226.2.2.1 bt226.2.2.2).bind fun t232 => (if t232 = true then (if a1 < 1 then (spec_Enter.j0 k a1 a2 true bt226.1 bt226.2.1 bt226.2.2.1 bt226.2.2.2) else ((spec_l01In.f a2 1 60).bind fun t233 => (if t233 = true then (if (bt226.2.2.2.length : Int) ≥ 40 then (spec_Enter.j0 k a1 a2 true bt226.1 bt226.2.1 bt226.2.2.1 bt226.2.2.2) else ((spec_FreeBehind.f k bt226.1 bt226.2.1 bt226.2.2.1 bt226.2.2.2).bind fun t234 => (spec_Enter.j0 k a1 a2 (decide (a2 > t234)) bt226.1 bt226.2.1 bt226.2.2.1 bt226.2.2.2))) else (spec_Enter.j0 k a1 a2 true bt226.1 bt226.2.1 bt226.2.2.1 bt226.2.2.2)))) else (spec_Enter.j0 k a1 a2 true bt226.1 bt226.2.1 bt226.2.2.1 bt226.2.2.2)))) = some (r1, r2, r3, r4, r5) := h
 clear h
 replace H := Option.bind_eq_some_iff.mp H
 obtain ⟨⟨t226, t227, t228, t229⟩, A40, H⟩ := H
 replace H : ((spec_BeltOk.f k t226 t227 t228 t229).bind fun t232 => (if t232 = true then (if a1 < 1 then (spec_Enter.j0 k a1 a2 true t226 t227 t228 t229) else ((spec_l01In.f a2 1 60).bind fun t233 => (if t233 = true then (if (t229.length : Int) ≥ 40 then (spec_Enter.j0 k a1 a2 true t226 t227 t228 t229) else ((spec_FreeBehind.f k t226 t227 t228 t229).bind fun t234 => (spec_Enter.j0 k a1 a2 (decide (a2 > t234)) t226 t227 t228 t229))) else (spec_Enter.j0 k a1 a2 true t226 t227 t228 t229)))) else (spec_Enter.j0 k a1 a2 true t226 t227 t228 t229))) = some (r1, r2, r3, r4, r5) := H
 have A4 := uD A40
 clear A40
 have HC5 := uD H
 clear H
 go_enter Try.func30, Try.ntmps30
 go_upto_region 2 with (first | ((with_reducible refine gate_dst (N := 3) rfl ?_); (try (refine gate_guard (by rfl) ?_; dsimp only)); refine bx 3 #[.int .i64 a0_0, .int .i64 a0_1, .bool a0_2, .slice A0_3 l0_3.length c0_3] 29 ?_; intro gb224 hg w6 hbox hb; have BK224 := uD (hbox); have GW224 := uD ((by rw [hg]; exact (uN (pb HB)) : w.heap.size ≤ gb224)); have GE224 := uD ((by rw [hg]; exact (uN (pb HB)) : w.heap.size ≤ gb224)); replace HB := uD (uO (pb HB) hb); clear hb hbox hg) | ((with_reducible refine gate_dst (N := 6) rfl ?_); (try (refine gate_guard (by rfl) ?_; dsimp only)); refine bx 6 #[.int .i64 0, .int .i64 0, .bool false, .slice none 0 0] 29 ?_; intro gb225 hg w7 hbox hb; have BK225 := uD (hbox); have GW225 := uD ((by rw [hg]; exact (uN (pb HB)) : w.heap.size ≤ gb225)); have GE225 := uD ((by rw [hg]; exact (uN (pb HB)) : w.heap.size ≤ gb225)); replace HB := uD (uO (pb HB) hb); have NB224_225 := uD ((by rw [hg]; exact Nat.ne_of_lt (blk_lt (pk BK224)) : gb224 ≠ gb225)); have NB225_224 := uD ((by rw [hg]; exact Nat.ne_of_gt (blk_lt (pk BK224)) : gb225 ≠ gb224)); replace BK224 := uD (blk_below (pk BK224) hb); clear hb hbox hg; have hnb8 := NB224_225.out; have hnc8 := NB225_224.out; obtain ⟨hcz9_0, hcz9_1, hcz9_2, hcz9_3, hfz9_0, hfz9_1, hfz9_2, hfz9_3⟩ := cz4 BK224) | ((with_reducible refine gate_callee (f := 55) rfl ?_); refine gl (some 10) Try.func55 #[.agg #[.int .i64 a0_0, .int .i64 a0_1, .bool a0_2, .slice A0_3 l0_3.length c0_3]] ?_; (with_reducible refine (spec_l02Fresh.calls a0_0 a0_1 a0_2 _ _ l0_3 t226 t227 t228 t229 _ ?side1 ?side2 A4.out).mono ?_); (case side1 => exact pc (Kd.C_below HR0_3.out HB.out)); (case side2 => exact HC0_3.out); rintro e w10 ⟨v230, rfl, ho0, hb⟩; refine ⟨_, rfl, ?_⟩; have HO231 := uD (Kd.R_lower ho0 (uN (pb HB))); replace BK224 := uD (blk_below (pk BK224) hb); replace BK225 := uD (blk_below (pk BK225) hb); replace HB := uD (uO (pb HB) hb); (try clear hb); (try clear hb2); (try clear hk); (try clear hi); (try clear ho0); obtain ⟨hcz11_0, hcz11_1, hcz11_2, hcz11_3, hfz11_0, hfz11_1, hfz11_2, hfz11_3⟩ := cz4 BK224; obtain ⟨Ao12, co12, eo12⟩ := Kd.R_slice HO231.out; subst eo12))
 (try simp only [uc, uA, uB, uC])
 go_cut [34] (fun v34 wc => ∃ (kq : Nat) (x34_4 : Bool), v34 = .bool x34_4 ∧ Aside0 (spec_Enter.j0 kq a1 a2 x34_4 t226 t227 t228 t229 = some (r1, r2, r3, r4, r5)) ∧ Aside0 (kq ≤ k) ∧ Aside0 (Kd.R k53 53 wc w.heap.size (fun _ => True) (.slice Ao12 t229.length co12) t229) ∧ Aside0 (wc.heap[gb224]? = some (.cells #[.int .i64 t226, .int .i64 t227, .bool t228, (.slice Ao12 t229.length co12)] 29 (0, 0))) ∧ Aside0 (wc.heap[gb225]? = some (.cells #[.int .i64 0, .int .i64 0, .bool false, (.slice none 0 0)] 29 (0, 0))) ∧ Aside0 (Below w.heap.size w wc))
 case first =>
  have H := HC5.out
  clear HC5
  replace H := Option.bind_eq_some_iff.mp H
  obtain ⟨t232, A130, H⟩ := H
  replace H : (if t232 = true then (if a1 < 1 then (spec_Enter.j0 k a1 a2 true t226 t227 t228 t229) else ((spec_l01In.f a2 1 60).bind fun t233 => (if t233 = true then (if (t229.length : Int) ≥ 40 then (spec_Enter.j0 k a1 a2 true t226 t227 t228 t229) else ((spec_FreeBehind.f k t226 t227 t228 t229).bind fun t234 => (spec_Enter.j0 k a1 a2 (decide (a2 > t234)) t226 t227 t228 t229))) else (spec_Enter.j0 k a1 a2 true t226 t227 t228 t229)))) else (spec_Enter.j0 k a1 a2 true t226 t227 t228 t229)) = some (r1, r2, r3, r4, r5) := H
  have A13 := uD A130
  clear A130
  by_cases c14 : t232 = true
  ·subst c14
   have H1 : (if a1 < 1 then (spec_Enter.j0 k a1 a2 true t226 t227 t228 t229) else ((spec_l01In.f a2 1 60).bind fun t233 => (if t233 = true then (if (t229.length : Int) ≥ 40 then (spec_Enter.j0 k a1 a2 true t226 t227 t228 t229) else ((spec_FreeBehind.f k t226 t227 t228 t229).bind fun t234 => (spec_Enter.j0 k a1 a2 (decide (a2 > t234)) t226 t227 t228 t229))) else (spec_Enter.j0 k a1 a2 true t226 t227 t228 t229)))) = some (r1, r2, r3, r4, r5) := by rw [if_pos rfl] at H; first | done | exact H
   clear H
   have H := H1
   clear H1
   by_cases c15 : a1 < 1
   ·rw [if_pos c15] at H
    have c15b0 : decide (a1 < 1) = true := decide_eq_true c15
    clear c15
    (first | rw [c15b0] | (simp only [uZ, ua]; rw [c15b0]) | skip)
    have H' := uD H
    clear H
    have hnb16 := NB224_225.out
    have hnc16 := NB225_224.out
    obtain ⟨hcz17_0, hcz17_1, hcz17_2, hcz17_3, hfz17_0, hfz17_1, hfz17_2, hfz17_3⟩ := cz4 BK224
    go_wp2_with (first | ((with_reducible refine gate_callee (f := 16) rfl ?_); refine gl (some 12) Try.func16 #[.agg #[.int .i64 t226, .int .i64 t227, .bool t228, .slice Ao12 t229.length co12]] ?_; (with_reducible refine (spec_BeltOk.calls k t226 t227 t228 _ _ t229 true _ ?side1 ?side2 A13.out).mono ?_); (case side1 => refine (Kd.R_reads' (e := 53) (base := w.heap.size) (ok := fun k_ => True) (n := t229.length) (c := co12) ?_).2.2; exact (by (with_reducible repeat (first | apply uU | apply uS | apply uT)); exact (uX (uV (p := ⟨gb224, 3, none⟩) (uV (p := ⟨gb224, 2, none⟩) (uV (p := ⟨gb224, 1, none⟩) (uV (p := ⟨gb224, 0, none⟩) (uW HO231.out BK224.out (by decide)) (fun _ hk => hk.2) (.int .i64 t226)) (fun _ hk => hk.2) (.int .i64 t227)) (fun _ hk => hk.2) (.bool t228)) (fun _ hk => hk.2) (.slice Ao12 t229.length co12)) (fun _ h_ => h_.1)))); (case side2 => exact (Kd.R_reads' HO231.out).2.1); rintro e w18 ⟨rfl, hb⟩; refine ⟨_, rfl, ?_⟩; replace HO231 := uD (Kd.R_below (by (with_reducible repeat (first | apply uU | apply uS | apply uT)); exact (uX (uV (p := ⟨gb224, 3, none⟩) (uV (p := ⟨gb224, 2, none⟩) (uV (p := ⟨gb224, 1, none⟩) (uV (p := ⟨gb224, 0, none⟩) (uW HO231.out BK224.out (by decide)) (fun _ hk => hk.2) (.int .i64 t226)) (fun _ hk => hk.2) (.int .i64 t227)) (fun _ hk => hk.2) (.bool t228)) (fun _ hk => hk.2) (.slice Ao12 t229.length co12)) (fun _ h_ => h_.1))) hb); replace BK224 := uD (blk_below (g := gb224) (o := .cells #[.int .i64 t226, .int .i64 t227, .bool t228, .slice Ao12 t229.length co12] 29 (0, 0)) (by (with_reducible repeat first|apply uH|apply uJ|apply uG); refine uP (cs := #[.int .i64 t226, .int .i64 t227, .bool t228, .slice A0_3 l0_3.length c0_3]) ?_ 3 _ rfl; (with_reducible repeat first|apply uH|apply uJ|apply uG); refine uP (cs := #[.int .i64 t226, .int .i64 t227, .bool a0_2, .slice A0_3 l0_3.length c0_3]) ?_ 2 _ rfl; (with_reducible repeat first|apply uH|apply uJ|apply uG); refine uP (cs := #[.int .i64 t226, .int .i64 a0_1, .bool a0_2, .slice A0_3 l0_3.length c0_3]) ?_ 1 _ rfl; (with_reducible repeat first|apply uH|apply uJ|apply uG); refine uP (cs := #[.int .i64 a0_0, .int .i64 a0_1, .bool a0_2, .slice A0_3 l0_3.length c0_3]) ?_ 0 _ rfl; (with_reducible repeat first|apply uH|apply uJ|apply uG); exact BK224.out) hb); replace BK225 := uD (blk_below (g := gb225) (o := .cells #[.int .i64 0, .int .i64 0, .bool false, .slice none 0 0] 29 (0, 0)) (by exact ps BK225) hb); replace HB := uD (uO (pb HB) hb); (try clear hb); (try clear hb2); (try clear hk); (try clear hi)))
    go_meet
    case rel => exact ⟨_, (true), (by first | rfl | (simp; done) | (simp [*]; done)), H', ⟨by first | omega | exact Nat.le_refl _⟩, ⟨by (with_reducible repeat (first | apply uU | apply uS | apply uT)); exact HO231.out⟩, ⟨by (with_reducible repeat first|apply uH|apply uJ|apply uG); exact BK224.out⟩, ⟨by (with_reducible repeat first|apply uH|apply uJ|apply uG); exact BK225.out⟩, ⟨pb HB⟩⟩
   ·rw [if_neg c15] at H
    have c15b0 : decide (a1 < 1) = false := decide_eq_false c15
    clear c15
    (first | rw [c15b0] | (simp only [uZ, ua]; rw [c15b0]) | skip)
    replace H := Option.bind_eq_some_iff.mp H
    obtain ⟨t233, A190, H⟩ := H
    replace H : (if t233 = true then (if (t229.length : Int) ≥ 40 then (spec_Enter.j0 k a1 a2 true t226 t227 t228 t229) else ((spec_FreeBehind.f k t226 t227 t228 t229).bind fun t234 => (spec_Enter.j0 k a1 a2 (decide (a2 > t234)) t226 t227 t228 t229))) else (spec_Enter.j0 k a1 a2 true t226 t227 t228 t229)) = some (r1, r2, r3, r4, r5) := H
    have A19 := uD A190
    clear A190
    by_cases c20 : t233 = true
    ·subst c20
     have H1 : (if (t229.length : Int) ≥ 40 then (spec_Enter.j0 k a1 a2 true t226 t227 t228 t229) else ((spec_FreeBehind.f k t226 t227 t228 t229).bind fun t234 => (spec_Enter.j0 k a1 a2 (decide (a2 > t234)) t226 t227 t228 t229))) = some (r1, r2, r3, r4, r5) := by rw [if_pos rfl] at H; first | done | exact H
     clear H
     have H := H1
     clear H1
     by_cases c21 : (t229.length : Int) ≥ 40
     ·rw [if_pos c21] at H
      have c21b0 : decide (40 ≤ (t229.length : Int)) = true := decide_eq_true c21
      have c21b1 : decide (40 ≤ t229.length) = true := decide_eq_true (by omega)
      clear c21
      have H' := uD H
      clear H
      have hnb22 := NB224_225.out
      have hnc22 := NB225_224.out
      obtain ⟨hcz23_0, hcz23_1, hcz23_2, hcz23_3, hfz23_0, hfz23_1, hfz23_2, hfz23_3⟩ := cz4 BK224
      go_wp2_with (first | ((with_reducible refine gate_callee (f := 16) rfl ?_); refine gl (some 12) Try.func16 #[.agg #[.int .i64 t226, .int .i64 t227, .bool t228, .slice Ao12 t229.length co12]] ?_; (with_reducible refine (spec_BeltOk.calls k t226 t227 t228 _ _ t229 true _ ?side1 ?side2 A13.out).mono ?_); (case side1 => refine (Kd.R_reads' (e := 53) (base := w.heap.size) (ok := fun k_ => True) (n := t229.length) (c := co12) ?_).2.2; exact (by (with_reducible repeat (first | apply uU | apply uS | apply uT)); exact (uX (uV (p := ⟨gb224, 3, none⟩) (uV (p := ⟨gb224, 2, none⟩) (uV (p := ⟨gb224, 1, none⟩) (uV (p := ⟨gb224, 0, none⟩) (uW HO231.out BK224.out (by decide)) (fun _ hk => hk.2) (.int .i64 t226)) (fun _ hk => hk.2) (.int .i64 t227)) (fun _ hk => hk.2) (.bool t228)) (fun _ hk => hk.2) (.slice Ao12 t229.length co12)) (fun _ h_ => h_.1)))); (case side2 => exact (Kd.R_reads' HO231.out).2.1); rintro e w24 ⟨rfl, hb⟩; refine ⟨_, rfl, ?_⟩; replace HO231 := uD (Kd.R_below (by (with_reducible repeat (first | apply uU | apply uS | apply uT)); exact (uX (uV (p := ⟨gb224, 3, none⟩) (uV (p := ⟨gb224, 2, none⟩) (uV (p := ⟨gb224, 1, none⟩) (uV (p := ⟨gb224, 0, none⟩) (uW HO231.out BK224.out (by decide)) (fun _ hk => hk.2) (.int .i64 t226)) (fun _ hk => hk.2) (.int .i64 t227)) (fun _ hk => hk.2) (.bool t228)) (fun _ hk => hk.2) (.slice Ao12 t229.length co12)) (fun _ h_ => h_.1))) hb); replace BK224 := uD (blk_below (g := gb224) (o := .cells #[.int .i64 t226, .int .i64 t227, .bool t228, .slice Ao12 t229.length co12] 29 (0, 0)) (by (with_reducible repeat first|apply uH|apply uJ|apply uG); refine uP (cs := #[.int .i64 t226, .int .i64 t227, .bool t228, .slice A0_3 l0_3.length c0_3]) ?_ 3 _ rfl; (with_reducible repeat first|apply uH|apply uJ|apply uG); refine uP (cs := #[.int .i64 t226, .int .i64 t227, .bool a0_2, .slice A0_3 l0_3.length c0_3]) ?_ 2 _ rfl; (with_reducible repeat first|apply uH|apply uJ|apply uG); refine uP (cs := #[.int .i64 t226, .int .i64 a0_1, .bool a0_2, .slice A0_3 l0_3.length c0_3]) ?_ 1 _ rfl; (with_reducible repeat first|apply uH|apply uJ|apply uG); refine uP (cs := #[.int .i64 a0_0, .int .i64 a0_1, .bool a0_2, .slice A0_3 l0_3.length c0_3]) ?_ 0 _ rfl; (with_reducible repeat first|apply uH|apply uJ|apply uG); exact BK224.out) hb); replace BK225 := uD (blk_below (g := gb225) (o := .cells #[.int .i64 0, .int .i64 0, .bool false, .slice none 0 0] 29 (0, 0)) (by exact ps BK225) hb); replace HB := uD (uO (pb HB) hb); (try clear hb); (try clear hb2); (try clear hk); (try clear hi)) | (go_at_call 48; (with_reducible refine (spec_l01In.calls a2 1 60 true _ A19.out).mono ?_); rintro e w' ⟨rfl, ⟨nd, rfl⟩⟩; obtain ⟨hcz25_0, hcz25_1, hcz25_2, hcz25_3, hfz25_0, hfz25_1, hfz25_2, hfz25_3⟩ := cz4 BK224))
      go_meet
      case rel => exact ⟨_, (true), (by first | rfl | (simp; done) | (simp [*]; done)), H', ⟨by first | omega | exact Nat.le_refl _⟩, ⟨by (with_reducible repeat (first | apply uU | apply uS | apply uT)); exact HO231.out⟩, ⟨by (with_reducible repeat first|apply uH|apply uJ|apply uG); exact BK224.out⟩, ⟨by (with_reducible repeat first|apply uH|apply uJ|apply uG); exact BK225.out⟩, ⟨pb HB⟩⟩
     ·rw [if_neg c21] at H
      have c21b0 : decide (40 ≤ (t229.length : Int)) = false := decide_eq_false c21
      have c21b1 : decide (40 ≤ t229.length) = false := decide_eq_false (by omega)
      clear c21
      replace H := Option.bind_eq_some_iff.mp H
      obtain ⟨t234, A260, H⟩ := H
      replace H : (spec_Enter.j0 k a1 a2 (decide (a2 > t234)) t226 t227 t228 t229) = some (r1, r2, r3, r4, r5) := H
      have A26 := uD A260
      clear A260
      have H' := uD H
      clear H
      have hnb27 := NB224_225.out
      have hnc27 := NB225_224.out
      obtain ⟨hcz28_0, hcz28_1, hcz28_2, hcz28_3, hfz28_0, hfz28_1, hfz28_2, hfz28_3⟩ := cz4 BK224
      go_wp2_with (first | ((with_reducible refine gate_callee (f := 16) rfl ?_); refine gl (some 12) Try.func16 #[.agg #[.int .i64 t226, .int .i64 t227, .bool t228, .slice Ao12 t229.length co12]] ?_; (with_reducible refine (spec_BeltOk.calls k t226 t227 t228 _ _ t229 true _ ?side1 ?side2 A13.out).mono ?_); (case side1 => refine (Kd.R_reads' (e := 53) (base := w.heap.size) (ok := fun k_ => True) (n := t229.length) (c := co12) ?_).2.2; exact (by (with_reducible repeat (first | apply uU | apply uS | apply uT)); exact (uX (uV (p := ⟨gb224, 3, none⟩) (uV (p := ⟨gb224, 2, none⟩) (uV (p := ⟨gb224, 1, none⟩) (uV (p := ⟨gb224, 0, none⟩) (uW HO231.out BK224.out (by decide)) (fun _ hk => hk.2) (.int .i64 t226)) (fun _ hk => hk.2) (.int .i64 t227)) (fun _ hk => hk.2) (.bool t228)) (fun _ hk => hk.2) (.slice Ao12 t229.length co12)) (fun _ h_ => h_.1)))); (case side2 => exact (Kd.R_reads' HO231.out).2.1); rintro e w29 ⟨rfl, hb⟩; refine ⟨_, rfl, ?_⟩; replace HO231 := uD (Kd.R_below (by (with_reducible repeat (first | apply uU | apply uS | apply uT)); exact (uX (uV (p := ⟨gb224, 3, none⟩) (uV (p := ⟨gb224, 2, none⟩) (uV (p := ⟨gb224, 1, none⟩) (uV (p := ⟨gb224, 0, none⟩) (uW HO231.out BK224.out (by decide)) (fun _ hk => hk.2) (.int .i64 t226)) (fun _ hk => hk.2) (.int .i64 t227)) (fun _ hk => hk.2) (.bool t228)) (fun _ hk => hk.2) (.slice Ao12 t229.length co12)) (fun _ h_ => h_.1))) hb); replace BK224 := uD (blk_below (g := gb224) (o := .cells #[.int .i64 t226, .int .i64 t227, .bool t228, .slice Ao12 t229.length co12] 29 (0, 0)) (by (with_reducible repeat first|apply uH|apply uJ|apply uG); refine uP (cs := #[.int .i64 t226, .int .i64 t227, .bool t228, .slice A0_3 l0_3.length c0_3]) ?_ 3 _ rfl; (with_reducible repeat first|apply uH|apply uJ|apply uG); refine uP (cs := #[.int .i64 t226, .int .i64 t227, .bool a0_2, .slice A0_3 l0_3.length c0_3]) ?_ 2 _ rfl; (with_reducible repeat first|apply uH|apply uJ|apply uG); refine uP (cs := #[.int .i64 t226, .int .i64 a0_1, .bool a0_2, .slice A0_3 l0_3.length c0_3]) ?_ 1 _ rfl; (with_reducible repeat first|apply uH|apply uJ|apply uG); refine uP (cs := #[.int .i64 a0_0, .int .i64 a0_1, .bool a0_2, .slice A0_3 l0_3.length c0_3]) ?_ 0 _ rfl; (with_reducible repeat first|apply uH|apply uJ|apply uG); exact BK224.out) hb); replace BK225 := uD (blk_below (g := gb225) (o := .cells #[.int .i64 0, .int .i64 0, .bool false, .slice none 0 0] 29 (0, 0)) (by exact ps BK225) hb); replace HB := uD (uO (pb HB) hb); (try clear hb); (try clear hb2); (try clear hk); (try clear hi)) | (go_at_call 48; (with_reducible refine (spec_l01In.calls a2 1 60 true _ A19.out).mono ?_); rintro e w' ⟨rfl, ⟨nd, rfl⟩⟩; obtain ⟨hcz30_0, hcz30_1, hcz30_2, hcz30_3, hfz30_0, hfz30_1, hfz30_2, hfz30_3⟩ := cz4 BK224) | (go_at_call 20; (with_reducible refine (spec_FreeBehind.calls k t226 t227 t228 _ _ t229 t234 _ ?side1 ?side2 A26.out).mono ?_); (case side1 => exact pc ((Kd.R_reads' HO231.out).2.2)); (case side2 => exact (Kd.R_reads' HO231.out).2.1); rintro e w31 ⟨rfl, hb⟩; replace HO231 := uD (Kd.R_below (pr HO231) hb); replace BK224 := uD (blk_below (pk BK224) hb); replace BK225 := uD (blk_below (pk BK225) hb); replace HB := uD (uO (pb HB) hb); (try clear hb); (try clear hb2); (try clear hk); (try clear hi)))
      go_meet
      case rel => exact ⟨_, (decide (a2 > t234)), (by first | rfl | (simp; done) | (simp [*]; done)), H', ⟨by first | omega | exact Nat.le_refl _⟩, ⟨by (with_reducible repeat (first | apply uU | apply uS | apply uT)); exact HO231.out⟩, ⟨by (with_reducible repeat first|apply uH|apply uJ|apply uG); exact BK224.out⟩, ⟨by (with_reducible repeat first|apply uH|apply uJ|apply uG); exact BK225.out⟩, ⟨pb HB⟩⟩
    ·replace c20 := Bool.eq_false_iff.mpr c20
     subst c20
     have H1 : (spec_Enter.j0 k a1 a2 true t226 t227 t228 t229) = some (r1, r2, r3, r4, r5) := by rw [if_neg (show ¬ (false = true) by decide)] at H; first | done | exact H
     clear H
     have H := H1
     clear H1
     have H' := uD H
     clear H
     have hnb32 := NB224_225.out
     have hnc32 := NB225_224.out
     obtain ⟨hcz33_0, hcz33_1, hcz33_2, hcz33_3, hfz33_0, hfz33_1, hfz33_2, hfz33_3⟩ := cz4 BK224
     go_wp2_with (first | ((with_reducible refine gate_callee (f := 16) rfl ?_); refine gl (some 12) Try.func16 #[.agg #[.int .i64 t226, .int .i64 t227, .bool t228, .slice Ao12 t229.length co12]] ?_; (with_reducible refine (spec_BeltOk.calls k t226 t227 t228 _ _ t229 true _ ?side1 ?side2 A13.out).mono ?_); (case side1 => refine (Kd.R_reads' (e := 53) (base := w.heap.size) (ok := fun k_ => True) (n := t229.length) (c := co12) ?_).2.2; exact (by (with_reducible repeat (first | apply uU | apply uS | apply uT)); exact (uX (uV (p := ⟨gb224, 3, none⟩) (uV (p := ⟨gb224, 2, none⟩) (uV (p := ⟨gb224, 1, none⟩) (uV (p := ⟨gb224, 0, none⟩) (uW HO231.out BK224.out (by decide)) (fun _ hk => hk.2) (.int .i64 t226)) (fun _ hk => hk.2) (.int .i64 t227)) (fun _ hk => hk.2) (.bool t228)) (fun _ hk => hk.2) (.slice Ao12 t229.length co12)) (fun _ h_ => h_.1)))); (case side2 => exact (Kd.R_reads' HO231.out).2.1); rintro e w34 ⟨rfl, hb⟩; refine ⟨_, rfl, ?_⟩; replace HO231 := uD (Kd.R_below (by (with_reducible repeat (first | apply uU | apply uS | apply uT)); exact (uX (uV (p := ⟨gb224, 3, none⟩) (uV (p := ⟨gb224, 2, none⟩) (uV (p := ⟨gb224, 1, none⟩) (uV (p := ⟨gb224, 0, none⟩) (uW HO231.out BK224.out (by decide)) (fun _ hk => hk.2) (.int .i64 t226)) (fun _ hk => hk.2) (.int .i64 t227)) (fun _ hk => hk.2) (.bool t228)) (fun _ hk => hk.2) (.slice Ao12 t229.length co12)) (fun _ h_ => h_.1))) hb); replace BK224 := uD (blk_below (g := gb224) (o := .cells #[.int .i64 t226, .int .i64 t227, .bool t228, .slice Ao12 t229.length co12] 29 (0, 0)) (by (with_reducible repeat first|apply uH|apply uJ|apply uG); refine uP (cs := #[.int .i64 t226, .int .i64 t227, .bool t228, .slice A0_3 l0_3.length c0_3]) ?_ 3 _ rfl; (with_reducible repeat first|apply uH|apply uJ|apply uG); refine uP (cs := #[.int .i64 t226, .int .i64 t227, .bool a0_2, .slice A0_3 l0_3.length c0_3]) ?_ 2 _ rfl; (with_reducible repeat first|apply uH|apply uJ|apply uG); refine uP (cs := #[.int .i64 t226, .int .i64 a0_1, .bool a0_2, .slice A0_3 l0_3.length c0_3]) ?_ 1 _ rfl; (with_reducible repeat first|apply uH|apply uJ|apply uG); refine uP (cs := #[.int .i64 a0_0, .int .i64 a0_1, .bool a0_2, .slice A0_3 l0_3.length c0_3]) ?_ 0 _ rfl; (with_reducible repeat first|apply uH|apply uJ|apply uG); exact BK224.out) hb); replace BK225 := uD (blk_below (g := gb225) (o := .cells #[.int .i64 0, .int .i64 0, .bool false, .slice none 0 0] 29 (0, 0)) (by exact ps BK225) hb); replace HB := uD (uO (pb HB) hb); (try clear hb); (try clear hb2); (try clear hk); (try clear hi)) | (go_at_call 48; (with_reducible refine (spec_l01In.calls a2 1 60 false _ A19.out).mono ?_); rintro e w' ⟨rfl, ⟨nd, rfl⟩⟩))
     go_meet
     case rel => exact ⟨_, (true), (by first | rfl | (simp; done) | (simp [*]; done)), H', ⟨by first | omega | exact Nat.le_refl _⟩, ⟨by (with_reducible repeat (first | apply uU | apply uS | apply uT)); exact HO231.out⟩, ⟨by (with_reducible repeat first|apply uH|apply uJ|apply uG); exact BK224.out⟩, ⟨by (with_reducible repeat first|apply uH|apply uJ|apply uG); exact BK225.out⟩, ⟨pb HB⟩⟩
  ·replace c14 := Bool.eq_false_iff.mpr c14
   subst c14
   have H1 : (spec_Enter.j0 k a1 a2 true t226 t227 t228 t229) = some (r1, r2, r3, r4, r5) := by rw [if_neg (show ¬ (false = true) by decide)] at H; first | done | exact H
   clear H
   have H := H1
   clear H1
   have H' := uD H
   clear H
   have hnb35 := NB224_225.out
   have hnc35 := NB225_224.out
   obtain ⟨hcz36_0, hcz36_1, hcz36_2, hcz36_3, hfz36_0, hfz36_1, hfz36_2, hfz36_3⟩ := cz4 BK224
   go_wp2_with (first | ((with_reducible refine gate_callee (f := 16) rfl ?_); refine gl (some 12) Try.func16 #[.agg #[.int .i64 t226, .int .i64 t227, .bool t228, .slice Ao12 t229.length co12]] ?_; (with_reducible refine (spec_BeltOk.calls k t226 t227 t228 _ _ t229 false _ ?side1 ?side2 A13.out).mono ?_); (case side1 => refine (Kd.R_reads' (e := 53) (base := w.heap.size) (ok := fun k_ => True) (n := t229.length) (c := co12) ?_).2.2; exact (by (with_reducible repeat (first | apply uU | apply uS | apply uT)); exact (uX (uV (p := ⟨gb224, 3, none⟩) (uV (p := ⟨gb224, 2, none⟩) (uV (p := ⟨gb224, 1, none⟩) (uV (p := ⟨gb224, 0, none⟩) (uW HO231.out BK224.out (by decide)) (fun _ hk => hk.2) (.int .i64 t226)) (fun _ hk => hk.2) (.int .i64 t227)) (fun _ hk => hk.2) (.bool t228)) (fun _ hk => hk.2) (.slice Ao12 t229.length co12)) (fun _ h_ => h_.1)))); (case side2 => exact (Kd.R_reads' HO231.out).2.1); rintro e w37 ⟨rfl, hb⟩; refine ⟨_, rfl, ?_⟩; replace HO231 := uD (Kd.R_below (by (with_reducible repeat (first | apply uU | apply uS | apply uT)); exact (uX (uV (p := ⟨gb224, 3, none⟩) (uV (p := ⟨gb224, 2, none⟩) (uV (p := ⟨gb224, 1, none⟩) (uV (p := ⟨gb224, 0, none⟩) (uW HO231.out BK224.out (by decide)) (fun _ hk => hk.2) (.int .i64 t226)) (fun _ hk => hk.2) (.int .i64 t227)) (fun _ hk => hk.2) (.bool t228)) (fun _ hk => hk.2) (.slice Ao12 t229.length co12)) (fun _ h_ => h_.1))) hb); replace BK224 := uD (blk_below (g := gb224) (o := .cells #[.int .i64 t226, .int .i64 t227, .bool t228, .slice Ao12 t229.length co12] 29 (0, 0)) (by (with_reducible repeat first|apply uH|apply uJ|apply uG); refine uP (cs := #[.int .i64 t226, .int .i64 t227, .bool t228, .slice A0_3 l0_3.length c0_3]) ?_ 3 _ rfl; (with_reducible repeat first|apply uH|apply uJ|apply uG); refine uP (cs := #[.int .i64 t226, .int .i64 t227, .bool a0_2, .slice A0_3 l0_3.length c0_3]) ?_ 2 _ rfl; (with_reducible repeat first|apply uH|apply uJ|apply uG); refine uP (cs := #[.int .i64 t226, .int .i64 a0_1, .bool a0_2, .slice A0_3 l0_3.length c0_3]) ?_ 1 _ rfl; (with_reducible repeat first|apply uH|apply uJ|apply uG); refine uP (cs := #[.int .i64 a0_0, .int .i64 a0_1, .bool a0_2, .slice A0_3 l0_3.length c0_3]) ?_ 0 _ rfl; (with_reducible repeat first|apply uH|apply uJ|apply uG); exact BK224.out) hb); replace BK225 := uD (blk_below (g := gb225) (o := .cells #[.int .i64 0, .int .i64 0, .bool false, .slice none 0 0] 29 (0, 0)) (by exact ps BK225) hb); replace HB := uD (uO (pb HB) hb); (try clear hb); (try clear hb2); (try clear hk); (try clear hi)))
   go_meet
   case rel => exact ⟨_, (true), (by first | rfl | (simp; done) | (simp [*]; done)), H', ⟨by first | omega | exact Nat.le_refl _⟩, ⟨by (with_reducible repeat (first | apply uU | apply uS | apply uT)); exact HO231.out⟩, ⟨by (with_reducible repeat first|apply uH|apply uJ|apply uG); exact BK224.out⟩, ⟨by (with_reducible repeat first|apply uH|apply uJ|apply uG); exact BK225.out⟩, ⟨pb HB⟩⟩
 case rest =>
  clear HC5
  try clear c1
  try clear c2
  try clear p2
  try clear c3
  try clear c5
  try clear c8
  try clear c14
  try clear c15
  try clear c15b0
  try clear c16
  try clear c20
  try clear c21
  try clear c21b0
  try clear c21b1
  try clear c22
  try clear c27
  try clear c30
  try clear c32
  try clear c35
  try clear hcz11_0
  try clear hcz11_1
  try clear hcz11_2
  try clear hcz11_3
  try clear hcz17_0
  try clear hcz17_1
  try clear hcz17_2
  try clear hcz17_3
  try clear hcz23_0
  try clear hcz23_1
  try clear hcz23_2
  try clear hcz23_3
  try clear hcz25_0
  try clear hcz25_1
  try clear hcz25_2
  try clear hcz25_3
  try clear hcz28_0
  try clear hcz28_1
  try clear hcz28_2
  try clear hcz28_3
  try clear hcz30_0
  try clear hcz30_1
  try clear hcz30_2
  try clear hcz30_3
  try clear hcz33_0
  try clear hcz33_1
  try clear hcz33_2
  try clear hcz33_3
  try clear hcz36_0
  try clear hcz36_1
  try clear hcz36_2
  try clear hcz36_3
  try clear hcz9_0
  try clear hcz9_1
  try clear hcz9_2
  try clear hcz9_3
  try clear hfz11_0
  try clear hfz11_1
  try clear hfz11_2
  try clear hfz11_3
  try clear hfz17_0
  try clear hfz17_1
  try clear hfz17_2
  try clear hfz17_3
  try clear hfz23_0
  try clear hfz23_1
  try clear hfz23_2
  try clear hfz23_3
  try clear hfz25_0
  try clear hfz25_1
  try clear hfz25_2
  try clear hfz25_3
  try clear hfz28_0
  try clear hfz28_1
  try clear hfz28_2
  try clear hfz28_3
  try clear hfz30_0
  try clear hfz30_1
  try clear hfz30_2
  try clear hfz30_3
  try clear hfz33_0
  try clear hfz33_1
  try clear hfz33_2
  try clear hfz33_3
  try clear hfz36_0
  try clear hfz36_1
  try clear hfz36_2
  try clear hfz36_3
  try clear hfz9_0
  try clear hfz9_1
  try clear hfz9_2
  try clear hfz9_3
  obtain ⟨kq, x34_4, rfl, HA, HJ4, HO_225003, BK224, BK225, HB⟩ := hcut
  cases kq with
  | zero => exact absurd HA.out (by simp [spec_Enter.j0])
  | succ kj4 =>
   have H := HA.out
   clear HA
   simp only [spec_Enter.j0] at H
   by_cases c38 : x34_4 = true
   ·subst c38
    have H1 : (some (t226, t227, t228, t229, false)) = some (r1, r2, r3, r4, r5) := by rw [if_pos rfl] at H; first | done | exact H
    clear H
    have H := H1
    clear H1
    simp only [Option.some.injEq, Prod.mk.injEq] at H
    obtain ⟨rfl, rfl, rfl, rfl, rfl⟩ := H
    have hnb39 := NB224_225.out
    have hnc39 := NB225_224.out
    obtain ⟨hcz40_0, hcz40_1, hcz40_2, hcz40_3, hfz40_0, hfz40_1, hfz40_2, hfz40_3⟩ := cz4 BK224
    obtain ⟨hcz41_0, hcz41_1, hcz41_2, hcz41_3, hfz41_0, hfz41_1, hfz41_2, hfz41_3⟩ := cz4 BK225
    go_wp2
    refine bodyPost_ret (uR rfl _ _ gb225 29 #[.int .i64 t226, .int .i64 t227, .bool t228, .slice Ao12 t229.length co12] (0, 0) _ rfl (by (with_reducible repeat first|apply uH|apply uJ|apply uG); refine uP (cs := #[.int .i64 t226, .int .i64 t227, .bool t228, .slice none 0 0]) ?_ 3 _ rfl; (with_reducible repeat first|apply uH|apply uJ|apply uG); refine uP (cs := #[.int .i64 t226, .int .i64 t227, .bool false, .slice none 0 0]) ?_ 2 _ rfl; (with_reducible repeat first|apply uH|apply uJ|apply uG); refine uP (cs := #[.int .i64 t226, .int .i64 0, .bool false, .slice none 0 0]) ?_ 1 _ rfl; (with_reducible repeat first|apply uH|apply uJ|apply uG); refine uP (cs := #[.int .i64 0, .int .i64 0, .bool false, .slice none 0 0]) ?_ 0 _ rfl; (with_reducible repeat first|apply uH|apply uJ|apply uG); exact BK225.out) Try.underlying29 rfl (by kernel_rfl)) rfl ?_
    exact ⟨_, by first | rfl | (simp [errW_none, errW_some] <;> rfl) | (simp [*, errW_none, errW_some] <;> rfl), by (with_reducible repeat (first | apply uU | apply uS | apply uT)); exact uX (uV (p := ⟨gb225, 3, none⟩) (uV (p := ⟨gb225, 2, none⟩) (uV (p := ⟨gb225, 1, none⟩) (uV (p := ⟨gb225, 0, none⟩) (uW HO_225003.out BK225.out (by decide)) (fun _ hk => hk.2) (.int .i64 t226)) (fun _ hk => hk.2) (.int .i64 t227)) (fun _ hk => hk.2) (.bool t228)) (fun _ hk => hk.2) (.slice Ao12 t229.length co12)) (fun _ hk => trivial), pb HB⟩
   ·replace c38 := Bool.eq_false_iff.mpr c38
    subst c38
    have H1 : (spec_Enter.l0 kj4 a1 a2 0 t226 t227 t228 t229) = some (r1, r2, r3, r4, r5) := by rw [if_neg (show ¬ (false = true) by decide)] at H; first | done | exact H
    clear H
    have H := H1
    clear H1
    have H' := uD H
    clear H
    go_wp2
    go_loopg [8] kj4 (fun kq v8 w' => ∃ (x8_2 : Int) (x226000_2 : Int) (x226001_2 : Int) (x226002_2 : Bool), v8 = .int .i64 x8_2 ∧ Aside0 (spec_Enter.l0 kq a1 a2 x8_2 t226 t227 t228 t229 = some (r1, r2, r3, r4, r5)) ∧ Aside0 (kq ≤ kj4) ∧ Aside0 (Kd.R k53 53 w' w.heap.size (fun _ => True) (.slice Ao12 t229.length co12) t229) ∧ Aside0 (w'.heap[gb224]? = some (.cells #[.int .i64 t226, .int .i64 t227, .bool t228, (.slice Ao12 t229.length co12)] 29 (0, 0))) ∧ Aside0 (w'.heap[gb225]? = some (.cells #[.int .i64 x226000_2, .int .i64 x226001_2, .bool x226002_2, (.slice none 0 0)] 29 (0, 0))) ∧ Aside0 (Below w.heap.size w w'))
    case atStart => exact ⟨(0), (0), (0), (false), (by first | rfl | (simp; done) | (simp [*]; done)), H', ⟨Nat.le_refl _⟩, ⟨by (with_reducible repeat (first | apply uU | apply uS | apply uT)); exact HO_225003.out⟩, ⟨by (with_reducible repeat first|apply uH|apply uJ|apply uG); exact BK224.out⟩, ⟨by (with_reducible repeat first|apply uH|apply uJ|apply uG); exact BK225.out⟩, ⟨pb HB⟩⟩
    case round =>
     clear H'
     try clear c1
     try clear c2
     try clear p2
     try clear c3
     try clear c5
     try clear c8
     try clear c14
     try clear c15
     try clear c15b0
     try clear c16
     try clear c20
     try clear c21
     try clear c21b0
     try clear c21b1
     try clear c22
     try clear c27
     try clear c30
     try clear c32
     try clear c35
     try clear c38
     try clear c39
     try clear hcz11_0
     try clear hcz11_1
     try clear hcz11_2
     try clear hcz11_3
     try clear hcz17_0
     try clear hcz17_1
     try clear hcz17_2
     try clear hcz17_3
     try clear hcz23_0
     try clear hcz23_1
     try clear hcz23_2
     try clear hcz23_3
     try clear hcz25_0
     try clear hcz25_1
     try clear hcz25_2
     try clear hcz25_3
     try clear hcz28_0
     try clear hcz28_1
     try clear hcz28_2
     try clear hcz28_3
     try clear hcz30_0
     try clear hcz30_1
     try clear hcz30_2
     try clear hcz30_3
     try clear hcz33_0
     try clear hcz33_1
     try clear hcz33_2
     try clear hcz33_3
     try clear hcz36_0
     try clear hcz36_1
     try clear hcz36_2
     try clear hcz36_3
     try clear hcz40_0
     try clear hcz40_1
     try clear hcz40_2
     try clear hcz40_3
     try clear hcz41_0
     try clear hcz41_1
     try clear hcz41_2
     try clear hcz41_3
     try clear hcz9_0
     try clear hcz9_1
     try clear hcz9_2
     try clear hcz9_3
     try clear hfz11_0
     try clear hfz11_1
     try clear hfz11_2
     try clear hfz11_3
     try clear hfz17_0
     try clear hfz17_1
     try clear hfz17_2
     try clear hfz17_3
     try clear hfz23_0
     try clear hfz23_1
     try clear hfz23_2
     try clear hfz23_3
     try clear hfz25_0
     try clear hfz25_1
     try clear hfz25_2
     try clear hfz25_3
     try clear hfz28_0
     try clear hfz28_1
     try clear hfz28_2
     try clear hfz28_3
     try clear hfz30_0
     try clear hfz30_1
     try clear hfz30_2
     try clear hfz30_3
     try clear hfz33_0
     try clear hfz33_1
     try clear hfz33_2
     try clear hfz33_3
     try clear hfz36_0
     try clear hfz36_1
     try clear hfz36_2
     try clear hfz36_3
     try clear hfz40_0
     try clear hfz40_1
     try clear hfz40_2
     try clear hfz40_3
     try clear hfz41_0
     try clear hfz41_1
     try clear hfz41_2
     try clear hfz41_3
     try clear hfz9_0
     try clear hfz9_1
     try clear hfz9_2
     try clear hfz9_3
     try clear p2
     obtain ⟨x8_2, x226000_2, x226001_2, x226002_2, rfl, HA, HK2, HO_225003, BK224, BK225, HB⟩ := hrel
     cases gk with
     | zero => exact absurd HA.out (by simp [spec_Enter.l0])
     | succ k2 =>
      have H := HA.out
      clear HA
      simp only [spec_Enter.l0] at H
      by_cases c42 : x8_2 < (t229.length : Int)
      ·rw [if_pos c42] at H
       have c42b0 : decide (x8_2 < (t229.length : Int)) = true := decide_eq_true c42
       clear c42
       by_cases c43 : 0 ≤ x8_2
       ·rw [if_pos c43] at H
        have c43b0 : decide (0 ≤ x8_2) = true := decide_eq_true c43
        clear c43
        by_cases c44 : ((rd_T53 t229 x8_2).f0) = a1
        ·rw [if_pos c44] at H
         have c44b0 : (((rd_T53 t229 x8_2).f0) == a1) = true := beq_iff_eq.mpr c44
         have c44b1 : (((rd_T53 t229 x8_2).f0) != a1) = false := bne_eq_false_iff_eq.mpr c44
         clear c44
         simp only [Option.some.injEq, Prod.mk.injEq] at H
         obtain ⟨rfl, rfl, rfl, rfl, rfl⟩ := H
         have hnb45 := NB224_225.out
         have hnc45 := NB225_224.out
         obtain ⟨hcz46_0, hcz46_1, hcz46_2, hcz46_3, hfz46_0, hfz46_1, hfz46_2, hfz46_3⟩ := cz4 BK224
         have p235 : 0 ≤ (x8_2 : Int) := of_decide_eq_true (by first | (with_reducible assumption) | assumption)
         have q235 : x8_2 < (t229.length : Int) := of_decide_eq_true (by first | (with_reducible assumption) | assumption)
         obtain ⟨ad235, e235, hx235_0, hx235_1, hx235_2⟩ := at_T53 (Kd.R_reads' HO_225003.out).2.2 x8_2 p235 q235
         cases e235
         replace p235 := eq_true p235
         replace q235 := eq_true q235
         obtain ⟨hcz47_0, hcz47_1, hcz47_2, hcz47_3, hfz47_0, hfz47_1, hfz47_2, hfz47_3⟩ := cz4 BK225
         go_wp2
         refine bodyPost_ret (uR rfl _ _ gb225 29 #[.int .i64 t226, .int .i64 t227, .bool t228, .slice (some ad235) t229.length co12] (0, 0) _ rfl (by (with_reducible repeat first|apply uH|apply uJ|apply uG); refine uP (cs := #[.int .i64 t226, .int .i64 t227, .bool t228, .slice none 0 0]) ?_ 3 _ rfl; (with_reducible repeat first|apply uH|apply uJ|apply uG); refine uP (cs := #[.int .i64 t226, .int .i64 t227, .bool x226002_2, .slice none 0 0]) ?_ 2 _ rfl; (with_reducible repeat first|apply uH|apply uJ|apply uG); refine uP (cs := #[.int .i64 t226, .int .i64 x226001_2, .bool x226002_2, .slice none 0 0]) ?_ 1 _ rfl; (with_reducible repeat first|apply uH|apply uJ|apply uG); refine uP (cs := #[.int .i64 x226000_2, .int .i64 x226001_2, .bool x226002_2, .slice none 0 0]) ?_ 0 _ rfl; (with_reducible repeat first|apply uH|apply uJ|apply uG); exact BK225.out) Try.underlying29 rfl (by kernel_rfl)) rfl ?_
         exact ⟨_, by first | rfl | (simp [errW_none, errW_some] <;> rfl) | (simp [*, errW_none, errW_some] <;> rfl), by (with_reducible repeat (first | apply uU | apply uS | apply uT)); exact uX (uV (p := ⟨gb225, 3, none⟩) (uV (p := ⟨gb225, 2, none⟩) (uV (p := ⟨gb225, 1, none⟩) (uV (p := ⟨gb225, 0, none⟩) (uW HO_225003.out BK225.out (by decide)) (fun _ hk => hk.2) (.int .i64 t226)) (fun _ hk => hk.2) (.int .i64 t227)) (fun _ hk => hk.2) (.bool t228)) (fun _ hk => hk.2) (.slice (some ad235) t229.length co12)) (fun _ hk => trivial), pb HB⟩
        ·rw [if_neg c44] at H
         have c44b0 : (((rd_T53 t229 x8_2).f0) == a1) = false := beq_eq_false_iff_ne.mpr c44
         have c44b1 : (((rd_T53 t229 x8_2).f0) != a1) = true := bne_iff_ne.mpr c44
         have H' := uD H
         clear H
         have hnb48 := NB224_225.out
         have hnc48 := NB225_224.out
         obtain ⟨hcz49_0, hcz49_1, hcz49_2, hcz49_3, hfz49_0, hfz49_1, hfz49_2, hfz49_3⟩ := cz4 BK224
         have p235 : 0 ≤ (x8_2 : Int) := of_decide_eq_true (by first | (with_reducible assumption) | assumption)
         have q235 : x8_2 < (t229.length : Int) := of_decide_eq_true (by first | (with_reducible assumption) | assumption)
         obtain ⟨ad235, e235, hx235_0, hx235_1, hx235_2⟩ := at_T53 (Kd.R_reads' HO_225003.out).2.2 x8_2 p235 q235
         cases e235
         replace p235 := eq_true p235
         replace q235 := eq_true q235
         go_wp2
         go_roundg k2
         case measure => have := HJ4.out; have := HK2.out; omega
         case rel => exact ⟨(wrap64 (x8_2 + 1)), (x226000_2), (x226001_2), (x226002_2), (by first | rfl | (simp; done) | (simp [*]; done)), H', ⟨by have := HJ4.out; have := HK2.out; omega⟩, ⟨by (with_reducible repeat (first | apply uU | apply uS | apply uT)); exact HO_225003.out⟩, ⟨by (with_reducible repeat first|apply uH|apply uJ|apply uG); exact BK224.out⟩, ⟨by (with_reducible repeat first|apply uH|apply uJ|apply uG); exact BK225.out⟩, ⟨pb HB⟩⟩
       ·rw [if_neg c43] at H
        exact absurd H (by simp)
      ·rw [if_neg c42] at H
       have c42b0 : decide (x8_2 < (t229.length : Int)) = false := decide_eq_false c42
       clear c42
       obtain ⟨y236, hy236⟩ : ∃ y_ : List (S53), y_ = (([] : List (S53))) := ⟨_, rfl⟩
       replace H : (if y236.length + t229.length < 5864062014805 then ((some (y236 ++ t229 : List (S53))).bind fun y239 => (if y239.length < 5864062014805 then (some (t226, t227, t228, (y239 ++ [(⟨a1, a2, a2⟩ : S53)]), true)) else (none))) else (none)) = some (r1, r2, r3, r4, r5) := by first | (rw [hy236]; with_reducible exact H) | (have H2_ := (Option.bind_some _ _).symm.trans H; rw [hy236]; with_reducible exact H2_) | (have H2_ := (Option.bind_some _ _).symm.trans H; with_reducible exact H2_) | with_reducible exact H | (rw [hy236]; exact H) | exact H
       have Ny236 := uD hy236
       clear hy236
       by_cases c50 : y236.length + t229.length < 5864062014805
       ·rw [if_pos c50] at H
        have LMc50 := uD c50
        clear c50
        obtain ⟨y239, hy239⟩ : ∃ y_ : List (S53), y_ = (y236 ++ t229) := ⟨_, rfl⟩
        replace H : (if y239.length < 5864062014805 then (some (t226, t227, t228, (y239 ++ [(⟨a1, a2, a2⟩ : S53)]), true)) else (none)) = some (r1, r2, r3, r4, r5) := by first | (rw [hy239]; with_reducible exact H) | (have H2_ := (Option.bind_some _ _).symm.trans H; rw [hy239]; with_reducible exact H2_) | (have H2_ := (Option.bind_some _ _).symm.trans H; with_reducible exact H2_) | with_reducible exact H | (rw [hy239]; exact H) | exact H
        have Ny239 := uD hy239
        clear hy239
        by_cases c51 : y239.length < 5864062014805
        ·rw [if_pos c51] at H
         have LMc51 := uD c51
         clear c51
         obtain ⟨y242, hy242⟩ : ∃ y_ : List (S53), y_ = (y239 ++ [(⟨a1, a2, a2⟩ : S53)]) := ⟨_, rfl⟩
         replace H : (some (t226, t227, t228, y242, true)) = some (r1, r2, r3, r4, r5) := by first | (rw [hy242]; with_reducible exact H) | (have H2_ := (Option.bind_some _ _).symm.trans H; rw [hy242]; with_reducible exact H2_) | (have H2_ := (Option.bind_some _ _).symm.trans H; with_reducible exact H2_) | with_reducible exact H | (rw [hy242]; exact H) | exact H
         have Ny242 := uD hy242
         clear hy242
         simp only [Option.some.injEq, Prod.mk.injEq] at H
         obtain ⟨rfl, rfl, rfl, rfl, rfl⟩ := H
         have hnb52 := NB224_225.out
         have hnc52 := NB225_224.out
         obtain ⟨hcz53_0, hcz53_1, hcz53_2, hcz53_3, hfz53_0, hfz53_1, hfz53_2, hfz53_3⟩ := cz4 BK224
         go_wp2_with (first | ((with_reducible refine gate_dst (N := 52) rfl ?_); (try (refine gate_guard (by rfl) ?_; dsimp only)); refine Kd.R_lit k53 _ 53 ?hg (N := 52) ?hd (xs := ([] : List (S53))) (inner := []) (ok := fun _ => True) (okp := fun _ => True) ?hr ?hp (fun _ hk => hk) trivial (Below.refl _ _) (Nat.le_refl _) (by simp) ?_; (case hd => rfl); (case hg => rfl); (case hr => first | (go_simp; done) | (go_simp; rfl)); (case hp => exact (Reps.none _ _)); intro v237 w54 ho55 hb hg_ hnew_; clear hg_ hnew_; (first | rw [← Ny236.out] at ho55 | (simp only [Int.reduceToNat] at ho55; rw [← Ny236.out] at ho55)); have HO238 := uD (Kd.R_lower (Kd.R_new' ho55 (Kd.R_lt (pr HO_225003))) (uN (pb HB))); replace HO_225003 := uD (Kd.R_elder' (pr HO_225003) (Kd.R_base ho55) hb); replace BK224 := uD (blk_below (pk BK224) hb); replace BK225 := uD (blk_below (pk BK225) hb); replace HB := uD (uO (pb HB) hb); clear hb ho55; obtain ⟨hcz56_0, hcz56_1, hcz56_2, hcz56_3, hfz56_0, hfz56_1, hfz56_2, hfz56_3⟩ := cz4 BK224) | ((with_reducible refine gate_builtin (b := .append) (xs := #[.tmp 52, .tmp 54]) rfl ?_); (try (refine gate_guard (by rfl) ?_; dsimp only)); at_builtin; refine Kd.R_append_rows k53 (w0 := w) w.heap.size rfl (.tmp 52) (.tmp 54) 27 53 (.agg #[(.int .i64 0), (.int .i64 0), (.int .i64 0)]) 24 rfl Try.underlying27 info53 rfl (by decide) (by omega) v237 y236 t229 _ _ _ (fun k_ => some k_ ≠ (.slice Ao12 t229.length co12 : Value).ownBlock) (fun _ => False) rfl rfl ?aO ?aR (fun _ _ h => h) (fun _ h => h.elim) ?aF ?aB ?aS ?aL ?_; (case aR => exact pc ((Kd.R_reads' HO_225003.out).2.2)); (case aB => exact (pb HB)); (case aF => exact (fun k_ hk => Kd.fresh' (Kd.R_lt (pr HO_225003)) k_ hk)); (case aO => exact (by (with_reducible repeat (first | apply uU | apply uS | apply uT)); exact uX HO238.out (fun _ hk => hk.2))); (case aS => exact (uN (pb HB))); (case aL => have := LMc50.out; omega); intro v240 w57 ho hb hg hat; rw [← Ny239.out] at ho; replace HO_225003 := uD (Kd.R_after (ok := (fun _ => True)) (pr HO_225003) hg hat); replace BK224 := uD (blk_grown (pk BK224) hg (Kd.R_ne HO238.out BK224.out (by decide))); replace BK225 := uD (blk_grown (pk BK225) hg (Kd.R_ne HO238.out BK225.out (by decide))); replace HB := uD (hb); have HO241 := uD (ho); clear HO238; clear ho hb hg hat) | ((with_reducible refine gate_builtin (b := .append) (xs := #[.tmp 55, .tmp 60]) rfl ?_); (try (refine gate_guard (by rfl) ?_; dsimp only)); at_builtin; refine Kd.R_append k53 (w0 := w) w.heap.size rfl (.tmp 55) (.tmp 60) 27 53 (.agg #[(.int .i64 0), (.int .i64 0), (.int .i64 0)]) 24 rfl Try.underlying27 info53 rfl (by decide) (by omega) v240 y239 (⟨a1, a2, a2⟩ : S53) [.int .i64 a1, .int .i64 a2, .int .i64 a2] (fun k_ => some k_ ≠ (.slice Ao12 t229.length co12 : Value).ownBlock) (fun _ => False) rfl rfl ?aP (fun _ hk => hk.elim) ?aF ?aO ?aB ?aS ?aL ?_; (case aP => exact k53_mkM _ _ _ (⟨a1, a2, a2⟩ : S53)); (case aB => exact (pb HB)); (case aF => exact (fun k_ hk => Kd.fresh' (Kd.R_lt (pr HO_225003)) k_ hk)); (case aO => exact (pr HO241)); (case aS => exact (uN (pb HB))); (case aL => have := LMc51.out; omega); intro v243 w58 ho hb hg hat; rw [← Ny242.out] at ho; replace HO_225003 := uD (Kd.R_after (ok := (fun _ => True)) (pr HO_225003) hg hat); replace BK224 := uD (blk_grown (pk BK224) hg (Kd.R_ne HO241.out BK224.out (by decide))); replace BK225 := uD (blk_grown (pk BK225) hg (Kd.R_ne HO241.out BK225.out (by decide))); replace HB := uD (hb); have HO244 := uD (ho); clear HO241; clear ho hb hg hat; obtain ⟨Ao59, co59, eo59⟩ := Kd.R_slice HO244.out; subst eo59; obtain ⟨hcz60_0, hcz60_1, hcz60_2, hcz60_3, hfz60_0, hfz60_1, hfz60_2, hfz60_3⟩ := cz4 BK224; obtain ⟨hcz61_0, hcz61_1, hcz61_2, hcz61_3, hfz61_0, hfz61_1, hfz61_2, hfz61_3⟩ := cz4 BK225))
         refine bodyPost_ret (uR rfl _ _ gb225 29 #[.int .i64 t226, .int .i64 t227, .bool t228, .slice Ao59 y242.length co59] (0, 0) _ rfl (by (with_reducible repeat first|apply uH|apply uJ|apply uG); refine uP (cs := #[.int .i64 t226, .int .i64 t227, .bool t228, .slice none 0 0]) ?_ 3 _ rfl; (with_reducible repeat first|apply uH|apply uJ|apply uG); refine uP (cs := #[.int .i64 t226, .int .i64 t227, .bool x226002_2, .slice none 0 0]) ?_ 2 _ rfl; (with_reducible repeat first|apply uH|apply uJ|apply uG); refine uP (cs := #[.int .i64 t226, .int .i64 x226001_2, .bool x226002_2, .slice none 0 0]) ?_ 1 _ rfl; (with_reducible repeat first|apply uH|apply uJ|apply uG); refine uP (cs := #[.int .i64 x226000_2, .int .i64 x226001_2, .bool x226002_2, .slice none 0 0]) ?_ 0 _ rfl; exact ps BK225) Try.underlying29 rfl (by kernel_rfl)) rfl ?_
         exact ⟨_, by first | rfl | (simp [errW_none, errW_some] <;> rfl) | (simp [*, errW_none, errW_some] <;> rfl), by (with_reducible repeat (first | apply uU | apply uS | apply uT)); exact uX (uV (p := ⟨gb225, 3, none⟩) (uV (p := ⟨gb225, 2, none⟩) (uV (p := ⟨gb225, 1, none⟩) (uV (p := ⟨gb225, 0, none⟩) (uV (p := ⟨gb224, 3, none⟩) (uW (uW HO244.out BK224.out (by decide)) BK225.out (by decide)) (fun _ hk => hk.1.2) (.slice Ao59 y242.length co59)) (fun _ hk => hk.2) (.int .i64 t226)) (fun _ hk => hk.2) (.int .i64 t227)) (fun _ hk => hk.2) (.bool t228)) (fun _ hk => hk.2) (.slice Ao59 y242.length co59)) (fun _ hk => trivial), pb HB⟩
        ·rw [if_neg c51] at H
         exact absurd H (by simp)
       ·rw [if_neg c50] at H
        exact absurd H (by simp)

/-! ### impl_Enter: function 31 -/
def impl_Enter.f (k : Nat) (a0_0 : Int) (a0_1 : Int) (a0_2 : Bool) (l0_3 : List (S53)) (a1 : Int) (a2 : Int) : Option (Int × Int × Bool × (List (S53)) × Bool) := (impl_copyBelt.f a0_0 a0_1 a0_2 l0_3).bind fun bt247 => ((impl_BeltOk.f k a0_0 a0_1 a0_2 l0_3).bind fun t254 => (if t254 = true then (if a1 < 1 then (some (bt247.1, bt247.2.1, bt247.2.2.1, bt247.2.2.2, false)) else ((impl_isOn.f l0_3 a1).bind fun t255 => (if t255 = true then (some (bt247.1, bt247.2.1, bt247.2.2.1, bt247.2.2.2, false)) else (if a2 < 1 then (some (bt247.1, bt247.2.1, bt247.2.2.1, bt247.2.2.2, false)) else (if a2 > 60 then (some (bt247.1, bt247.2.1, bt247.2.2.1, bt247.2.2.2, false)) else (if (l0_3.length : Int) ≥ 40 then (some (bt247.1, bt247.2.1, bt247.2.2.1, bt247.2.2.2, false)) else ((impl_FreeBehind.f k a0_0 a0_1 a0_2 l0_3).bind fun t256 => (if a2 > t256 then (some (bt247.1, bt247.2.1, bt247.2.2.1, bt247.2.2.2, false)) else (if bt247.2.2.2.length < 5864062014805 then (some (bt247.1, bt247.2.1, bt247.2.2.1, (bt247.2.2.2 ++ [(⟨a1, a2, a2⟩ : S53)]), true)) else (none)))))))))) else (some (bt247.1, bt247.2.1, bt247.2.2.1, bt247.2.2.2, false))))
theorem impl_Enter.mono : ∀ a0 a1 a2 a3 a4 a5 k, LeO (impl_Enter.f k a0 a1 a2 a3 a4 a5) (impl_Enter.f (k + 1) a0 a1 a2 a3 a4 a5) := by
 intro a0 a1 a2 a3 a4 a5 k
 unfold impl_Enter.f
 repeat' first
   | (with_reducible exact impl_BeltOk.mono _ _ _ _ _)
   | (with_reducible exact impl_FreeBehind.mono _ _ _ _ _)
   | (with_reducible exact LeO.refl _)
   | (with_reducible exact LeO.none _)
   | (with_reducible refine LeO.ite ?_ ?_)
   | (with_reducible refine LeO.bind ?_ (fun _ => ?_))
   | exact impl_BeltOk.mono _ _ _ _ _
   | exact impl_FreeBehind.mono _ _ _ _ _
   | exact LeO.none _
   | refine LeO.ite ?_ ?_
   | refine LeO.bind ?_ (fun _ => ?_)
set_option maxHeartbeats 8000000 in
set_option maxRecDepth 100000 in
theorem impl_Enter.calls (k : Nat) (a0_0 : Int) (a0_1 : Int) (a0_2 : Bool) (A0_3 : Option Addr) (c0_3 : Nat) (l0_3 : List (S53)) (a1 : Int) (a2 : Int) (r1 : Int) (r2 : Int) (r3 : Bool) (r4 : List (S53)) (r5 : Bool) (w : World) (hr0_3 : Kd.C k53 w A0_3 l0_3.length l0_3) (hc0_3 : l0_3.length ≤ c0_3) (h : impl_Enter.f k a0_0 a0_1 a0_2 l0_3 a1 a2 = some (r1, r2, r3, r4, r5)) :
  Calls Try.prog 31 #[.agg #[.int .i64 a0_0, .int .i64 a0_1, .bool a0_2, .slice A0_3 l0_3.length c0_3], .int .i64 a1, .int .i64 a2] w fun e w' => ∃ v3_ : Value, e = .returned (.tuple #[.agg #[.int .i64 r1, .int .i64 r2, .bool r3, v3_], .bool r5]) ∧ Kd.R k53 53 w' w.heap.size (fun _ => True) v3_ r4 ∧ Below w.heap.size w w' := by
 have hu29 := Try.underlying29
 have hu53 := Try.underlying53
 have HR0_3 := uD hr0_3
 have HC0_3 := uD hc0_3
 clear hr0_3 hc0_3
 have HB := uD (Below.refl w.heap.size w)
 have H : ((impl_copyBelt.f a0_0 a0_1 a0_2 l0_3).bind fun bt247 => ((impl_BeltOk.f k a0_0 a0_1 a0_2 l0_3).bind fun t254 => (if t254 = true then (if a1 < 1 then (some (bt247.1, bt247.2.1, bt247.2.2.1, bt247.2.2.2, false)) else ((impl_isOn.f l0_3 a1).bind fun t255 => (if t255 = true then (some (bt247.1, bt247.2.1, bt247.2.2.1, bt247.2.2.2, false)) else (if a2 < 1 then (some (bt247.1, bt247.2.1, bt247.2.2.1, bt247.2.2.2, false)) else (if a2 > 60 then (some (bt247.1, bt247.2.1, bt247.2.2.1, bt247.2.2.2, false)) else (if (l0_3.length : Int) ≥ 40 then (some (bt247.1, bt247.2.1, bt247.2.2.1, bt247.2.2.2, false)) else ((impl_FreeBehind.f k a0_0 a0_1 a0_2 l0_3).bind fun t256 => (if a2 > t256 then (some (bt247.1, bt247.2.1, bt247.2.2.1, bt247.2.2.2, false)) else (if bt247.2.2.2.length < 5864062014805 then (some (bt247.1, bt247.2.1, bt247.2.2.1, (bt247.2.2.2 ++ [(⟨a1, a2, a2⟩ : S53)]), true)) else (none)))))))))) else (some (bt247.1, bt247.2.1, bt247.2.2.1, bt247.2.2.2, false))))) = some (r1, r2, r3, r4, r5) := h
 clear h
 replace H := Option.bind_eq_some_iff.mp H
 obtain ⟨⟨t247, t248, t249, t250⟩, A40, H⟩ := H
 replace H : ((impl_BeltOk.f k a0_0 a0_1 a0_2 l0_3).bind fun t254 => (if t254 = true then (if a1 < 1 then (some (t247, t248, t249, t250, false)) else ((impl_isOn.f l0_3 a1).bind fun t255 => (if t255 = true then (some (t247, t248, t249, t250, false)) else (if a2 < 1 then (some (t247, t248, t249, t250, false)) else (if a2 > 60 then (some (t247, t248, t249, t250, false)) else (if (l0_3.length : Int) ≥ 40 then (some (t247, t248, t249, t250, false)) else ((impl_FreeBehind.f k a0_0 a0_1 a0_2 l0_3).bind fun t256 => (if a2 > t256 then (some (t247, t248, t249, t250, false)) else (if t250.length < 5864062014805 then (some (t247, t248, t249, (t250 ++ [(⟨a1, a2, a2⟩ : S53)]), true)) else (none)))))))))) else (some (t247, t248, t249, t250, false)))) = some (r1, r2, r3, r4, r5) := H
 have A4 := uD A40
 clear A40
 replace H := Option.bind_eq_some_iff.mp H
 obtain ⟨t254, A50, H⟩ := H
 replace H : (if t254 = true then (if a1 < 1 then (some (t247, t248, t249, t250, false)) else ((impl_isOn.f l0_3 a1).bind fun t255 => (if t255 = true then (some (t247, t248, t249, t250, false)) else (if a2 < 1 then (some (t247, t248, t249, t250, false)) else (if a2 > 60 then (some (t247, t248, t249, t250, false)) else (if (l0_3.length : Int) ≥ 40 then (some (t247, t248, t249, t250, false)) else ((impl_FreeBehind.f k a0_0 a0_1 a0_2 l0_3).bind fun t256 => (if a2 > t256 then (some (t247, t248, t249, t250, false)) else (if t250.length < 5864062014805 then (some (t247, t248, t249, (t250 ++ [(⟨a1, a2, a2⟩ : S53)]), true)) else (none)))))))))) else (some (t247, t248, t249, t250, false))) = some (r1, r2, r3, r4, r5) := H
 have A5 := uD A50
 clear A50
 by_cases c6 : t254 = true
 ·subst c6
  have H1 : (if a1 < 1 then (some (t247, t248, t249, t250, false)) else ((impl_isOn.f l0_3 a1).bind fun t255 => (if t255 = true then (some (t247, t248, t249, t250, false)) else (if a2 < 1 then (some (t247, t248, t249, t250, false)) else (if a2 > 60 then (some (t247, t248, t249, t250, false)) else (if (l0_3.length : Int) ≥ 40 then (some (t247, t248, t249, t250, false)) else ((impl_FreeBehind.f k a0_0 a0_1 a0_2 l0_3).bind fun t256 => (if a2 > t256 then (some (t247, t248, t249, t250, false)) else (if t250.length < 5864062014805 then (some (t247, t248, t249, (t250 ++ [(⟨a1, a2, a2⟩ : S53)]), true)) else (none)))))))))) = some (r1, r2, r3, r4, r5) := by rw [if_pos rfl] at H; first | done | exact H
  clear H
  have H := H1
  clear H1
  by_cases c7 : a1 < 1
  ·rw [if_pos c7] at H
   have c7b0 : decide (a1 < 1) = true := decide_eq_true c7
   clear c7
   simp only [Option.some.injEq, Prod.mk.injEq] at H
   obtain ⟨rfl, rfl, rfl, rfl, rfl⟩ := H
   go_enter Try.func31, Try.ntmps31
   go_wp2_with (first | ((with_reducible refine gate_dst (N := 3) rfl ?_); (try (refine gate_guard (by rfl) ?_; dsimp only)); refine bx 3 #[.int .i64 a0_0, .int .i64 a0_1, .bool a0_2, .slice A0_3 l0_3.length c0_3] 29 ?_; intro gb245 hg w8 hbox hb; have BK245 := uD (hbox); have GW245 := uD ((by rw [hg]; exact (uN (pb HB)) : w.heap.size ≤ gb245)); have GE245 := uD ((by rw [hg]; exact (uN (pb HB)) : w.heap.size ≤ gb245)); replace HB := uD (uO (pb HB) hb); clear hb hbox hg) | ((with_reducible refine gate_dst (N := 6) rfl ?_); (try (refine gate_guard (by rfl) ?_; dsimp only)); refine bx 6 #[.int .i64 0, .int .i64 0, .bool false, .slice none 0 0] 29 ?_; intro gb246 hg w9 hbox hb; have BK246 := uD (hbox); have GW246 := uD ((by rw [hg]; exact (uN (pb HB)) : w.heap.size ≤ gb246)); have GE246 := uD ((by rw [hg]; exact (uN (pb HB)) : w.heap.size ≤ gb246)); replace HB := uD (uO (pb HB) hb); have NB245_246 := uD ((by rw [hg]; exact Nat.ne_of_lt (blk_lt (pk BK245)) : gb245 ≠ gb246)); have NB246_245 := uD ((by rw [hg]; exact Nat.ne_of_gt (blk_lt (pk BK245)) : gb246 ≠ gb245)); replace BK245 := uD (blk_below (pk BK245) hb); clear hb hbox hg; have hnb10 := NB245_246.out; have hnc10 := NB246_245.out; obtain ⟨hcz11_0, hcz11_1, hcz11_2, hcz11_3, hfz11_0, hfz11_1, hfz11_2, hfz11_3⟩ := cz4 BK245) | ((with_reducible refine gate_callee (f := 54) rfl ?_); refine gl (some 10) Try.func54 #[.agg #[.int .i64 a0_0, .int .i64 a0_1, .bool a0_2, .slice A0_3 l0_3.length c0_3]] ?_; (with_reducible refine (impl_copyBelt.calls a0_0 a0_1 a0_2 _ _ l0_3 t247 t248 t249 t250 _ ?side1 ?side2 A4.out).mono ?_); (case side1 => exact pc (Kd.C_below HR0_3.out HB.out)); (case side2 => exact HC0_3.out); rintro e w12 ⟨v251, rfl, ho0, hb⟩; refine ⟨_, rfl, ?_⟩; have HO252 := uD (Kd.R_lower ho0 (uN (pb HB))); replace BK245 := uD (blk_below (pk BK245) hb); replace BK246 := uD (blk_below (pk BK246) hb); replace HB := uD (uO (pb HB) hb); (try clear hb); (try clear hb2); (try clear hk); (try clear hi); (try clear ho0)) | ((with_reducible refine gate_dst (N := 8) rfl ?_); (try (refine gate_guard (by rfl) ?_; dsimp only)); refine bx 8 #[.int .i64 0, .int .i64 0, .bool false, .slice none 0 0] 29 ?_; intro gb253 hg w13 hbox hb; replace HO252 := uD (Kd.R_below (pr HO252) hb); have BK253 := uD (hbox); have GW253 := uD ((by rw [hg]; exact (uN (pb HB)) : w.heap.size ≤ gb253)); have GE253 := uD ((by rw [hg]; exact (uN (pb HB)) : w.heap.size ≤ gb253)); replace HB := uD (uO (pb HB) hb); have NB245_253 := uD ((by rw [hg]; exact Nat.ne_of_lt (blk_lt (pk BK245)) : gb245 ≠ gb253)); have NB253_245 := uD ((by rw [hg]; exact Nat.ne_of_gt (blk_lt (pk BK245)) : gb253 ≠ gb245)); replace BK245 := uD (blk_below (pk BK245) hb); have NB246_253 := uD ((by rw [hg]; exact Nat.ne_of_lt (blk_lt (pk BK246)) : gb246 ≠ gb253)); have NB253_246 := uD ((by rw [hg]; exact Nat.ne_of_gt (blk_lt (pk BK246)) : gb253 ≠ gb246)); replace BK246 := uD (blk_below (pk BK246) hb); clear hb hbox hg; have hnb14 := NB253_245.out; have hnc14 := NB245_253.out; have hnb15 := NB253_246.out; have hnc15 := NB246_253.out; obtain ⟨hcz16_0, hcz16_1, hcz16_2, hcz16_3, hfz16_0, hfz16_1, hfz16_2, hfz16_3⟩ := cz4 BK253; obtain ⟨Ao17, co17, eo17⟩ := Kd.R_slice HO252.out; subst eo17; obtain ⟨hcz18_0, hcz18_1, hcz18_2, hcz18_3, hfz18_0, hfz18_1, hfz18_2, hfz18_3⟩ := cz4 BK245) | ((with_reducible refine gate_callee (f := 18) rfl ?_); refine gl (some 12) Try.func18 #[.agg #[.int .i64 a0_0, .int .i64 a0_1, .bool a0_2, .slice A0_3 l0_3.length c0_3]] ?_; (with_reducible refine (impl_BeltOk.calls k a0_0 a0_1 a0_2 _ _ l0_3 true _ ?side1 ?side2 A5.out).mono ?_); (case side1 => exact Kd.C_below HR0_3.out (pb HB)); (case side2 => exact HC0_3.out); rintro e w19 ⟨rfl, hb⟩; refine ⟨_, rfl, ?_⟩; replace HO252 := uD (Kd.R_below (by (with_reducible repeat (first | apply uU | apply uS | apply uT)); exact (uX (uV (p := ⟨gb253, 3, none⟩) (uV (p := ⟨gb253, 2, none⟩) (uV (p := ⟨gb253, 1, none⟩) (uV (p := ⟨gb253, 0, none⟩) (uW HO252.out BK253.out (by decide)) (fun _ hk => hk.2) (.int .i64 t247)) (fun _ hk => hk.2) (.int .i64 t248)) (fun _ hk => hk.2) (.bool t249)) (fun _ hk => hk.2) (.slice Ao17 t250.length co17)) (fun _ h_ => h_.1))) hb); replace BK245 := uD (blk_below (g := gb245) (o := .cells #[.int .i64 a0_0, .int .i64 a0_1, .bool a0_2, .slice A0_3 l0_3.length c0_3] 29 (0, 0)) (by exact ps BK245) hb); replace BK246 := uD (blk_below (g := gb246) (o := .cells #[.int .i64 0, .int .i64 0, .bool false, .slice none 0 0] 29 (0, 0)) (by exact ps BK246) hb); replace BK253 := uD (blk_below (g := gb253) (o := .cells #[.int .i64 t247, .int .i64 t248, .bool t249, .slice Ao17 t250.length co17] 29 (0, 0)) (by (with_reducible repeat first|apply uH|apply uJ|apply uG); refine uP (cs := #[.int .i64 t247, .int .i64 t248, .bool t249, .slice none 0 0]) ?_ 3 _ rfl; (with_reducible repeat first|apply uH|apply uJ|apply uG); refine uP (cs := #[.int .i64 t247, .int .i64 t248, .bool false, .slice none 0 0]) ?_ 2 _ rfl; (with_reducible repeat first|apply uH|apply uJ|apply uG); refine uP (cs := #[.int .i64 t247, .int .i64 0, .bool false, .slice none 0 0]) ?_ 1 _ rfl; (with_reducible repeat first|apply uH|apply uJ|apply uG); refine uP (cs := #[.int .i64 0, .int .i64 0, .bool false, .slice none 0 0]) ?_ 0 _ rfl; (with_reducible repeat first|apply uH|apply uJ|apply uG); exact BK253.out) hb); replace HB := uD (uO (pb HB) hb); (try clear hb); (try clear hb2); (try clear hk); (try clear hi); obtain ⟨hcz20_0, hcz20_1, hcz20_2, hcz20_3, hfz20_0, hfz20_1, hfz20_2, hfz20_3⟩ := cz4 BK253; obtain ⟨hcz21_0, hcz21_1, hcz21_2, hcz21_3, hfz21_0, hfz21_1, hfz21_2, hfz21_3⟩ := cz4 BK246))
   refine bodyPost_ret (uR rfl _ _ gb246 29 #[.int .i64 t247, .int .i64 t248, .bool t249, .slice Ao17 t250.length co17] (0, 0) _ rfl (by (with_reducible repeat first|apply uH|apply uJ|apply uG); refine uP (cs := #[.int .i64 t247, .int .i64 t248, .bool t249, .slice none 0 0]) ?_ 3 _ rfl; (with_reducible repeat first|apply uH|apply uJ|apply uG); refine uP (cs := #[.int .i64 t247, .int .i64 t248, .bool false, .slice none 0 0]) ?_ 2 _ rfl; (with_reducible repeat first|apply uH|apply uJ|apply uG); refine uP (cs := #[.int .i64 t247, .int .i64 0, .bool false, .slice none 0 0]) ?_ 1 _ rfl; (with_reducible repeat first|apply uH|apply uJ|apply uG); refine uP (cs := #[.int .i64 0, .int .i64 0, .bool false, .slice none 0 0]) ?_ 0 _ rfl; (with_reducible repeat first|apply uH|apply uJ|apply uG); exact BK246.out) Try.underlying29 rfl (by kernel_rfl)) rfl ?_
   exact ⟨_, by first | rfl | (simp [errW_none, errW_some] <;> rfl) | (simp [*, errW_none, errW_some] <;> rfl), by (with_reducible repeat (first | apply uU | apply uS | apply uT)); exact uX (uV (p := ⟨gb246, 3, none⟩) (uV (p := ⟨gb246, 2, none⟩) (uV (p := ⟨gb246, 1, none⟩) (uV (p := ⟨gb246, 0, none⟩) (uW HO252.out BK246.out (by decide)) (fun _ hk => hk.2) (.int .i64 t247)) (fun _ hk => hk.2) (.int .i64 t248)) (fun _ hk => hk.2) (.bool t249)) (fun _ hk => hk.2) (.slice Ao17 t250.length co17)) (fun _ hk => trivial), pb HB⟩
  ·rw [if_neg c7] at H
   have c7b0 : decide (a1 < 1) = false := decide_eq_false c7
   clear c7
   replace H := Option.bind_eq_some_iff.mp H
   obtain ⟨t255, A220, H⟩ := H
   replace H : (if t255 = true then (some (t247, t248, t249, t250, false)) else (if a2 < 1 then (some (t247, t248, t249, t250, false)) else (if a2 > 60 then (some (t247, t248, t249, t250, false)) else (if (l0_3.length : Int) ≥ 40 then (some (t247, t248, t249, t250, false)) else ((impl_FreeBehind.f k a0_0 a0_1 a0_2 l0_3).bind fun t256 => (if a2 > t256 then (some (t247, t248, t249, t250, false)) else (if t250.length < 5864062014805 then (some (t247, t248, t249, (t250 ++ [(⟨a1, a2, a2⟩ : S53)]), true)) else (none)))))))) = some (r1, r2, r3, r4, r5) := H
   have A22 := uD A220
   clear A220
   by_cases c23 : t255 = true
   ·subst c23
    have H1 : (some (t247, t248, t249, t250, false)) = some (r1, r2, r3, r4, r5) := by rw [if_pos rfl] at H; first | done | exact H
    clear H
    have H := H1
    clear H1
    simp only [Option.some.injEq, Prod.mk.injEq] at H
    obtain ⟨rfl, rfl, rfl, rfl, rfl⟩ := H
    go_enter Try.func31, Try.ntmps31
    go_wp2_with (first | ((with_reducible refine gate_dst (N := 3) rfl ?_); (try (refine gate_guard (by rfl) ?_; dsimp only)); refine bx 3 #[.int .i64 a0_0, .int .i64 a0_1, .bool a0_2, .slice A0_3 l0_3.length c0_3] 29 ?_; intro gb245 hg w24 hbox hb; have BK245 := uD (hbox); have GW245 := uD ((by rw [hg]; exact (uN (pb HB)) : w.heap.size ≤ gb245)); have GE245 := uD ((by rw [hg]; exact (uN (pb HB)) : w.heap.size ≤ gb245)); replace HB := uD (uO (pb HB) hb); clear hb hbox hg) | ((with_reducible refine gate_dst (N := 6) rfl ?_); (try (refine gate_guard (by rfl) ?_; dsimp only)); refine bx 6 #[.int .i64 0, .int .i64 0, .bool false, .slice none 0 0] 29 ?_; intro gb246 hg w25 hbox hb; have BK246 := uD (hbox); have GW246 := uD ((by rw [hg]; exact (uN (pb HB)) : w.heap.size ≤ gb246)); have GE246 := uD ((by rw [hg]; exact (uN (pb HB)) : w.heap.size ≤ gb246)); replace HB := uD (uO (pb HB) hb); have NB245_246 := uD ((by rw [hg]; exact Nat.ne_of_lt (blk_lt (pk BK245)) : gb245 ≠ gb246)); have NB246_245 := uD ((by rw [hg]; exact Nat.ne_of_gt (blk_lt (pk BK245)) : gb246 ≠ gb245)); replace BK245 := uD (blk_below (pk BK245) hb); clear hb hbox hg; have hnb26 := NB245_246.out; have hnc26 := NB246_245.out; obtain ⟨hcz27_0, hcz27_1, hcz27_2, hcz27_3, hfz27_0, hfz27_1, hfz27_2, hfz27_3⟩ := cz4 BK245) | ((with_reducible refine gate_callee (f := 54) rfl ?_); refine gl (some 10) Try.func54 #[.agg #[.int .i64 a0_0, .int .i64 a0_1, .bool a0_2, .slice A0_3 l0_3.length c0_3]] ?_; (with_reducible refine (impl_copyBelt.calls a0_0 a0_1 a0_2 _ _ l0_3 t247 t248 t249 t250 _ ?side1 ?side2 A4.out).mono ?_); (case side1 => exact pc (Kd.C_below HR0_3.out HB.out)); (case side2 => exact HC0_3.out); rintro e w28 ⟨v251, rfl, ho0, hb⟩; refine ⟨_, rfl, ?_⟩; have HO252 := uD (Kd.R_lower ho0 (uN (pb HB))); replace BK245 := uD (blk_below (pk BK245) hb); replace BK246 := uD (blk_below (pk BK246) hb); replace HB := uD (uO (pb HB) hb); (try clear hb); (try clear hb2); (try clear hk); (try clear hi); (try clear ho0)) | ((with_reducible refine gate_dst (N := 8) rfl ?_); (try (refine gate_guard (by rfl) ?_; dsimp only)); refine bx 8 #[.int .i64 0, .int .i64 0, .bool false, .slice none 0 0] 29 ?_; intro gb253 hg w29 hbox hb; replace HO252 := uD (Kd.R_below (pr HO252) hb); have BK253 := uD (hbox); have GW253 := uD ((by rw [hg]; exact (uN (pb HB)) : w.heap.size ≤ gb253)); have GE253 := uD ((by rw [hg]; exact (uN (pb HB)) : w.heap.size ≤ gb253)); replace HB := uD (uO (pb HB) hb); have NB245_253 := uD ((by rw [hg]; exact Nat.ne_of_lt (blk_lt (pk BK245)) : gb245 ≠ gb253)); have NB253_245 := uD ((by rw [hg]; exact Nat.ne_of_gt (blk_lt (pk BK245)) : gb253 ≠ gb245)); replace BK245 := uD (blk_below (pk BK245) hb); have NB246_253 := uD ((by rw [hg]; exact Nat.ne_of_lt (blk_lt (pk BK246)) : gb246 ≠ gb253)); have NB253_246 := uD ((by rw [hg]; exact Nat.ne_of_gt (blk_lt (pk BK246)) : gb253 ≠ gb246)); replace BK246 := uD (blk_below (pk BK246) hb); clear hb hbox hg; have hnb30 := NB253_245.out; have hnc30 := NB245_253.out; have hnb31 := NB253_246.out; have hnc31 := NB246_253.out; obtain ⟨hcz32_0, hcz32_1, hcz32_2, hcz32_3, hfz32_0, hfz32_1, hfz32_2, hfz32_3⟩ := cz4 BK253; obtain ⟨Ao33, co33, eo33⟩ := Kd.R_slice HO252.out; subst eo33; obtain ⟨hcz34_0, hcz34_1, hcz34_2, hcz34_3, hfz34_0, hfz34_1, hfz34_2, hfz34_3⟩ := cz4 BK245) | ((with_reducible refine gate_callee (f := 18) rfl ?_); refine gl (some 12) Try.func18 #[.agg #[.int .i64 a0_0, .int .i64 a0_1, .bool a0_2, .slice A0_3 l0_3.length c0_3]] ?_; (with_reducible refine (impl_BeltOk.calls k a0_0 a0_1 a0_2 _ _ l0_3 true _ ?side1 ?side2 A5.out).mono ?_); (case side1 => exact Kd.C_below HR0_3.out (pb HB)); (case side2 => exact HC0_3.out); rintro e w35 ⟨rfl, hb⟩; refine ⟨_, rfl, ?_⟩; replace HO252 := uD (Kd.R_below (by (with_reducible repeat (first | apply uU | apply uS | apply uT)); exact (uX (uV (p := ⟨gb253, 3, none⟩) (uV (p := ⟨gb253, 2, none⟩) (uV (p := ⟨gb253, 1, none⟩) (uV (p := ⟨gb253, 0, none⟩) (uW HO252.out BK253.out (by decide)) (fun _ hk => hk.2) (.int .i64 t247)) (fun _ hk => hk.2) (.int .i64 t248)) (fun _ hk => hk.2) (.bool t249)) (fun _ hk => hk.2) (.slice Ao33 t250.length co33)) (fun _ h_ => h_.1))) hb); replace BK245 := uD (blk_below (g := gb245) (o := .cells #[.int .i64 a0_0, .int .i64 a0_1, .bool a0_2, .slice A0_3 l0_3.length c0_3] 29 (0, 0)) (by exact ps BK245) hb); replace BK246 := uD (blk_below (g := gb246) (o := .cells #[.int .i64 0, .int .i64 0, .bool false, .slice none 0 0] 29 (0, 0)) (by exact ps BK246) hb); replace BK253 := uD (blk_below (g := gb253) (o := .cells #[.int .i64 t247, .int .i64 t248, .bool t249, .slice Ao33 t250.length co33] 29 (0, 0)) (by (with_reducible repeat first|apply uH|apply uJ|apply uG); refine uP (cs := #[.int .i64 t247, .int .i64 t248, .bool t249, .slice none 0 0]) ?_ 3 _ rfl; (with_reducible repeat first|apply uH|apply uJ|apply uG); refine uP (cs := #[.int .i64 t247, .int .i64 t248, .bool false, .slice none 0 0]) ?_ 2 _ rfl; (with_reducible repeat first|apply uH|apply uJ|apply uG); refine uP (cs := #[.int .i64 t247, .int .i64 0, .bool false, .slice none 0 0]) ?_ 1 _ rfl; (with_reducible repeat first|apply uH|apply uJ|apply uG); refine uP (cs := #[.int .i64 0, .int .i64 0, .bool false, .slice none 0 0]) ?_ 0 _ rfl; (with_reducible repeat first|apply uH|apply uJ|apply uG); exact BK253.out) hb); replace HB := uD (uO (pb HB) hb); (try clear hb); (try clear hb2); (try clear hk); (try clear hi); obtain ⟨hcz36_0, hcz36_1, hcz36_2, hcz36_3, hfz36_0, hfz36_1, hfz36_2, hfz36_3⟩ := cz4 BK245) | (go_at_call 50; (with_reducible refine (impl_isOn.calls _ _ l0_3 a1 true _ ?side1 ?side2 A22.out).mono ?_); (case side1 => exact pc (Kd.C_below HR0_3.out HB.out)); (case side2 => exact HC0_3.out); rintro e w37 ⟨rfl, hb⟩; replace HO252 := uD (Kd.R_below (pr HO252) hb); replace BK245 := uD (blk_below (pk BK245) hb); replace BK246 := uD (blk_below (pk BK246) hb); replace BK253 := uD (blk_below (pk BK253) hb); replace HB := uD (uO (pb HB) hb); (try clear hb); (try clear hb2); (try clear hk); (try clear hi); obtain ⟨hcz38_0, hcz38_1, hcz38_2, hcz38_3, hfz38_0, hfz38_1, hfz38_2, hfz38_3⟩ := cz4 BK253; obtain ⟨hcz39_0, hcz39_1, hcz39_2, hcz39_3, hfz39_0, hfz39_1, hfz39_2, hfz39_3⟩ := cz4 BK246))
    refine bodyPost_ret (uR rfl _ _ gb246 29 #[.int .i64 t247, .int .i64 t248, .bool t249, .slice Ao33 t250.length co33] (0, 0) _ rfl (by (with_reducible repeat first|apply uH|apply uJ|apply uG); refine uP (cs := #[.int .i64 t247, .int .i64 t248, .bool t249, .slice none 0 0]) ?_ 3 _ rfl; (with_reducible repeat first|apply uH|apply uJ|apply uG); refine uP (cs := #[.int .i64 t247, .int .i64 t248, .bool false, .slice none 0 0]) ?_ 2 _ rfl; (with_reducible repeat first|apply uH|apply uJ|apply uG); refine uP (cs := #[.int .i64 t247, .int .i64 0, .bool false, .slice none 0 0]) ?_ 1 _ rfl; (with_reducible repeat first|apply uH|apply uJ|apply uG); refine uP (cs := #[.int .i64 0, .int .i64 0, .bool false, .slice none 0 0]) ?_ 0 _ rfl; (with_reducible repeat first|apply uH|apply uJ|apply uG); exact BK246.out) Try.underlying29 rfl (by kernel_rfl)) rfl ?_
    exact ⟨_, by first | rfl | (simp [errW_none, errW_some] <;> rfl) | (simp [*, errW_none, errW_some] <;> rfl), by (with_reducible repeat (first | apply uU | apply uS | apply uT)); exact uX (uV (p := ⟨gb246, 3, none⟩) (uV (p := ⟨gb246, 2, none⟩) (uV (p := ⟨gb246, 1, none⟩) (uV (p := ⟨gb246, 0, none⟩) (uW HO252.out BK246.out (by decide)) (fun _ hk => hk.2) (.int .i64 t247)) (fun _ hk => hk.2) (.int .i64 t248)) (fun _ hk => hk.2) (.bool t249)) (fun _ hk => hk.2) (.slice Ao33 t250.length co33)) (fun _ hk => trivial), pb HB⟩
   ·replace c23 := Bool.eq_false_iff.mpr c23
    subst c23
    have H1 : (if a2 < 1 then (some (t247, t248, t249, t250, false)) else (if a2 > 60 then (some (t247, t248, t249, t250, false)) else (if (l0_3.length : Int) ≥ 40 then (some (t247, t248, t249, t250, false)) else ((impl_FreeBehind.f k a0_0 a0_1 a0_2 l0_3).bind fun t256 => (if a2 > t256 then (some (t247, t248, t249, t250, false)) else (if t250.length < 5864062014805 then (some (t247, t248, t249, (t250 ++ [(⟨a1, a2, a2⟩ : S53)]), true)) else (none))))))) = some (r1, r2, r3, r4, r5) := by rw [if_neg (show ¬ (false = true) by decide)] at H; first | done | exact H
    clear H
    have H := H1
    clear H1
    by_cases c40 : a2 < 1
    ·rw [if_pos c40] at H
     have c40b0 : decide (a2 < 1) = true := decide_eq_true c40
     clear c40
     simp only [Option.some.injEq, Prod.mk.injEq] at H
     obtain ⟨rfl, rfl, rfl, rfl, rfl⟩ := H
     go_enter Try.func31, Try.ntmps31
     go_wp2_with (first | ((with_reducible refine gate_dst (N := 3) rfl ?_); (try (refine gate_guard (by rfl) ?_; dsimp only)); refine bx 3 #[.int .i64 a0_0, .int .i64 a0_1, .bool a0_2, .slice A0_3 l0_3.length c0_3] 29 ?_; intro gb245 hg w41 hbox hb; have BK245 := uD (hbox); have GW245 := uD ((by rw [hg]; exact (uN (pb HB)) : w.heap.size ≤ gb245)); have GE245 := uD ((by rw [hg]; exact (uN (pb HB)) : w.heap.size ≤ gb245)); replace HB := uD (uO (pb HB) hb); clear hb hbox hg) | ((with_reducible refine gate_dst (N := 6) rfl ?_); (try (refine gate_guard (by rfl) ?_; dsimp only)); refine bx 6 #[.int .i64 0, .int .i64 0, .bool false, .slice none 0 0] 29 ?_; intro gb246 hg w42 hbox hb; have BK246 := uD (hbox); have GW246 := uD ((by rw [hg]; exact (uN (pb HB)) : w.heap.size ≤ gb246)); have GE246 := uD ((by rw [hg]; exact (uN (pb HB)) : w.heap.size ≤ gb246)); replace HB := uD (uO (pb HB) hb); have NB245_246 := uD ((by rw [hg]; exact Nat.ne_of_lt (blk_lt (pk BK245)) : gb245 ≠ gb246)); have NB246_245 := uD ((by rw [hg]; exact Nat.ne_of_gt (blk_lt (pk BK245)) : gb246 ≠ gb245)); replace BK245 := uD (blk_below (pk BK245) hb); clear hb hbox hg; have hnb43 := NB245_246.out; have hnc43 := NB246_245.out; obtain ⟨hcz44_0, hcz44_1, hcz44_2, hcz44_3, hfz44_0, hfz44_1, hfz44_2, hfz44_3⟩ := cz4 BK245) | ((with_reducible refine gate_callee (f := 54) rfl ?_); refine gl (some 10) Try.func54 #[.agg #[.int .i64 a0_0, .int .i64 a0_1, .bool a0_2, .slice A0_3 l0_3.length c0_3]] ?_; (with_reducible refine (impl_copyBelt.calls a0_0 a0_1 a0_2 _ _ l0_3 t247 t248 t249 t250 _ ?side1 ?side2 A4.out).mono ?_); (case side1 => exact pc (Kd.C_below HR0_3.out HB.out)); (case side2 => exact HC0_3.out); rintro e w45 ⟨v251, rfl, ho0, hb⟩; refine ⟨_, rfl, ?_⟩; have HO252 := uD (Kd.R_lower ho0 (uN (pb HB))); replace BK245 := uD (blk_below (pk BK245) hb); replace BK246 := uD (blk_below (pk BK246) hb); replace HB := uD (uO (pb HB) hb); (try clear hb); (try clear hb2); (try clear hk); (try clear hi); (try clear ho0)) | ((with_reducible refine gate_dst (N := 8) rfl ?_); (try (refine gate_guard (by rfl) ?_; dsimp only)); refine bx 8 #[.int .i64 0, .int .i64 0, .bool false, .slice none 0 0] 29 ?_; intro gb253 hg w46 hbox hb; replace HO252 := uD (Kd.R_below (pr HO252) hb); have BK253 := uD (hbox); have GW253 := uD ((by rw [hg]; exact (uN (pb HB)) : w.heap.size ≤ gb253)); have GE253 := uD ((by rw [hg]; exact (uN (pb HB)) : w.heap.size ≤ gb253)); replace HB := uD (uO (pb HB) hb); have NB245_253 := uD ((by rw [hg]; exact Nat.ne_of_lt (blk_lt (pk BK245)) : gb245 ≠ gb253)); have NB253_245 := uD ((by rw [hg]; exact Nat.ne_of_gt (blk_lt (pk BK245)) : gb253 ≠ gb245)); replace BK245 := uD (blk_below (pk BK245) hb); have NB246_253 := uD ((by rw [hg]; exact Nat.ne_of_lt (blk_lt (pk BK246)) : gb246 ≠ gb253)); have NB253_246 := uD ((by rw [hg]; exact Nat.ne_of_gt (blk_lt (pk BK246)) : gb253 ≠ gb246)); replace BK246 := uD (blk_below (pk BK246) hb); clear hb hbox hg; have hnb47 := NB253_245.out; have hnc47 := NB245_253.out; have hnb48 := NB253_246.out; have hnc48 := NB246_253.out; obtain ⟨hcz49_0, hcz49_1, hcz49_2, hcz49_3, hfz49_0, hfz49_1, hfz49_2, hfz49_3⟩ := cz4 BK253; obtain ⟨Ao50, co50, eo50⟩ := Kd.R_slice HO252.out; subst eo50; obtain ⟨hcz51_0, hcz51_1, hcz51_2, hcz51_3, hfz51_0, hfz51_1, hfz51_2, hfz51_3⟩ := cz4 BK245) | ((with_reducible refine gate_callee (f := 18) rfl ?_); refine gl (some 12) Try.func18 #[.agg #[.int .i64 a0_0, .int .i64 a0_1, .bool a0_2, .slice A0_3 l0_3.length c0_3]] ?_; (with_reducible refine (impl_BeltOk.calls k a0_0 a0_1 a0_2 _ _ l0_3 true _ ?side1 ?side2 A5.out).mono ?_); (case side1 => exact Kd.C_below HR0_3.out (pb HB)); (case side2 => exact HC0_3.out); rintro e w52 ⟨rfl, hb⟩; refine ⟨_, rfl, ?_⟩; replace HO252 := uD (Kd.R_below (by (with_reducible repeat (first | apply uU | apply uS | apply uT)); exact (uX (uV (p := ⟨gb253, 3, none⟩) (uV (p := ⟨gb253, 2, none⟩) (uV (p := ⟨gb253, 1, none⟩) (uV (p := ⟨gb253, 0, none⟩) (uW HO252.out BK253.out (by decide)) (fun _ hk => hk.2) (.int .i64 t247)) (fun _ hk => hk.2) (.int .i64 t248)) (fun _ hk => hk.2) (.bool t249)) (fun _ hk => hk.2) (.slice Ao50 t250.length co50)) (fun _ h_ => h_.1))) hb); replace BK245 := uD (blk_below (g := gb245) (o := .cells #[.int .i64 a0_0, .int .i64 a0_1, .bool a0_2, .slice A0_3 l0_3.length c0_3] 29 (0, 0)) (by exact ps BK245) hb); replace BK246 := uD (blk_below (g := gb246) (o := .cells #[.int .i64 0, .int .i64 0, .bool false, .slice none 0 0] 29 (0, 0)) (by exact ps BK246) hb); replace BK253 := uD (blk_below (g := gb253) (o := .cells #[.int .i64 t247, .int .i64 t248, .bool t249, .slice Ao50 t250.length co50] 29 (0, 0)) (by (with_reducible repeat first|apply uH|apply uJ|apply uG); refine uP (cs := #[.int .i64 t247, .int .i64 t248, .bool t249, .slice none 0 0]) ?_ 3 _ rfl; (with_reducible repeat first|apply uH|apply uJ|apply uG); refine uP (cs := #[.int .i64 t247, .int .i64 t248, .bool false, .slice none 0 0]) ?_ 2 _ rfl; (with_reducible repeat first|apply uH|apply uJ|apply uG); refine uP (cs := #[.int .i64 t247, .int .i64 0, .bool false, .slice none 0 0]) ?_ 1 _ rfl; (with_reducible repeat first|apply uH|apply uJ|apply uG); refine uP (cs := #[.int .i64 0, .int .i64 0, .bool false, .slice none 0 0]) ?_ 0 _ rfl; (with_reducible repeat first|apply uH|apply uJ|apply uG); exact BK253.out) hb); replace HB := uD (uO (pb HB) hb); (try clear hb); (try clear hb2); (try clear hk); (try clear hi); obtain ⟨hcz53_0, hcz53_1, hcz53_2, hcz53_3, hfz53_0, hfz53_1, hfz53_2, hfz53_3⟩ := cz4 BK245) | (go_at_call 50; (with_reducible refine (impl_isOn.calls _ _ l0_3 a1 false _ ?side1 ?side2 A22.out).mono ?_); (case side1 => exact pc (Kd.C_below HR0_3.out HB.out)); (case side2 => exact HC0_3.out); rintro e w54 ⟨rfl, hb⟩; replace HO252 := uD (Kd.R_below (pr HO252) hb); replace BK245 := uD (blk_below (pk BK245) hb); replace BK246 := uD (blk_below (pk BK246) hb); replace BK253 := uD (blk_below (pk BK253) hb); replace HB := uD (uO (pb HB) hb); (try clear hb); (try clear hb2); (try clear hk); (try clear hi); obtain ⟨hcz55_0, hcz55_1, hcz55_2, hcz55_3, hfz55_0, hfz55_1, hfz55_2, hfz55_3⟩ := cz4 BK253; obtain ⟨hcz56_0, hcz56_1, hcz56_2, hcz56_3, hfz56_0, hfz56_1, hfz56_2, hfz56_3⟩ := cz4 BK246))
     refine bodyPost_ret (uR rfl _ _ gb246 29 #[.int .i64 t247, .int .i64 t248, .bool t249, .slice Ao50 t250.length co50] (0, 0) _ rfl (by (with_reducible repeat first|apply uH|apply uJ|apply uG); refine uP (cs := #[.int .i64 t247, .int .i64 t248, .bool t249, .slice none 0 0]) ?_ 3 _ rfl; (with_reducible repeat first|apply uH|apply uJ|apply uG); refine uP (cs := #[.int .i64 t247, .int .i64 t248, .bool false, .slice none 0 0]) ?_ 2 _ rfl; (with_reducible repeat first|apply uH|apply uJ|apply uG); refine uP (cs := #[.int .i64 t247, .int .i64 0, .bool false, .slice none 0 0]) ?_ 1 _ rfl; (with_reducible repeat first|apply uH|apply uJ|apply uG); refine uP (cs := #[.int .i64 0, .int .i64 0, .bool false, .slice none 0 0]) ?_ 0 _ rfl; (with_reducible repeat first|apply uH|apply uJ|apply uG); exact BK246.out) Try.underlying29 rfl (by kernel_rfl)) rfl ?_
     exact ⟨_, by first | rfl | (simp [errW_none, errW_some] <;> rfl) | (simp [*, errW_none, errW_some] <;> rfl), by (with_reducible repeat (first | apply uU | apply uS | apply uT)); exact uX (uV (p := ⟨gb246, 3, none⟩) (uV (p := ⟨gb246, 2, none⟩) (uV (p := ⟨gb246, 1, none⟩) (uV (p := ⟨gb246, 0, none⟩) (uW HO252.out BK246.out (by decide)) (fun _ hk => hk.2) (.int .i64 t247)) (fun _ hk => hk.2) (.int .i64 t248)) (fun _ hk => hk.2) (.bool t249)) (fun _ hk => hk.2) (.slice Ao50 t250.length co50)) (fun _ hk => trivial), pb HB⟩
    ·rw [if_neg c40] at H
     have c40b0 : decide (a2 < 1) = false := decide_eq_false c40
     clear c40
     by_cases c57 : a2 > 60
     ·rw [if_pos c57] at H
      have c57b0 : decide (60 < a2) = true := decide_eq_true c57
      clear c57
      simp only [Option.some.injEq, Prod.mk.injEq] at H
      obtain ⟨rfl, rfl, rfl, rfl, rfl⟩ := H
      go_enter Try.func31, Try.ntmps31
      go_wp2_with (first | ((with_reducible refine gate_dst (N := 3) rfl ?_); (try (refine gate_guard (by rfl) ?_; dsimp only)); refine bx 3 #[.int .i64 a0_0, .int .i64 a0_1, .bool a0_2, .slice A0_3 l0_3.length c0_3] 29 ?_; intro gb245 hg w58 hbox hb; have BK245 := uD (hbox); have GW245 := uD ((by rw [hg]; exact (uN (pb HB)) : w.heap.size ≤ gb245)); have GE245 := uD ((by rw [hg]; exact (uN (pb HB)) : w.heap.size ≤ gb245)); replace HB := uD (uO (pb HB) hb); clear hb hbox hg) | ((with_reducible refine gate_dst (N := 6) rfl ?_); (try (refine gate_guard (by rfl) ?_; dsimp only)); refine bx 6 #[.int .i64 0, .int .i64 0, .bool false, .slice none 0 0] 29 ?_; intro gb246 hg w59 hbox hb; have BK246 := uD (hbox); have GW246 := uD ((by rw [hg]; exact (uN (pb HB)) : w.heap.size ≤ gb246)); have GE246 := uD ((by rw [hg]; exact (uN (pb HB)) : w.heap.size ≤ gb246)); replace HB := uD (uO (pb HB) hb); have NB245_246 := uD ((by rw [hg]; exact Nat.ne_of_lt (blk_lt (pk BK245)) : gb245 ≠ gb246)); have NB246_245 := uD ((by rw [hg]; exact Nat.ne_of_gt (blk_lt (pk BK245)) : gb246 ≠ gb245)); replace BK245 := uD (blk_below (pk BK245) hb); clear hb hbox hg; have hnb60 := NB245_246.out; have hnc60 := NB246_245.out; obtain ⟨hcz61_0, hcz61_1, hcz61_2, hcz61_3, hfz61_0, hfz61_1, hfz61_2, hfz61_3⟩ := cz4 BK245) | ((with_reducible refine gate_callee (f := 54) rfl ?_); refine gl (some 10) Try.func54 #[.agg #[.int .i64 a0_0, .int .i64 a0_1, .bool a0_2, .slice A0_3 l0_3.length c0_3]] ?_; (with_reducible refine (impl_copyBelt.calls a0_0 a0_1 a0_2 _ _ l0_3 t247 t248 t249 t250 _ ?side1 ?side2 A4.out).mono ?_); (case side1 => exact pc (Kd.C_below HR0_3.out HB.out)); (case side2 => exact HC0_3.out); rintro e w62 ⟨v251, rfl, ho0, hb⟩; refine ⟨_, rfl, ?_⟩; have HO252 := uD (Kd.R_lower ho0 (uN (pb HB))); replace BK245 := uD (blk_below (pk BK245) hb); replace BK246 := uD (blk_below (pk BK246) hb); replace HB := uD (uO (pb HB) hb); (try clear hb); (try clear hb2); (try clear hk); (try clear hi); (try clear ho0)) | ((with_reducible refine gate_dst (N := 8) rfl ?_); (try (refine gate_guard (by rfl) ?_; dsimp only)); refine bx 8 #[.int .i64 0, .int .i64 0, .bool false, .slice none 0 0] 29 ?_; intro gb253 hg w63 hbox hb; replace HO252 := uD (Kd.R_below (pr HO252) hb); have BK253 := uD (hbox); have GW253 := uD ((by rw [hg]; exact (uN (pb HB)) : w.heap.size ≤ gb253)); have GE253 := uD ((by rw [hg]; exact (uN (pb HB)) : w.heap.size ≤ gb253)); replace HB := uD (uO (pb HB) hb); have NB245_253 := uD ((by rw [hg]; exact Nat.ne_of_lt (blk_lt (pk BK245)) : gb245 ≠ gb253)); have NB253_245 := uD ((by rw [hg]; exact Nat.ne_of_gt (blk_lt (pk BK245)) : gb253 ≠ gb245)); replace BK245 := uD (blk_below (pk BK245) hb); have NB246_253 := uD ((by rw [hg]; exact Nat.ne_of_lt (blk_lt (pk BK246)) : gb246 ≠ gb253)); have NB253_246 := uD ((by rw [hg]; exact Nat.ne_of_gt (blk_lt (pk BK246)) : gb253 ≠ gb246)); replace BK246 := uD (blk_below (pk BK246) hb); clear hb hbox hg; have hnb64 := NB253_245.out; have hnc64 := NB245_253.out; have hnb65 := NB253_246.out; have hnc65 := NB246_253.out; obtain ⟨hcz66_0, hcz66_1, hcz66_2, hcz66_3, hfz66_0, hfz66_1, hfz66_2, hfz66_3⟩ := cz4 BK253; obtain ⟨Ao67, co67, eo67⟩ := Kd.R_slice HO252.out; subst eo67; obtain ⟨hcz68_0, hcz68_1, hcz68_2, hcz68_3, hfz68_0, hfz68_1, hfz68_2, hfz68_3⟩ := cz4 BK245) | ((with_reducible refine gate_callee (f := 18) rfl ?_); refine gl (some 12) Try.func18 #[.agg #[.int .i64 a0_0, .int .i64 a0_1, .bool a0_2, .slice A0_3 l0_3.length c0_3]] ?_; (with_reducible refine (impl_BeltOk.calls k a0_0 a0_1 a0_2 _ _ l0_3 true _ ?side1 ?side2 A5.out).mono ?_); (case side1 => exact Kd.C_below HR0_3.out (pb HB)); (case side2 => exact HC0_3.out); rintro e w69 ⟨rfl, hb⟩; refine ⟨_, rfl, ?_⟩; replace HO252 := uD (Kd.R_below (by (with_reducible repeat (first | apply uU | apply uS | apply uT)); exact (uX (uV (p := ⟨gb253, 3, none⟩) (uV (p := ⟨gb253, 2, none⟩) (uV (p := ⟨gb253, 1, none⟩) (uV (p := ⟨gb253, 0, none⟩) (uW HO252.out BK253.out (by decide)) (fun _ hk => hk.2) (.int .i64 t247)) (fun _ hk => hk.2) (.int .i64 t248)) (fun _ hk => hk.2) (.bool t249)) (fun _ hk => hk.2) (.slice Ao67 t250.length co67)) (fun _ h_ => h_.1))) hb); replace BK245 := uD (blk_below (g := gb245) (o := .cells #[.int .i64 a0_0, .int .i64 a0_1, .bool a0_2, .slice A0_3 l0_3.length c0_3] 29 (0, 0)) (by exact ps BK245) hb); replace BK246 := uD (blk_below (g := gb246) (o := .cells #[.int .i64 0, .int .i64 0, .bool false, .slice none 0 0] 29 (0, 0)) (by exact ps BK246) hb); replace BK253 := uD (blk_below (g := gb253) (o := .cells #[.int .i64 t247, .int .i64 t248, .bool t249, .slice Ao67 t250.length co67] 29 (0, 0)) (by (with_reducible repeat first|apply uH|apply uJ|apply uG); refine uP (cs := #[.int .i64 t247, .int .i64 t248, .bool t249, .slice none 0 0]) ?_ 3 _ rfl; (with_reducible repeat first|apply uH|apply uJ|apply uG); refine uP (cs := #[.int .i64 t247, .int .i64 t248, .bool false, .slice none 0 0]) ?_ 2 _ rfl; (with_reducible repeat first|apply uH|apply uJ|apply uG); refine uP (cs := #[.int .i64 t247, .int .i64 0, .bool false, .slice none 0 0]) ?_ 1 _ rfl; (with_reducible repeat first|apply uH|apply uJ|apply uG); refine uP (cs := #[.int .i64 0, .int .i64 0, .bool false, .slice none 0 0]) ?_ 0 _ rfl; (with_reducible repeat first|apply uH|apply uJ|apply uG); exact BK253.out) hb); replace HB := uD (uO (pb HB) hb); (try clear hb); (try clear hb2); (try clear hk); (try clear hi); obtain ⟨hcz70_0, hcz70_1, hcz70_2, hcz70_3, hfz70_0, hfz70_1, hfz70_2, hfz70_3⟩ := cz4 BK245) | (go_at_call 50; (with_reducible refine (impl_isOn.calls _ _ l0_3 a1 false _ ?side1 ?side2 A22.out).mono ?_); (case side1 => exact pc (Kd.C_below HR0_3.out HB.out)); (case side2 => exact HC0_3.out); rintro e w71 ⟨rfl, hb⟩; replace HO252 := uD (Kd.R_below (pr HO252) hb); replace BK245 := uD (blk_below (pk BK245) hb); replace BK246 := uD (blk_below (pk BK246) hb); replace BK253 := uD (blk_below (pk BK253) hb); replace HB := uD (uO (pb HB) hb); (try clear hb); (try clear hb2); (try clear hk); (try clear hi); obtain ⟨hcz72_0, hcz72_1, hcz72_2, hcz72_3, hfz72_0, hfz72_1, hfz72_2, hfz72_3⟩ := cz4 BK253; obtain ⟨hcz73_0, hcz73_1, hcz73_2, hcz73_3, hfz73_0, hfz73_1, hfz73_2, hfz73_3⟩ := cz4 BK246))
      refine bodyPost_ret (uR rfl _ _ gb246 29 #[.int .i64 t247, .int .i64 t248, .bool t249, .slice Ao67 t250.length co67] (0, 0) _ rfl (by (with_reducible repeat first|apply uH|apply uJ|apply uG); refine uP (cs := #[.int .i64 t247, .int .i64 t248, .bool t249, .slice none 0 0]) ?_ 3 _ rfl; (with_reducible repeat first|apply uH|apply uJ|apply uG); refine uP (cs := #[.int .i64 t247, .int .i64 t248, .bool false, .slice none 0 0]) ?_ 2 _ rfl; (with_reducible repeat first|apply uH|apply uJ|apply uG); refine uP (cs := #[.int .i64 t247, .int .i64 0, .bool false, .slice none 0 0]) ?_ 1 _ rfl; (with_reducible repeat first|apply uH|apply uJ|apply uG); refine uP (cs := #[.int .i64 0, .int .i64 0, .bool false, .slice none 0 0]) ?_ 0 _ rfl; (with_reducible repeat first|apply uH|apply uJ|apply uG); exact BK246.out) Try.underlying29 rfl (by kernel_rfl)) rfl ?_
      exact ⟨_, by first | rfl | (simp [errW_none, errW_some] <;> rfl) | (simp [*, errW_none, errW_some] <;> rfl), by (with_reducible repeat (first | apply uU | apply uS | apply uT)); exact uX (uV (p := ⟨gb246, 3, none⟩) (uV (p := ⟨gb246, 2, none⟩) (uV (p := ⟨gb246, 1, none⟩) (uV (p := ⟨gb246, 0, none⟩) (uW HO252.out BK246.out (by decide)) (fun _ hk => hk.2) (.int .i64 t247)) (fun _ hk => hk.2) (.int .i64 t248)) (fun _ hk => hk.2) (.bool t249)) (fun _ hk => hk.2) (.slice Ao67 t250.length co67)) (fun _ hk => trivial), pb HB⟩
     ·rw [if_neg c57] at H
      have c57b0 : decide (60 < a2) = false := decide_eq_false c57
      clear c57
      by_cases c74 : (l0_3.length : Int) ≥ 40
      ·rw [if_pos c74] at H
       have c74b0 : decide (40 ≤ (l0_3.length : Int)) = true := decide_eq_true c74
       have c74b1 : decide (40 ≤ l0_3.length) = true := decide_eq_true (by omega)
       clear c74
       simp only [Option.some.injEq, Prod.mk.injEq] at H
       obtain ⟨rfl, rfl, rfl, rfl, rfl⟩ := H
       go_enter Try.func31, Try.ntmps31
       go_wp2_with (first | ((with_reducible refine gate_dst (N := 3) rfl ?_); (try (refine gate_guard (by rfl) ?_; dsimp only)); refine bx 3 #[.int .i64 a0_0, .int .i64 a0_1, .bool a0_2, .slice A0_3 l0_3.length c0_3] 29 ?_; intro gb245 hg w75 hbox hb; have BK245 := uD (hbox); have GW245 := uD ((by rw [hg]; exact (uN (pb HB)) : w.heap.size ≤ gb245)); have GE245 := uD ((by rw [hg]; exact (uN (pb HB)) : w.heap.size ≤ gb245)); replace HB := uD (uO (pb HB) hb); clear hb hbox hg) | ((with_reducible refine gate_dst (N := 6) rfl ?_); (try (refine gate_guard (by rfl) ?_; dsimp only)); refine bx 6 #[.int .i64 0, .int .i64 0, .bool false, .slice none 0 0] 29 ?_; intro gb246 hg w76 hbox hb; have BK246 := uD (hbox); have GW246 := uD ((by rw [hg]; exact (uN (pb HB)) : w.heap.size ≤ gb246)); have GE246 := uD ((by rw [hg]; exact (uN (pb HB)) : w.heap.size ≤ gb246)); replace HB := uD (uO (pb HB) hb); have NB245_246 := uD ((by rw [hg]; exact Nat.ne_of_lt (blk_lt (pk BK245)) : gb245 ≠ gb246)); have NB246_245 := uD ((by rw [hg]; exact Nat.ne_of_gt (blk_lt (pk BK245)) : gb246 ≠ gb245)); replace BK245 := uD (blk_below (pk BK245) hb); clear hb hbox hg; have hnb77 := NB245_246.out; have hnc77 := NB246_245.out; obtain ⟨hcz78_0, hcz78_1, hcz78_2, hcz78_3, hfz78_0, hfz78_1, hfz78_2, hfz78_3⟩ := cz4 BK245) | ((with_reducible refine gate_callee (f := 54) rfl ?_); refine gl (some 10) Try.func54 #[.agg #[.int .i64 a0_0, .int .i64 a0_1, .bool a0_2, .slice A0_3 l0_3.length c0_3]] ?_; (with_reducible refine (impl_copyBelt.calls a0_0 a0_1 a0_2 _ _ l0_3 t247 t248 t249 t250 _ ?side1 ?side2 A4.out).mono ?_); (case side1 => exact pc (Kd.C_below HR0_3.out HB.out)); (case side2 => exact HC0_3.out); rintro e w79 ⟨v251, rfl, ho0, hb⟩; refine ⟨_, rfl, ?_⟩; have HO252 := uD (Kd.R_lower ho0 (uN (pb HB))); replace BK245 := uD (blk_below (pk BK245) hb); replace BK246 := uD (blk_below (pk BK246) hb); replace HB := uD (uO (pb HB) hb); (try clear hb); (try clear hb2); (try clear hk); (try clear hi); (try clear ho0)) | ((with_reducible refine gate_dst (N := 8) rfl ?_); (try (refine gate_guard (by rfl) ?_; dsimp only)); refine bx 8 #[.int .i64 0, .int .i64 0, .bool false, .slice none 0 0] 29 ?_; intro gb253 hg w80 hbox hb; replace HO252 := uD (Kd.R_below (pr HO252) hb); have BK253 := uD (hbox); have GW253 := uD ((by rw [hg]; exact (uN (pb HB)) : w.heap.size ≤ gb253)); have GE253 := uD ((by rw [hg]; exact (uN (pb HB)) : w.heap.size ≤ gb253)); replace HB := uD (uO (pb HB) hb); have NB245_253 := uD ((by rw [hg]; exact Nat.ne_of_lt (blk_lt (pk BK245)) : gb245 ≠ gb253)); have NB253_245 := uD ((by rw [hg]; exact Nat.ne_of_gt (blk_lt (pk BK245)) : gb253 ≠ gb245)); replace BK245 := uD (blk_below (pk BK245) hb); have NB246_253 := uD ((by rw [hg]; exact Nat.ne_of_lt (blk_lt (pk BK246)) : gb246 ≠ gb253)); have NB253_246 := uD ((by rw [hg]; exact Nat.ne_of_gt (blk_lt (pk BK246)) : gb253 ≠ gb246)); replace BK246 := uD (blk_below (pk BK246) hb); clear hb hbox hg; have hnb81 := NB253_245.out; have hnc81 := NB245_253.out; have hnb82 := NB253_246.out; have hnc82 := NB246_253.out; obtain ⟨hcz83_0, hcz83_1, hcz83_2, hcz83_3, hfz83_0, hfz83_1, hfz83_2, hfz83_3⟩ := cz4 BK253; obtain ⟨Ao84, co84, eo84⟩ := Kd.R_slice HO252.out; subst eo84; obtain ⟨hcz85_0, hcz85_1, hcz85_2, hcz85_3, hfz85_0, hfz85_1, hfz85_2, hfz85_3⟩ := cz4 BK245) | ((with_reducible refine gate_callee (f := 18) rfl ?_); refine gl (some 12) Try.func18 #[.agg #[.int .i64 a0_0, .int .i64 a0_1, .bool a0_2, .slice A0_3 l0_3.length c0_3]] ?_; (with_reducible refine (impl_BeltOk.calls k a0_0 a0_1 a0_2 _ _ l0_3 true _ ?side1 ?side2 A5.out).mono ?_); (case side1 => exact Kd.C_below HR0_3.out (pb HB)); (case side2 => exact HC0_3.out); rintro e w86 ⟨rfl, hb⟩; refine ⟨_, rfl, ?_⟩; replace HO252 := uD (Kd.R_below (by (with_reducible repeat (first | apply uU | apply uS | apply uT)); exact (uX (uV (p := ⟨gb253, 3, none⟩) (uV (p := ⟨gb253, 2, none⟩) (uV (p := ⟨gb253, 1, none⟩) (uV (p := ⟨gb253, 0, none⟩) (uW HO252.out BK253.out (by decide)) (fun _ hk => hk.2) (.int .i64 t247)) (fun _ hk => hk.2) (.int .i64 t248)) (fun _ hk => hk.2) (.bool t249)) (fun _ hk => hk.2) (.slice Ao84 t250.length co84)) (fun _ h_ => h_.1))) hb); replace BK245 := uD (blk_below (g := gb245) (o := .cells #[.int .i64 a0_0, .int .i64 a0_1, .bool a0_2, .slice A0_3 l0_3.length c0_3] 29 (0, 0)) (by exact ps BK245) hb); replace BK246 := uD (blk_below (g := gb246) (o := .cells #[.int .i64 0, .int .i64 0, .bool false, .slice none 0 0] 29 (0, 0)) (by exact ps BK246) hb); replace BK253 := uD (blk_below (g := gb253) (o := .cells #[.int .i64 t247, .int .i64 t248, .bool t249, .slice Ao84 t250.length co84] 29 (0, 0)) (by (with_reducible repeat first|apply uH|apply uJ|apply uG); refine uP (cs := #[.int .i64 t247, .int .i64 t248, .bool t249, .slice none 0 0]) ?_ 3 _ rfl; (with_reducible repeat first|apply uH|apply uJ|apply uG); refine uP (cs := #[.int .i64 t247, .int .i64 t248, .bool false, .slice none 0 0]) ?_ 2 _ rfl; (with_reducible repeat first|apply uH|apply uJ|apply uG); refine uP (cs := #[.int .i64 t247, .int .i64 0, .bool false, .slice none 0 0]) ?_ 1 _ rfl; (with_reducible repeat first|apply uH|apply uJ|apply uG); refine uP (cs := #[.int .i64 0, .int .i64 0, .bool false, .slice none 0 0]) ?_ 0 _ rfl; (with_reducible repeat first|apply uH|apply uJ|apply uG); exact BK253.out) hb); replace HB := uD (uO (pb HB) hb); (try clear hb); (try clear hb2); (try clear hk); (try clear hi); obtain ⟨hcz87_0, hcz87_1, hcz87_2, hcz87_3, hfz87_0, hfz87_1, hfz87_2, hfz87_3⟩ := cz4 BK245) | (go_at_call 50; (with_reducible refine (impl_isOn.calls _ _ l0_3 a1 false _ ?side1 ?side2 A22.out).mono ?_); (case side1 => exact pc (Kd.C_below HR0_3.out HB.out)); (case side2 => exact HC0_3.out); rintro e w88 ⟨rfl, hb⟩; replace HO252 := uD (Kd.R_below (pr HO252) hb); replace BK245 := uD (blk_below (pk BK245) hb); replace BK246 := uD (blk_below (pk BK246) hb); replace BK253 := uD (blk_below (pk BK253) hb); replace HB := uD (uO (pb HB) hb); (try clear hb); (try clear hb2); (try clear hk); (try clear hi); obtain ⟨hcz89_0, hcz89_1, hcz89_2, hcz89_3, hfz89_0, hfz89_1, hfz89_2, hfz89_3⟩ := cz4 BK245; obtain ⟨hcz90_0, hcz90_1, hcz90_2, hcz90_3, hfz90_0, hfz90_1, hfz90_2, hfz90_3⟩ := cz4 BK253; obtain ⟨hcz91_0, hcz91_1, hcz91_2, hcz91_3, hfz91_0, hfz91_1, hfz91_2, hfz91_3⟩ := cz4 BK246))
       refine bodyPost_ret (uR rfl _ _ gb246 29 #[.int .i64 t247, .int .i64 t248, .bool t249, .slice Ao84 t250.length co84] (0, 0) _ rfl (by (with_reducible repeat first|apply uH|apply uJ|apply uG); refine uP (cs := #[.int .i64 t247, .int .i64 t248, .bool t249, .slice none 0 0]) ?_ 3 _ rfl; (with_reducible repeat first|apply uH|apply uJ|apply uG); refine uP (cs := #[.int .i64 t247, .int .i64 t248, .bool false, .slice none 0 0]) ?_ 2 _ rfl; (with_reducible repeat first|apply uH|apply uJ|apply uG); refine uP (cs := #[.int .i64 t247, .int .i64 0, .bool false, .slice none 0 0]) ?_ 1 _ rfl; (with_reducible repeat first|apply uH|apply uJ|apply uG); refine uP (cs := #[.int .i64 0, .int .i64 0, .bool false, .slice none 0 0]) ?_ 0 _ rfl; (with_reducible repeat first|apply uH|apply uJ|apply uG); exact BK246.out) Try.underlying29 rfl (by kernel_rfl)) rfl ?_
       exact ⟨_, by first | rfl | (simp [errW_none, errW_some] <;> rfl) | (simp [*, errW_none, errW_some] <;> rfl), by (with_reducible repeat (first | apply uU | apply uS | apply uT)); exact uX (uV (p := ⟨gb246, 3, none⟩) (uV (p := ⟨gb246, 2, none⟩) (uV (p := ⟨gb246, 1, none⟩) (uV (p := ⟨gb246, 0, none⟩) (uW HO252.out BK246.out (by decide)) (fun _ hk => hk.2) (.int .i64 t247)) (fun _ hk => hk.2) (.int .i64 t248)) (fun _ hk => hk.2) (.bool t249)) (fun _ hk => hk.2) (.slice Ao84 t250.length co84)) (fun _ hk => trivial), pb HB⟩
      ·rw [if_neg c74] at H
       have c74b0 : decide (40 ≤ (l0_3.length : Int)) = false := decide_eq_false c74
       have c74b1 : decide (40 ≤ l0_3.length) = false := decide_eq_false (by omega)
       clear c74
       replace H := Option.bind_eq_some_iff.mp H
       obtain ⟨t256, A920, H⟩ := H
       replace H : (if a2 > t256 then (some (t247, t248, t249, t250, false)) else (if t250.length < 5864062014805 then (some (t247, t248, t249, (t250 ++ [(⟨a1, a2, a2⟩ : S53)]), true)) else (none))) = some (r1, r2, r3, r4, r5) := H
       have A92 := uD A920
       clear A920
       by_cases c93 : a2 > t256
       ·rw [if_pos c93] at H
        have c93b0 : decide (t256 < a2) = true := decide_eq_true c93
        clear c93
        simp only [Option.some.injEq, Prod.mk.injEq] at H
        obtain ⟨rfl, rfl, rfl, rfl, rfl⟩ := H
        go_enter Try.func31, Try.ntmps31
        go_wp2_with (first | ((with_reducible refine gate_dst (N := 3) rfl ?_); (try (refine gate_guard (by rfl) ?_; dsimp only)); refine bx 3 #[.int .i64 a0_0, .int .i64 a0_1, .bool a0_2, .slice A0_3 l0_3.length c0_3] 29 ?_; intro gb245 hg w94 hbox hb; have BK245 := uD (hbox); have GW245 := uD ((by rw [hg]; exact (uN (pb HB)) : w.heap.size ≤ gb245)); have GE245 := uD ((by rw [hg]; exact (uN (pb HB)) : w.heap.size ≤ gb245)); replace HB := uD (uO (pb HB) hb); clear hb hbox hg) | ((with_reducible refine gate_dst (N := 6) rfl ?_); (try (refine gate_guard (by rfl) ?_; dsimp only)); refine bx 6 #[.int .i64 0, .int .i64 0, .bool false, .slice none 0 0] 29 ?_; intro gb246 hg w95 hbox hb; have BK246 := uD (hbox); have GW246 := uD ((by rw [hg]; exact (uN (pb HB)) : w.heap.size ≤ gb246)); have GE246 := uD ((by rw [hg]; exact (uN (pb HB)) : w.heap.size ≤ gb246)); replace HB := uD (uO (pb HB) hb); have NB245_246 := uD ((by rw [hg]; exact Nat.ne_of_lt (blk_lt (pk BK245)) : gb245 ≠ gb246)); have NB246_245 := uD ((by rw [hg]; exact Nat.ne_of_gt (blk_lt (pk BK245)) : gb246 ≠ gb245)); replace BK245 := uD (blk_below (pk BK245) hb); clear hb hbox hg; have hnb96 := NB245_246.out; have hnc96 := NB246_245.out; obtain ⟨hcz97_0, hcz97_1, hcz97_2, hcz97_3, hfz97_0, hfz97_1, hfz97_2, hfz97_3⟩ := cz4 BK245) | ((with_reducible refine gate_callee (f := 54) rfl ?_); refine gl (some 10) Try.func54 #[.agg #[.int .i64 a0_0, .int .i64 a0_1, .bool a0_2, .slice A0_3 l0_3.length c0_3]] ?_; (with_reducible refine (impl_copyBelt.calls a0_0 a0_1 a0_2 _ _ l0_3 t247 t248 t249 t250 _ ?side1 ?side2 A4.out).mono ?_); (case side1 => exact pc (Kd.C_below HR0_3.out HB.out)); (case side2 => exact HC0_3.out); rintro e w98 ⟨v251, rfl, ho0, hb⟩; refine ⟨_, rfl, ?_⟩; have HO252 := uD (Kd.R_lower ho0 (uN (pb HB))); replace BK245 := uD (blk_below (pk BK245) hb); replace BK246 := uD (blk_below (pk BK246) hb); replace HB := uD (uO (pb HB) hb); (try clear hb); (try clear hb2); (try clear hk); (try clear hi); (try clear ho0)) | ((with_reducible refine gate_dst (N := 8) rfl ?_); (try (refine gate_guard (by rfl) ?_; dsimp only)); refine bx 8 #[.int .i64 0, .int .i64 0, .bool false, .slice none 0 0] 29 ?_; intro gb253 hg w99 hbox hb; replace HO252 := uD (Kd.R_below (pr HO252) hb); have BK253 := uD (hbox); have GW253 := uD ((by rw [hg]; exact (uN (pb HB)) : w.heap.size ≤ gb253)); have GE253 := uD ((by rw [hg]; exact (uN (pb HB)) : w.heap.size ≤ gb253)); replace HB := uD (uO (pb HB) hb); have NB245_253 := uD ((by rw [hg]; exact Nat.ne_of_lt (blk_lt (pk BK245)) : gb245 ≠ gb253)); have NB253_245 := uD ((by rw [hg]; exact Nat.ne_of_gt (blk_lt (pk BK245)) : gb253 ≠ gb245)); replace BK245 := uD (blk_below (pk BK245) hb); have NB246_253 := uD ((by rw [hg]; exact Nat.ne_of_lt (blk_lt (pk BK246)) : gb246 ≠ gb253)); have NB253_246 := uD ((by rw [hg]; exact Nat.ne_of_gt (blk_lt (pk BK246)) : gb253 ≠ gb246)); replace BK246 := uD (blk_below (pk BK246) hb); clear hb hbox hg; have hnb100 := NB253_245.out; have hnc100 := NB245_253.out; have hnb101 := NB253_246.out; have hnc101 := NB246_253.out; obtain ⟨hcz102_0, hcz102_1, hcz102_2, hcz102_3, hfz102_0, hfz102_1, hfz102_2, hfz102_3⟩ := cz4 BK253; obtain ⟨Ao103, co103, eo103⟩ := Kd.R_slice HO252.out; subst eo103; obtain ⟨hcz104_0, hcz104_1, hcz104_2, hcz104_3, hfz104_0, hfz104_1, hfz104_2, hfz104_3⟩ := cz4 BK245) | ((with_reducible refine gate_callee (f := 18) rfl ?_); refine gl (some 12) Try.func18 #[.agg #[.int .i64 a0_0, .int .i64 a0_1, .bool a0_2, .slice A0_3 l0_3.length c0_3]] ?_; (with_reducible refine (impl_BeltOk.calls k a0_0 a0_1 a0_2 _ _ l0_3 true _ ?side1 ?side2 A5.out).mono ?_); (case side1 => exact Kd.C_below HR0_3.out (pb HB)); (case side2 => exact HC0_3.out); rintro e w105 ⟨rfl, hb⟩; refine ⟨_, rfl, ?_⟩; replace HO252 := uD (Kd.R_below (by (with_reducible repeat (first | apply uU | apply uS | apply uT)); exact (uX (uV (p := ⟨gb253, 3, none⟩) (uV (p := ⟨gb253, 2, none⟩) (uV (p := ⟨gb253, 1, none⟩) (uV (p := ⟨gb253, 0, none⟩) (uW HO252.out BK253.out (by decide)) (fun _ hk => hk.2) (.int .i64 t247)) (fun _ hk => hk.2) (.int .i64 t248)) (fun _ hk => hk.2) (.bool t249)) (fun _ hk => hk.2) (.slice Ao103 t250.length co103)) (fun _ h_ => h_.1))) hb); replace BK245 := uD (blk_below (g := gb245) (o := .cells #[.int .i64 a0_0, .int .i64 a0_1, .bool a0_2, .slice A0_3 l0_3.length c0_3] 29 (0, 0)) (by exact ps BK245) hb); replace BK246 := uD (blk_below (g := gb246) (o := .cells #[.int .i64 0, .int .i64 0, .bool false, .slice none 0 0] 29 (0, 0)) (by exact ps BK246) hb); replace BK253 := uD (blk_below (g := gb253) (o := .cells #[.int .i64 t247, .int .i64 t248, .bool t249, .slice Ao103 t250.length co103] 29 (0, 0)) (by (with_reducible repeat first|apply uH|apply uJ|apply uG); refine uP (cs := #[.int .i64 t247, .int .i64 t248, .bool t249, .slice none 0 0]) ?_ 3 _ rfl; (with_reducible repeat first|apply uH|apply uJ|apply uG); refine uP (cs := #[.int .i64 t247, .int .i64 t248, .bool false, .slice none 0 0]) ?_ 2 _ rfl; (with_reducible repeat first|apply uH|apply uJ|apply uG); refine uP (cs := #[.int .i64 t247, .int .i64 0, .bool false, .slice none 0 0]) ?_ 1 _ rfl; (with_reducible repeat first|apply uH|apply uJ|apply uG); refine uP (cs := #[.int .i64 0, .int .i64 0, .bool false, .slice none 0 0]) ?_ 0 _ rfl; (with_reducible repeat first|apply uH|apply uJ|apply uG); exact BK253.out) hb); replace HB := uD (uO (pb HB) hb); (try clear hb); (try clear hb2); (try clear hk); (try clear hi); obtain ⟨hcz106_0, hcz106_1, hcz106_2, hcz106_3, hfz106_0, hfz106_1, hfz106_2, hfz106_3⟩ := cz4 BK245) | (go_at_call 50; (with_reducible refine (impl_isOn.calls _ _ l0_3 a1 false _ ?side1 ?side2 A22.out).mono ?_); (case side1 => exact pc (Kd.C_below HR0_3.out HB.out)); (case side2 => exact HC0_3.out); rintro e w107 ⟨rfl, hb⟩; replace HO252 := uD (Kd.R_below (pr HO252) hb); replace BK245 := uD (blk_below (pk BK245) hb); replace BK246 := uD (blk_below (pk BK246) hb); replace BK253 := uD (blk_below (pk BK253) hb); replace HB := uD (uO (pb HB) hb); (try clear hb); (try clear hb2); (try clear hk); (try clear hi); obtain ⟨hcz108_0, hcz108_1, hcz108_2, hcz108_3, hfz108_0, hfz108_1, hfz108_2, hfz108_3⟩ := cz4 BK245) | (go_at_call 21; (with_reducible refine (impl_FreeBehind.calls k a0_0 a0_1 a0_2 _ _ l0_3 t256 _ ?side1 ?side2 A92.out).mono ?_); (case side1 => exact pc (Kd.C_below HR0_3.out HB.out)); (case side2 => exact HC0_3.out); rintro e w109 ⟨rfl, hb⟩; replace HO252 := uD (Kd.R_below (pr HO252) hb); replace BK245 := uD (blk_below (pk BK245) hb); replace BK246 := uD (blk_below (pk BK246) hb); replace BK253 := uD (blk_below (pk BK253) hb); replace HB := uD (uO (pb HB) hb); (try clear hb); (try clear hb2); (try clear hk); (try clear hi); obtain ⟨hcz110_0, hcz110_1, hcz110_2, hcz110_3, hfz110_0, hfz110_1, hfz110_2, hfz110_3⟩ := cz4 BK253; obtain ⟨hcz111_0, hcz111_1, hcz111_2, hcz111_3, hfz111_0, hfz111_1, hfz111_2, hfz111_3⟩ := cz4 BK246))
        refine bodyPost_ret (uR rfl _ _ gb246 29 #[.int .i64 t247, .int .i64 t248, .bool t249, .slice Ao103 t250.length co103] (0, 0) _ rfl (by (with_reducible repeat first|apply uH|apply uJ|apply uG); refine uP (cs := #[.int .i64 t247, .int .i64 t248, .bool t249, .slice none 0 0]) ?_ 3 _ rfl; (with_reducible repeat first|apply uH|apply uJ|apply uG); refine uP (cs := #[.int .i64 t247, .int .i64 t248, .bool false, .slice none 0 0]) ?_ 2 _ rfl; (with_reducible repeat first|apply uH|apply uJ|apply uG); refine uP (cs := #[.int .i64 t247, .int .i64 0, .bool false, .slice none 0 0]) ?_ 1 _ rfl; (with_reducible repeat first|apply uH|apply uJ|apply uG); refine uP (cs := #[.int .i64 0, .int .i64 0, .bool false, .slice none 0 0]) ?_ 0 _ rfl; (with_reducible repeat first|apply uH|apply uJ|apply uG); exact BK246.out) Try.underlying29 rfl (by kernel_rfl)) rfl ?_
        exact ⟨_, by first | rfl | (simp [errW_none, errW_some] <;> rfl) | (simp [*, errW_none, errW_some] <;> rfl), by (with_reducible repeat (first | apply uU | apply uS | apply uT)); exact uX (uV (p := ⟨gb246, 3, none⟩) (uV (p := ⟨gb246, 2, none⟩) (uV (p := ⟨gb246, 1, none⟩) (uV (p := ⟨gb246, 0, none⟩) (uW HO252.out BK246.out (by decide)) (fun _ hk => hk.2) (.int .i64 t247)) (fun _ hk => hk.2) (.int .i64 t248)) (fun _ hk => hk.2) (.bool t249)) (fun _ hk => hk.2) (.slice Ao103 t250.length co103)) (fun _ hk => trivial), pb HB⟩
       ·rw [if_neg c93] at H
        have c93b0 : decide (t256 < a2) = false := decide_eq_false c93
        clear c93
        by_cases c112 : t250.length < 5864062014805
        ·rw [if_pos c112] at H
         have LMc112 := uD c112
         clear c112
         obtain ⟨y257, hy257⟩ : ∃ y_ : List (S53), y_ = (t250 ++ [(⟨a1, a2, a2⟩ : S53)]) := ⟨_, rfl⟩
         replace H : (some (t247, t248, t249, y257, true)) = some (r1, r2, r3, r4, r5) := by first | (rw [hy257]; with_reducible exact H) | (have H2_ := (Option.bind_some _ _).symm.trans H; rw [hy257]; with_reducible exact H2_) | (have H2_ := (Option.bind_some _ _).symm.trans H; with_reducible exact H2_) | with_reducible exact H | (rw [hy257]; exact H) | exact H
         have Ny257 := uD hy257
         clear hy257
         simp only [Option.some.injEq, Prod.mk.injEq] at H
         obtain ⟨rfl, rfl, rfl, rfl, rfl⟩ := H
         go_enter Try.func31, Try.ntmps31
         go_wp2_with (first | ((with_reducible refine gate_dst (N := 3) rfl ?_); (try (refine gate_guard (by rfl) ?_; dsimp only)); refine bx 3 #[.int .i64 a0_0, .int .i64 a0_1, .bool a0_2, .slice A0_3 l0_3.length c0_3] 29 ?_; intro gb245 hg w113 hbox hb; have BK245 := uD (hbox); have GW245 := uD ((by rw [hg]; exact (uN (pb HB)) : w.heap.size ≤ gb245)); have GE245 := uD ((by rw [hg]; exact (uN (pb HB)) : w.heap.size ≤ gb245)); replace HB := uD (uO (pb HB) hb); clear hb hbox hg) | ((with_reducible refine gate_dst (N := 6) rfl ?_); (try (refine gate_guard (by rfl) ?_; dsimp only)); refine bx 6 #[.int .i64 0, .int .i64 0, .bool false, .slice none 0 0] 29 ?_; intro gb246 hg w114 hbox hb; have BK246 := uD (hbox); have GW246 := uD ((by rw [hg]; exact (uN (pb HB)) : w.heap.size ≤ gb246)); have GE246 := uD ((by rw [hg]; exact (uN (pb HB)) : w.heap.size ≤ gb246)); replace HB := uD (uO (pb HB) hb); have NB245_246 := uD ((by rw [hg]; exact Nat.ne_of_lt (blk_lt (pk BK245)) : gb245 ≠ gb246)); have NB246_245 := uD ((by rw [hg]; exact Nat.ne_of_gt (blk_lt (pk BK245)) : gb246 ≠ gb245)); replace BK245 := uD (blk_below (pk BK245) hb); clear hb hbox hg; have hnb115 := NB245_246.out; have hnc115 := NB246_245.out; obtain ⟨hcz116_0, hcz116_1, hcz116_2, hcz116_3, hfz116_0, hfz116_1, hfz116_2, hfz116_3⟩ := cz4 BK245) | ((with_reducible refine gate_callee (f := 54) rfl ?_); refine gl (some 10) Try.func54 #[.agg #[.int .i64 a0_0, .int .i64 a0_1, .bool a0_2, .slice A0_3 l0_3.length c0_3]] ?_; (with_reducible refine (impl_copyBelt.calls a0_0 a0_1 a0_2 _ _ l0_3 t247 t248 t249 t250 _ ?side1 ?side2 A4.out).mono ?_); (case side1 => exact pc (Kd.C_below HR0_3.out HB.out)); (case side2 => exact HC0_3.out); rintro e w117 ⟨v251, rfl, ho0, hb⟩; refine ⟨_, rfl, ?_⟩; have HO252 := uD (Kd.R_lower ho0 (uN (pb HB))); replace BK245 := uD (blk_below (pk BK245) hb); replace BK246 := uD (blk_below (pk BK246) hb); replace HB := uD (uO (pb HB) hb); (try clear hb); (try clear hb2); (try clear hk); (try clear hi); (try clear ho0)) | ((with_reducible refine gate_dst (N := 8) rfl ?_); (try (refine gate_guard (by rfl) ?_; dsimp only)); refine bx 8 #[.int .i64 0, .int .i64 0, .bool false, .slice none 0 0] 29 ?_; intro gb253 hg w118 hbox hb; replace HO252 := uD (Kd.R_below (pr HO252) hb); have BK253 := uD (hbox); have GW253 := uD ((by rw [hg]; exact (uN (pb HB)) : w.heap.size ≤ gb253)); have GE253 := uD ((by rw [hg]; exact (uN (pb HB)) : w.heap.size ≤ gb253)); replace HB := uD (uO (pb HB) hb); have NB245_253 := uD ((by rw [hg]; exact Nat.ne_of_lt (blk_lt (pk BK245)) : gb245 ≠ gb253)); have NB253_245 := uD ((by rw [hg]; exact Nat.ne_of_gt (blk_lt (pk BK245)) : gb253 ≠ gb245)); replace BK245 := uD (blk_below (pk BK245) hb); have NB246_253 := uD ((by rw [hg]; exact Nat.ne_of_lt (blk_lt (pk BK246)) : gb246 ≠ gb253)); have NB253_246 := uD ((by rw [hg]; exact Nat.ne_of_gt (blk_lt (pk BK246)) : gb253 ≠ gb246)); replace BK246 := uD (blk_below (pk BK246) hb); clear hb hbox hg; have hnb119 := NB253_245.out; have hnc119 := NB245_253.out; have hnb120 := NB253_246.out; have hnc120 := NB246_253.out; obtain ⟨hcz121_0, hcz121_1, hcz121_2, hcz121_3, hfz121_0, hfz121_1, hfz121_2, hfz121_3⟩ := cz4 BK253; obtain ⟨Ao122, co122, eo122⟩ := Kd.R_slice HO252.out; subst eo122; obtain ⟨hcz123_0, hcz123_1, hcz123_2, hcz123_3, hfz123_0, hfz123_1, hfz123_2, hfz123_3⟩ := cz4 BK245) | ((with_reducible refine gate_callee (f := 18) rfl ?_); refine gl (some 12) Try.func18 #[.agg #[.int .i64 a0_0, .int .i64 a0_1, .bool a0_2, .slice A0_3 l0_3.length c0_3]] ?_; (with_reducible refine (impl_BeltOk.calls k a0_0 a0_1 a0_2 _ _ l0_3 true _ ?side1 ?side2 A5.out).mono ?_); (case side1 => exact Kd.C_below HR0_3.out (pb HB)); (case side2 => exact HC0_3.out); rintro e w124 ⟨rfl, hb⟩; refine ⟨_, rfl, ?_⟩; replace HO252 := uD (Kd.R_below (by (with_reducible repeat (first | apply uU | apply uS | apply uT)); exact (uX (uV (p := ⟨gb253, 3, none⟩) (uV (p := ⟨gb253, 2, none⟩) (uV (p := ⟨gb253, 1, none⟩) (uV (p := ⟨gb253, 0, none⟩) (uW HO252.out BK253.out (by decide)) (fun _ hk => hk.2) (.int .i64 t247)) (fun _ hk => hk.2) (.int .i64 t248)) (fun _ hk => hk.2) (.bool t249)) (fun _ hk => hk.2) (.slice Ao122 t250.length co122)) (fun _ h_ => h_.1))) hb); replace BK245 := uD (blk_below (g := gb245) (o := .cells #[.int .i64 a0_0, .int .i64 a0_1, .bool a0_2, .slice A0_3 l0_3.length c0_3] 29 (0, 0)) (by exact ps BK245) hb); replace BK246 := uD (blk_below (g := gb246) (o := .cells #[.int .i64 0, .int .i64 0, .bool false, .slice none 0 0] 29 (0, 0)) (by exact ps BK246) hb); replace BK253 := uD (blk_below (g := gb253) (o := .cells #[.int .i64 t247, .int .i64 t248, .bool t249, .slice Ao122 t250.length co122] 29 (0, 0)) (by (with_reducible repeat first|apply uH|apply uJ|apply uG); refine uP (cs := #[.int .i64 t247, .int .i64 t248, .bool t249, .slice none 0 0]) ?_ 3 _ rfl; (with_reducible repeat first|apply uH|apply uJ|apply uG); refine uP (cs := #[.int .i64 t247, .int .i64 t248, .bool false, .slice none 0 0]) ?_ 2 _ rfl; (with_reducible repeat first|apply uH|apply uJ|apply uG); refine uP (cs := #[.int .i64 t247, .int .i64 0, .bool false, .slice none 0 0]) ?_ 1 _ rfl; (with_reducible repeat first|apply uH|apply uJ|apply uG); refine uP (cs := #[.int .i64 0, .int .i64 0, .bool false, .slice none 0 0]) ?_ 0 _ rfl; (with_reducible repeat first|apply uH|apply uJ|apply uG); exact BK253.out) hb); replace HB := uD (uO (pb HB) hb); (try clear hb); (try clear hb2); (try clear hk); (try clear hi); obtain ⟨hcz125_0, hcz125_1, hcz125_2, hcz125_3, hfz125_0, hfz125_1, hfz125_2, hfz125_3⟩ := cz4 BK245) | (go_at_call 50; (with_reducible refine (impl_isOn.calls _ _ l0_3 a1 false _ ?side1 ?side2 A22.out).mono ?_); (case side1 => exact pc (Kd.C_below HR0_3.out HB.out)); (case side2 => exact HC0_3.out); rintro e w126 ⟨rfl, hb⟩; replace HO252 := uD (Kd.R_below (pr HO252) hb); replace BK245 := uD (blk_below (pk BK245) hb); replace BK246 := uD (blk_below (pk BK246) hb); replace BK253 := uD (blk_below (pk BK253) hb); replace HB := uD (uO (pb HB) hb); (try clear hb); (try clear hb2); (try clear hk); (try clear hi); obtain ⟨hcz127_0, hcz127_1, hcz127_2, hcz127_3, hfz127_0, hfz127_1, hfz127_2, hfz127_3⟩ := cz4 BK245) | (go_at_call 21; (with_reducible refine (impl_FreeBehind.calls k a0_0 a0_1 a0_2 _ _ l0_3 t256 _ ?side1 ?side2 A92.out).mono ?_); (case side1 => exact pc (Kd.C_below HR0_3.out HB.out)); (case side2 => exact HC0_3.out); rintro e w128 ⟨rfl, hb⟩; replace HO252 := uD (Kd.R_below (pr HO252) hb); replace BK245 := uD (blk_below (pk BK245) hb); replace BK246 := uD (blk_below (pk BK246) hb); replace BK253 := uD (blk_below (pk BK253) hb); replace HB := uD (uO (pb HB) hb); (try clear hb); (try clear hb2); (try clear hk); (try clear hi); obtain ⟨hcz129_0, hcz129_1, hcz129_2, hcz129_3, hfz129_0, hfz129_1, hfz129_2, hfz129_3⟩ := cz4 BK253) | ((with_reducible refine gate_builtin (b := .append) (xs := #[.tmp 46, .tmp 51]) rfl ?_); (try (refine gate_guard (by rfl) ?_; dsimp only)); at_builtin; refine Kd.R_append k53 (w0 := w) w.heap.size rfl (.tmp 46) (.tmp 51) 27 53 (.agg #[(.int .i64 0), (.int .i64 0), (.int .i64 0)]) 24 rfl Try.underlying27 info53 rfl (by decide) (by omega) (.slice Ao122 t250.length co122) t250 (⟨a1, a2, a2⟩ : S53) [.int .i64 a1, .int .i64 a2, .int .i64 a2] (fun _ => True) (fun _ => False) rfl rfl ?aP (fun _ hk => hk.elim) ?aF ?aO ?aB ?aS ?aL ?_; (case aP => exact k53_mkM _ _ _ (⟨a1, a2, a2⟩ : S53)); (case aB => exact (pb HB)); (case aF => exact (fun _ _ => trivial)); (case aO => exact (pr HO252)); (case aS => exact (uN (pb HB))); (case aL => have := LMc112.out; omega); intro v258 w130 ho hb hg hat; rw [← Ny257.out] at ho; replace BK245 := uD (blk_grown (pk BK245) hg (Kd.R_ne HO252.out BK245.out (by decide))); replace BK246 := uD (blk_grown (pk BK246) hg (Kd.R_ne HO252.out BK246.out (by decide))); replace BK253 := uD (blk_grown (pk BK253) hg (Kd.R_ne HO252.out BK253.out (by decide))); replace HB := uD (hb); have HO259 := uD (ho); clear HO252; clear ho hb hg hat; obtain ⟨Ao131, co131, eo131⟩ := Kd.R_slice HO259.out; subst eo131; obtain ⟨hcz132_0, hcz132_1, hcz132_2, hcz132_3, hfz132_0, hfz132_1, hfz132_2, hfz132_3⟩ := cz4 BK253; obtain ⟨hcz133_0, hcz133_1, hcz133_2, hcz133_3, hfz133_0, hfz133_1, hfz133_2, hfz133_3⟩ := cz4 BK246))
         refine bodyPost_ret (uR rfl _ _ gb246 29 #[.int .i64 t247, .int .i64 t248, .bool t249, .slice Ao131 y257.length co131] (0, 0) _ rfl (by (with_reducible repeat first|apply uH|apply uJ|apply uG); refine uP (cs := #[.int .i64 t247, .int .i64 t248, .bool t249, .slice none 0 0]) ?_ 3 _ rfl; (with_reducible repeat first|apply uH|apply uJ|apply uG); refine uP (cs := #[.int .i64 t247, .int .i64 t248, .bool false, .slice none 0 0]) ?_ 2 _ rfl; (with_reducible repeat first|apply uH|apply uJ|apply uG); refine uP (cs := #[.int .i64 t247, .int .i64 0, .bool false, .slice none 0 0]) ?_ 1 _ rfl; (with_reducible repeat first|apply uH|apply uJ|apply uG); refine uP (cs := #[.int .i64 0, .int .i64 0, .bool false, .slice none 0 0]) ?_ 0 _ rfl; exact ps BK246) Try.underlying29 rfl (by kernel_rfl)) rfl ?_
         exact ⟨_, by first | rfl | (simp [errW_none, errW_some] <;> rfl) | (simp [*, errW_none, errW_some] <;> rfl), by (with_reducible repeat (first | apply uU | apply uS | apply uT)); exact uX (uV (p := ⟨gb246, 3, none⟩) (uV (p := ⟨gb246, 2, none⟩) (uV (p := ⟨gb246, 1, none⟩) (uV (p := ⟨gb246, 0, none⟩) (uV (p := ⟨gb253, 3, none⟩) (uW (uW HO259.out BK253.out (by decide)) BK246.out (by decide)) (fun _ hk => hk.1.2) (.slice Ao131 y257.length co131)) (fun _ hk => hk.2) (.int .i64 t247)) (fun _ hk => hk.2) (.int .i64 t248)) (fun _ hk => hk.2) (.bool t249)) (fun _ hk => hk.2) (.slice Ao131 y257.length co131)) (fun _ hk => trivial), pb HB⟩
        ·rw [if_neg c112] at H
         exact absurd H (by simp)
 ·replace c6 := Bool.eq_false_iff.mpr c6
  subst c6
  have H1 : (some (t247, t248, t249, t250, false)) = some (r1, r2, r3, r4, r5) := by rw [if_neg (show ¬ (false = true) by decide)] at H; first | done | exact H
  clear H
  have H := H1
  clear H1
  simp only [Option.some.injEq, Prod.mk.injEq] at H
  obtain ⟨rfl, rfl, rfl, rfl, rfl⟩ := H
  go_enter Try.func31, Try.ntmps31
  go_wp2_with (first | ((with_reducible refine gate_dst (N := 3) rfl ?_); (try (refine gate_guard (by rfl) ?_; dsimp only)); refine bx 3 #[.int .i64 a0_0, .int .i64 a0_1, .bool a0_2, .slice A0_3 l0_3.length c0_3] 29 ?_; intro gb245 hg w134 hbox hb; have BK245 := uD (hbox); have GW245 := uD ((by rw [hg]; exact (uN (pb HB)) : w.heap.size ≤ gb245)); have GE245 := uD ((by rw [hg]; exact (uN (pb HB)) : w.heap.size ≤ gb245)); replace HB := uD (uO (pb HB) hb); clear hb hbox hg) | ((with_reducible refine gate_dst (N := 6) rfl ?_); (try (refine gate_guard (by rfl) ?_; dsimp only)); refine bx 6 #[.int .i64 0, .int .i64 0, .bool false, .slice none 0 0] 29 ?_; intro gb246 hg w135 hbox hb; have BK246 := uD (hbox); have GW246 := uD ((by rw [hg]; exact (uN (pb HB)) : w.heap.size ≤ gb246)); have GE246 := uD ((by rw [hg]; exact (uN (pb HB)) : w.heap.size ≤ gb246)); replace HB := uD (uO (pb HB) hb); have NB245_246 := uD ((by rw [hg]; exact Nat.ne_of_lt (blk_lt (pk BK245)) : gb245 ≠ gb246)); have NB246_245 := uD ((by rw [hg]; exact Nat.ne_of_gt (blk_lt (pk BK245)) : gb246 ≠ gb245)); replace BK245 := uD (blk_below (pk BK245) hb); clear hb hbox hg; have hnb136 := NB245_246.out; have hnc136 := NB246_245.out; obtain ⟨hcz137_0, hcz137_1, hcz137_2, hcz137_3, hfz137_0, hfz137_1, hfz137_2, hfz137_3⟩ := cz4 BK245) | ((with_reducible refine gate_callee (f := 54) rfl ?_); refine gl (some 10) Try.func54 #[.agg #[.int .i64 a0_0, .int .i64 a0_1, .bool a0_2, .slice A0_3 l0_3.length c0_3]] ?_; (with_reducible refine (impl_copyBelt.calls a0_0 a0_1 a0_2 _ _ l0_3 t247 t248 t249 t250 _ ?side1 ?side2 A4.out).mono ?_); (case side1 => exact pc (Kd.C_below HR0_3.out HB.out)); (case side2 => exact HC0_3.out); rintro e w138 ⟨v251, rfl, ho0, hb⟩; refine ⟨_, rfl, ?_⟩; have HO252 := uD (Kd.R_lower ho0 (uN (pb HB))); replace BK245 := uD (blk_below (pk BK245) hb); replace BK246 := uD (blk_below (pk BK246) hb); replace HB := uD (uO (pb HB) hb); (try clear hb); (try clear hb2); (try clear hk); (try clear hi); (try clear ho0)) | ((with_reducible refine gate_dst (N := 8) rfl ?_); (try (refine gate_guard (by rfl) ?_; dsimp only)); refine bx 8 #[.int .i64 0, .int .i64 0, .bool false, .slice none 0 0] 29 ?_; intro gb253 hg w139 hbox hb; replace HO252 := uD (Kd.R_below (pr HO252) hb); have BK253 := uD (hbox); have GW253 := uD ((by rw [hg]; exact (uN (pb HB)) : w.heap.size ≤ gb253)); have GE253 := uD ((by rw [hg]; exact (uN (pb HB)) : w.heap.size ≤ gb253)); replace HB := uD (uO (pb HB) hb); have NB245_253 := uD ((by rw [hg]; exact Nat.ne_of_lt (blk_lt (pk BK245)) : gb245 ≠ gb253)); have NB253_245 := uD ((by rw [hg]; exact Nat.ne_of_gt (blk_lt (pk BK245)) : gb253 ≠ gb245)); replace BK245 := uD (blk_below (pk BK245) hb); have NB246_253 := uD ((by rw [hg]; exact Nat.ne_of_lt (blk_lt (pk BK246)) : gb246 ≠ gb253)); have NB253_246 := uD ((by rw [hg]; exact Nat.ne_of_gt (blk_lt (pk BK246)) : gb253 ≠ gb246)); replace BK246 := uD (blk_below (pk BK246) hb); clear hb hbox hg; have hnb140 := NB253_245.out; have hnc140 := NB245_253.out; have hnb141 := NB253_246.out; have hnc141 := NB246_253.out; obtain ⟨hcz142_0, hcz142_1, hcz142_2, hcz142_3, hfz142_0, hfz142_1, hfz142_2, hfz142_3⟩ := cz4 BK253; obtain ⟨Ao143, co143, eo143⟩ := Kd.R_slice HO252.out; subst eo143; obtain ⟨hcz144_0, hcz144_1, hcz144_2, hcz144_3, hfz144_0, hfz144_1, hfz144_2, hfz144_3⟩ := cz4 BK245) | ((with_reducible refine gate_callee (f := 18) rfl ?_); refine gl (some 12) Try.func18 #[.agg #[.int .i64 a0_0, .int .i64 a0_1, .bool a0_2, .slice A0_3 l0_3.length c0_3]] ?_; (with_reducible refine (impl_BeltOk.calls k a0_0 a0_1 a0_2 _ _ l0_3 false _ ?side1 ?side2 A5.out).mono ?_); (case side1 => exact Kd.C_below HR0_3.out (pb HB)); (case side2 => exact HC0_3.out); rintro e w145 ⟨rfl, hb⟩; refine ⟨_, rfl, ?_⟩; replace HO252 := uD (Kd.R_below (by (with_reducible repeat (first | apply uU | apply uS | apply uT)); exact (uX (uV (p := ⟨gb253, 3, none⟩) (uV (p := ⟨gb253, 2, none⟩) (uV (p := ⟨gb253, 1, none⟩) (uV (p := ⟨gb253, 0, none⟩) (uW HO252.out BK253.out (by decide)) (fun _ hk => hk.2) (.int .i64 t247)) (fun _ hk => hk.2) (.int .i64 t248)) (fun _ hk => hk.2) (.bool t249)) (fun _ hk => hk.2) (.slice Ao143 t250.length co143)) (fun _ h_ => h_.1))) hb); replace BK245 := uD (blk_below (g := gb245) (o := .cells #[.int .i64 a0_0, .int .i64 a0_1, .bool a0_2, .slice A0_3 l0_3.length c0_3] 29 (0, 0)) (by exact ps BK245) hb); replace BK246 := uD (blk_below (g := gb246) (o := .cells #[.int .i64 0, .int .i64 0, .bool false, .slice none 0 0] 29 (0, 0)) (by exact ps BK246) hb); replace BK253 := uD (blk_below (g := gb253) (o := .cells #[.int .i64 t247, .int .i64 t248, .bool t249, .slice Ao143 t250.length co143] 29 (0, 0)) (by (with_reducible repeat first|apply uH|apply uJ|apply uG); refine uP (cs := #[.int .i64 t247, .int .i64 t248, .bool t249, .slice none 0 0]) ?_ 3 _ rfl; (with_reducible repeat first|apply uH|apply uJ|apply uG); refine uP (cs := #[.int .i64 t247, .int .i64 t248, .bool false, .slice none 0 0]) ?_ 2 _ rfl; (with_reducible repeat first|apply uH|apply uJ|apply uG); refine uP (cs := #[.int .i64 t247, .int .i64 0, .bool false, .slice none 0 0]) ?_ 1 _ rfl; (with_reducible repeat first|apply uH|apply uJ|apply uG); refine uP (cs := #[.int .i64 0, .int .i64 0, .bool false, .slice none 0 0]) ?_ 0 _ rfl; (with_reducible repeat first|apply uH|apply uJ|apply uG); exact BK253.out) hb); replace HB := uD (uO (pb HB) hb); (try clear hb); (try clear hb2); (try clear hk); (try clear hi); obtain ⟨hcz146_0, hcz146_1, hcz146_2, hcz146_3, hfz146_0, hfz146_1, hfz146_2, hfz146_3⟩ := cz4 BK253; obtain ⟨hcz147_0, hcz147_1, hcz147_2, hcz147_3, hfz147_0, hfz147_1, hfz147_2, hfz147_3⟩ := cz4 BK246))
  refine bodyPost_ret (uR rfl _ _ gb246 29 #[.int .i64 t247, .int .i64 t248, .bool t249, .slice Ao143 t250.length co143] (0, 0) _ rfl (by (with_reducible repeat first|apply uH|apply uJ|apply uG); refine uP (cs := #[.int .i64 t247, .int .i64 t248, .bool t249, .slice none 0 0]) ?_ 3 _ rfl; (with_reducible repeat first|apply uH|apply uJ|apply uG); refine uP (cs := #[.int .i64 t247, .int .i64 t248, .bool false, .slice none 0 0]) ?_ 2 _ rfl; (with_reducible repeat first|apply uH|apply uJ|apply uG); refine uP (cs := #[.int .i64 t247, .int .i64 0, .bool false, .slice none 0 0]) ?_ 1 _ rfl; (with_reducible repeat first|apply uH|apply uJ|apply uG); refine uP (cs := #[.int .i64 0, .int .i64 0, .bool false, .slice none 0 0]) ?_ 0 _ rfl; (with_reducible repeat first|apply uH|apply uJ|apply uG); exact BK246.out) Try.underlying29 rfl (by kernel_rfl)) rfl ?_
  exact ⟨_, by first | rfl | (simp [errW_none, errW_some] <;> rfl) | (simp [*, errW_none, errW_some] <;> rfl), by (with_reducible repeat (first | apply uU | apply uS | apply uT)); exact uX (uV (p := ⟨gb246, 3, none⟩) (uV (p := ⟨gb246, 2, none⟩) (uV (p := ⟨gb246, 1, none⟩) (uV (p := ⟨gb246, 0, none⟩) (uW HO252.out BK246.out (by decide)) (fun _ hk => hk.2) (.int .i64 t247)) (fun _ hk => hk.2) (.int .i64 t248)) (fun _ hk => hk.2) (.bool t249)) (fun _ hk => hk.2) (.slice Ao143 t250.length co143)) (fun _ hk => trivial), pb HB⟩

end Go.Proofs.Ytbdjbdoelbmjcaa.PFnBeltEnters
