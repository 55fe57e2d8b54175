-- Written by a program of this session (wip/myprint.py: the kit's print with changes): not by print.sh itself.
import Derived.Test.YtbdjbdoelbmjcaaPFnExactRunx0
namespace Go.Proofs.Ytbdjbdoelbmjcaa.PFnExactRun
open Go.RowKit Go.Proofs.YtbdjbdoelbmjcaaW.PrintWords Go.Proofs.YtbdjbdoelbmjcaaW.PrintLast Go.Proofs.YtbdjbdoelbmjcaaW.PrintMore
open Go.Proofs.YtbdjbdoelbmjcaaW.PrintWords renaming Aside0.mk → uD, blk_alloc → uG, blk_drewN → uH, blk_drew → uJ, below_size → uN, below_step → uO, blk_put → uP, blk_far → uQ, Kd.R_drewN → uS, Kd.R_drew → uT, Kd.R_alloc → uU, Kd.R_far → uV, Kd.R_types → uW, Kd.R_mono → uX
attribute [local go_sem] max2_int min2_int max_two min_two max_three min_three max_four min_four   -- for this text's walks alone
set_option linter.unusedVariables false
set_option linter.unusedSimpArgs false

/-! ### slices_Clone: function 72 -/
def slices_Clone.f (l0 : List S53) : Option (List S53) := if l0.length < 5864062014805 then some l0 else none
set_option maxHeartbeats 1000000 in
theorem slices_Clone.calls (A0 : Option Addr) (c0 : Nat) (l0 : List S53) (r : List S53) (w : World) (hr0 : Kd.C k53 w A0 l0.length l0) (hc0 : l0.length ≤ c0) (h : slices_Clone.f l0 = some r) :
    Calls Try.prog 72 #[.slice A0 l0.length c0] w fun e w' => ∃ v0_ : Value, e = .returned (v0_) ∧ Kd.R k53 53 w' w.heap.size (fun _ => True) v0_ r ∧ Below w.heap.size w w' := by
  have hinfo : (Try.prog.info? 53).map (fun i => (i.zero, i.size, i.bytes)) = some (some (.agg #[(.int .i64 0), (.int .i64 0), (.int .i64 0)]), 3, 24) := by kernel_rfl
  unfold slices_Clone.f at h
  by_cases hlim : l0.length < 5864062014805
  · rw [if_pos hlim] at h
    obtain rfl := Option.some.inj h
    clear h
    have HR := Aside0.mk hr0
    have LM := Aside0.mk hlim
    have HI := Aside0.mk hinfo
    have HB := Aside0.mk (Below.refl w.heap.size w)
    have hnil := fun W => Lib.run_eql_slice_nil (P := Try.prog) W 27 53 A0 l0.length c0 0 0 Try.underlying27
    clear hinfo hlim hc0
    cases A0 with
    | none =>
      have h0 : l0 = [] := by
        cases l0 with
        | nil => rfl
        | cons x l =>
          obtain ⟨ad, e, _⟩ := hr0.2.2 (by simp)
          cases e
      subst h0
      have hn : ∀ W, (binOp .eql 27 (.slice none 0 c0) (.slice none 0 0)).run Try.prog W = .ok (.bool true) W := fun W => (hnil W).trans (by rfl)
      clear hr0 hnil
      go_enter Try.func72, Try.ntmps72
      go_wp2
      go_ret
      exact ⟨_, rfl, Kd.R_nil _ _ _ _ _, HB.out⟩
    | some ad =>
      clear hr0
      go_enter Try.func72, Try.ntmps72
      go_wp2_with (first
        | ((with_reducible refine gate_dst (N := 5) rfl ?_); refine Kd.R_lit k53 _ 53 ?hg (N := 5) ?hd (xs := ([] : List S53)) (inner := []) (ok := fun _ => True) (okp := fun _ => True) ?hr ?hp (fun _ hk => hk) trivial (Below.refl _ _) (Nat.le_refl _) (by simp) ?_; (case hd => rfl); (case hg => rfl); (case hr => first | (go_simp; done) | (go_simp; rfl)); (case hp => exact (Reps.none _ _)); intro v5 w5 ho5 hb hg_ hnew_; clear hg_ hnew_; have n0_ := Aside0.mk ho5; have n1_ := Aside0.mk hb; clear ho5 hb; have HO5 := n0_; have HB5 := n1_; clear n0_ n1_)
        | ((with_reducible refine gate_builtin (b := .append) (xs := #[.tmp 5, .tmp 6]) rfl ?_); at_builtin; refine Kd.R_append_rows k53 (w0 := w) w.heap.size rfl (.tmp 5) (.tmp 6) 27 53 (.agg #[(.int .i64 0), (.int .i64 0), (.int .i64 0)]) 24 rfl Try.underlying27 HI.out rfl (by decide) (by omega) v5 ([] : List S53) l0 _ _ _ (fun _ => True) (fun _ => False) rfl rfl ?aO ?aR (fun _ _ h => h) (fun _ h => h.elim) ?aF ?aB ?aS ?aL ?_; (case aR => exact Kd.C_below HR.out HB5.out); (case aB => exact HB5.out); (case aF => exact (fun _ _ => trivial)); (case aO => exact HO5.out); (case aS => exact below_size HB5.out); (case aL => have := LM.out; simp; omega); intro v6 w6 ho hb hg hat; clear hg hat; have n0_ := Aside0.mk ho; have n1_ := Aside0.mk hb; clear ho hb; have HO6 := n0_; have HB6 := n1_; clear n0_ n1_; obtain ⟨Ao, co, eo⟩ := Kd.R_slice HO6.out; subst eo))
      go_ret
      exact ⟨_, rfl, HO6.out, HB6.out⟩
  · rw [if_neg hlim] at h
    cases h

/-! ### impl_copyBelt: function 54 -/
def impl_copyBelt.f (a0_0 : Int) (a0_1 : Int) (a0_2 : Bool) (l0_3 : List (S53)) : Option (Int × Int × Bool × (List (S53))) := (slices_Clone.f l0_3).bind fun t241 => (some (a0_0, a0_1, a0_2, t241))
set_option maxHeartbeats 8000000 in
set_option maxRecDepth 100000 in
theorem impl_copyBelt.calls (a0_0 : Int) (a0_1 : Int) (a0_2 : Bool) (A0_3 : Option Addr) (c0_3 : Nat) (l0_3 : List (S53)) (r1 : Int) (r2 : Int) (r3 : Bool) (r4 : List (S53)) (w : World) (hr0_3 : Kd.C k53 w A0_3 l0_3.length l0_3) (hc0_3 : l0_3.length ≤ c0_3) (h : impl_copyBelt.f a0_0 a0_1 a0_2 l0_3 = some (r1, r2, r3, r4)) :
  Calls Try.prog 54 #[.agg #[.int .i64 a0_0, .int .i64 a0_1, .bool a0_2, .slice A0_3 l0_3.length c0_3]] w fun e w' => ∃ v3_ : Value, e = .returned (.agg #[.int .i64 r1, .int .i64 r2, .bool r3, v3_]) ∧ Kd.R k53 53 w' w.heap.size (fun _ => True) v3_ r4 ∧ Below w.heap.size w w' := by
 have hu29 := Try.underlying29
 have HR0_3 := uD hr0_3
 have HC0_3 := uD hc0_3
 clear hr0_3 hc0_3
 have HB := uD (Below.refl w.heap.size w)
 have H : ((slices_Clone.f l0_3).bind fun t241 => (some (a0_0, a0_1, a0_2, t241))) = some (r1, r2, r3, r4) := h
 clear h
 replace H := Option.bind_eq_some_iff.mp H
 obtain ⟨t241, A20, H⟩ := H
 replace H : (some (a0_0, a0_1, a0_2, t241)) = some (r1, r2, r3, r4) := H
 have A2 := uD A20
 clear A20
 simp only [Option.some.injEq, Prod.mk.injEq] at H
 obtain ⟨rfl, rfl, rfl, rfl⟩ := H
 go_enter Try.func54, Try.ntmps54
 go_wp2_with (first | ((with_reducible refine gate_dst (N := 1) rfl ?_); refine box_event ?hg (N := 1) ?hd (cs := #[.int .i64 a0_0, .int .i64 a0_1, .bool a0_2, .slice A0_3 l0_3.length c0_3]) (t := 29) ?hr ?_; (case hd => rfl); (case hg => rfl); (case hr => first | (go_simp; done) | (go_simp; rfl)); intro gb239 hg w3 hbox hb; have BK239 := uD (hbox); have GW239 := uD ((by rw [hg]; exact (uN (pb HB)) : w.heap.size ≤ gb239)); have GE239 := uD ((by rw [hg]; exact (uN (pb HB)) : w.heap.size ≤ gb239)); replace HB := uD (uO (pb HB) hb); clear hb hbox hg) | ((with_reducible refine gate_dst (N := 2) rfl ?_); refine box_event ?hg (N := 2) ?hd (cs := #[.int .i64 0, .int .i64 0, .bool false, .slice none 0 0]) (t := 29) ?hr ?_; (case hd => rfl); (case hg => rfl); (case hr => first | (go_simp; done) | (go_simp; rfl)); intro gb240 hg w4 hbox hb; have BK240 := uD (hbox); have GW240 := uD ((by rw [hg]; exact (uN (pb HB)) : w.heap.size ≤ gb240)); have GE240 := uD ((by rw [hg]; exact (uN (pb HB)) : w.heap.size ≤ gb240)); replace HB := uD (uO (pb HB) hb); have NB239_240 := uD ((by rw [hg]; exact Nat.ne_of_lt (blk_lt (g := gb239) (o := .cells #[.int .i64 a0_0, .int .i64 a0_1, .bool a0_2, .slice A0_3 l0_3.length c0_3] 29 (0, 0)) (pk BK239)) : gb239 ≠ gb240)); have NB240_239 := uD ((by rw [hg]; exact Nat.ne_of_gt (blk_lt (g := gb239) (o := .cells #[.int .i64 a0_0, .int .i64 a0_1, .bool a0_2, .slice A0_3 l0_3.length c0_3] 29 (0, 0)) (pk BK239)) : gb240 ≠ gb239)); replace BK239 := uD (blk_below (pk BK239) hb); clear hb hbox hg; have hnb5 := NB239_240.out; have hnc5 := NB240_239.out; obtain ⟨hcz6_0, hcz6_1, hcz6_2, hcz6_3, hfz6_0, hfz6_1, hfz6_2, hfz6_3⟩ := cz4 BK239) | ((with_reducible refine gate_callee (f := 72) rfl ?_); refine goesL_ (some 5) rfl rfl Try.func72 (by kernel_rfl) rfl #[.slice A0_3 l0_3.length c0_3] rfl (by (try simp only [List.map_toArray, List.map_cons, List.map_nil]); first | done | rfl | (simp only [List.length_drop, List.length_take]; rfl)) ?_; (with_reducible refine (slices_Clone.calls _ _ l0_3 t241 _ ?side1 ?side2 A2.out).mono ?_); (case side1 => repeat (first | exact (Kd.C_below HR0_3.out HB.out) | (with_reducible refine Kd.C_alloc ?_ _) | (with_reducible refine Kd.C_drewN ?_ _) | (with_reducible refine Kd.C_drew ?_))); (case side2 => exact HC0_3.out); rintro e w7 ⟨v242, rfl, ho0, hb⟩; refine ⟨_, rfl, ?_⟩; have HO243 := uD (Kd.R_lower ho0 (uN (pb HB))); replace BK239 := uD (blk_below (pk BK239) hb); replace BK240 := uD (blk_below (pk BK240) hb); replace HB := uD (uO (pb HB) hb); (try clear hb); (try clear hb2); (try clear hk); (try clear hi); (try clear ho0); obtain ⟨Ao8, co8, eo8⟩ := Kd.R_slice HO243.out; subst eo8; obtain ⟨hcz9_0, hcz9_1, hcz9_2, hcz9_3, hfz9_0, hfz9_1, hfz9_2, hfz9_3⟩ := cz4 BK239; obtain ⟨hcz10_0, hcz10_1, hcz10_2, hcz10_3, hfz10_0, hfz10_1, hfz10_2, hfz10_3⟩ := cz4 BK240))
 refine bodyPost_ret (results_cell_row rfl _ _ gb240 29 #[.int .i64 a0_0, .int .i64 a0_1, .bool a0_2, .slice Ao8 t241.length co8] (0, 0) _ rfl (by (with_reducible repeat (first | refine uH ?_ _ | refine uJ ?_ | refine uG ?_ _)); refine uP (cs := #[.int .i64 a0_0, .int .i64 a0_1, .bool a0_2, .slice none 0 0]) ?_ 3 _ rfl; (with_reducible repeat (first | refine uH ?_ _ | refine uJ ?_ | refine uG ?_ _)); refine uP (cs := #[.int .i64 a0_0, .int .i64 a0_1, .bool false, .slice none 0 0]) ?_ 2 _ rfl; (with_reducible repeat (first | refine uH ?_ _ | refine uJ ?_ | refine uG ?_ _)); refine uP (cs := #[.int .i64 a0_0, .int .i64 0, .bool false, .slice none 0 0]) ?_ 1 _ rfl; (with_reducible repeat (first | refine uH ?_ _ | refine uJ ?_ | refine uG ?_ _)); refine uP (cs := #[.int .i64 0, .int .i64 0, .bool false, .slice none 0 0]) ?_ 0 _ rfl; (with_reducible repeat (first | refine uH ?_ _ | refine uJ ?_ | refine uG ?_ _)); refine uQ ?_ NB240_239.out _; (with_reducible repeat (first | refine uH ?_ _ | refine uJ ?_ | refine uG ?_ _)); exact BK240.out) Try.underlying29 rfl (by kernel_rfl)) rfl ?_
 exact ⟨_, by first | rfl | (simp [errW_none, errW_some] <;> rfl) | (simp [*, errW_none, errW_some] <;> rfl), by (with_reducible repeat (first | apply uU | apply uS | apply uT)); exact uX (uV (p := ⟨gb240, 3, none⟩) (uV (p := ⟨gb240, 2, none⟩) (uV (p := ⟨gb240, 1, none⟩) (uV (p := ⟨gb240, 0, none⟩) (uV (p := ⟨gb239, 3, none⟩) (uW (uW HO243.out BK239.out (by decide)) BK240.out (by decide)) (fun _ hk => hk.1.2) (.slice Ao8 t241.length co8)) (fun _ hk => hk.2) (.int .i64 a0_0)) (fun _ hk => hk.2) (.int .i64 a0_1)) (fun _ hk => hk.2) (.bool a0_2)) (fun _ hk => hk.2) (.slice Ao8 t241.length co8)) (fun _ hk => trivial), pb HB⟩

end Go.Proofs.Ytbdjbdoelbmjcaa.PFnExactRun
