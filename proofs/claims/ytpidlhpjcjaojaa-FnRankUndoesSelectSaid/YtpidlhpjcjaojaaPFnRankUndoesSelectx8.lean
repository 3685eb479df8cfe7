-- Laid by a program of this session: the print of the kit with additions of ours (wip/tools/patchprint.py). Nothing of it is trusted: Lean checks it.
import Derived.Test.YtpidlhpjcjaojaaPFnRankUndoesSelectx0
import Derived.Test.YtpidlhpjcjaojaaPFnRankUndoesSelectx3
import Derived.Test.YtpidlhpjcjaojaaPFnRankUndoesSelectx5
import Derived.Test.YtpidlhpjcjaojaaPFnRankUndoesSelectx6
import Derived.Test.YtpidlhpjcjaojaaPFnRankUndoesSelectx7
namespace Go.Proofs.Ytpidlhpjcjaojaa.PFnRankUndoesSelect
open Go.RowKit Go.Proofs.YtpidlhpjcjaojaaW.PrintWords Go.Proofs.YtpidlhpjcjaojaaW.PrintLast Go.Proofs.YtpidlhpjcjaojaaW.PrintMore
attribute [local go_sem] max2_int min2_int max_two min_two max_three min_three max_four min_four   -- for this text's walks alone
set_option linter.unusedVariables false
set_option linter.unusedSimpArgs false

theorem am19_ {p : Prop} (h : p) : Aside0 p := ⟨h⟩
theorem lm19_ {P : Prop} (h : P := by (try simp only [List.map_toArray, List.map_cons, List.map_nil]); first | done | rfl | (simp only [List.length_drop, List.length_take]; rfl)) : P := h
theorem lc19_ {P Q : Prop} (h : P) (f : P → Q := by intro h_; repeat (first | exact h_ | (with_reducible refine Kd.C_alloc ?_ _) | (with_reducible refine Kd.C_drewN ?_ _) | (with_reducible refine Kd.C_drew ?_))) : Q := f h
theorem lt19_ {P Q : Prop} (h : P) (f : P → Q := by intro h_; (with_reducible repeat (first | apply Kd.R_alloc | apply Kd.R_drewN | apply Kd.R_drew)); exact h_) : Q := f h
theorem lf19_ {P Q : Prop} (h : Aside0 P) (f : P → Q := by intro h_; (with_reducible repeat (first | apply Kd.R_alloc | apply Kd.R_drewN | apply Kd.R_drew)); exact h_) : Q := f h.out
theorem lb19_ {P Q : Prop} (h : Aside0 P) (f : P → Q := by intro h_; (with_reducible repeat (first | refine blk_drewN ?_ _ | refine blk_drew ?_ | refine blk_alloc ?_ _)); exact h_) : Q := f h.out
theorem lw19_ {P Q : Prop} (h : Aside0 P) (f : P → Q := by intro h_; repeat (first | (with_reducible first | exact h_ | apply below_alloc | apply pw_below_drewN | apply below_drew1 | refine below_set ?_ (Aside0.out (by assumption))) | exact h_)) : Q := f h.out
/-! ### spec_DrawBuildRanked: function 51 -/
def spec_DrawBuildRanked.f (k : Nat) (l0 : List Int) : Option (Int × List Int) := (spec_l1Cur_one.f l0 0 0 2).bind fun bt323 => (if bt323.1 = true then ((spec_l1Cur_anyBits.f k l0 bt323.2.1 bt323.2.2).bind fun bt326 => (some (bt326.1, bt326.2.1))) else ((spec_l1Cur_bits.f k l0 bt323.2.1 bt323.2.2 200).bind fun bt332 => (some (bt332.1, bt332.2.1))))
theorem spec_DrawBuildRanked.mono : ∀ a0 k, LeO (spec_DrawBuildRanked.f k a0) (spec_DrawBuildRanked.f (k + 1) a0) := by
 intro a0 k
 unfold spec_DrawBuildRanked.f
 repeat' first
   | (with_reducible exact spec_l1Cur_anyBits.mono _ _ _ _)
   | (with_reducible exact spec_l1Cur_bits.mono _ _ _ _ _)
   | (with_reducible exact LeO.refl _)
   | (with_reducible exact LeO.none _)
   | (with_reducible refine LeO.ite ?_ ?_)
   | (with_reducible refine LeO.bind ?_ (fun _ => ?_))
   | exact spec_l1Cur_anyBits.mono _ _ _ _
   | exact spec_l1Cur_bits.mono _ _ _ _ _
   | exact LeO.none _
   | refine LeO.ite ?_ ?_
   | refine LeO.bind ?_ (fun _ => ?_)
set_option maxHeartbeats 8000000 in
set_option maxRecDepth 100000 in
theorem spec_DrawBuildRanked.calls (k : Nat) (A0 : Option Addr) (c0 : Nat) (l0 : List Int) (r1 : Int) (r2 : List Int) (w : World) (hr0 : Kd.C (Kd.int .u8) w A0 l0.length l0) (hc0 : l0.length ≤ c0) (h : spec_DrawBuildRanked.f k l0 = some (r1, r2)) :
  Calls Try.prog 51 #[.slice A0 l0.length c0] w fun e w' => ∃ v1_ : Value, e = .returned (.agg #[.int .i64 r1, v1_]) ∧ Kd.R (Kd.int .i64) 3 w' w.heap.size (fun _ => True) v1_ r2 ∧ Below w.heap.size w w' := by
 have hu29 := Try.underlying29
 have hu77 := Try.underlying77
 have HR0 := am19_ hr0
 have HC0 := am19_ hc0
 clear hr0 hc0
 have HB := am19_ (Below.refl w.heap.size w)
 have H : ((spec_l1Cur_one.f l0 0 0 2).bind fun bt323 => (if bt323.1 = true then ((spec_l1Cur_anyBits.f k l0 bt323.2.1 bt323.2.2).bind fun bt326 => (some (bt326.1, bt326.2.1))) else ((spec_l1Cur_bits.f k l0 bt323.2.1 bt323.2.2 200).bind fun bt332 => (some (bt332.1, bt332.2.1))))) = some (r1, r2) := h
 clear h
 replace H := Option.bind_eq_some_iff.mp H
 obtain ⟨⟨t323, t324, t325⟩, A20, H⟩ := H
 replace H : (if t323 = true then ((spec_l1Cur_anyBits.f k l0 t324 t325).bind fun bt326 => (some (bt326.1, bt326.2.1))) else ((spec_l1Cur_bits.f k l0 t324 t325 200).bind fun bt332 => (some (bt332.1, bt332.2.1)))) = some (r1, r2) := H
 have A2 := am19_ A20
 clear A20
 by_cases c3 : t323 = true
 ·subst c3
  have H1 : ((spec_l1Cur_anyBits.f k l0 t324 t325).bind fun bt326 => (some (bt326.1, bt326.2.1))) = some (r1, r2) := by rw [if_pos rfl] at H; exact H
  clear H
  have H := H1
  clear H1
  replace H := Option.bind_eq_some_iff.mp H
  obtain ⟨⟨t326, t327, t330, t331⟩, A40, H⟩ := H
  replace H : (some (t326, t327)) = some (r1, r2) := H
  have A4 := am19_ A40
  clear A40
  simp only [Option.some.injEq, Prod.mk.injEq] at H
  obtain ⟨rfl, rfl⟩ := H
  go_enter Try.func51, Try.ntmps51
  go_wp2_with (first | ((with_reducible refine gate_dst (N := 2) rfl ?_); refine box_event ?hg (N := 2) ?hd (cs := #[.int .i64 0, .slice none 0 0]) (t := 29) ?hr ?_; (case hd => rfl); (case hg => rfl); (case hr => first | (go_simp; done) | (go_simp; rfl)); intro gb321 hg w5 hbox hb; have n0_ := am19_ (below_step (lw19_ HB) hb); have n1_ := am19_ (hbox); have n2_ := am19_ ((by rw [hg]; exact (below_size (lw19_ HB)) : w.heap.size ≤ gb321)); have n3_ := am19_ ((by rw [hg]; exact (below_size (lw19_ HB)) : w.heap.size ≤ gb321)); clear HB; have HB := n0_; have BK321 := n1_; have GW321 := n2_; have GE321 := n3_; clear n0_ n1_ n2_ n3_; clear hb hbox hg) | ((with_reducible refine gate_dst (N := 6) rfl ?_); refine box_event ?hg (N := 6) ?hd (cs := #[.slice A0 l0.length c0, .int .i64 0, .int .u64 0]) (t := 77) ?hr ?_; (case hd => rfl); (case hg => rfl); (case hr => first | (go_simp; done) | (go_simp; rfl)); intro gb322 hg w6 hbox hb; have n0_ := am19_ (blk_below (g := gb321) (o := .cells #[.int .i64 0, .slice none 0 0] 29 (0, 0)) (lb19_ BK321) hb); have n1_ := am19_ (below_step (lw19_ HB) hb); have n2_ := am19_ (hbox); have n3_ := am19_ ((by rw [hg]; exact (below_size (lw19_ HB)) : w.heap.size ≤ gb322)); have n4_ := am19_ ((by rw [hg]; exact (below_size (lw19_ HB)) : w.heap.size ≤ gb322)); have n5_ := am19_ ((by rw [hg]; exact Nat.ne_of_lt (blk_lt (g := gb321) (lb19_ BK321)) : gb321 ≠ gb322)); have n6_ := am19_ ((by rw [hg]; exact Nat.ne_of_gt (blk_lt (g := gb321) (lb19_ BK321)) : gb322 ≠ gb321)); clear BK321; clear HB; have BK321 := n0_; have HB := n1_; have BK322 := n2_; have GW322 := n3_; have GE322 := n4_; have NB321_322 := n5_; have NB322_321 := n6_; clear n0_ n1_ n2_ n3_ n4_ n5_ n6_; clear hb hbox hg) | ((with_reducible refine gate_callee (f := 78) rfl ?_); refine goesL_ (some 8) rfl rfl Try.func78 (by kernel_rfl) rfl #[.pointer (some ⟨gb322, 0, none⟩), .int .i64 2] rfl lm19_ ?_; (with_reducible refine (spec_l1Cur_one.calls gb322 l0 0 0 2 true t324 t325 w _ ?side1 ?side2 A2.out).mono ?_); (case side1 => exact ⟨_, _, (lb19_ BK322), GE322.out, HR0.out⟩); (case side2 => repeat (first | (with_reducible first | exact HB.out | apply below_alloc | apply pw_below_drewN | apply below_drew1 | refine below_set ?_ GE322.out | refine below_set ?_ (IsS77.ge HI322.out) | refine below_set ?_ GE321.out) | exact HB.out)); rintro e w7 ⟨rfl, hi, hb, hk⟩; refine ⟨_, rfl, ?_⟩; have n0_ := am19_ (KeepBut.blk hk (g' := gb321) (o := .cells #[.int .i64 0, .slice none 0 0] 29 (0, 0)) (lb19_ BK321) NB321_322.out (by simp)); have n1_ := am19_ (hb); have n2_ := am19_ (hi); clear BK321; clear HB; have BK321 := n0_; have HB := n1_; have HI322 := n2_; clear n0_ n1_ n2_; (try clear hb); (try clear hb2); (try clear hk); (try clear hi)) | ((with_reducible refine gate_callee (f := 79) rfl ?_); refine goesL_ (some 10) rfl rfl Try.func79 (by kernel_rfl) rfl #[.pointer (some ⟨gb322, 0, none⟩)] rfl lm19_ ?_; (with_reducible refine (spec_l1Cur_anyBits.calls k gb322 l0 t324 t325 t326 t327 t330 t331 w _ ?side1 ?side2 A4.out).mono ?_); (case side1 => repeat (first | (with_reducible first | exact HI322.out | apply IsS77.alloc | apply IsS77.drewN | apply IsS77.drew | apply IsS77.set_1 | apply IsS77.set_2 | refine IsS77.far ?_ NB322_321.out _) | exact HI322.out)); (case side2 => repeat (first | (with_reducible first | exact HB.out | apply below_alloc | apply pw_below_drewN | apply below_drew1 | refine below_set ?_ (IsS77.ge HI322.out) | refine below_set ?_ GE321.out) | exact HB.out)); rintro e w8 ⟨v328, rfl, ho0, hi, hb, hk⟩; refine ⟨_, rfl, ?_⟩; have n0_ := am19_ (KeepBut.blk hk (g' := gb321) (o := .cells #[.int .i64 0, .slice none 0 0] 29 (0, 0)) (lb19_ BK321) NB321_322.out (by simp)); have n1_ := am19_ (Kd.R_lower ho0 (below_size (by repeat (first | (with_reducible first | exact HB.out | apply below_alloc | apply pw_below_drewN | apply below_drew1 | refine below_set ?_ (IsS77.ge HI322.out) | refine below_set ?_ GE321.out) | exact HB.out)))); have n2_ := am19_ (hb); have n3_ := am19_ (hi); clear BK321; clear HB; clear HI322; have BK321 := n0_; have HO329 := n1_; have HB := n2_; have HI322 := n3_; clear n0_ n1_ n2_ n3_; (try clear hb); (try clear hb2); (try clear hk); (try clear hi); (try clear ho0); have hnb9 := NB321_322.out; have hnc9 := NB322_321.out; have hcz10_0 : w8.cell? ⟨gb321, 0, none⟩ = some (.int .i64 0) := (blk_cell BK321.out 0).trans rfl; have hcz10_1 : w8.cell? ⟨gb321, 1, none⟩ = some (.slice none 0 0) := (blk_cell BK321.out 1).trans rfl; have hfz10_0 := blk_frozen BK321.out 0; have hfz10_1 := blk_frozen BK321.out 1; obtain ⟨Ao11, co11, eo11⟩ := Kd.R_slice HO329.out; subst eo11))
  refine bodyPost_ret (results_cell_row rfl _ _ gb321 29 #[.int .i64 t326, .slice Ao11 t327.length co11] (0, 0) _ rfl (by (with_reducible repeat (first | refine blk_drewN ?_ _ | refine blk_drew ?_ | refine blk_alloc ?_ _)); refine blk_put (cs := #[.int .i64 t326, .slice none 0 0]) ?_ 1 _ rfl; (with_reducible repeat (first | refine blk_drewN ?_ _ | refine blk_drew ?_ | refine blk_alloc ?_ _)); refine blk_put (cs := #[.int .i64 0, .slice none 0 0]) ?_ 0 _ rfl; (with_reducible repeat (first | refine blk_drewN ?_ _ | refine blk_drew ?_ | refine blk_alloc ?_ _)); exact BK321.out) Try.underlying29 rfl (by kernel_rfl)) rfl ?_
  exact ⟨_, by first | rfl | (simp [errW_none, errW_some] <;> rfl) | (simp [*, errW_none, errW_some] <;> rfl), by (with_reducible repeat (first | apply Kd.R_alloc | apply Kd.R_drewN | apply Kd.R_drew)); exact Kd.R_mono (Kd.R_far (p := ⟨gb321, 1, none⟩) (Kd.R_far (p := ⟨gb321, 0, none⟩) (Kd.R_types HO329.out BK321.out (by decide)) (fun _ hk => hk.2) (.int .i64 t326)) (fun _ hk => hk.2) (.slice Ao11 t327.length co11)) (fun _ hk => trivial), by repeat (first | (with_reducible first | exact HB.out | apply below_alloc | apply pw_below_drewN | apply below_drew1 | refine below_set ?_ (IsS77.ge HI322.out) | refine below_set ?_ GE321.out) | exact HB.out)⟩
 ·replace c3 := Bool.eq_false_iff.mpr c3
  subst c3
  have H1 : ((spec_l1Cur_bits.f k l0 t324 t325 200).bind fun bt332 => (some (bt332.1, bt332.2.1))) = some (r1, r2) := by rw [if_neg (show ¬ (false = true) by decide)] at H; exact H
  clear H
  have H := H1
  clear H1
  replace H := Option.bind_eq_some_iff.mp H
  obtain ⟨⟨t332, t333, t336, t337⟩, A120, H⟩ := H
  replace H : (some (t332, t333)) = some (r1, r2) := H
  have A12 := am19_ A120
  clear A120
  simp only [Option.some.injEq, Prod.mk.injEq] at H
  obtain ⟨rfl, rfl⟩ := H
  go_enter Try.func51, Try.ntmps51
  go_wp2_with (first | ((with_reducible refine gate_dst (N := 2) rfl ?_); refine box_event ?hg (N := 2) ?hd (cs := #[.int .i64 0, .slice none 0 0]) (t := 29) ?hr ?_; (case hd => rfl); (case hg => rfl); (case hr => first | (go_simp; done) | (go_simp; rfl)); intro gb321 hg w13 hbox hb; have n0_ := am19_ (below_step (lw19_ HB) hb); have n1_ := am19_ (hbox); have n2_ := am19_ ((by rw [hg]; exact (below_size (lw19_ HB)) : w.heap.size ≤ gb321)); have n3_ := am19_ ((by rw [hg]; exact (below_size (lw19_ HB)) : w.heap.size ≤ gb321)); clear HB; have HB := n0_; have BK321 := n1_; have GW321 := n2_; have GE321 := n3_; clear n0_ n1_ n2_ n3_; clear hb hbox hg) | ((with_reducible refine gate_dst (N := 6) rfl ?_); refine box_event ?hg (N := 6) ?hd (cs := #[.slice A0 l0.length c0, .int .i64 0, .int .u64 0]) (t := 77) ?hr ?_; (case hd => rfl); (case hg => rfl); (case hr => first | (go_simp; done) | (go_simp; rfl)); intro gb322 hg w14 hbox hb; have n0_ := am19_ (blk_below (g := gb321) (o := .cells #[.int .i64 0, .slice none 0 0] 29 (0, 0)) (lb19_ BK321) hb); have n1_ := am19_ (below_step (lw19_ HB) hb); have n2_ := am19_ (hbox); have n3_ := am19_ ((by rw [hg]; exact (below_size (lw19_ HB)) : w.heap.size ≤ gb322)); have n4_ := am19_ ((by rw [hg]; exact (below_size (lw19_ HB)) : w.heap.size ≤ gb322)); have n5_ := am19_ ((by rw [hg]; exact Nat.ne_of_lt (blk_lt (g := gb321) (lb19_ BK321)) : gb321 ≠ gb322)); have n6_ := am19_ ((by rw [hg]; exact Nat.ne_of_gt (blk_lt (g := gb321) (lb19_ BK321)) : gb322 ≠ gb321)); clear BK321; clear HB; have BK321 := n0_; have HB := n1_; have BK322 := n2_; have GW322 := n3_; have GE322 := n4_; have NB321_322 := n5_; have NB322_321 := n6_; clear n0_ n1_ n2_ n3_ n4_ n5_ n6_; clear hb hbox hg) | ((with_reducible refine gate_callee (f := 78) rfl ?_); refine goesL_ (some 8) rfl rfl Try.func78 (by kernel_rfl) rfl #[.pointer (some ⟨gb322, 0, none⟩), .int .i64 2] rfl lm19_ ?_; (with_reducible refine (spec_l1Cur_one.calls gb322 l0 0 0 2 false t324 t325 w _ ?side1 ?side2 A2.out).mono ?_); (case side1 => exact ⟨_, _, (lb19_ BK322), GE322.out, HR0.out⟩); (case side2 => repeat (first | (with_reducible first | exact HB.out | apply below_alloc | apply pw_below_drewN | apply below_drew1 | refine below_set ?_ GE322.out | refine below_set ?_ (IsS77.ge HI322.out) | refine below_set ?_ GE321.out) | exact HB.out)); rintro e w15 ⟨rfl, hi, hb, hk⟩; refine ⟨_, rfl, ?_⟩; have n0_ := am19_ (KeepBut.blk hk (g' := gb321) (o := .cells #[.int .i64 0, .slice none 0 0] 29 (0, 0)) (lb19_ BK321) NB321_322.out (by simp)); have n1_ := am19_ (hb); have n2_ := am19_ (hi); clear BK321; clear HB; have BK321 := n0_; have HB := n1_; have HI322 := n2_; clear n0_ n1_ n2_; (try clear hb); (try clear hb2); (try clear hk); (try clear hi)) | ((with_reducible refine gate_callee (f := 80) rfl ?_); refine goesL_ (some 12) rfl rfl Try.func80 (by kernel_rfl) rfl #[.pointer (some ⟨gb322, 0, none⟩), .int .i64 200] rfl lm19_ ?_; (with_reducible refine (spec_l1Cur_bits.calls k gb322 l0 t324 t325 200 t332 t333 t336 t337 w _ ?side1 ?side2 A12.out).mono ?_); (case side1 => repeat (first | (with_reducible first | exact HI322.out | apply IsS77.alloc | apply IsS77.drewN | apply IsS77.drew | apply IsS77.set_1 | apply IsS77.set_2 | refine IsS77.far ?_ NB322_321.out _) | exact HI322.out)); (case side2 => repeat (first | (with_reducible first | exact HB.out | apply below_alloc | apply pw_below_drewN | apply below_drew1 | refine below_set ?_ (IsS77.ge HI322.out) | refine below_set ?_ GE321.out) | exact HB.out)); rintro e w16 ⟨v334, rfl, ho0, hi, hb, hk⟩; refine ⟨_, rfl, ?_⟩; have n0_ := am19_ (KeepBut.blk hk (g' := gb321) (o := .cells #[.int .i64 0, .slice none 0 0] 29 (0, 0)) (lb19_ BK321) NB321_322.out (by simp)); have n1_ := am19_ (Kd.R_lower ho0 (below_size (by repeat (first | (with_reducible first | exact HB.out | apply below_alloc | apply pw_below_drewN | apply below_drew1 | refine below_set ?_ (IsS77.ge HI322.out) | refine below_set ?_ GE321.out) | exact HB.out)))); have n2_ := am19_ (hb); have n3_ := am19_ (hi); clear BK321; clear HB; clear HI322; have BK321 := n0_; have HO335 := n1_; have HB := n2_; have HI322 := n3_; clear n0_ n1_ n2_ n3_; (try clear hb); (try clear hb2); (try clear hk); (try clear hi); (try clear ho0); have hnb17 := NB321_322.out; have hnc17 := NB322_321.out; have hcz18_0 : w16.cell? ⟨gb321, 0, none⟩ = some (.int .i64 0) := (blk_cell BK321.out 0).trans rfl; have hcz18_1 : w16.cell? ⟨gb321, 1, none⟩ = some (.slice none 0 0) := (blk_cell BK321.out 1).trans rfl; have hfz18_0 := blk_frozen BK321.out 0; have hfz18_1 := blk_frozen BK321.out 1; obtain ⟨Ao19, co19, eo19⟩ := Kd.R_slice HO335.out; subst eo19))
  refine bodyPost_ret (results_cell_row rfl _ _ gb321 29 #[.int .i64 t332, .slice Ao19 t333.length co19] (0, 0) _ rfl (by (with_reducible repeat (first | refine blk_drewN ?_ _ | refine blk_drew ?_ | refine blk_alloc ?_ _)); refine blk_put (cs := #[.int .i64 t332, .slice none 0 0]) ?_ 1 _ rfl; (with_reducible repeat (first | refine blk_drewN ?_ _ | refine blk_drew ?_ | refine blk_alloc ?_ _)); refine blk_put (cs := #[.int .i64 0, .slice none 0 0]) ?_ 0 _ rfl; (with_reducible repeat (first | refine blk_drewN ?_ _ | refine blk_drew ?_ | refine blk_alloc ?_ _)); exact BK321.out) Try.underlying29 rfl (by kernel_rfl)) rfl ?_
  exact ⟨_, by first | rfl | (simp [errW_none, errW_some] <;> rfl) | (simp [*, errW_none, errW_some] <;> rfl), by (with_reducible repeat (first | apply Kd.R_alloc | apply Kd.R_drewN | apply Kd.R_drew)); exact Kd.R_mono (Kd.R_far (p := ⟨gb321, 1, none⟩) (Kd.R_far (p := ⟨gb321, 0, none⟩) (Kd.R_types HO335.out BK321.out (by decide)) (fun _ hk => hk.2) (.int .i64 t332)) (fun _ hk => hk.2) (.slice Ao19 t333.length co19)) (fun _ hk => trivial), by repeat (first | (with_reducible first | exact HB.out | apply below_alloc | apply pw_below_drewN | apply below_drew1 | refine below_set ?_ (IsS77.ge HI322.out) | refine below_set ?_ GE321.out) | exact HB.out)⟩

/-! ### laws_pSameInts: function 82 -/
def laws_pSameInts.l0 : Nat → List Int → List Int → Int → Int → Option (Bool)
  | 0, _, _, _, _ => none
  | k + 1, x0, x1, x12, x13 => if x13 < x12 then (if 0 ≤ x13 then (if x13 < (x0.length : Int) then (if x13 < (x1.length : Int) then (if (rd x0 x13) = (rd x1 x13) then (laws_pSameInts.l0 k x0 x1 x12 (wrap64 (x13 + 1))) else (some false)) else (none)) else (none)) else (none)) else (some true)
def laws_pSameInts.f (k : Nat) (l0 : List Int) (l1 : List Int) : Option (Bool) := if (l0.length : Int) = (l1.length : Int) then (laws_pSameInts.l0 k l0 l1 (l0.length : Int) 0) else (some false)
theorem laws_pSameInts.mono_l : ∀ k, (∀ y0 y1 y2 y3, LeO (laws_pSameInts.l0 k y0 y1 y2 y3) (laws_pSameInts.l0 (k + 1) y0 y1 y2 y3))
  | 0 => fun _ _ _ _ r h => by simp [laws_pSameInts.l0] at h
  | k + 1 => by
    have ih0 := laws_pSameInts.mono_l k
    · intro y0 y1 y2 y3
      unfold laws_pSameInts.l0
      repeat' first
      | (with_reducible exact ih0 _ _ _ _)
      | (with_reducible exact LeO.refl _)
      | (with_reducible exact LeO.none _)
      | (with_reducible refine LeO.ite ?_ ?_)
      | (with_reducible refine LeO.bind ?_ (fun _ => ?_))
      | exact ih0 _ _ _ _
      | exact LeO.none _
      | refine LeO.ite ?_ ?_
      | refine LeO.bind ?_ (fun _ => ?_)
theorem laws_pSameInts.mono : ∀ a0 a1 k, LeO (laws_pSameInts.f k a0 a1) (laws_pSameInts.f (k + 1) a0 a1) := by
  intro a0 a1 k
  have ih0 := laws_pSameInts.mono_l k
  unfold laws_pSameInts.f
  repeat' first
      | (with_reducible exact ih0 _ _ _ _)
      | (with_reducible exact LeO.refl _)
      | (with_reducible exact LeO.none _)
      | (with_reducible refine LeO.ite ?_ ?_)
      | (with_reducible refine LeO.bind ?_ (fun _ => ?_))
      | exact ih0 _ _ _ _
      | exact LeO.none _
      | refine LeO.ite ?_ ?_
      | refine LeO.bind ?_ (fun _ => ?_)
set_option maxHeartbeats 8000000 in
set_option maxRecDepth 100000 in
theorem laws_pSameInts.calls (k : Nat) (A0 : Option Addr) (c0 : Nat) (l0 : List Int) (A1 : Option Addr) (c1 : Nat) (l1 : List Int) (r : Bool) (w : World) (hr0 : Kd.C (Kd.int .i64) w A0 l0.length l0) (hc0 : l0.length ≤ c0) (hr1 : Kd.C (Kd.int .i64) w A1 l1.length l1) (hc1 : l1.length ≤ c1) (h : laws_pSameInts.f k l0 l1 = some r) :
    Calls Try.prog 82 #[.slice A0 l0.length c0, .slice A1 l1.length c1] w fun e w' => e = .returned (.bool r) ∧ Drawn0 w w' := by
  have HR0 := Aside0.mk hr0
  have HC0 := Aside0.mk hc0
  clear hr0 hc0
  have HR1 := Aside0.mk hr1
  have HC1 := Aside0.mk hc1
  clear hr1 hc1
  have H : (if (l0.length : Int) = (l1.length : Int) then (laws_pSameInts.l0 k l0 l1 (l0.length : Int) 0) else (some false)) = some r := h
  clear h
  by_cases c3 : (l0.length : Int) = (l1.length : Int)
  · rw [if_pos c3] at H
    have c3b0 : ((l0.length : Int) == (l1.length : Int)) = true := beq_iff_eq.mpr c3
    have c3b1 : ((l0.length : Int) != (l1.length : Int)) = false := bne_eq_false_iff_eq.mpr c3
    have c3b2 : (l0.length == l1.length) = true := by first | simpa using c3 | (simp at c3 ⊢; omega)
    clear c3
    have H' := Aside0.mk H
    clear H
    go_enter Try.func82, Try.ntmps82
    go_wp2
    repeat (go_quiet (fail); try go_wp2)
    go_loopg [13] k (fun kq v13 w' => ∃ (x13_1 : Int), v13 = .int .i64 x13_1 ∧ Aside0 (laws_pSameInts.l0 kq l0 l1 (l0.length : Int) x13_1 = some r) ∧ Aside0 (kq ≤ k) ∧ Drawn0 w w')
    case atStart => exact ⟨(0), (by first | rfl | (simp; done) | (simp [*]; done)), H', ⟨Nat.le_refl _⟩, by repeat (first | exact Drawn0.refl _ | apply Drawn0.step)⟩
    case round =>
      clear H'
      try clear c1
      try clear p2
      try clear c3
      try clear c3b0
      try clear c3b1
      try clear c3b2
      obtain ⟨x13_1, rfl, HA, HK1, ⟨m1, rfl⟩⟩ := hrel
      cases gk with
      | zero => exact absurd HA.out (by simp [laws_pSameInts.l0])
      | succ k1 =>
        have H := HA.out
        clear HA
        simp only [laws_pSameInts.l0] at H
        by_cases c4 : x13_1 < (l0.length : Int)
        · rw [if_pos c4] at H
          have c4b0 : decide (x13_1 < (l0.length : Int)) = true := decide_eq_true c4
          clear c4
          by_cases c5 : 0 ≤ x13_1
          · rw [if_pos c5] at H
            have c5b0 : decide (0 ≤ x13_1) = true := decide_eq_true c5
            clear c5
            by_cases c6 : x13_1 < (l0.length : Int)
            · rw [if_pos c6] at H
              have c6b0 : decide (x13_1 < (l0.length : Int)) = true := decide_eq_true c6
              clear c6
              by_cases c7 : x13_1 < (l1.length : Int)
              · rw [if_pos c7] at H
                have c7b0 : decide (x13_1 < (l1.length : Int)) = true := decide_eq_true c7
                clear c7
                by_cases c8 : (rd l0 x13_1) = (rd l1 x13_1)
                · rw [if_pos c8] at H
                  have c8b0 : ((rd l0 x13_1) == (rd l1 x13_1)) = true := beq_iff_eq.mpr c8
                  have c8b1 : ((rd l0 x13_1) != (rd l1 x13_1)) = false := bne_eq_false_iff_eq.mpr c8
                  clear c8
                  have H' := Aside0.mk H
                  clear H
                  have p338 : 0 ≤ (x13_1 : Int) := of_decide_eq_true (by first | (with_reducible assumption) | assumption)
                  have q338 : x13_1 < (l0.length : Int) := of_decide_eq_true (by first | (with_reducible assumption) | assumption)
                  obtain ⟨ad338, e338, hx338_0⟩ := Kd.at_int HR0.out x13_1 p338 q338
                  cases e338
                  replace p338 := eq_true p338
                  replace q338 := eq_true q338
                  have p339 : 0 ≤ (x13_1 : Int) := of_decide_eq_true (by first | (with_reducible assumption) | assumption)
                  have q339 : x13_1 < (l1.length : Int) := of_decide_eq_true (by first | (with_reducible assumption) | assumption)
                  obtain ⟨ad339, e339, hx339_0⟩ := Kd.at_int HR1.out x13_1 p339 q339
                  cases e339
                  replace p339 := eq_true p339
                  replace q339 := eq_true q339
                  go_wp2
                  repeat (go_quiet (fail); try go_wp2)
                  go_roundg k1
                  case measure => have := HK1.out; omega
                  case rel => exact ⟨(wrap64 (x13_1 + 1)), (by first | rfl | (simp; done) | (simp [*]; done)), H', ⟨by have := HK1.out; omega⟩, by repeat (first | exact Drawn0.refl _ | apply Drawn0.step)⟩
                · rw [if_neg c8] at H
                  have c8b0 : ((rd l0 x13_1) == (rd l1 x13_1)) = false := beq_eq_false_iff_ne.mpr c8
                  have c8b1 : ((rd l0 x13_1) != (rd l1 x13_1)) = true := bne_iff_ne.mpr c8
                  obtain rfl := Option.some.inj H
                  have p338 : 0 ≤ (x13_1 : Int) := of_decide_eq_true (by first | (with_reducible assumption) | assumption)
                  have q338 : x13_1 < (l0.length : Int) := of_decide_eq_true (by first | (with_reducible assumption) | assumption)
                  obtain ⟨ad338, e338, hx338_0⟩ := Kd.at_int HR0.out x13_1 p338 q338
                  cases e338
                  replace p338 := eq_true p338
                  replace q338 := eq_true q338
                  have p339 : 0 ≤ (x13_1 : Int) := of_decide_eq_true (by first | (with_reducible assumption) | assumption)
                  have q339 : x13_1 < (l1.length : Int) := of_decide_eq_true (by first | (with_reducible assumption) | assumption)
                  obtain ⟨ad339, e339, hx339_0⟩ := Kd.at_int HR1.out x13_1 p339 q339
                  cases e339
                  replace p339 := eq_true p339
                  replace q339 := eq_true q339
                  go_wp2
                  repeat (go_quiet (fail); try go_wp2)
                  go_ret
                  exact ⟨by first | rfl | (simp; done) | (simp [*]; done), by repeat (first | exact Drawn0.refl _ | apply Drawn0.step)⟩
              · rw [if_neg c7] at H
                exact absurd H (by simp)
            · rw [if_neg c6] at H
              exact absurd H (by simp)
          · rw [if_neg c5] at H
            exact absurd H (by simp)
        · rw [if_neg c4] at H
          have c4b0 : decide (x13_1 < (l0.length : Int)) = false := decide_eq_false c4
          clear c4
          obtain rfl := Option.some.inj H
          go_wp2
          repeat (go_quiet (fail); try go_wp2)
          go_ret
          exact ⟨by first | rfl | (simp; done) | (simp [*]; done), by repeat (first | exact Drawn0.refl _ | apply Drawn0.step)⟩
  · rw [if_neg c3] at H
    have c3b0 : ((l0.length : Int) == (l1.length : Int)) = false := beq_eq_false_iff_ne.mpr c3
    have c3b1 : ((l0.length : Int) != (l1.length : Int)) = true := bne_iff_ne.mpr c3
    have c3b2 : (l0.length == l1.length) = false := by first | simpa using c3 | (simp at c3 ⊢; omega)
    obtain rfl := Option.some.inj H
    go_enter Try.func82, Try.ntmps82
    go_wp2
    repeat (go_quiet (fail); try go_wp2)
    go_ret
    exact ⟨by first | rfl | (simp; done) | (simp [*]; done), by repeat (first | exact Drawn0.refl _ | apply Drawn0.step)⟩

theorem am20_ {p : Prop} (h : p) : Aside0 p := ⟨h⟩
theorem lm20_ {P : Prop} (h : P := by (try simp only [List.map_toArray, List.map_cons, List.map_nil]); first | done | rfl | (simp only [List.length_drop, List.length_take]; rfl)) : P := h
theorem lc20_ {P Q : Prop} (h : P) (f : P → Q := by intro h_; repeat (first | exact h_ | (with_reducible refine Kd.C_alloc ?_ _) | (with_reducible refine Kd.C_drewN ?_ _) | (with_reducible refine Kd.C_drew ?_))) : Q := f h
theorem lt20_ {P Q : Prop} (h : P) (f : P → Q := by intro h_; (with_reducible repeat (first | apply Kd.R_alloc | apply Kd.R_drewN | apply Kd.R_drew)); exact h_) : Q := f h
theorem lf20_ {P Q : Prop} (h : Aside0 P) (f : P → Q := by intro h_; (with_reducible repeat (first | apply Kd.R_alloc | apply Kd.R_drewN | apply Kd.R_drew)); exact h_) : Q := f h.out
theorem lb20_ {P Q : Prop} (h : Aside0 P) (f : P → Q := by intro h_; (with_reducible repeat (first | refine blk_drewN ?_ _ | refine blk_drew ?_ | refine blk_alloc ?_ _)); exact h_) : Q := f h.out
theorem lw20_ {P Q : Prop} (h : Aside0 P) (f : P → Q := by intro h_; repeat (first | (with_reducible first | exact h_ | apply below_alloc | apply pw_below_drewN | apply below_drew1 | refine below_set ?_ (Aside0.out (by assumption))) | exact h_)) : Q := f h.out
/-! ### laws_pSameBits: function 81 -/
def laws_pSameBits.f (k : Nat) (a0_0 : Int) (l0_1 : List Int) (a1_0 : Int) (l1_1 : List Int) : Option (Bool) := if a0_0 = a1_0 then ((laws_pSameInts.f k l0_1 l1_1).bind fun t342 => (some t342)) else (some false)
theorem laws_pSameBits.mono : ∀ a0 a1 a2 a3 k, LeO (laws_pSameBits.f k a0 a1 a2 a3) (laws_pSameBits.f (k + 1) a0 a1 a2 a3) := by
 intro a0 a1 a2 a3 k
 unfold laws_pSameBits.f
 repeat' first
   | (with_reducible exact laws_pSameInts.mono _ _ _)
   | (with_reducible exact LeO.refl _)
   | (with_reducible exact LeO.none _)
   | (with_reducible refine LeO.ite ?_ ?_)
   | (with_reducible refine LeO.bind ?_ (fun _ => ?_))
   | exact laws_pSameInts.mono _ _ _
   | exact LeO.none _
   | refine LeO.ite ?_ ?_
   | refine LeO.bind ?_ (fun _ => ?_)
set_option maxHeartbeats 8000000 in
set_option maxRecDepth 100000 in
theorem laws_pSameBits.calls (k : Nat) (a0_0 : Int) (A0_1 : Option Addr) (c0_1 : Nat) (l0_1 : List Int) (a1_0 : Int) (A1_1 : Option Addr) (c1_1 : Nat) (l1_1 : List Int) (r : Bool) (w : World) (hr0_1 : Kd.C (Kd.int .i64) w A0_1 l0_1.length l0_1) (hc0_1 : l0_1.length ≤ c0_1) (hr1_1 : Kd.C (Kd.int .i64) w A1_1 l1_1.length l1_1) (hc1_1 : l1_1.length ≤ c1_1) (h : laws_pSameBits.f k a0_0 l0_1 a1_0 l1_1 = some r) :
  Calls Try.prog 81 #[.agg #[.int .i64 a0_0, .slice A0_1 l0_1.length c0_1], .agg #[.int .i64 a1_0, .slice A1_1 l1_1.length c1_1]] w fun e w' => e = .returned (.bool r) ∧ Below w.heap.size w w' := by
 have hu29 := Try.underlying29
 have HR0_1 := am20_ hr0_1
 have HC0_1 := am20_ hc0_1
 clear hr0_1 hc0_1
 have HR1_1 := am20_ hr1_1
 have HC1_1 := am20_ hc1_1
 clear hr1_1 hc1_1
 have HB := am20_ (Below.refl w.heap.size w)
 have H : (if a0_0 = a1_0 then ((laws_pSameInts.f k l0_1 l1_1).bind fun t342 => (some t342)) else (some false)) = some r := h
 clear h
 by_cases c3 : a0_0 = a1_0
 ·rw [if_pos c3] at H
  have c3b0 : (a0_0 == a1_0) = true := beq_iff_eq.mpr c3
  have c3b1 : (a0_0 != a1_0) = false := bne_eq_false_iff_eq.mpr c3
  clear c3
  replace H := Option.bind_eq_some_iff.mp H
  obtain ⟨t342, A40, H⟩ := H
  replace H : (some t342) = some r := H
  have A4 := am20_ A40
  clear A40
  obtain rfl := Option.some.inj H
  go_enter Try.func81, Try.ntmps81
  go_wp2_with (first | ((with_reducible refine gate_dst (N := 2) rfl ?_); refine box_event ?hg (N := 2) ?hd (cs := #[.int .i64 a0_0, .slice A0_1 l0_1.length c0_1]) (t := 29) ?hr ?_; (case hd => rfl); (case hg => rfl); (case hr => first | (go_simp; done) | (go_simp; rfl)); intro gb340 hg w5 hbox hb; have n0_ := am20_ (below_step (lw20_ HB) hb); have n1_ := am20_ (hbox); have n2_ := am20_ ((by rw [hg]; exact (below_size (lw20_ HB)) : w.heap.size ≤ gb340)); have n3_ := am20_ ((by rw [hg]; exact (below_size (lw20_ HB)) : w.heap.size ≤ gb340)); clear HB; have HB := n0_; have BK340 := n1_; have GW340 := n2_; have GE340 := n3_; clear n0_ n1_ n2_ n3_; clear hb hbox hg) | ((with_reducible refine gate_dst (N := 3) rfl ?_); refine box_event ?hg (N := 3) ?hd (cs := #[.int .i64 a1_0, .slice A1_1 l1_1.length c1_1]) (t := 29) ?hr ?_; (case hd => rfl); (case hg => rfl); (case hr => first | (go_simp; done) | (go_simp; rfl)); intro gb341 hg w6 hbox hb; have n0_ := am20_ (blk_below (g := gb340) (o := .cells #[.int .i64 a0_0, .slice A0_1 l0_1.length c0_1] 29 (0, 0)) (lb20_ BK340) hb); have n1_ := am20_ (below_step (lw20_ HB) hb); have n2_ := am20_ (hbox); have n3_ := am20_ ((by rw [hg]; exact (below_size (lw20_ HB)) : w.heap.size ≤ gb341)); have n4_ := am20_ ((by rw [hg]; exact (below_size (lw20_ HB)) : w.heap.size ≤ gb341)); have n5_ := am20_ ((by rw [hg]; exact Nat.ne_of_lt (blk_lt (g := gb340) (lb20_ BK340)) : gb340 ≠ gb341)); have n6_ := am20_ ((by rw [hg]; exact Nat.ne_of_gt (blk_lt (g := gb340) (lb20_ BK340)) : gb341 ≠ gb340)); clear BK340; clear HB; have BK340 := n0_; have HB := n1_; have BK341 := n2_; have GW341 := n3_; have GE341 := n4_; have NB340_341 := n5_; have NB341_340 := n6_; clear n0_ n1_ n2_ n3_ n4_ n5_ n6_; clear hb hbox hg; have hnb7 := NB340_341.out; have hnc7 := NB341_340.out; have hcz8_0 : w6.cell? ⟨gb340, 0, none⟩ = some (.int .i64 a0_0) := (blk_cell BK340.out 0).trans rfl; have hcz8_1 : w6.cell? ⟨gb340, 1, none⟩ = some (.slice A0_1 l0_1.length c0_1) := (blk_cell BK340.out 1).trans rfl; have hfz8_0 := blk_frozen BK340.out 0; have hfz8_1 := blk_frozen BK340.out 1; have hcz9_0 : w6.cell? ⟨gb341, 0, none⟩ = some (.int .i64 a1_0) := (blk_cell BK341.out 0).trans rfl; have hcz9_1 : w6.cell? ⟨gb341, 1, none⟩ = some (.slice A1_1 l1_1.length c1_1) := (blk_cell BK341.out 1).trans rfl; have hfz9_0 := blk_frozen BK341.out 0; have hfz9_1 := blk_frozen BK341.out 1) | (go_at_call 82; (with_reducible refine (laws_pSameInts.calls k _ _ l0_1 _ _ l1_1 t342 _ ?side1 ?side2 ?side3 ?side4 A4.out).mono ?_); (case side1 => exact lc20_ (Kd.C_below HR0_1.out HB.out)); (case side2 => exact HC0_1.out); (case side3 => exact lc20_ (Kd.C_below HR1_1.out HB.out)); (case side4 => exact HC1_1.out); rintro e w' ⟨rfl, ⟨nd, rfl⟩⟩))
  go_ret
  exact ⟨by first | rfl | (simp [errW_none, errW_some] <;> rfl) | (simp [*, errW_none, errW_some] <;> rfl), lw20_ HB⟩
 ·rw [if_neg c3] at H
  have c3b0 : (a0_0 == a1_0) = false := beq_eq_false_iff_ne.mpr c3
  have c3b1 : (a0_0 != a1_0) = true := bne_iff_ne.mpr c3
  obtain rfl := Option.some.inj H
  go_enter Try.func81, Try.ntmps81
  go_wp2_with (first | ((with_reducible refine gate_dst (N := 2) rfl ?_); refine box_event ?hg (N := 2) ?hd (cs := #[.int .i64 a0_0, .slice A0_1 l0_1.length c0_1]) (t := 29) ?hr ?_; (case hd => rfl); (case hg => rfl); (case hr => first | (go_simp; done) | (go_simp; rfl)); intro gb340 hg w10 hbox hb; have n0_ := am20_ (below_step (lw20_ HB) hb); have n1_ := am20_ (hbox); have n2_ := am20_ ((by rw [hg]; exact (below_size (lw20_ HB)) : w.heap.size ≤ gb340)); have n3_ := am20_ ((by rw [hg]; exact (below_size (lw20_ HB)) : w.heap.size ≤ gb340)); clear HB; have HB := n0_; have BK340 := n1_; have GW340 := n2_; have GE340 := n3_; clear n0_ n1_ n2_ n3_; clear hb hbox hg) | ((with_reducible refine gate_dst (N := 3) rfl ?_); refine box_event ?hg (N := 3) ?hd (cs := #[.int .i64 a1_0, .slice A1_1 l1_1.length c1_1]) (t := 29) ?hr ?_; (case hd => rfl); (case hg => rfl); (case hr => first | (go_simp; done) | (go_simp; rfl)); intro gb341 hg w11 hbox hb; have n0_ := am20_ (blk_below (g := gb340) (o := .cells #[.int .i64 a0_0, .slice A0_1 l0_1.length c0_1] 29 (0, 0)) (lb20_ BK340) hb); have n1_ := am20_ (below_step (lw20_ HB) hb); have n2_ := am20_ (hbox); have n3_ := am20_ ((by rw [hg]; exact (below_size (lw20_ HB)) : w.heap.size ≤ gb341)); have n4_ := am20_ ((by rw [hg]; exact (below_size (lw20_ HB)) : w.heap.size ≤ gb341)); have n5_ := am20_ ((by rw [hg]; exact Nat.ne_of_lt (blk_lt (g := gb340) (lb20_ BK340)) : gb340 ≠ gb341)); have n6_ := am20_ ((by rw [hg]; exact Nat.ne_of_gt (blk_lt (g := gb340) (lb20_ BK340)) : gb341 ≠ gb340)); clear BK340; clear HB; have BK340 := n0_; have HB := n1_; have BK341 := n2_; have GW341 := n3_; have GE341 := n4_; have NB340_341 := n5_; have NB341_340 := n6_; clear n0_ n1_ n2_ n3_ n4_ n5_ n6_; clear hb hbox hg; have hnb12 := NB340_341.out; have hnc12 := NB341_340.out; have hcz13_0 : w11.cell? ⟨gb340, 0, none⟩ = some (.int .i64 a0_0) := (blk_cell BK340.out 0).trans rfl; have hcz13_1 : w11.cell? ⟨gb340, 1, none⟩ = some (.slice A0_1 l0_1.length c0_1) := (blk_cell BK340.out 1).trans rfl; have hfz13_0 := blk_frozen BK340.out 0; have hfz13_1 := blk_frozen BK340.out 1; have hcz14_0 : w11.cell? ⟨gb341, 0, none⟩ = some (.int .i64 a1_0) := (blk_cell BK341.out 0).trans rfl; have hcz14_1 : w11.cell? ⟨gb341, 1, none⟩ = some (.slice A1_1 l1_1.length c1_1) := (blk_cell BK341.out 1).trans rfl; have hfz14_0 := blk_frozen BK341.out 0; have hfz14_1 := blk_frozen BK341.out 1))
  go_ret
  exact ⟨by first | rfl | (simp [errW_none, errW_some] <;> rfl) | (simp [*, errW_none, errW_some] <;> rfl), lw20_ HB⟩

theorem am21_ {p : Prop} (h : p) : Aside0 p := ⟨h⟩
theorem lm21_ {P : Prop} (h : P := by (try simp only [List.map_toArray, List.map_cons, List.map_nil]); first | done | rfl | (simp only [List.length_drop, List.length_take]; rfl)) : P := h
theorem lc21_ {P Q : Prop} (h : P) (f : P → Q := by intro h_; repeat (first | exact h_ | (with_reducible refine Kd.C_alloc ?_ _) | (with_reducible refine Kd.C_drewN ?_ _) | (with_reducible refine Kd.C_drew ?_))) : Q := f h
theorem lt21_ {P Q : Prop} (h : P) (f : P → Q := by intro h_; (with_reducible repeat (first | apply Kd.R_alloc | apply Kd.R_drewN | apply Kd.R_drew)); exact h_) : Q := f h
theorem lf21_ {P Q : Prop} (h : Aside0 P) (f : P → Q := by intro h_; (with_reducible repeat (first | apply Kd.R_alloc | apply Kd.R_drewN | apply Kd.R_drew)); exact h_) : Q := f h.out
theorem lb21_ {P Q : Prop} (h : Aside0 P) (f : P → Q := by intro h_; (with_reducible repeat (first | refine blk_drewN ?_ _ | refine blk_drew ?_ | refine blk_alloc ?_ _)); exact h_) : Q := f h.out
theorem lw21_ {P Q : Prop} (h : Aside0 P) (f : P → Q := by intro h_; repeat (first | (with_reducible first | exact h_ | apply below_alloc | apply pw_below_drewN | apply below_drew1 | refine below_set ?_ (Aside0.out (by assumption))) | exact h_)) : Q := f h.out
/-! ### laws_pSameRanked: function 52 -/
def laws_pSameRanked.f (k : Nat) (a0_0 : Int) (l0_1 : List Int) (l0_2 : List Int) (l0_3 : List Int) (a1_0 : Int) (l1_1 : List Int) (l1_2 : List Int) (l1_3 : List Int) : Option (Bool) := (laws_pSameBits.f k a0_0 l0_1 a1_0 l1_1).bind fun t345 => (if t345 = true then ((laws_pSameInts.f k l0_2 l1_2).bind fun t346 => (if t346 = true then ((laws_pSameInts.f k l0_3 l1_3).bind fun t347 => (some t347)) else (some false))) else (some false))
theorem laws_pSameRanked.mono : ∀ a0 a1 a2 a3 a4 a5 a6 a7 k, LeO (laws_pSameRanked.f k a0 a1 a2 a3 a4 a5 a6 a7) (laws_pSameRanked.f (k + 1) a0 a1 a2 a3 a4 a5 a6 a7) := by
 intro a0 a1 a2 a3 a4 a5 a6 a7 k
 unfold laws_pSameRanked.f
 repeat' first
   | (with_reducible exact laws_pSameBits.mono _ _ _ _ _)
   | (with_reducible exact laws_pSameInts.mono _ _ _)
   | (with_reducible exact LeO.refl _)
   | (with_reducible exact LeO.none _)
   | (with_reducible refine LeO.ite ?_ ?_)
   | (with_reducible refine LeO.bind ?_ (fun _ => ?_))
   | exact laws_pSameBits.mono _ _ _ _ _
   | exact laws_pSameInts.mono _ _ _
   | exact LeO.none _
   | refine LeO.ite ?_ ?_
   | refine LeO.bind ?_ (fun _ => ?_)
set_option maxHeartbeats 8000000 in
set_option maxRecDepth 100000 in
theorem laws_pSameRanked.calls (k : Nat) (a0_0 : Int) (A0_1 : Option Addr) (c0_1 : Nat) (l0_1 : List Int) (A0_2 : Option Addr) (c0_2 : Nat) (l0_2 : List Int) (A0_3 : Option Addr) (c0_3 : Nat) (l0_3 : List Int) (a1_0 : Int) (A1_1 : Option Addr) (c1_1 : Nat) (l1_1 : List Int) (A1_2 : Option Addr) (c1_2 : Nat) (l1_2 : List Int) (A1_3 : Option Addr) (c1_3 : Nat) (l1_3 : List Int) (r : Bool) (w : World) (hr0_1 : Kd.C (Kd.int .i64) w A0_1 l0_1.length l0_1) (hc0_1 : l0_1.length ≤ c0_1) (hr0_2 : Kd.C (Kd.int .i64) w A0_2 l0_2.length l0_2) (hc0_2 : l0_2.length ≤ c0_2) (hr0_3 : Kd.C (Kd.int .i64) w A0_3 l0_3.length l0_3) (hc0_3 : l0_3.length ≤ c0_3) (hr1_1 : Kd.C (Kd.int .i64) w A1_1 l1_1.length l1_1) (hc1_1 : l1_1.length ≤ c1_1) (hr1_2 : Kd.C (Kd.int .i64) w A1_2 l1_2.length l1_2) (hc1_2 : l1_2.length ≤ c1_2) (hr1_3 : Kd.C (Kd.int .i64) w A1_3 l1_3.length l1_3) (hc1_3 : l1_3.length ≤ c1_3) (h : laws_pSameRanked.f k a0_0 l0_1 l0_2 l0_3 a1_0 l1_1 l1_2 l1_3 = some r) :
  Calls Try.prog 52 #[.agg #[.int .i64 a0_0, .slice A0_1 l0_1.length c0_1, .slice A0_2 l0_2.length c0_2, .slice A0_3 l0_3.length c0_3], .agg #[.int .i64 a1_0, .slice A1_1 l1_1.length c1_1, .slice A1_2 l1_2.length c1_2, .slice A1_3 l1_3.length c1_3]] w fun e w' => e = .returned (.bool r) ∧ Below w.heap.size w w' := by
 have hu31 := Try.underlying31
 have hu29 := Try.underlying29
 have HR0_1 := am21_ hr0_1
 have HC0_1 := am21_ hc0_1
 clear hr0_1 hc0_1
 have HR0_2 := am21_ hr0_2
 have HC0_2 := am21_ hc0_2
 clear hr0_2 hc0_2
 have HR0_3 := am21_ hr0_3
 have HC0_3 := am21_ hc0_3
 clear hr0_3 hc0_3
 have HR1_1 := am21_ hr1_1
 have HC1_1 := am21_ hc1_1
 clear hr1_1 hc1_1
 have HR1_2 := am21_ hr1_2
 have HC1_2 := am21_ hc1_2
 clear hr1_2 hc1_2
 have HR1_3 := am21_ hr1_3
 have HC1_3 := am21_ hc1_3
 clear hr1_3 hc1_3
 have HB := am21_ (Below.refl w.heap.size w)
 have H : ((laws_pSameBits.f k a0_0 l0_1 a1_0 l1_1).bind fun t345 => (if t345 = true then ((laws_pSameInts.f k l0_2 l1_2).bind fun t346 => (if t346 = true then ((laws_pSameInts.f k l0_3 l1_3).bind fun t347 => (some t347)) else (some false))) else (some false))) = some r := h
 clear h
 replace H := Option.bind_eq_some_iff.mp H
 obtain ⟨t345, A30, H⟩ := H
 replace H : (if t345 = true then ((laws_pSameInts.f k l0_2 l1_2).bind fun t346 => (if t346 = true then ((laws_pSameInts.f k l0_3 l1_3).bind fun t347 => (some t347)) else (some false))) else (some false)) = some r := H
 have A3 := am21_ A30
 clear A30
 by_cases c4 : t345 = true
 ·subst c4
  have H1 : ((laws_pSameInts.f k l0_2 l1_2).bind fun t346 => (if t346 = true then ((laws_pSameInts.f k l0_3 l1_3).bind fun t347 => (some t347)) else (some false))) = some r := by rw [if_pos rfl] at H; exact H
  clear H
  have H := H1
  clear H1
  replace H := Option.bind_eq_some_iff.mp H
  obtain ⟨t346, A50, H⟩ := H
  replace H : (if t346 = true then ((laws_pSameInts.f k l0_3 l1_3).bind fun t347 => (some t347)) else (some false)) = some r := H
  have A5 := am21_ A50
  clear A50
  by_cases c6 : t346 = true
  ·subst c6
   have H1 : ((laws_pSameInts.f k l0_3 l1_3).bind fun t347 => (some t347)) = some r := by rw [if_pos rfl] at H; exact H
   clear H
   have H := H1
   clear H1
   replace H := Option.bind_eq_some_iff.mp H
   obtain ⟨t347, A70, H⟩ := H
   replace H : (some t347) = some r := H
   have A7 := am21_ A70
   clear A70
   obtain rfl := Option.some.inj H
   go_enter Try.func52, Try.ntmps52
   go_wp2_with (first | ((with_reducible refine gate_dst (N := 2) rfl ?_); refine box_event ?hg (N := 2) ?hd (cs := #[.int .i64 a0_0, .slice A0_1 l0_1.length c0_1, .slice A0_2 l0_2.length c0_2, .slice A0_3 l0_3.length c0_3]) (t := 31) ?hr ?_; (case hd => rfl); (case hg => rfl); (case hr => first | (go_simp; done) | (go_simp; rfl)); intro gb343 hg w8 hbox hb; have n0_ := am21_ (below_step (lw21_ HB) hb); have n1_ := am21_ (hbox); have n2_ := am21_ ((by rw [hg]; exact (below_size (lw21_ HB)) : w.heap.size ≤ gb343)); have n3_ := am21_ ((by rw [hg]; exact (below_size (lw21_ HB)) : w.heap.size ≤ gb343)); clear HB; have HB := n0_; have BK343 := n1_; have GW343 := n2_; have GE343 := n3_; clear n0_ n1_ n2_ n3_; clear hb hbox hg) | ((with_reducible refine gate_dst (N := 3) rfl ?_); refine box_event ?hg (N := 3) ?hd (cs := #[.int .i64 a1_0, .slice A1_1 l1_1.length c1_1, .slice A1_2 l1_2.length c1_2, .slice A1_3 l1_3.length c1_3]) (t := 31) ?hr ?_; (case hd => rfl); (case hg => rfl); (case hr => first | (go_simp; done) | (go_simp; rfl)); intro gb344 hg w9 hbox hb; have n0_ := am21_ (blk_below (g := gb343) (o := .cells #[.int .i64 a0_0, .slice A0_1 l0_1.length c0_1, .slice A0_2 l0_2.length c0_2, .slice A0_3 l0_3.length c0_3] 31 (0, 0)) (lb21_ BK343) hb); have n1_ := am21_ (below_step (lw21_ HB) hb); have n2_ := am21_ (hbox); have n3_ := am21_ ((by rw [hg]; exact (below_size (lw21_ HB)) : w.heap.size ≤ gb344)); have n4_ := am21_ ((by rw [hg]; exact (below_size (lw21_ HB)) : w.heap.size ≤ gb344)); have n5_ := am21_ ((by rw [hg]; exact Nat.ne_of_lt (blk_lt (g := gb343) (lb21_ BK343)) : gb343 ≠ gb344)); have n6_ := am21_ ((by rw [hg]; exact Nat.ne_of_gt (blk_lt (g := gb343) (lb21_ BK343)) : gb344 ≠ gb343)); clear BK343; clear HB; have BK343 := n0_; have HB := n1_; have BK344 := n2_; have GW344 := n3_; have GE344 := n4_; have NB343_344 := n5_; have NB344_343 := n6_; clear n0_ n1_ n2_ n3_ n4_ n5_ n6_; clear hb hbox hg; have hnb10 := NB343_344.out; have hnc10 := NB344_343.out; have hcz11_0 : w9.cell? ⟨gb343, 0, none⟩ = some (.int .i64 a0_0) := (blk_cell BK343.out 0).trans rfl; have hcz11_1 : w9.cell? ⟨gb343, 1, none⟩ = some (.slice A0_1 l0_1.length c0_1) := (blk_cell BK343.out 1).trans rfl; have hcz11_2 : w9.cell? ⟨gb343, 2, none⟩ = some (.slice A0_2 l0_2.length c0_2) := (blk_cell BK343.out 2).trans rfl; have hcz11_3 : w9.cell? ⟨gb343, 3, none⟩ = some (.slice A0_3 l0_3.length c0_3) := (blk_cell BK343.out 3).trans rfl; have hfz11_0 := blk_frozen BK343.out 0; have hfz11_1 := blk_frozen BK343.out 1; have hfz11_2 := blk_frozen BK343.out 2; have hfz11_3 := blk_frozen BK343.out 3; have hcz12_0 : w9.cell? ⟨gb344, 0, none⟩ = some (.int .i64 a1_0) := (blk_cell BK344.out 0).trans rfl; have hcz12_1 : w9.cell? ⟨gb344, 1, none⟩ = some (.slice A1_1 l1_1.length c1_1) := (blk_cell BK344.out 1).trans rfl; have hcz12_2 : w9.cell? ⟨gb344, 2, none⟩ = some (.slice A1_2 l1_2.length c1_2) := (blk_cell BK344.out 2).trans rfl; have hcz12_3 : w9.cell? ⟨gb344, 3, none⟩ = some (.slice A1_3 l1_3.length c1_3) := (blk_cell BK344.out 3).trans rfl; have hfz12_0 := blk_frozen BK344.out 0; have hfz12_1 := blk_frozen BK344.out 1; have hfz12_2 := blk_frozen BK344.out 2; have hfz12_3 := blk_frozen BK344.out 3) | ((with_reducible refine gate_callee (f := 81) rfl ?_); refine goesL_ (some 9) rfl rfl Try.func81 (by kernel_rfl) rfl #[.agg #[.int .i64 a0_0, .slice A0_1 l0_1.length c0_1], .agg #[.int .i64 a1_0, .slice A1_1 l1_1.length c1_1]] rfl lm21_ ?_; (with_reducible refine (laws_pSameBits.calls k a0_0 _ _ l0_1 a1_0 _ _ l1_1 true _ ?side1 ?side2 ?side3 ?side4 A3.out).mono ?_); (case side1 => exact lc21_ (Kd.C_below HR0_1.out HB.out)); (case side2 => exact HC0_1.out); (case side3 => exact lc21_ (Kd.C_below HR1_1.out HB.out)); (case side4 => exact HC1_1.out); rintro e w13 ⟨rfl, hb⟩; refine ⟨_, rfl, ?_⟩; have n0_ := am21_ (blk_below (g := gb343) (o := .cells #[.int .i64 a0_0, .slice A0_1 l0_1.length c0_1, .slice A0_2 l0_2.length c0_2, .slice A0_3 l0_3.length c0_3] 31 (0, 0)) (lb21_ BK343) hb); have n1_ := am21_ (blk_below (g := gb344) (o := .cells #[.int .i64 a1_0, .slice A1_1 l1_1.length c1_1, .slice A1_2 l1_2.length c1_2, .slice A1_3 l1_3.length c1_3] 31 (0, 0)) (lb21_ BK344) hb); have n2_ := am21_ (below_step (lw21_ HB) hb); clear BK343; clear BK344; clear HB; have BK343 := n0_; have BK344 := n1_; have HB := n2_; clear n0_ n1_ n2_; (try clear hb); (try clear hb2); (try clear hk); (try clear hi); have hcz14_0 : w13.cell? ⟨gb343, 0, none⟩ = some (.int .i64 a0_0) := (blk_cell BK343.out 0).trans rfl; have hcz14_1 : w13.cell? ⟨gb343, 1, none⟩ = some (.slice A0_1 l0_1.length c0_1) := (blk_cell BK343.out 1).trans rfl; have hcz14_2 : w13.cell? ⟨gb343, 2, none⟩ = some (.slice A0_2 l0_2.length c0_2) := (blk_cell BK343.out 2).trans rfl; have hcz14_3 : w13.cell? ⟨gb343, 3, none⟩ = some (.slice A0_3 l0_3.length c0_3) := (blk_cell BK343.out 3).trans rfl; have hfz14_0 := blk_frozen BK343.out 0; have hfz14_1 := blk_frozen BK343.out 1; have hfz14_2 := blk_frozen BK343.out 2; have hfz14_3 := blk_frozen BK343.out 3; have hcz15_0 : w13.cell? ⟨gb344, 0, none⟩ = some (.int .i64 a1_0) := (blk_cell BK344.out 0).trans rfl; have hcz15_1 : w13.cell? ⟨gb344, 1, none⟩ = some (.slice A1_1 l1_1.length c1_1) := (blk_cell BK344.out 1).trans rfl; have hcz15_2 : w13.cell? ⟨gb344, 2, none⟩ = some (.slice A1_2 l1_2.length c1_2) := (blk_cell BK344.out 2).trans rfl; have hcz15_3 : w13.cell? ⟨gb344, 3, none⟩ = some (.slice A1_3 l1_3.length c1_3) := (blk_cell BK344.out 3).trans rfl; have hfz15_0 := blk_frozen BK344.out 0; have hfz15_1 := blk_frozen BK344.out 1; have hfz15_2 := blk_frozen BK344.out 2; have hfz15_3 := blk_frozen BK344.out 3) | (go_at_call 82; (with_reducible refine (laws_pSameInts.calls k _ _ l0_2 _ _ l1_2 true _ ?side1 ?side2 ?side3 ?side4 A5.out).mono ?_); (case side1 => exact lc21_ (Kd.C_below HR0_2.out HB.out)); (case side2 => exact HC0_2.out); (case side3 => exact lc21_ (Kd.C_below HR1_2.out HB.out)); (case side4 => exact HC1_2.out); rintro e w' ⟨rfl, ⟨nd, rfl⟩⟩) | (go_at_call 82; (with_reducible refine (laws_pSameInts.calls k _ _ l0_3 _ _ l1_3 t347 _ ?side1 ?side2 ?side3 ?side4 A7.out).mono ?_); (case side1 => exact lc21_ (Kd.C_below HR0_3.out (lw21_ HB))); (case side2 => exact HC0_3.out); (case side3 => exact lc21_ (Kd.C_below HR1_3.out (lw21_ HB))); (case side4 => exact HC1_3.out); rintro e w' ⟨rfl, ⟨nd, rfl⟩⟩))
   go_ret
   exact ⟨by first | rfl | (simp [errW_none, errW_some] <;> rfl) | (simp [*, errW_none, errW_some] <;> rfl), lw21_ HB⟩
  ·replace c6 := Bool.eq_false_iff.mpr c6
   subst c6
   have H1 : (some false) = some r := by rw [if_neg (show ¬ (false = true) by decide)] at H; exact H
   clear H
   have H := H1
   clear H1
   obtain rfl := Option.some.inj H
   go_enter Try.func52, Try.ntmps52
   go_wp2_with (first | ((with_reducible refine gate_dst (N := 2) rfl ?_); refine box_event ?hg (N := 2) ?hd (cs := #[.int .i64 a0_0, .slice A0_1 l0_1.length c0_1, .slice A0_2 l0_2.length c0_2, .slice A0_3 l0_3.length c0_3]) (t := 31) ?hr ?_; (case hd => rfl); (case hg => rfl); (case hr => first | (go_simp; done) | (go_simp; rfl)); intro gb343 hg w16 hbox hb; have n0_ := am21_ (below_step (lw21_ HB) hb); have n1_ := am21_ (hbox); have n2_ := am21_ ((by rw [hg]; exact (below_size (lw21_ HB)) : w.heap.size ≤ gb343)); have n3_ := am21_ ((by rw [hg]; exact (below_size (lw21_ HB)) : w.heap.size ≤ gb343)); clear HB; have HB := n0_; have BK343 := n1_; have GW343 := n2_; have GE343 := n3_; clear n0_ n1_ n2_ n3_; clear hb hbox hg) | ((with_reducible refine gate_dst (N := 3) rfl ?_); refine box_event ?hg (N := 3) ?hd (cs := #[.int .i64 a1_0, .slice A1_1 l1_1.length c1_1, .slice A1_2 l1_2.length c1_2, .slice A1_3 l1_3.length c1_3]) (t := 31) ?hr ?_; (case hd => rfl); (case hg => rfl); (case hr => first | (go_simp; done) | (go_simp; rfl)); intro gb344 hg w17 hbox hb; have n0_ := am21_ (blk_below (g := gb343) (o := .cells #[.int .i64 a0_0, .slice A0_1 l0_1.length c0_1, .slice A0_2 l0_2.length c0_2, .slice A0_3 l0_3.length c0_3] 31 (0, 0)) (lb21_ BK343) hb); have n1_ := am21_ (below_step (lw21_ HB) hb); have n2_ := am21_ (hbox); have n3_ := am21_ ((by rw [hg]; exact (below_size (lw21_ HB)) : w.heap.size ≤ gb344)); have n4_ := am21_ ((by rw [hg]; exact (below_size (lw21_ HB)) : w.heap.size ≤ gb344)); have n5_ := am21_ ((by rw [hg]; exact Nat.ne_of_lt (blk_lt (g := gb343) (lb21_ BK343)) : gb343 ≠ gb344)); have n6_ := am21_ ((by rw [hg]; exact Nat.ne_of_gt (blk_lt (g := gb343) (lb21_ BK343)) : gb344 ≠ gb343)); clear BK343; clear HB; have BK343 := n0_; have HB := n1_; have BK344 := n2_; have GW344 := n3_; have GE344 := n4_; have NB343_344 := n5_; have NB344_343 := n6_; clear n0_ n1_ n2_ n3_ n4_ n5_ n6_; clear hb hbox hg; have hnb18 := NB343_344.out; have hnc18 := NB344_343.out; have hcz19_0 : w17.cell? ⟨gb343, 0, none⟩ = some (.int .i64 a0_0) := (blk_cell BK343.out 0).trans rfl; have hcz19_1 : w17.cell? ⟨gb343, 1, none⟩ = some (.slice A0_1 l0_1.length c0_1) := (blk_cell BK343.out 1).trans rfl; have hcz19_2 : w17.cell? ⟨gb343, 2, none⟩ = some (.slice A0_2 l0_2.length c0_2) := (blk_cell BK343.out 2).trans rfl; have hcz19_3 : w17.cell? ⟨gb343, 3, none⟩ = some (.slice A0_3 l0_3.length c0_3) := (blk_cell BK343.out 3).trans rfl; have hfz19_0 := blk_frozen BK343.out 0; have hfz19_1 := blk_frozen BK343.out 1; have hfz19_2 := blk_frozen BK343.out 2; have hfz19_3 := blk_frozen BK343.out 3; have hcz20_0 : w17.cell? ⟨gb344, 0, none⟩ = some (.int .i64 a1_0) := (blk_cell BK344.out 0).trans rfl; have hcz20_1 : w17.cell? ⟨gb344, 1, none⟩ = some (.slice A1_1 l1_1.length c1_1) := (blk_cell BK344.out 1).trans rfl; have hcz20_2 : w17.cell? ⟨gb344, 2, none⟩ = some (.slice A1_2 l1_2.length c1_2) := (blk_cell BK344.out 2).trans rfl; have hcz20_3 : w17.cell? ⟨gb344, 3, none⟩ = some (.slice A1_3 l1_3.length c1_3) := (blk_cell BK344.out 3).trans rfl; have hfz20_0 := blk_frozen BK344.out 0; have hfz20_1 := blk_frozen BK344.out 1; have hfz20_2 := blk_frozen BK344.out 2; have hfz20_3 := blk_frozen BK344.out 3) | ((with_reducible refine gate_callee (f := 81) rfl ?_); refine goesL_ (some 9) rfl rfl Try.func81 (by kernel_rfl) rfl #[.agg #[.int .i64 a0_0, .slice A0_1 l0_1.length c0_1], .agg #[.int .i64 a1_0, .slice A1_1 l1_1.length c1_1]] rfl lm21_ ?_; (with_reducible refine (laws_pSameBits.calls k a0_0 _ _ l0_1 a1_0 _ _ l1_1 true _ ?side1 ?side2 ?side3 ?side4 A3.out).mono ?_); (case side1 => exact lc21_ (Kd.C_below HR0_1.out HB.out)); (case side2 => exact HC0_1.out); (case side3 => exact lc21_ (Kd.C_below HR1_1.out HB.out)); (case side4 => exact HC1_1.out); rintro e w21 ⟨rfl, hb⟩; refine ⟨_, rfl, ?_⟩; have n0_ := am21_ (blk_below (g := gb343) (o := .cells #[.int .i64 a0_0, .slice A0_1 l0_1.length c0_1, .slice A0_2 l0_2.length c0_2, .slice A0_3 l0_3.length c0_3] 31 (0, 0)) (lb21_ BK343) hb); have n1_ := am21_ (blk_below (g := gb344) (o := .cells #[.int .i64 a1_0, .slice A1_1 l1_1.length c1_1, .slice A1_2 l1_2.length c1_2, .slice A1_3 l1_3.length c1_3] 31 (0, 0)) (lb21_ BK344) hb); have n2_ := am21_ (below_step (lw21_ HB) hb); clear BK343; clear BK344; clear HB; have BK343 := n0_; have BK344 := n1_; have HB := n2_; clear n0_ n1_ n2_; (try clear hb); (try clear hb2); (try clear hk); (try clear hi); have hcz22_0 : w21.cell? ⟨gb343, 0, none⟩ = some (.int .i64 a0_0) := (blk_cell BK343.out 0).trans rfl; have hcz22_1 : w21.cell? ⟨gb343, 1, none⟩ = some (.slice A0_1 l0_1.length c0_1) := (blk_cell BK343.out 1).trans rfl; have hcz22_2 : w21.cell? ⟨gb343, 2, none⟩ = some (.slice A0_2 l0_2.length c0_2) := (blk_cell BK343.out 2).trans rfl; have hcz22_3 : w21.cell? ⟨gb343, 3, none⟩ = some (.slice A0_3 l0_3.length c0_3) := (blk_cell BK343.out 3).trans rfl; have hfz22_0 := blk_frozen BK343.out 0; have hfz22_1 := blk_frozen BK343.out 1; have hfz22_2 := blk_frozen BK343.out 2; have hfz22_3 := blk_frozen BK343.out 3; have hcz23_0 : w21.cell? ⟨gb344, 0, none⟩ = some (.int .i64 a1_0) := (blk_cell BK344.out 0).trans rfl; have hcz23_1 : w21.cell? ⟨gb344, 1, none⟩ = some (.slice A1_1 l1_1.length c1_1) := (blk_cell BK344.out 1).trans rfl; have hcz23_2 : w21.cell? ⟨gb344, 2, none⟩ = some (.slice A1_2 l1_2.length c1_2) := (blk_cell BK344.out 2).trans rfl; have hcz23_3 : w21.cell? ⟨gb344, 3, none⟩ = some (.slice A1_3 l1_3.length c1_3) := (blk_cell BK344.out 3).trans rfl; have hfz23_0 := blk_frozen BK344.out 0; have hfz23_1 := blk_frozen BK344.out 1; have hfz23_2 := blk_frozen BK344.out 2; have hfz23_3 := blk_frozen BK344.out 3) | (go_at_call 82; (with_reducible refine (laws_pSameInts.calls k _ _ l0_2 _ _ l1_2 false _ ?side1 ?side2 ?side3 ?side4 A5.out).mono ?_); (case side1 => exact lc21_ (Kd.C_below HR0_2.out HB.out)); (case side2 => exact HC0_2.out); (case side3 => exact lc21_ (Kd.C_below HR1_2.out HB.out)); (case side4 => exact HC1_2.out); rintro e w' ⟨rfl, ⟨nd, rfl⟩⟩))
   go_ret
   exact ⟨by first | rfl | (simp [errW_none, errW_some] <;> rfl) | (simp [*, errW_none, errW_some] <;> rfl), lw21_ HB⟩
 ·replace c4 := Bool.eq_false_iff.mpr c4
  subst c4
  have H1 : (some false) = some r := by rw [if_neg (show ¬ (false = true) by decide)] at H; exact H
  clear H
  have H := H1
  clear H1
  obtain rfl := Option.some.inj H
  go_enter Try.func52, Try.ntmps52
  go_wp2_with (first | ((with_reducible refine gate_dst (N := 2) rfl ?_); refine box_event ?hg (N := 2) ?hd (cs := #[.int .i64 a0_0, .slice A0_1 l0_1.length c0_1, .slice A0_2 l0_2.length c0_2, .slice A0_3 l0_3.length c0_3]) (t := 31) ?hr ?_; (case hd => rfl); (case hg => rfl); (case hr => first | (go_simp; done) | (go_simp; rfl)); intro gb343 hg w24 hbox hb; have n0_ := am21_ (below_step (lw21_ HB) hb); have n1_ := am21_ (hbox); have n2_ := am21_ ((by rw [hg]; exact (below_size (lw21_ HB)) : w.heap.size ≤ gb343)); have n3_ := am21_ ((by rw [hg]; exact (below_size (lw21_ HB)) : w.heap.size ≤ gb343)); clear HB; have HB := n0_; have BK343 := n1_; have GW343 := n2_; have GE343 := n3_; clear n0_ n1_ n2_ n3_; clear hb hbox hg) | ((with_reducible refine gate_dst (N := 3) rfl ?_); refine box_event ?hg (N := 3) ?hd (cs := #[.int .i64 a1_0, .slice A1_1 l1_1.length c1_1, .slice A1_2 l1_2.length c1_2, .slice A1_3 l1_3.length c1_3]) (t := 31) ?hr ?_; (case hd => rfl); (case hg => rfl); (case hr => first | (go_simp; done) | (go_simp; rfl)); intro gb344 hg w25 hbox hb; have n0_ := am21_ (blk_below (g := gb343) (o := .cells #[.int .i64 a0_0, .slice A0_1 l0_1.length c0_1, .slice A0_2 l0_2.length c0_2, .slice A0_3 l0_3.length c0_3] 31 (0, 0)) (lb21_ BK343) hb); have n1_ := am21_ (below_step (lw21_ HB) hb); have n2_ := am21_ (hbox); have n3_ := am21_ ((by rw [hg]; exact (below_size (lw21_ HB)) : w.heap.size ≤ gb344)); have n4_ := am21_ ((by rw [hg]; exact (below_size (lw21_ HB)) : w.heap.size ≤ gb344)); have n5_ := am21_ ((by rw [hg]; exact Nat.ne_of_lt (blk_lt (g := gb343) (lb21_ BK343)) : gb343 ≠ gb344)); have n6_ := am21_ ((by rw [hg]; exact Nat.ne_of_gt (blk_lt (g := gb343) (lb21_ BK343)) : gb344 ≠ gb343)); clear BK343; clear HB; have BK343 := n0_; have HB := n1_; have BK344 := n2_; have GW344 := n3_; have GE344 := n4_; have NB343_344 := n5_; have NB344_343 := n6_; clear n0_ n1_ n2_ n3_ n4_ n5_ n6_; clear hb hbox hg; have hnb26 := NB343_344.out; have hnc26 := NB344_343.out; have hcz27_0 : w25.cell? ⟨gb343, 0, none⟩ = some (.int .i64 a0_0) := (blk_cell BK343.out 0).trans rfl; have hcz27_1 : w25.cell? ⟨gb343, 1, none⟩ = some (.slice A0_1 l0_1.length c0_1) := (blk_cell BK343.out 1).trans rfl; have hcz27_2 : w25.cell? ⟨gb343, 2, none⟩ = some (.slice A0_2 l0_2.length c0_2) := (blk_cell BK343.out 2).trans rfl; have hcz27_3 : w25.cell? ⟨gb343, 3, none⟩ = some (.slice A0_3 l0_3.length c0_3) := (blk_cell BK343.out 3).trans rfl; have hfz27_0 := blk_frozen BK343.out 0; have hfz27_1 := blk_frozen BK343.out 1; have hfz27_2 := blk_frozen BK343.out 2; have hfz27_3 := blk_frozen BK343.out 3; have hcz28_0 : w25.cell? ⟨gb344, 0, none⟩ = some (.int .i64 a1_0) := (blk_cell BK344.out 0).trans rfl; have hcz28_1 : w25.cell? ⟨gb344, 1, none⟩ = some (.slice A1_1 l1_1.length c1_1) := (blk_cell BK344.out 1).trans rfl; have hcz28_2 : w25.cell? ⟨gb344, 2, none⟩ = some (.slice A1_2 l1_2.length c1_2) := (blk_cell BK344.out 2).trans rfl; have hcz28_3 : w25.cell? ⟨gb344, 3, none⟩ = some (.slice A1_3 l1_3.length c1_3) := (blk_cell BK344.out 3).trans rfl; have hfz28_0 := blk_frozen BK344.out 0; have hfz28_1 := blk_frozen BK344.out 1; have hfz28_2 := blk_frozen BK344.out 2; have hfz28_3 := blk_frozen BK344.out 3) | ((with_reducible refine gate_callee (f := 81) rfl ?_); refine goesL_ (some 9) rfl rfl Try.func81 (by kernel_rfl) rfl #[.agg #[.int .i64 a0_0, .slice A0_1 l0_1.length c0_1], .agg #[.int .i64 a1_0, .slice A1_1 l1_1.length c1_1]] rfl lm21_ ?_; (with_reducible refine (laws_pSameBits.calls k a0_0 _ _ l0_1 a1_0 _ _ l1_1 false _ ?side1 ?side2 ?side3 ?side4 A3.out).mono ?_); (case side1 => exact lc21_ (Kd.C_below HR0_1.out HB.out)); (case side2 => exact HC0_1.out); (case side3 => exact lc21_ (Kd.C_below HR1_1.out HB.out)); (case side4 => exact HC1_1.out); rintro e w29 ⟨rfl, hb⟩; refine ⟨_, rfl, ?_⟩; have n0_ := am21_ (blk_below (g := gb343) (o := .cells #[.int .i64 a0_0, .slice A0_1 l0_1.length c0_1, .slice A0_2 l0_2.length c0_2, .slice A0_3 l0_3.length c0_3] 31 (0, 0)) (lb21_ BK343) hb); have n1_ := am21_ (blk_below (g := gb344) (o := .cells #[.int .i64 a1_0, .slice A1_1 l1_1.length c1_1, .slice A1_2 l1_2.length c1_2, .slice A1_3 l1_3.length c1_3] 31 (0, 0)) (lb21_ BK344) hb); have n2_ := am21_ (below_step (lw21_ HB) hb); clear BK343; clear BK344; clear HB; have BK343 := n0_; have BK344 := n1_; have HB := n2_; clear n0_ n1_ n2_; (try clear hb); (try clear hb2); (try clear hk); (try clear hi)))
  go_ret
  exact ⟨by first | rfl | (simp [errW_none, errW_some] <;> rfl) | (simp [*, errW_none, errW_some] <;> rfl), lw21_ HB⟩

theorem am22_ {p : Prop} (h : p) : Aside0 p := ⟨h⟩
theorem lm22_ {P : Prop} (h : P := by (try simp only [List.map_toArray, List.map_cons, List.map_nil]); first | done | rfl | (simp only [List.length_drop, List.length_take]; rfl)) : P := h
theorem lc22_ {P Q : Prop} (h : P) (f : P → Q := by intro h_; repeat (first | exact h_ | (with_reducible refine Kd.C_alloc ?_ _) | (with_reducible refine Kd.C_drewN ?_ _) | (with_reducible refine Kd.C_drew ?_))) : Q := f h
theorem lt22_ {P Q : Prop} (h : P) (f : P → Q := by intro h_; (with_reducible repeat (first | apply Kd.R_alloc | apply Kd.R_drewN | apply Kd.R_drew)); exact h_) : Q := f h
theorem lf22_ {P Q : Prop} (h : Aside0 P) (f : P → Q := by intro h_; (with_reducible repeat (first | apply Kd.R_alloc | apply Kd.R_drewN | apply Kd.R_drew)); exact h_) : Q := f h.out
theorem lb22_ {P Q : Prop} (h : Aside0 P) (f : P → Q := by intro h_; (with_reducible repeat (first | refine blk_drewN ?_ _ | refine blk_drew ?_ | refine blk_alloc ?_ _)); exact h_) : Q := f h.out
theorem lw22_ {P Q : Prop} (h : Aside0 P) (f : P → Q := by intro h_; repeat (first | (with_reducible first | exact h_ | apply below_alloc | apply pw_below_drewN | apply below_drew1 | refine below_set ?_ (Aside0.out (by assumption))) | exact h_)) : Q := f h.out
/-! ### impl_BitAt: function 53 -/
def impl_BitAt.f (k : Nat) (a0_0 : Int) (l0_1 : List Int) (a1 : Int) : Option (Bool × Bool) := (impl_IsBits.f k a0_0 l0_1).bind fun t349 => (if t349 = true then ((impl_in.f a1 0 (wrap64 (a0_0 - 1))).bind fun t350 => (if t350 = true then ((impl_Bits_at.f a0_0 l0_1 a1).bind fun t351 => (some (t351, true))) else (some (false, false)))) else (some (false, false)))
theorem impl_BitAt.mono : ∀ a0 a1 a2 k, LeO (impl_BitAt.f k a0 a1 a2) (impl_BitAt.f (k + 1) a0 a1 a2) := by
 intro a0 a1 a2 k
 unfold impl_BitAt.f
 repeat' first
   | (with_reducible exact impl_IsBits.mono _ _ _)
   | (with_reducible exact LeO.refl _)
   | (with_reducible exact LeO.none _)
   | (with_reducible refine LeO.ite ?_ ?_)
   | (with_reducible refine LeO.bind ?_ (fun _ => ?_))
   | exact impl_IsBits.mono _ _ _
   | exact LeO.none _
   | refine LeO.ite ?_ ?_
   | refine LeO.bind ?_ (fun _ => ?_)
set_option maxHeartbeats 8000000 in
set_option maxRecDepth 100000 in
theorem impl_BitAt.calls (k : Nat) (a0_0 : Int) (A0_1 : Option Addr) (c0_1 : Nat) (l0_1 : List Int) (a1 : Int) (r1 : Bool) (r2 : Bool) (w : World) (hr0_1 : Kd.C (Kd.int .i64) w A0_1 l0_1.length l0_1) (hc0_1 : l0_1.length ≤ c0_1) (h : impl_BitAt.f k a0_0 l0_1 a1 = some (r1, r2)) :
  Calls Try.prog 53 #[.agg #[.int .i64 a0_0, .slice A0_1 l0_1.length c0_1], .int .i64 a1] w fun e w' => e = .returned (.tuple #[.bool r1, .bool r2]) ∧ Below w.heap.size w w' := by
 have hu29 := Try.underlying29
 have HR0_1 := am22_ hr0_1
 have HC0_1 := am22_ hc0_1
 clear hr0_1 hc0_1
 have HB := am22_ (Below.refl w.heap.size w)
 have H : ((impl_IsBits.f k a0_0 l0_1).bind fun t349 => (if t349 = true then ((impl_in.f a1 0 (wrap64 (a0_0 - 1))).bind fun t350 => (if t350 = true then ((impl_Bits_at.f a0_0 l0_1 a1).bind fun t351 => (some (t351, true))) else (some (false, false)))) else (some (false, false)))) = some (r1, r2) := h
 clear h
 replace H := Option.bind_eq_some_iff.mp H
 obtain ⟨t349, A30, H⟩ := H
 replace H : (if t349 = true then ((impl_in.f a1 0 (wrap64 (a0_0 - 1))).bind fun t350 => (if t350 = true then ((impl_Bits_at.f a0_0 l0_1 a1).bind fun t351 => (some (t351, true))) else (some (false, false)))) else (some (false, false))) = some (r1, r2) := H
 have A3 := am22_ A30
 clear A30
 by_cases c4 : t349 = true
 ·subst c4
  have H1 : ((impl_in.f a1 0 (wrap64 (a0_0 - 1))).bind fun t350 => (if t350 = true then ((impl_Bits_at.f a0_0 l0_1 a1).bind fun t351 => (some (t351, true))) else (some (false, false)))) = some (r1, r2) := by rw [if_pos rfl] at H; exact H
  clear H
  have H := H1
  clear H1
  replace H := Option.bind_eq_some_iff.mp H
  obtain ⟨t350, A50, H⟩ := H
  replace H : (if t350 = true then ((impl_Bits_at.f a0_0 l0_1 a1).bind fun t351 => (some (t351, true))) else (some (false, false))) = some (r1, r2) := H
  have A5 := am22_ A50
  clear A50
  by_cases c6 : t350 = true
  ·subst c6
   have H1 : ((impl_Bits_at.f a0_0 l0_1 a1).bind fun t351 => (some (t351, true))) = some (r1, r2) := by rw [if_pos rfl] at H; exact H
   clear H
   have H := H1
   clear H1
   replace H := Option.bind_eq_some_iff.mp H
   obtain ⟨t351, A70, H⟩ := H
   replace H : (some (t351, true)) = some (r1, r2) := H
   have A7 := am22_ A70
   clear A70
   simp only [Option.some.injEq, Prod.mk.injEq] at H
   obtain ⟨rfl, rfl⟩ := H
   go_enter Try.func53, Try.ntmps53
   go_wp2_with (first | ((with_reducible refine gate_dst (N := 2) rfl ?_); refine box_event ?hg (N := 2) ?hd (cs := #[.int .i64 a0_0, .slice A0_1 l0_1.length c0_1]) (t := 29) ?hr ?_; (case hd => rfl); (case hg => rfl); (case hr => first | (go_simp; done) | (go_simp; rfl)); intro gb348 hg w8 hbox hb; have n0_ := am22_ (below_step (lw22_ HB) hb); have n1_ := am22_ (hbox); have n2_ := am22_ ((by rw [hg]; exact (below_size (lw22_ HB)) : w.heap.size ≤ gb348)); have n3_ := am22_ ((by rw [hg]; exact (below_size (lw22_ HB)) : w.heap.size ≤ gb348)); clear HB; have HB := n0_; have BK348 := n1_; have GW348 := n2_; have GE348 := n3_; clear n0_ n1_ n2_ n3_; clear hb hbox hg; have hcz9_0 : w8.cell? ⟨gb348, 0, none⟩ = some (.int .i64 a0_0) := (blk_cell BK348.out 0).trans rfl; have hcz9_1 : w8.cell? ⟨gb348, 1, none⟩ = some (.slice A0_1 l0_1.length c0_1) := (blk_cell BK348.out 1).trans rfl; have hfz9_0 := blk_frozen BK348.out 0; have hfz9_1 := blk_frozen BK348.out 1) | ((with_reducible refine gate_callee (f := 57) rfl ?_); refine goesL_ (some 7) rfl rfl Try.func57 (by kernel_rfl) rfl #[.agg #[.int .i64 a0_0, .slice A0_1 l0_1.length c0_1]] rfl lm22_ ?_; (with_reducible refine (impl_IsBits.calls k a0_0 _ _ l0_1 true _ ?side1 ?side2 A3.out).mono ?_); (case side1 => exact lc22_ (Kd.C_below HR0_1.out HB.out)); (case side2 => exact HC0_1.out); rintro e w10 ⟨rfl, hb⟩; refine ⟨_, rfl, ?_⟩; have n0_ := am22_ (blk_below (g := gb348) (o := .cells #[.int .i64 a0_0, .slice A0_1 l0_1.length c0_1] 29 (0, 0)) (lb22_ BK348) hb); have n1_ := am22_ (below_step (lw22_ HB) hb); clear BK348; clear HB; have BK348 := n0_; have HB := n1_; clear n0_ n1_; (try clear hb); (try clear hb2); (try clear hk); (try clear hi); have hcz11_0 : w10.cell? ⟨gb348, 0, none⟩ = some (.int .i64 a0_0) := (blk_cell BK348.out 0).trans rfl; have hcz11_1 : w10.cell? ⟨gb348, 1, none⟩ = some (.slice A0_1 l0_1.length c0_1) := (blk_cell BK348.out 1).trans rfl; have hfz11_0 := blk_frozen BK348.out 0; have hfz11_1 := blk_frozen BK348.out 1) | (go_at_call 64; (with_reducible refine (impl_in.calls a1 0 (wrap64 (a0_0 - 1)) true _ A5.out).mono ?_); rintro e w' ⟨rfl, ⟨nd, rfl⟩⟩) | ((with_reducible refine gate_callee (f := 67) rfl ?_); refine goesL_ (some 18) rfl rfl Try.func67 (by kernel_rfl) rfl #[.pointer (some ⟨gb348, 0, none⟩), .int .i64 a1] rfl lm22_ ?_; (with_reducible refine (impl_Bits_at.calls gb348 [] 29 a0_0 A0_1 c0_1 l0_1 a1 t351 _ ?side1 ?side2 ?side3 A7.out).mono ?_); (case side1 => (with_reducible repeat (first | refine blk_drewN ?_ _ | refine blk_drew ?_ | refine blk_alloc ?_ _)); exact BK348.out); (case side2 => exact lc22_ (Kd.C_below HR0_1.out (lw22_ HB))); (case side3 => exact HC0_1.out); rintro e w12 ⟨rfl, hb⟩; refine ⟨_, rfl, ?_⟩; have n0_ := am22_ (blk_below (g := gb348) (o := .cells #[.int .i64 a0_0, .slice A0_1 l0_1.length c0_1] 29 (0, 0)) (lb22_ BK348) hb); have n1_ := am22_ (below_step (lw22_ HB) hb); clear BK348; clear HB; have BK348 := n0_; have HB := n1_; clear n0_ n1_; (try clear hb); (try clear hb2); (try clear hk); (try clear hi)))
   go_ret2
   exact ⟨by first | rfl | (simp [errW_none, errW_some] <;> rfl) | (simp [*, errW_none, errW_some] <;> rfl), lw22_ HB⟩
  ·replace c6 := Bool.eq_false_iff.mpr c6
   subst c6
   have H1 : (some (false, false)) = some (r1, r2) := by rw [if_neg (show ¬ (false = true) by decide)] at H; exact H
   clear H
   have H := H1
   clear H1
   simp only [Option.some.injEq, Prod.mk.injEq] at H
   obtain ⟨rfl, rfl⟩ := H
   go_enter Try.func53, Try.ntmps53
   go_wp2_with (first | ((with_reducible refine gate_dst (N := 2) rfl ?_); refine box_event ?hg (N := 2) ?hd (cs := #[.int .i64 a0_0, .slice A0_1 l0_1.length c0_1]) (t := 29) ?hr ?_; (case hd => rfl); (case hg => rfl); (case hr => first | (go_simp; done) | (go_simp; rfl)); intro gb348 hg w13 hbox hb; have n0_ := am22_ (below_step (lw22_ HB) hb); have n1_ := am22_ (hbox); have n2_ := am22_ ((by rw [hg]; exact (below_size (lw22_ HB)) : w.heap.size ≤ gb348)); have n3_ := am22_ ((by rw [hg]; exact (below_size (lw22_ HB)) : w.heap.size ≤ gb348)); clear HB; have HB := n0_; have BK348 := n1_; have GW348 := n2_; have GE348 := n3_; clear n0_ n1_ n2_ n3_; clear hb hbox hg; have hcz14_0 : w13.cell? ⟨gb348, 0, none⟩ = some (.int .i64 a0_0) := (blk_cell BK348.out 0).trans rfl; have hcz14_1 : w13.cell? ⟨gb348, 1, none⟩ = some (.slice A0_1 l0_1.length c0_1) := (blk_cell BK348.out 1).trans rfl; have hfz14_0 := blk_frozen BK348.out 0; have hfz14_1 := blk_frozen BK348.out 1) | ((with_reducible refine gate_callee (f := 57) rfl ?_); refine goesL_ (some 7) rfl rfl Try.func57 (by kernel_rfl) rfl #[.agg #[.int .i64 a0_0, .slice A0_1 l0_1.length c0_1]] rfl lm22_ ?_; (with_reducible refine (impl_IsBits.calls k a0_0 _ _ l0_1 true _ ?side1 ?side2 A3.out).mono ?_); (case side1 => exact lc22_ (Kd.C_below HR0_1.out HB.out)); (case side2 => exact HC0_1.out); rintro e w15 ⟨rfl, hb⟩; refine ⟨_, rfl, ?_⟩; have n0_ := am22_ (blk_below (g := gb348) (o := .cells #[.int .i64 a0_0, .slice A0_1 l0_1.length c0_1] 29 (0, 0)) (lb22_ BK348) hb); have n1_ := am22_ (below_step (lw22_ HB) hb); clear BK348; clear HB; have BK348 := n0_; have HB := n1_; clear n0_ n1_; (try clear hb); (try clear hb2); (try clear hk); (try clear hi); have hcz16_0 : w15.cell? ⟨gb348, 0, none⟩ = some (.int .i64 a0_0) := (blk_cell BK348.out 0).trans rfl; have hcz16_1 : w15.cell? ⟨gb348, 1, none⟩ = some (.slice A0_1 l0_1.length c0_1) := (blk_cell BK348.out 1).trans rfl; have hfz16_0 := blk_frozen BK348.out 0; have hfz16_1 := blk_frozen BK348.out 1) | (go_at_call 64; (with_reducible refine (impl_in.calls a1 0 (wrap64 (a0_0 - 1)) false _ A5.out).mono ?_); rintro e w' ⟨rfl, ⟨nd, rfl⟩⟩))
   go_ret2
   exact ⟨by first | rfl | (simp [errW_none, errW_some] <;> rfl) | (simp [*, errW_none, errW_some] <;> rfl), lw22_ HB⟩
 ·replace c4 := Bool.eq_false_iff.mpr c4
  subst c4
  have H1 : (some (false, false)) = some (r1, r2) := by rw [if_neg (show ¬ (false = true) by decide)] at H; exact H
  clear H
  have H := H1
  clear H1
  simp only [Option.some.injEq, Prod.mk.injEq] at H
  obtain ⟨rfl, rfl⟩ := H
  go_enter Try.func53, Try.ntmps53
  go_wp2_with (first | ((with_reducible refine gate_dst (N := 2) rfl ?_); refine box_event ?hg (N := 2) ?hd (cs := #[.int .i64 a0_0, .slice A0_1 l0_1.length c0_1]) (t := 29) ?hr ?_; (case hd => rfl); (case hg => rfl); (case hr => first | (go_simp; done) | (go_simp; rfl)); intro gb348 hg w17 hbox hb; have n0_ := am22_ (below_step (lw22_ HB) hb); have n1_ := am22_ (hbox); have n2_ := am22_ ((by rw [hg]; exact (below_size (lw22_ HB)) : w.heap.size ≤ gb348)); have n3_ := am22_ ((by rw [hg]; exact (below_size (lw22_ HB)) : w.heap.size ≤ gb348)); clear HB; have HB := n0_; have BK348 := n1_; have GW348 := n2_; have GE348 := n3_; clear n0_ n1_ n2_ n3_; clear hb hbox hg; have hcz18_0 : w17.cell? ⟨gb348, 0, none⟩ = some (.int .i64 a0_0) := (blk_cell BK348.out 0).trans rfl; have hcz18_1 : w17.cell? ⟨gb348, 1, none⟩ = some (.slice A0_1 l0_1.length c0_1) := (blk_cell BK348.out 1).trans rfl; have hfz18_0 := blk_frozen BK348.out 0; have hfz18_1 := blk_frozen BK348.out 1) | ((with_reducible refine gate_callee (f := 57) rfl ?_); refine goesL_ (some 7) rfl rfl Try.func57 (by kernel_rfl) rfl #[.agg #[.int .i64 a0_0, .slice A0_1 l0_1.length c0_1]] rfl lm22_ ?_; (with_reducible refine (impl_IsBits.calls k a0_0 _ _ l0_1 false _ ?side1 ?side2 A3.out).mono ?_); (case side1 => exact lc22_ (Kd.C_below HR0_1.out HB.out)); (case side2 => exact HC0_1.out); rintro e w19 ⟨rfl, hb⟩; refine ⟨_, rfl, ?_⟩; have n0_ := am22_ (blk_below (g := gb348) (o := .cells #[.int .i64 a0_0, .slice A0_1 l0_1.length c0_1] 29 (0, 0)) (lb22_ BK348) hb); have n1_ := am22_ (below_step (lw22_ HB) hb); clear BK348; clear HB; have BK348 := n0_; have HB := n1_; clear n0_ n1_; (try clear hb); (try clear hb2); (try clear hk); (try clear hi)))
  go_ret2
  exact ⟨by first | rfl | (simp [errW_none, errW_some] <;> rfl) | (simp [*, errW_none, errW_some] <;> rfl), lw22_ HB⟩

end Go.Proofs.Ytpidlhpjcjaojaa.PFnRankUndoesSelect
