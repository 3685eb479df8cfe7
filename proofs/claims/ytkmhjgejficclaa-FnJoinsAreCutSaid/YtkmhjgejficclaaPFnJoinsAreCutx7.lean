-- Laid by a program of this session: the print of the kit with additions of ours (wip/tools/patchprint.py). Nothing of it is trusted: Lean checks it.
import Derived.Test.YtkmhjgejficclaaPFnJoinsAreCutx0
import Derived.Test.YtkmhjgejficclaaPFnJoinsAreCutx1
import Derived.Test.YtkmhjgejficclaaPFnJoinsAreCutx2
import Derived.Test.YtkmhjgejficclaaPFnJoinsAreCutx4
import Derived.Test.YtkmhjgejficclaaPFnJoinsAreCutx5
import Derived.Test.YtkmhjgejficclaaPFnJoinsAreCutx6
namespace Go.Proofs.Ytkmhjgejficclaa.PFnJoinsAreCut
open Go.RowKit Go.Proofs.YtkmhjgejficclaaW.PrintWords Go.Proofs.YtkmhjgejficclaaW.PrintLast Go.Proofs.YtkmhjgejficclaaW.PrintMore
attribute [local go_sem] max2_int min2_int max_two min_two max_three min_three max_four min_four   -- for this text's walks alone
set_option linter.unusedVariables false
set_option linter.unusedSimpArgs false

theorem am14_ {p : Prop} (h : p) : Aside0 p := ⟨h⟩
theorem lm14_ {P : Prop} (h : P := by (try simp only [List.map_toArray, List.map_cons, List.map_nil]); first | done | rfl | (simp only [List.length_drop, List.length_take]; rfl)) : P := h
theorem lc14_ {P Q : Prop} (h : P) (f : P → Q := by intro h_; repeat (first | exact h_ | (with_reducible refine Kd.C_alloc ?_ _) | (with_reducible refine Kd.C_drewN ?_ _) | (with_reducible refine Kd.C_drew ?_))) : Q := f h
theorem lt14_ {P Q : Prop} (h : P) (f : P → Q := by intro h_; (with_reducible repeat (first | apply Kd.R_alloc | apply Kd.R_drewN | apply Kd.R_drew)); exact h_) : Q := f h
theorem lf14_ {P Q : Prop} (h : Aside0 P) (f : P → Q := by intro h_; (with_reducible repeat (first | apply Kd.R_alloc | apply Kd.R_drewN | apply Kd.R_drew)); exact h_) : Q := f h.out
theorem lb14_ {P Q : Prop} (h : Aside0 P) (f : P → Q := by intro h_; (with_reducible repeat (first | refine blk_drewN ?_ _ | refine blk_drew ?_ | refine blk_alloc ?_ _)); exact h_) : Q := f h.out
theorem lw14_ {P Q : Prop} (h : Aside0 P) (f : P → Q := by intro h_; repeat (first | (with_reducible first | exact h_ | apply below_alloc | apply pw_below_drewN | apply below_drew1 | refine below_set ?_ (Aside0.out (by assumption))) | exact h_)) : Q := f h.out
/-! ### spec_DrawJoinBits: function 51 -/
def spec_DrawJoinBits.f (k : Nat) (l0 : List Int) : Option (Int × List Int × Int × List Int) := (spec_l1Cur_anyBits.f k l0 0 0).bind fun bt253 => ((spec_l1Cur_anyBits.f k l0 bt253.2.2.1 bt253.2.2.2).bind fun bt259 => (some (bt253.1, bt253.2.1, bt259.1, bt259.2.1)))
theorem spec_DrawJoinBits.mono : ∀ a0 k, LeO (spec_DrawJoinBits.f k a0) (spec_DrawJoinBits.f (k + 1) a0) := by
 intro a0 k
 unfold spec_DrawJoinBits.f
 repeat' first
   | (with_reducible exact spec_l1Cur_anyBits.mono _ _ _ _)
   | (with_reducible exact LeO.refl _)
   | (with_reducible exact LeO.none _)
   | (with_reducible refine LeO.ite ?_ ?_)
   | (with_reducible refine LeO.bind ?_ (fun _ => ?_))
   | exact spec_l1Cur_anyBits.mono _ _ _ _
   | exact LeO.none _
   | refine LeO.ite ?_ ?_
   | refine LeO.bind ?_ (fun _ => ?_)
set_option maxHeartbeats 8000000 in
set_option maxRecDepth 100000 in
theorem spec_DrawJoinBits.calls (k : Nat) (A0 : Option Addr) (c0 : Nat) (l0 : List Int) (r1 : Int) (r2 : List Int) (r3 : Int) (r4 : List Int) (w : World) (hr0 : Kd.C (Kd.int .u8) w A0 l0.length l0) (hc0 : l0.length ≤ c0) (h : spec_DrawJoinBits.f k l0 = some (r1, r2, r3, r4)) :
  Calls Try.prog 51 #[.slice A0 l0.length c0] w fun e w' => ∃ v1_ v3_ : Value, e = .returned (.tuple #[.agg #[.int .i64 r1, v1_], .agg #[.int .i64 r3, v3_]]) ∧ Kd.R (Kd.int .i64) 3 w' w.heap.size (fun k_ => some k_ ≠ (v3_ : Value).ownBlock) v1_ r2 ∧ Kd.R (Kd.int .i64) 3 w' w.heap.size (fun k_ => some k_ ≠ (v1_ : Value).ownBlock) v3_ r4 ∧ Below w.heap.size w w' := by
 have hu26 := Try.underlying26
 have hu109 := Try.underlying109
 have HR0 := am14_ hr0
 have HC0 := am14_ hc0
 clear hr0 hc0
 have HB := am14_ (Below.refl w.heap.size w)
 have H : ((spec_l1Cur_anyBits.f k l0 0 0).bind fun bt253 => ((spec_l1Cur_anyBits.f k l0 bt253.2.2.1 bt253.2.2.2).bind fun bt259 => (some (bt253.1, bt253.2.1, bt259.1, bt259.2.1)))) = some (r1, r2, r3, r4) := h
 clear h
 replace H := Option.bind_eq_some_iff.mp H
 obtain ⟨⟨t253, t254, t257, t258⟩, A20, H⟩ := H
 replace H : ((spec_l1Cur_anyBits.f k l0 t257 t258).bind fun bt259 => (some (t253, t254, bt259.1, bt259.2.1))) = some (r1, r2, r3, r4) := H
 have A2 := am14_ A20
 clear A20
 replace H := Option.bind_eq_some_iff.mp H
 obtain ⟨⟨t259, t260, t263, t264⟩, A30, H⟩ := H
 replace H : (some (t253, t254, t259, t260)) = some (r1, r2, r3, r4) := H
 have A3 := am14_ A30
 clear A30
 simp only [Option.some.injEq, Prod.mk.injEq] at H
 obtain ⟨rfl, rfl, rfl, rfl⟩ := H
 go_enter Try.func51, Try.ntmps51
 go_wp2_with (first | ((with_reducible refine gate_dst (N := 2) rfl ?_); refine box_event ?hg (N := 2) ?hd (cs := #[.int .i64 0, .slice none 0 0]) (t := 26) ?hr ?_; (case hd => rfl); (case hg => rfl); (case hr => first | (go_simp; done) | (go_simp; rfl)); intro gb250 hg w4 hbox hb; have n0_ := am14_ (below_step (lw14_ HB) hb); have n1_ := am14_ (hbox); have n2_ := am14_ ((by rw [hg]; exact (below_size (lw14_ HB)) : w.heap.size ≤ gb250)); have n3_ := am14_ ((by rw [hg]; exact (below_size (lw14_ HB)) : w.heap.size ≤ gb250)); clear HB; have HB := n0_; have BK250 := n1_; have GW250 := n2_; have GE250 := n3_; clear n0_ n1_ n2_ n3_; clear hb hbox hg) | ((with_reducible refine gate_dst (N := 3) rfl ?_); refine box_event ?hg (N := 3) ?hd (cs := #[.int .i64 0, .slice none 0 0]) (t := 26) ?hr ?_; (case hd => rfl); (case hg => rfl); (case hr => first | (go_simp; done) | (go_simp; rfl)); intro gb251 hg w5 hbox hb; have n0_ := am14_ (blk_below (g := gb250) (o := .cells #[.int .i64 0, .slice none 0 0] 26 (0, 0)) (lb14_ BK250) hb); have n1_ := am14_ (below_step (lw14_ HB) hb); have n2_ := am14_ (hbox); have n3_ := am14_ ((by rw [hg]; exact (below_size (lw14_ HB)) : w.heap.size ≤ gb251)); have n4_ := am14_ ((by rw [hg]; exact (below_size (lw14_ HB)) : w.heap.size ≤ gb251)); have n5_ := am14_ ((by rw [hg]; exact Nat.ne_of_lt (blk_lt (g := gb250) (lb14_ BK250)) : gb250 ≠ gb251)); have n6_ := am14_ ((by rw [hg]; exact Nat.ne_of_gt (blk_lt (g := gb250) (lb14_ BK250)) : gb251 ≠ gb250)); clear BK250; clear HB; have BK250 := n0_; have HB := n1_; have BK251 := n2_; have GW251 := n3_; have GE251 := n4_; have NB250_251 := n5_; have NB251_250 := n6_; clear n0_ n1_ n2_ n3_ n4_ n5_ n6_; clear hb hbox hg) | ((with_reducible refine gate_dst (N := 7) rfl ?_); refine box_event ?hg (N := 7) ?hd (cs := #[.slice A0 l0.length c0, .int .i64 0, .int .u64 0]) (t := 109) ?hr ?_; (case hd => rfl); (case hg => rfl); (case hr => first | (go_simp; done) | (go_simp; rfl)); intro gb252 hg w6 hbox hb; have n0_ := am14_ (blk_below (g := gb250) (o := .cells #[.int .i64 0, .slice none 0 0] 26 (0, 0)) (lb14_ BK250) hb); have n1_ := am14_ (blk_below (g := gb251) (o := .cells #[.int .i64 0, .slice none 0 0] 26 (0, 0)) (lb14_ BK251) hb); have n2_ := am14_ (below_step (lw14_ HB) hb); have n3_ := am14_ (hbox); have n4_ := am14_ ((by rw [hg]; exact (below_size (lw14_ HB)) : w.heap.size ≤ gb252)); have n5_ := am14_ ((by rw [hg]; exact (below_size (lw14_ HB)) : w.heap.size ≤ gb252)); have n6_ := am14_ ((by rw [hg]; exact Nat.ne_of_lt (blk_lt (g := gb250) (lb14_ BK250)) : gb250 ≠ gb252)); have n7_ := am14_ ((by rw [hg]; exact Nat.ne_of_gt (blk_lt (g := gb250) (lb14_ BK250)) : gb252 ≠ gb250)); have n8_ := am14_ ((by rw [hg]; exact Nat.ne_of_lt (blk_lt (g := gb251) (lb14_ BK251)) : gb251 ≠ gb252)); have n9_ := am14_ ((by rw [hg]; exact Nat.ne_of_gt (blk_lt (g := gb251) (lb14_ BK251)) : gb252 ≠ gb251)); clear BK250; clear BK251; clear HB; have BK250 := n0_; have BK251 := n1_; have HB := n2_; have BK252 := n3_; have GW252 := n4_; have GE252 := n5_; have NB250_252 := n6_; have NB252_250 := n7_; have NB251_252 := n8_; have NB252_251 := n9_; clear n0_ n1_ n2_ n3_ n4_ n5_ n6_ n7_ n8_ n9_; clear hb hbox hg) | ((with_reducible refine gate_callee (f := 103) rfl ?_); refine goesL_ (some 9) rfl rfl Try.func103 (by kernel_rfl) rfl #[.pointer (some ⟨gb252, 0, none⟩)] rfl lm14_ ?_; (with_reducible refine (spec_l1Cur_anyBits.calls k gb252 l0 0 0 t253 t254 t257 t258 w _ ?side1 ?side2 A2.out).mono ?_); (case side1 => exact ⟨_, _, (lb14_ BK252), GE252.out, HR0.out⟩); (case side2 => repeat (first | (with_reducible first | exact HB.out | apply below_alloc | apply pw_below_drewN | apply below_drew1 | refine below_set ?_ GE252.out | refine below_set ?_ (IsS109.ge HI252.out) | refine below_set ?_ GE250.out | refine below_set ?_ GE251.out) | exact HB.out)); rintro e w7 ⟨v255, rfl, ho0, hi, hb, hk⟩; refine ⟨_, rfl, ?_⟩; have n0_ := am14_ (KeepBut.blk hk (g' := gb250) (o := .cells #[.int .i64 0, .slice none 0 0] 26 (0, 0)) (lb14_ BK250) NB250_252.out (by simp)); have n1_ := am14_ (KeepBut.blk hk (g' := gb251) (o := .cells #[.int .i64 0, .slice none 0 0] 26 (0, 0)) (lb14_ BK251) NB251_252.out (by simp)); have n2_ := am14_ (Kd.R_lower ho0 (below_size (by repeat (first | (with_reducible first | exact HB.out | apply below_alloc | apply pw_below_drewN | apply below_drew1 | refine below_set ?_ GE252.out | refine below_set ?_ (IsS109.ge HI252.out) | refine below_set ?_ GE250.out | refine below_set ?_ GE251.out) | exact HB.out)))); have n3_ := am14_ (hb); have n4_ := am14_ (hi); clear BK250; clear BK251; clear HB; have BK250 := n0_; have BK251 := n1_; have HO256 := n2_; have HB := n3_; have HI252 := n4_; clear n0_ n1_ n2_ n3_ n4_; (try clear hb); (try clear hb2); (try clear hk); (try clear hi); (try clear ho0)) | ((with_reducible refine gate_callee (f := 103) rfl ?_); refine goesL_ (some 11) rfl rfl Try.func103 (by kernel_rfl) rfl #[.pointer (some ⟨gb252, 0, none⟩)] rfl lm14_ ?_; (with_reducible refine (spec_l1Cur_anyBits.calls k gb252 l0 t257 t258 t259 t260 t263 t264 w _ ?side1 ?side2 A3.out).mono ?_); (case side1 => repeat (first | (with_reducible first | exact HI252.out | apply IsS109.alloc | apply IsS109.drewN | apply IsS109.drew | apply IsS109.set_1 | apply IsS109.set_2 | refine IsS109.far ?_ NB252_250.out _ | refine IsS109.far ?_ NB252_251.out _) | exact HI252.out)); (case side2 => repeat (first | (with_reducible first | exact HB.out | apply below_alloc | apply pw_below_drewN | apply below_drew1 | refine below_set ?_ (IsS109.ge HI252.out) | refine below_set ?_ GE250.out | refine below_set ?_ GE251.out) | exact HB.out)); rintro e w8 ⟨v261, rfl, ho0, hi, hb, hk⟩; refine ⟨_, rfl, ?_⟩; have n0_ := am14_ (KeepBut.blk hk (g' := gb250) (o := .cells #[.int .i64 0, .slice none 0 0] 26 (0, 0)) (lb14_ BK250) NB250_252.out (by simp)); have n1_ := am14_ (KeepBut.blk hk (g' := gb251) (o := .cells #[.int .i64 0, .slice none 0 0] 26 (0, 0)) (lb14_ BK251) NB251_252.out (by simp)); have n2_ := am14_ (Kd.R_mono (Kd.R_told (Kd.R_oldK (IsS109.apart (show IsS109 w _ gb252 l0 t257 t258 from by repeat (first | (with_reducible first | exact HI252.out | apply IsS109.alloc | apply IsS109.drewN | apply IsS109.drew | apply IsS109.set_1 | apply IsS109.set_2 | refine IsS109.far ?_ NB252_250.out _ | refine IsS109.far ?_ NB252_251.out _) | exact HI252.out)) (lf14_ HO256) (by decide)) hk) (Kd.R_base ho0)) (fun _ h_ => h_.1)); have n3_ := am14_ (Kd.R_lower (Kd.R_new' ho0 (Kd.R_lt (lf14_ HO256))) (below_size (by repeat (first | (with_reducible first | exact HB.out | apply below_alloc | apply pw_below_drewN | apply below_drew1 | refine below_set ?_ (IsS109.ge HI252.out) | refine below_set ?_ GE250.out | refine below_set ?_ GE251.out) | exact HB.out)))); have n4_ := am14_ (hb); have n5_ := am14_ (hi); clear BK250; clear BK251; clear HO256; clear HB; clear HI252; have BK250 := n0_; have BK251 := n1_; have HO256 := n2_; have HO262 := n3_; have HB := n4_; have HI252 := n5_; clear n0_ n1_ n2_ n3_ n4_ n5_; (try clear hb); (try clear hb2); (try clear hk); (try clear hi); (try clear ho0); have hnb9 := NB250_251.out; have hnc9 := NB251_250.out; have hnb10 := NB250_252.out; have hnc10 := NB252_250.out; have hcz11_0 : w8.cell? ⟨gb250, 0, none⟩ = some (.int .i64 0) := (blk_cell BK250.out 0).trans rfl; have hcz11_1 : w8.cell? ⟨gb250, 1, none⟩ = some (.slice none 0 0) := (blk_cell BK250.out 1).trans rfl; have hfz11_0 := blk_frozen BK250.out 0; have hfz11_1 := blk_frozen BK250.out 1; obtain ⟨Ao12, co12, eo12⟩ := Kd.R_slice HO256.out; subst eo12; have hnb13 := NB251_252.out; have hnc13 := NB252_251.out; have hcz14_0 : w8.cell? ⟨gb251, 0, none⟩ = some (.int .i64 0) := (blk_cell BK251.out 0).trans rfl; have hcz14_1 : w8.cell? ⟨gb251, 1, none⟩ = some (.slice none 0 0) := (blk_cell BK251.out 1).trans rfl; have hfz14_0 := blk_frozen BK251.out 0; have hfz14_1 := blk_frozen BK251.out 1; obtain ⟨Ao15, co15, eo15⟩ := Kd.R_slice HO262.out; subst eo15))
 refine bodyPost_ret (results_cc rfl _ _ gb250 gb251 26 26 #[.int .i64 t253, .slice Ao12 t254.length co12] #[.int .i64 t259, .slice Ao15 t260.length co15] (0, 0) (0, 0) _ _ rfl (by (with_reducible repeat (first | refine blk_drewN ?_ _ | refine blk_drew ?_ | refine blk_alloc ?_ _)); refine blk_far ?_ NB250_251.out _; (with_reducible repeat (first | refine blk_drewN ?_ _ | refine blk_drew ?_ | refine blk_alloc ?_ _)); refine blk_far ?_ NB250_251.out _; (with_reducible repeat (first | refine blk_drewN ?_ _ | refine blk_drew ?_ | refine blk_alloc ?_ _)); refine blk_put (cs := #[.int .i64 t253, .slice none 0 0]) ?_ 1 _ rfl; (with_reducible repeat (first | refine blk_drewN ?_ _ | refine blk_drew ?_ | refine blk_alloc ?_ _)); refine blk_put (cs := #[.int .i64 0, .slice none 0 0]) ?_ 0 _ rfl; (with_reducible repeat (first | refine blk_drewN ?_ _ | refine blk_drew ?_ | refine blk_alloc ?_ _)); exact BK250.out) Try.underlying26 rfl (by kernel_rfl) rfl (by (with_reducible repeat (first | refine blk_drewN ?_ _ | refine blk_drew ?_ | refine blk_alloc ?_ _)); refine blk_put (cs := #[.int .i64 t259, .slice none 0 0]) ?_ 1 _ rfl; (with_reducible repeat (first | refine blk_drewN ?_ _ | refine blk_drew ?_ | refine blk_alloc ?_ _)); refine blk_put (cs := #[.int .i64 0, .slice none 0 0]) ?_ 0 _ rfl; (with_reducible repeat (first | refine blk_drewN ?_ _ | refine blk_drew ?_ | refine blk_alloc ?_ _)); refine blk_far ?_ NB251_250.out _; (with_reducible repeat (first | refine blk_drewN ?_ _ | refine blk_drew ?_ | refine blk_alloc ?_ _)); refine blk_far ?_ NB251_250.out _; (with_reducible repeat (first | refine blk_drewN ?_ _ | refine blk_drew ?_ | refine blk_alloc ?_ _)); exact BK251.out) Try.underlying26 rfl (by kernel_rfl)) rfl ?_
 exact ⟨_, _, by first | rfl | (simp [errW_none, errW_some] <;> rfl) | (simp [*, errW_none, errW_some] <;> rfl), by (with_reducible repeat (first | apply Kd.R_alloc | apply Kd.R_drewN | apply Kd.R_drew)); exact Kd.R_mono (Kd.R_far (p := ⟨gb251, 1, none⟩) (Kd.R_far (p := ⟨gb251, 0, none⟩) (Kd.R_far (p := ⟨gb250, 1, none⟩) (Kd.R_far (p := ⟨gb250, 0, none⟩) (Kd.R_types (Kd.R_types HO256.out BK250.out (by decide)) BK251.out (by decide)) (fun _ hk => hk.1.2) (.int .i64 t253)) (fun _ hk => hk.1.2) (.slice Ao12 t254.length co12)) (fun _ hk => hk.2) (.int .i64 t259)) (fun _ hk => hk.2) (.slice Ao15 t260.length co15)) (fun _ hk => hk.1.1.2), by (with_reducible repeat (first | apply Kd.R_alloc | apply Kd.R_drewN | apply Kd.R_drew)); exact Kd.R_mono (Kd.R_far (p := ⟨gb251, 1, none⟩) (Kd.R_far (p := ⟨gb251, 0, none⟩) (Kd.R_far (p := ⟨gb250, 1, none⟩) (Kd.R_far (p := ⟨gb250, 0, none⟩) (Kd.R_types (Kd.R_types HO262.out BK250.out (by decide)) BK251.out (by decide)) (fun _ hk => hk.1.2) (.int .i64 t253)) (fun _ hk => hk.1.2) (.slice Ao12 t254.length co12)) (fun _ hk => hk.2) (.int .i64 t259)) (fun _ hk => hk.2) (.slice Ao15 t260.length co15)) (fun _ hk => hk.1.1.2), by repeat (first | (with_reducible first | exact HB.out | apply below_alloc | apply pw_below_drewN | apply below_drew1 | refine below_set ?_ (IsS109.ge HI252.out) | refine below_set ?_ GE250.out | refine below_set ?_ GE251.out) | exact HB.out)⟩

/-! ### impl_Bits_count: function 104 -/
def impl_Bits_count.l0 : Nat → Int → Int → Int → Int → List Int → Option (Int)
  | 0, _, _, _, _, _ => none
  | k + 1, x2, x7, x8, x1000, x1001 => if x8 < x2 then ((impl_Bits_at.f x1000 x1001 x8).bind fun t265 => (if t265 = true then (impl_Bits_count.l0 k x2 (wrap64 (x7 + 1)) (wrap64 (x8 + 1)) x1000 x1001) else (impl_Bits_count.l0 k x2 x7 (wrap64 (x8 + 1)) x1000 x1001))) else (some x7)
def impl_Bits_count.f (k : Nat) (a0_0 : Int) (l0_1 : List Int) (a1 : Int) (a2 : Int) : Option (Int) := impl_Bits_count.l0 k a2 0 a1 a0_0 l0_1
theorem impl_Bits_count.mono_l : ∀ k, (∀ y0 y1 y2 y3 y4, LeO (impl_Bits_count.l0 k y0 y1 y2 y3 y4) (impl_Bits_count.l0 (k + 1) y0 y1 y2 y3 y4))
  | 0 => fun _ _ _ _ _ r h => by simp [impl_Bits_count.l0] at h
  | k + 1 => by
    have ih0 := impl_Bits_count.mono_l k
    · intro y0 y1 y2 y3 y4
      unfold impl_Bits_count.l0
      repeat' first
      | (with_reducible exact ih0 _ _ _ _ _)
      | (with_reducible exact LeO.refl _)
      | (with_reducible exact LeO.none _)
      | (with_reducible refine LeO.ite ?_ ?_)
      | (with_reducible refine LeO.bind ?_ (fun _ => ?_))
      | exact ih0 _ _ _ _ _
      | exact LeO.none _
      | refine LeO.ite ?_ ?_
      | refine LeO.bind ?_ (fun _ => ?_)
theorem impl_Bits_count.mono : ∀ a0 a1 a2 a3 k, LeO (impl_Bits_count.f k a0 a1 a2 a3) (impl_Bits_count.f (k + 1) a0 a1 a2 a3) := by
  intro a0 a1 a2 a3 k
  have ih0 := impl_Bits_count.mono_l k
  unfold impl_Bits_count.f
  repeat' first
      | (with_reducible exact ih0 _ _ _ _ _)
      | (with_reducible exact LeO.refl _)
      | (with_reducible exact LeO.none _)
      | (with_reducible refine LeO.ite ?_ ?_)
      | (with_reducible refine LeO.bind ?_ (fun _ => ?_))
      | exact ih0 _ _ _ _ _
      | exact LeO.none _
      | refine LeO.ite ?_ ?_
      | refine LeO.bind ?_ (fun _ => ?_)
set_option maxHeartbeats 8000000 in
set_option maxRecDepth 100000 in
theorem impl_Bits_count.calls (k : Nat) (g0 : Nat) (ex0 : List Value) (ty0 : TypeId) (a0_0 : Int) (A0_1 : Option Addr) (c0_1 : Nat) (l0_1 : List Int) (a1 : Int) (a2 : Int) (r : Int) (w : World) (hb0 : w.heap[g0]? = some (.cells ⟨.int .i64 a0_0 :: .slice A0_1 l0_1.length c0_1 :: ex0⟩ ty0 (0, 0))) (hr0_1 : Kd.C (Kd.int .i64) w A0_1 l0_1.length l0_1) (hc0_1 : l0_1.length ≤ c0_1) (h : impl_Bits_count.f k a0_0 l0_1 a1 a2 = some r) :
    Calls Try.prog 104 #[.pointer (some ⟨g0, 0, none⟩), .int .i64 a1, .int .i64 a2] w fun e w' => e = .returned (.int .i64 r) ∧ Below w.heap.size w w' := by
  have HR0_1 := Aside0.mk hr0_1
  have HC0_1 := Aside0.mk hc0_1
  clear hr0_1 hc0_1
  have BK0 := Aside0.mk hb0
  clear hb0
  have HB := Aside0.mk (Below.refl w.heap.size w)
  have H : (impl_Bits_count.l0 k a2 0 a1 a0_0 l0_1) = some r := h
  clear h
  have H' := Aside0.mk H
  clear H
  go_enter Try.func104, Try.ntmps104
  go_wp2
  go_loopg [7, 8] k (fun kq v7 v8 w' => ∃ (x7_1 : Int) (x8_1 : Int) (x1000_1 : Int), v7 = .int .i64 x7_1 ∧ v8 = .int .i64 x8_1 ∧ Aside0 (impl_Bits_count.l0 kq a2 x7_1 x8_1 x1000_1 l0_1 = some r) ∧ Aside0 (kq ≤ k) ∧ Aside0 (w'.heap[g0]? = some (.cells ⟨.int .i64 x1000_1 :: (.slice A0_1 l0_1.length c0_1) :: ex0⟩ ty0 (0, 0))) ∧ Aside0 (Below w.heap.size w w'))
  case atStart => exact ⟨(0), (a1), (a0_0), (by first | rfl | (simp; done) | (simp [*]; done)), (by first | rfl | (simp; done) | (simp [*]; done)), H', ⟨Nat.le_refl _⟩, ⟨by (with_reducible repeat (first | refine blk_drewN ?_ _ | refine blk_drew ?_ | refine blk_alloc ?_ _)); exact BK0.out⟩, ⟨by repeat (first | (with_reducible first | exact HB.out | apply below_alloc | apply pw_below_drewN | apply below_drew1 | refine below_set ?_ GE0.out) | exact HB.out)⟩⟩
  case round =>
    clear H'
    try clear c1
    try clear p2
    obtain ⟨x7_1, x8_1, x1000_1, rfl, rfl, HA, HK1, BK0, HB⟩ := hrel
    cases gk with
    | zero => exact absurd HA.out (by simp [impl_Bits_count.l0])
    | succ k1 =>
      have H := HA.out
      clear HA
      simp only [impl_Bits_count.l0] at H
      by_cases c4 : x8_1 < a2
      · rw [if_pos c4] at H
        have c4b0 : decide (x8_1 < a2) = true := decide_eq_true c4
        clear c4
        replace H := Option.bind_eq_some_iff.mp H
        obtain ⟨t265, A50, H⟩ := H
        replace H : (if t265 = true then (impl_Bits_count.l0 k1 a2 (wrap64 (x7_1 + 1)) (wrap64 (x8_1 + 1)) x1000_1 l0_1) else (impl_Bits_count.l0 k1 a2 x7_1 (wrap64 (x8_1 + 1)) x1000_1 l0_1)) = some r := H
        have A5 := Aside0.mk A50
        clear A50
        by_cases c6 : t265 = true
        · subst c6
          have H1 : (impl_Bits_count.l0 k1 a2 (wrap64 (x7_1 + 1)) (wrap64 (x8_1 + 1)) x1000_1 l0_1) = some r := by rw [if_pos rfl] at H; exact H
          clear H
          have H := H1
          clear H1
          have H' := Aside0.mk H
          clear H
          go_wp2_with (first | ((with_reducible refine gate_callee (f := 82) rfl ?_); refine goesL_ (some 17) rfl rfl Try.func82 (by kernel_rfl) rfl #[.pointer (some ⟨g0, 0, none⟩), .int .i64 x8_1] rfl (by (try simp only [List.map_toArray, List.map_cons, List.map_nil]); first | done | rfl | (simp only [List.length_drop, List.length_take]; rfl)) ?_; (with_reducible refine (impl_Bits_at.calls g0 ex0 ty0 x1000_1 A0_1 c0_1 l0_1 x8_1 true _ ?side1 ?side2 ?side3 A5.out).mono ?_); (case side1 => (with_reducible repeat (first | refine blk_drewN ?_ _ | refine blk_drew ?_ | refine blk_alloc ?_ _)); exact BK0.out); (case side2 => repeat (first | exact (Kd.C_below HR0_1.out HB.out) | (with_reducible refine Kd.C_alloc ?_ _) | (with_reducible refine Kd.C_drewN ?_ _) | (with_reducible refine Kd.C_drew ?_))); (case side3 => exact HC0_1.out); rintro e w7 ⟨rfl, hb⟩; refine ⟨_, rfl, ?_⟩; have n0_ := Aside0.mk (blk_below (g := g0) (o := .cells ⟨.int .i64 x1000_1 :: .slice A0_1 l0_1.length c0_1 :: ex0⟩ ty0 (0, 0)) (by (with_reducible repeat (first | refine blk_drewN ?_ _ | refine blk_drew ?_ | refine blk_alloc ?_ _)); exact BK0.out) hb); have n1_ := Aside0.mk (below_step (by repeat (first | (with_reducible first | exact HB.out | apply below_alloc | apply pw_below_drewN | apply below_drew1 | refine below_set ?_ GE0.out) | exact HB.out)) hb); clear BK0; clear HB; have BK0 := n0_; have HB := n1_; clear n0_ n1_; (try clear hb); (try clear hb2); (try clear hk); (try clear hi)))
          go_roundg k1
          case measure => have := HK1.out; omega
          case rel => exact ⟨(wrap64 (x7_1 + 1)), (wrap64 (x8_1 + 1)), (x1000_1), (by first | rfl | (simp; done) | (simp [*]; done)), (by first | rfl | (simp; done) | (simp [*]; done)), H', ⟨by have := HK1.out; omega⟩, ⟨by (with_reducible repeat (first | refine blk_drewN ?_ _ | refine blk_drew ?_ | refine blk_alloc ?_ _)); exact BK0.out⟩, ⟨by repeat (first | (with_reducible first | exact HB.out | apply below_alloc | apply pw_below_drewN | apply below_drew1 | refine below_set ?_ GE0.out) | exact HB.out)⟩⟩
        · replace c6 := Bool.eq_false_iff.mpr c6
          subst c6
          have H1 : (impl_Bits_count.l0 k1 a2 x7_1 (wrap64 (x8_1 + 1)) x1000_1 l0_1) = some r := by rw [if_neg (show ¬ (false = true) by decide)] at H; exact H
          clear H
          have H := H1
          clear H1
          have H' := Aside0.mk H
          clear H
          go_wp2_with (first | ((with_reducible refine gate_callee (f := 82) rfl ?_); refine goesL_ (some 17) rfl rfl Try.func82 (by kernel_rfl) rfl #[.pointer (some ⟨g0, 0, none⟩), .int .i64 x8_1] rfl (by (try simp only [List.map_toArray, List.map_cons, List.map_nil]); first | done | rfl | (simp only [List.length_drop, List.length_take]; rfl)) ?_; (with_reducible refine (impl_Bits_at.calls g0 ex0 ty0 x1000_1 A0_1 c0_1 l0_1 x8_1 false _ ?side1 ?side2 ?side3 A5.out).mono ?_); (case side1 => (with_reducible repeat (first | refine blk_drewN ?_ _ | refine blk_drew ?_ | refine blk_alloc ?_ _)); exact BK0.out); (case side2 => repeat (first | exact (Kd.C_below HR0_1.out HB.out) | (with_reducible refine Kd.C_alloc ?_ _) | (with_reducible refine Kd.C_drewN ?_ _) | (with_reducible refine Kd.C_drew ?_))); (case side3 => exact HC0_1.out); rintro e w8 ⟨rfl, hb⟩; refine ⟨_, rfl, ?_⟩; have n0_ := Aside0.mk (blk_below (g := g0) (o := .cells ⟨.int .i64 x1000_1 :: .slice A0_1 l0_1.length c0_1 :: ex0⟩ ty0 (0, 0)) (by (with_reducible repeat (first | refine blk_drewN ?_ _ | refine blk_drew ?_ | refine blk_alloc ?_ _)); exact BK0.out) hb); have n1_ := Aside0.mk (below_step (by repeat (first | (with_reducible first | exact HB.out | apply below_alloc | apply pw_below_drewN | apply below_drew1 | refine below_set ?_ GE0.out) | exact HB.out)) hb); clear BK0; clear HB; have BK0 := n0_; have HB := n1_; clear n0_ n1_; (try clear hb); (try clear hb2); (try clear hk); (try clear hi)))
          go_roundg k1
          case measure => have := HK1.out; omega
          case rel => exact ⟨(x7_1), (wrap64 (x8_1 + 1)), (x1000_1), (by first | rfl | (simp; done) | (simp [*]; done)), (by first | rfl | (simp; done) | (simp [*]; done)), H', ⟨by have := HK1.out; omega⟩, ⟨by (with_reducible repeat (first | refine blk_drewN ?_ _ | refine blk_drew ?_ | refine blk_alloc ?_ _)); exact BK0.out⟩, ⟨by repeat (first | (with_reducible first | exact HB.out | apply below_alloc | apply pw_below_drewN | apply below_drew1 | refine below_set ?_ GE0.out) | exact HB.out)⟩⟩
      · rw [if_neg c4] at H
        have c4b0 : decide (x8_1 < a2) = false := decide_eq_false c4
        clear c4
        obtain rfl := Option.some.inj H
        go_wp2
        go_ret
        exact ⟨by first | rfl | (simp [errW_none, errW_some] <;> rfl) | (simp [*, errW_none, errW_some] <;> rfl), by repeat (first | (with_reducible first | exact HB.out | apply below_alloc | apply pw_below_drewN | apply below_drew1 | refine below_set ?_ GE0.out) | exact HB.out)⟩

theorem am15_ {p : Prop} (h : p) : Aside0 p := ⟨h⟩
theorem lm15_ {P : Prop} (h : P := by (try simp only [List.map_toArray, List.map_cons, List.map_nil]); first | done | rfl | (simp only [List.length_drop, List.length_take]; rfl)) : P := h
theorem lc15_ {P Q : Prop} (h : P) (f : P → Q := by intro h_; repeat (first | exact h_ | (with_reducible refine Kd.C_alloc ?_ _) | (with_reducible refine Kd.C_drewN ?_ _) | (with_reducible refine Kd.C_drew ?_))) : Q := f h
theorem lt15_ {P Q : Prop} (h : P) (f : P → Q := by intro h_; (with_reducible repeat (first | apply Kd.R_alloc | apply Kd.R_drewN | apply Kd.R_drew)); exact h_) : Q := f h
theorem lf15_ {P Q : Prop} (h : Aside0 P) (f : P → Q := by intro h_; (with_reducible repeat (first | apply Kd.R_alloc | apply Kd.R_drewN | apply Kd.R_drew)); exact h_) : Q := f h.out
theorem lb15_ {P Q : Prop} (h : Aside0 P) (f : P → Q := by intro h_; (with_reducible repeat (first | refine blk_drewN ?_ _ | refine blk_drew ?_ | refine blk_alloc ?_ _)); exact h_) : Q := f h.out
theorem lw15_ {P Q : Prop} (h : Aside0 P) (f : P → Q := by intro h_; repeat (first | (with_reducible first | exact h_ | apply below_alloc | apply pw_below_drewN | apply below_drew1 | refine below_set ?_ (Aside0.out (by assumption))) | exact h_)) : Q := f h.out
/-! ### impl_CountBits: function 52 -/
def impl_CountBits.f (k : Nat) (a0_0 : Int) (l0_1 : List Int) (a1 : Int) (a2 : Int) : Option (Int × Bool) := (impl_Bits_rangeOk.f k a0_0 l0_1 a1 a2).bind fun t267 => (if t267 = true then ((impl_Bits_count.f k a0_0 l0_1 a1 a2).bind fun t268 => (some (t268, true))) else (some (0, false)))
theorem impl_CountBits.mono : ∀ a0 a1 a2 a3 k, LeO (impl_CountBits.f k a0 a1 a2 a3) (impl_CountBits.f (k + 1) a0 a1 a2 a3) := by
 intro a0 a1 a2 a3 k
 unfold impl_CountBits.f
 repeat' first
   | (with_reducible exact impl_Bits_count.mono _ _ _ _ _)
   | (with_reducible exact impl_Bits_rangeOk.mono _ _ _ _ _)
   | (with_reducible exact LeO.refl _)
   | (with_reducible exact LeO.none _)
   | (with_reducible refine LeO.ite ?_ ?_)
   | (with_reducible refine LeO.bind ?_ (fun _ => ?_))
   | exact impl_Bits_count.mono _ _ _ _ _
   | exact impl_Bits_rangeOk.mono _ _ _ _ _
   | exact LeO.none _
   | refine LeO.ite ?_ ?_
   | refine LeO.bind ?_ (fun _ => ?_)
set_option maxHeartbeats 8000000 in
set_option maxRecDepth 100000 in
theorem impl_CountBits.calls (k : Nat) (a0_0 : Int) (A0_1 : Option Addr) (c0_1 : Nat) (l0_1 : List Int) (a1 : Int) (a2 : Int) (r1 : Int) (r2 : Bool) (w : World) (hr0_1 : Kd.C (Kd.int .i64) w A0_1 l0_1.length l0_1) (hc0_1 : l0_1.length ≤ c0_1) (h : impl_CountBits.f k a0_0 l0_1 a1 a2 = some (r1, r2)) :
  Calls Try.prog 52 #[.agg #[.int .i64 a0_0, .slice A0_1 l0_1.length c0_1], .int .i64 a1, .int .i64 a2] w fun e w' => e = .returned (.tuple #[.int .i64 r1, .bool r2]) ∧ Below w.heap.size w w' := by
 have hu26 := Try.underlying26
 have HR0_1 := am15_ hr0_1
 have HC0_1 := am15_ hc0_1
 clear hr0_1 hc0_1
 have HB := am15_ (Below.refl w.heap.size w)
 have H : ((impl_Bits_rangeOk.f k a0_0 l0_1 a1 a2).bind fun t267 => (if t267 = true then ((impl_Bits_count.f k a0_0 l0_1 a1 a2).bind fun t268 => (some (t268, true))) else (some (0, false)))) = some (r1, r2) := h
 clear h
 replace H := Option.bind_eq_some_iff.mp H
 obtain ⟨t267, A40, H⟩ := H
 replace H : (if t267 = true then ((impl_Bits_count.f k a0_0 l0_1 a1 a2).bind fun t268 => (some (t268, true))) else (some (0, false))) = some (r1, r2) := H
 have A4 := am15_ A40
 clear A40
 by_cases c5 : t267 = true
 ·subst c5
  have H1 : ((impl_Bits_count.f k a0_0 l0_1 a1 a2).bind fun t268 => (some (t268, true))) = some (r1, r2) := by rw [if_pos rfl] at H; exact H
  clear H
  have H := H1
  clear H1
  replace H := Option.bind_eq_some_iff.mp H
  obtain ⟨t268, A60, H⟩ := H
  replace H : (some (t268, true)) = some (r1, r2) := H
  have A6 := am15_ A60
  clear A60
  simp only [Option.some.injEq, Prod.mk.injEq] at H
  obtain ⟨rfl, rfl⟩ := H
  go_enter Try.func52, Try.ntmps52
  go_wp2_with (first | ((with_reducible refine gate_dst (N := 3) rfl ?_); refine box_event ?hg (N := 3) ?hd (cs := #[.int .i64 a0_0, .slice A0_1 l0_1.length c0_1]) (t := 26) ?hr ?_; (case hd => rfl); (case hg => rfl); (case hr => first | (go_simp; done) | (go_simp; rfl)); intro gb266 hg w7 hbox hb; have n0_ := am15_ (below_step (lw15_ HB) hb); have n1_ := am15_ (hbox); have n2_ := am15_ ((by rw [hg]; exact (below_size (lw15_ HB)) : w.heap.size ≤ gb266)); have n3_ := am15_ ((by rw [hg]; exact (below_size (lw15_ HB)) : w.heap.size ≤ gb266)); clear HB; have HB := n0_; have BK266 := n1_; have GW266 := n2_; have GE266 := n3_; clear n0_ n1_ n2_ n3_; clear hb hbox hg) | ((with_reducible refine gate_callee (f := 79) rfl ?_); refine goesL_ (some 10) rfl rfl Try.func79 (by kernel_rfl) rfl #[.pointer (some ⟨gb266, 0, none⟩), .int .i64 a1, .int .i64 a2] rfl lm15_ ?_; (with_reducible refine (impl_Bits_rangeOk.calls k gb266 [] 26 a0_0 A0_1 c0_1 l0_1 a1 a2 true _ ?side1 ?side2 ?side3 A4.out).mono ?_); (case side1 => (with_reducible repeat (first | refine blk_drewN ?_ _ | refine blk_drew ?_ | refine blk_alloc ?_ _)); exact BK266.out); (case side2 => exact lc15_ (Kd.C_below HR0_1.out HB.out)); (case side3 => exact HC0_1.out); rintro e w8 ⟨rfl, hb⟩; refine ⟨_, rfl, ?_⟩; have n0_ := am15_ (blk_below (g := gb266) (o := .cells #[.int .i64 a0_0, .slice A0_1 l0_1.length c0_1] 26 (0, 0)) (lb15_ BK266) hb); have n1_ := am15_ (below_step (lw15_ HB) hb); clear BK266; clear HB; have BK266 := n0_; have HB := n1_; clear n0_ n1_; (try clear hb); (try clear hb2); (try clear hk); (try clear hi)) | ((with_reducible refine gate_callee (f := 104) rfl ?_); refine goesL_ (some 14) rfl rfl Try.func104 (by kernel_rfl) rfl #[.pointer (some ⟨gb266, 0, none⟩), .int .i64 a1, .int .i64 a2] rfl lm15_ ?_; (with_reducible refine (impl_Bits_count.calls k gb266 [] 26 a0_0 A0_1 c0_1 l0_1 a1 a2 t268 _ ?side1 ?side2 ?side3 A6.out).mono ?_); (case side1 => (with_reducible repeat (first | refine blk_drewN ?_ _ | refine blk_drew ?_ | refine blk_alloc ?_ _)); exact BK266.out); (case side2 => exact lc15_ (Kd.C_below HR0_1.out HB.out)); (case side3 => exact HC0_1.out); rintro e w9 ⟨rfl, hb⟩; refine ⟨_, rfl, ?_⟩; have n0_ := am15_ (blk_below (g := gb266) (o := .cells #[.int .i64 a0_0, .slice A0_1 l0_1.length c0_1] 26 (0, 0)) (lb15_ BK266) hb); have n1_ := am15_ (below_step (lw15_ HB) hb); clear BK266; clear HB; have BK266 := n0_; have HB := n1_; clear n0_ n1_; (try clear hb); (try clear hb2); (try clear hk); (try clear hi)))
  go_ret2
  exact ⟨by first | rfl | (simp [errW_none, errW_some] <;> rfl) | (simp [*, errW_none, errW_some] <;> rfl), lw15_ HB⟩
 ·replace c5 := Bool.eq_false_iff.mpr c5
  subst c5
  have H1 : (some (0, false)) = some (r1, r2) := by rw [if_neg (show ¬ (false = true) by decide)] at H; exact H
  clear H
  have H := H1
  clear H1
  simp only [Option.some.injEq, Prod.mk.injEq] at H
  obtain ⟨rfl, rfl⟩ := H
  go_enter Try.func52, Try.ntmps52
  go_wp2_with (first | ((with_reducible refine gate_dst (N := 3) rfl ?_); refine box_event ?hg (N := 3) ?hd (cs := #[.int .i64 a0_0, .slice A0_1 l0_1.length c0_1]) (t := 26) ?hr ?_; (case hd => rfl); (case hg => rfl); (case hr => first | (go_simp; done) | (go_simp; rfl)); intro gb266 hg w10 hbox hb; have n0_ := am15_ (below_step (lw15_ HB) hb); have n1_ := am15_ (hbox); have n2_ := am15_ ((by rw [hg]; exact (below_size (lw15_ HB)) : w.heap.size ≤ gb266)); have n3_ := am15_ ((by rw [hg]; exact (below_size (lw15_ HB)) : w.heap.size ≤ gb266)); clear HB; have HB := n0_; have BK266 := n1_; have GW266 := n2_; have GE266 := n3_; clear n0_ n1_ n2_ n3_; clear hb hbox hg) | ((with_reducible refine gate_callee (f := 79) rfl ?_); refine goesL_ (some 10) rfl rfl Try.func79 (by kernel_rfl) rfl #[.pointer (some ⟨gb266, 0, none⟩), .int .i64 a1, .int .i64 a2] rfl lm15_ ?_; (with_reducible refine (impl_Bits_rangeOk.calls k gb266 [] 26 a0_0 A0_1 c0_1 l0_1 a1 a2 false _ ?side1 ?side2 ?side3 A4.out).mono ?_); (case side1 => (with_reducible repeat (first | refine blk_drewN ?_ _ | refine blk_drew ?_ | refine blk_alloc ?_ _)); exact BK266.out); (case side2 => exact lc15_ (Kd.C_below HR0_1.out HB.out)); (case side3 => exact HC0_1.out); rintro e w11 ⟨rfl, hb⟩; refine ⟨_, rfl, ?_⟩; have n0_ := am15_ (blk_below (g := gb266) (o := .cells #[.int .i64 a0_0, .slice A0_1 l0_1.length c0_1] 26 (0, 0)) (lb15_ BK266) hb); have n1_ := am15_ (below_step (lw15_ HB) hb); clear BK266; clear HB; have BK266 := n0_; have HB := n1_; clear n0_ n1_; (try clear hb); (try clear hb2); (try clear hk); (try clear hi)))
  go_ret2
  exact ⟨by first | rfl | (simp [errW_none, errW_some] <;> rfl) | (simp [*, errW_none, errW_some] <;> rfl), lw15_ HB⟩

theorem am16_ {p : Prop} (h : p) : Aside0 p := ⟨h⟩
theorem lm16_ {P : Prop} (h : P := by (try simp only [List.map_toArray, List.map_cons, List.map_nil]); first | done | rfl | (simp only [List.length_drop, List.length_take]; rfl)) : P := h
theorem lc16_ {P Q : Prop} (h : P) (f : P → Q := by intro h_; repeat (first | exact h_ | (with_reducible refine Kd.C_alloc ?_ _) | (with_reducible refine Kd.C_drewN ?_ _) | (with_reducible refine Kd.C_drew ?_))) : Q := f h
theorem lt16_ {P Q : Prop} (h : P) (f : P → Q := by intro h_; (with_reducible repeat (first | apply Kd.R_alloc | apply Kd.R_drewN | apply Kd.R_drew)); exact h_) : Q := f h
theorem lf16_ {P Q : Prop} (h : Aside0 P) (f : P → Q := by intro h_; (with_reducible repeat (first | apply Kd.R_alloc | apply Kd.R_drewN | apply Kd.R_drew)); exact h_) : Q := f h.out
theorem lb16_ {P Q : Prop} (h : Aside0 P) (f : P → Q := by intro h_; (with_reducible repeat (first | refine blk_drewN ?_ _ | refine blk_drew ?_ | refine blk_alloc ?_ _)); exact h_) : Q := f h.out
theorem lw16_ {P Q : Prop} (h : Aside0 P) (f : P → Q := by intro h_; repeat (first | (with_reducible first | exact h_ | apply below_alloc | apply pw_below_drewN | apply below_drew1 | refine below_set ?_ (Aside0.out (by assumption))) | exact h_)) : Q := f h.out
/-! ### laws_FnJoinsAreCut: function 12 -/
mutual
def laws_FnJoinsAreCut.j0 : Nat → Bool → Bool → Int → List Int → Int → List Int → Int → List Int → Option (Bool)
 | 0, _, _, _, _, _, _, _, _ => none
 | k + 1, x10, x49, x279000, x279001, x280000, x280001, x286000, x286001 => if x49 = true then (none) else (if x10 = true then ((impl_CutBits.f k x286000 x286001 0 x279000).bind fun bt293 => ((impl_CutBits.f k x286000 x286001 x279000 x286000).bind fun bt299 => (if bt293.2.2 = true then (if bt299.2.2 = true then ((laws_pSameBits.f k bt293.1 bt293.2.1 x279000 x279001).bind fun t305 => (if t305 = true then ((laws_pSameBits.f k bt299.1 bt299.2.1 x280000 x280001).bind fun t306 => (laws_FnJoinsAreCut.j1 k (!t306) x279000 x279001 x280000 x280001 x286000 x286001)) else (none))) else (none)) else (none)))) else (some true))
def laws_FnJoinsAreCut.j1 : Nat → Bool → Int → List Int → Int → List Int → Int → List Int → Option (Bool)
 | 0, _, _, _, _, _, _, _ => none
 | k + 1, x85, x279000, x279001, x280000, x280001, x286000, x286001 => if x85 = true then (none) else ((impl_CountBits.f k x279000 x279001 0 x279000).bind fun bt307 => ((impl_CountBits.f k x280000 x280001 0 x280000).bind fun bt309 => ((impl_CountBits.f k x286000 x286001 0 x286000).bind fun bt311 => (if bt307.2 = true then (if bt309.2 = true then (if bt311.2 = true then (some (bt311.1 == (wrap64 (bt307.1 + bt309.1)))) else (none)) else (none)) else (none)))))
end
def laws_FnJoinsAreCut.f (k : Nat) (l0 : List Int) (l1 : List Int) : Option (Bool) := (laws_big.f l0 l1).bind fun t269 => (if t269 = true then (some true) else ((spec_DrawJoinBits.f k l0).bind fun bt270 => ((impl_JoinBits.f k bt270.1 bt270.2.1 bt270.2.2.1 bt270.2.2.2).bind fun bt280 => ((spec_JoinBits.f k bt270.1 bt270.2.1 bt270.2.2.1 bt270.2.2.2).bind fun bt286 => (if (bt280.2.2 != bt286.2.2) = true then (none) else ((laws_pSameBits.f k bt280.1 bt280.2.1 bt286.1 bt286.2.1).bind fun t292 => (laws_FnJoinsAreCut.j0 k bt286.2.2 (!t292) bt270.1 bt270.2.1 bt270.2.2.1 bt270.2.2.2 bt280.1 bt280.2.1)))))))
theorem laws_FnJoinsAreCut.mono_l : ∀ k, (∀ y0 y1 y2 y3 y4 y5 y6 y7, LeO (laws_FnJoinsAreCut.j0 k y0 y1 y2 y3 y4 y5 y6 y7) (laws_FnJoinsAreCut.j0 (k + 1) y0 y1 y2 y3 y4 y5 y6 y7)) ∧ (∀ y0 y1 y2 y3 y4 y5 y6, LeO (laws_FnJoinsAreCut.j1 k y0 y1 y2 y3 y4 y5 y6) (laws_FnJoinsAreCut.j1 (k + 1) y0 y1 y2 y3 y4 y5 y6))
 | 0 => ⟨fun _ _ _ _ _ _ _ _ r h => by simp [laws_FnJoinsAreCut.j0] at h, fun _ _ _ _ _ _ _ r h => by simp [laws_FnJoinsAreCut.j1] at h⟩
 | k + 1 => by
  obtain ⟨ih0, ih1⟩ := laws_FnJoinsAreCut.mono_l k
  refine ⟨?_, ?_⟩
  ·intro y0 y1 y2 y3 y4 y5 y6 y7
   unfold laws_FnJoinsAreCut.j0
   repeat' first
   | (with_reducible exact ih0 _ _ _ _ _ _ _ _)
   | (with_reducible exact ih1 _ _ _ _ _ _ _)
   | (with_reducible exact impl_CountBits.mono _ _ _ _ _)
   | (with_reducible exact impl_CutBits.mono _ _ _ _ _)
   | (with_reducible exact impl_JoinBits.mono _ _ _ _ _)
   | (with_reducible exact laws_pSameBits.mono _ _ _ _ _)
   | (with_reducible exact spec_DrawJoinBits.mono _ _)
   | (with_reducible exact spec_JoinBits.mono _ _ _ _ _)
   | (with_reducible exact LeO.refl _)
   | (with_reducible exact LeO.none _)
   | (with_reducible refine LeO.ite ?_ ?_)
   | (with_reducible refine LeO.bind ?_ (fun _ => ?_))
   | exact ih0 _ _ _ _ _ _ _ _
   | exact ih1 _ _ _ _ _ _ _
   | exact impl_CountBits.mono _ _ _ _ _
   | exact impl_CutBits.mono _ _ _ _ _
   | exact impl_JoinBits.mono _ _ _ _ _
   | exact laws_pSameBits.mono _ _ _ _ _
   | exact spec_DrawJoinBits.mono _ _
   | exact spec_JoinBits.mono _ _ _ _ _
   | exact LeO.none _
   | refine LeO.ite ?_ ?_
   | refine LeO.bind ?_ (fun _ => ?_)
  ·intro y0 y1 y2 y3 y4 y5 y6
   unfold laws_FnJoinsAreCut.j1
   repeat' first
   | (with_reducible exact ih0 _ _ _ _ _ _ _ _)
   | (with_reducible exact ih1 _ _ _ _ _ _ _)
   | (with_reducible exact impl_CountBits.mono _ _ _ _ _)
   | (with_reducible exact impl_CutBits.mono _ _ _ _ _)
   | (with_reducible exact impl_JoinBits.mono _ _ _ _ _)
   | (with_reducible exact laws_pSameBits.mono _ _ _ _ _)
   | (with_reducible exact spec_DrawJoinBits.mono _ _)
   | (with_reducible exact spec_JoinBits.mono _ _ _ _ _)
   | (with_reducible exact LeO.refl _)
   | (with_reducible exact LeO.none _)
   | (with_reducible refine LeO.ite ?_ ?_)
   | (with_reducible refine LeO.bind ?_ (fun _ => ?_))
   | exact ih0 _ _ _ _ _ _ _ _
   | exact ih1 _ _ _ _ _ _ _
   | exact impl_CountBits.mono _ _ _ _ _
   | exact impl_CutBits.mono _ _ _ _ _
   | exact impl_JoinBits.mono _ _ _ _ _
   | exact laws_pSameBits.mono _ _ _ _ _
   | exact spec_DrawJoinBits.mono _ _
   | exact spec_JoinBits.mono _ _ _ _ _
   | exact LeO.none _
   | refine LeO.ite ?_ ?_
   | refine LeO.bind ?_ (fun _ => ?_)
theorem laws_FnJoinsAreCut.mono : ∀ a0 a1 k, LeO (laws_FnJoinsAreCut.f k a0 a1) (laws_FnJoinsAreCut.f (k + 1) a0 a1) := by
 intro a0 a1 k
 obtain ⟨ih0, ih1⟩ := laws_FnJoinsAreCut.mono_l k
 unfold laws_FnJoinsAreCut.f
 repeat' first
   | (with_reducible exact ih0 _ _ _ _ _ _ _ _)
   | (with_reducible exact ih1 _ _ _ _ _ _ _)
   | (with_reducible exact impl_CountBits.mono _ _ _ _ _)
   | (with_reducible exact impl_CutBits.mono _ _ _ _ _)
   | (with_reducible exact impl_JoinBits.mono _ _ _ _ _)
   | (with_reducible exact laws_pSameBits.mono _ _ _ _ _)
   | (with_reducible exact spec_DrawJoinBits.mono _ _)
   | (with_reducible exact spec_JoinBits.mono _ _ _ _ _)
   | (with_reducible exact LeO.refl _)
   | (with_reducible exact LeO.none _)
   | (with_reducible refine LeO.ite ?_ ?_)
   | (with_reducible refine LeO.bind ?_ (fun _ => ?_))
   | exact ih0 _ _ _ _ _ _ _ _
   | exact ih1 _ _ _ _ _ _ _
   | exact impl_CountBits.mono _ _ _ _ _
   | exact impl_CutBits.mono _ _ _ _ _
   | exact impl_JoinBits.mono _ _ _ _ _
   | exact laws_pSameBits.mono _ _ _ _ _
   | exact spec_DrawJoinBits.mono _ _
   | exact spec_JoinBits.mono _ _ _ _ _
   | exact LeO.none _
   | refine LeO.ite ?_ ?_
   | refine LeO.bind ?_ (fun _ => ?_)
set_option maxHeartbeats 8000000 in
set_option maxRecDepth 100000 in
theorem laws_FnJoinsAreCut.calls (k : Nat) (A0 : Option Addr) (c0 : Nat) (l0 : List Int) (A1 : Option Addr) (c1 : Nat) (l1 : List Int) (r : Bool) (w : World) (hr0 : Kd.C (Kd.int .u8) w A0 l0.length l0) (hc0 : l0.length ≤ c0) (hr1 : Kd.C (Kd.int .u8) w A1 l1.length l1) (hc1 : l1.length ≤ c1) (h : laws_FnJoinsAreCut.f k l0 l1 = some r) :
  Calls Try.prog 12 #[.slice A0 l0.length c0, .slice A1 l1.length c1] w fun e w' => e = .returned (.bool r) ∧ Below w.heap.size w w' := by
 have hu26 := Try.underlying26
 have HR0 := am16_ hr0
 have HC0 := am16_ hc0
 clear hr0 hc0
 have HR1 := am16_ hr1
 have HC1 := am16_ hc1
 clear hr1 hc1
 have HB := am16_ (Below.refl w.heap.size w)
 have H : ((laws_big.f l0 l1).bind fun t269 => (if t269 = true then (some true) else ((spec_DrawJoinBits.f k l0).bind fun bt270 => ((impl_JoinBits.f k bt270.1 bt270.2.1 bt270.2.2.1 bt270.2.2.2).bind fun bt280 => ((spec_JoinBits.f k bt270.1 bt270.2.1 bt270.2.2.1 bt270.2.2.2).bind fun bt286 => (if (bt280.2.2 != bt286.2.2) = true then (none) else ((laws_pSameBits.f k bt280.1 bt280.2.1 bt286.1 bt286.2.1).bind fun t292 => (laws_FnJoinsAreCut.j0 k bt286.2.2 (!t292) bt270.1 bt270.2.1 bt270.2.2.1 bt270.2.2.2 bt280.1 bt280.2.1)))))))) = some r := h
 clear h
 replace H := Option.bind_eq_some_iff.mp H
 obtain ⟨t269, A30, H⟩ := H
 replace H : (if t269 = true then (some true) else ((spec_DrawJoinBits.f k l0).bind fun bt270 => ((impl_JoinBits.f k bt270.1 bt270.2.1 bt270.2.2.1 bt270.2.2.2).bind fun bt280 => ((spec_JoinBits.f k bt270.1 bt270.2.1 bt270.2.2.1 bt270.2.2.2).bind fun bt286 => (if (bt280.2.2 != bt286.2.2) = true then (none) else ((laws_pSameBits.f k bt280.1 bt280.2.1 bt286.1 bt286.2.1).bind fun t292 => (laws_FnJoinsAreCut.j0 k bt286.2.2 (!t292) bt270.1 bt270.2.1 bt270.2.2.1 bt270.2.2.2 bt280.1 bt280.2.1))))))) = some r := H
 have A3 := am16_ A30
 clear A30
 by_cases c4 : t269 = true
 ·subst c4
  have H1 : (some true) = some r := by rw [if_pos rfl] at H; exact H
  clear H
  have H := H1
  clear H1
  obtain rfl := Option.some.inj H
  go_enter Try.func12, Try.ntmps12
  go_wp2_with (first | ((with_reducible refine gate_callee (f := 45) rfl ?_); refine goesL_ (some 23) rfl rfl Try.func45 (by kernel_rfl) rfl #[.slice A0 l0.length c0, .slice A1 l1.length c1] rfl lm16_ ?_; (with_reducible refine (laws_big.calls _ _ l0 _ _ l1 true _ ?side1 ?side2 ?side3 ?side4 A3.out).mono ?_); (case side1 => exact lc16_ HR0.out); (case side2 => exact HC0.out); (case side3 => exact lc16_ HR1.out); (case side4 => exact HC1.out); rintro e w' ⟨rfl, ⟨nd, rfl⟩⟩; refine ⟨_, rfl, ?_⟩))
  go_ret
  exact ⟨by first | rfl | (simp [errW_none, errW_some] <;> rfl) | (simp [*, errW_none, errW_some] <;> rfl), lw16_ HB⟩
 ·replace c4 := Bool.eq_false_iff.mpr c4
  subst c4
  have H1 : ((spec_DrawJoinBits.f k l0).bind fun bt270 => ((impl_JoinBits.f k bt270.1 bt270.2.1 bt270.2.2.1 bt270.2.2.2).bind fun bt280 => ((spec_JoinBits.f k bt270.1 bt270.2.1 bt270.2.2.1 bt270.2.2.2).bind fun bt286 => (if (bt280.2.2 != bt286.2.2) = true then (none) else ((laws_pSameBits.f k bt280.1 bt280.2.1 bt286.1 bt286.2.1).bind fun t292 => (laws_FnJoinsAreCut.j0 k bt286.2.2 (!t292) bt270.1 bt270.2.1 bt270.2.2.1 bt270.2.2.2 bt280.1 bt280.2.1)))))) = some r := by rw [if_neg (show ¬ (false = true) by decide)] at H; exact H
  clear H
  have H := H1
  clear H1
  replace H := Option.bind_eq_some_iff.mp H
  obtain ⟨⟨t270, t271, t274, t275⟩, A50, H⟩ := H
  replace H : ((impl_JoinBits.f k t270 t271 t274 t275).bind fun bt280 => ((spec_JoinBits.f k t270 t271 t274 t275).bind fun bt286 => (if (bt280.2.2 != bt286.2.2) = true then (none) else ((laws_pSameBits.f k bt280.1 bt280.2.1 bt286.1 bt286.2.1).bind fun t292 => (laws_FnJoinsAreCut.j0 k bt286.2.2 (!t292) t270 t271 t274 t275 bt280.1 bt280.2.1))))) = some r := H
  have A5 := am16_ A50
  clear A50
  replace H := Option.bind_eq_some_iff.mp H
  obtain ⟨⟨t280, t281, t284⟩, A60, H⟩ := H
  replace H : ((spec_JoinBits.f k t270 t271 t274 t275).bind fun bt286 => (if (t284 != bt286.2.2) = true then (none) else ((laws_pSameBits.f k t280 t281 bt286.1 bt286.2.1).bind fun t292 => (laws_FnJoinsAreCut.j0 k bt286.2.2 (!t292) t270 t271 t274 t275 t280 t281)))) = some r := H
  have A6 := am16_ A60
  clear A60
  replace H := Option.bind_eq_some_iff.mp H
  obtain ⟨⟨t286, t287, t290⟩, A70, H⟩ := H
  replace H : (if (t284 != t290) = true then (none) else ((laws_pSameBits.f k t280 t281 t286 t287).bind fun t292 => (laws_FnJoinsAreCut.j0 k t290 (!t292) t270 t271 t274 t275 t280 t281))) = some r := H
  have A7 := am16_ A70
  clear A70
  have HC8 := am16_ H
  clear H
  go_enter Try.func12, Try.ntmps12
  go_upto_region 6 with (first | ((with_reducible refine gate_callee (f := 45) rfl ?_); refine goesL_ (some 23) rfl rfl Try.func45 (by kernel_rfl) rfl #[.slice A0 l0.length c0, .slice A1 l1.length c1] rfl lm16_ ?_; (with_reducible refine (laws_big.calls _ _ l0 _ _ l1 false _ ?side1 ?side2 ?side3 ?side4 A3.out).mono ?_); (case side1 => exact lc16_ HR0.out); (case side2 => exact HC0.out); (case side3 => exact lc16_ HR1.out); (case side4 => exact HC1.out); rintro e w' ⟨rfl, ⟨nd, rfl⟩⟩; refine ⟨_, rfl, ?_⟩) | ((with_reducible refine gate_callee (f := 51) rfl ?_); refine goesL_ (some 26) rfl rfl Try.func51 (by kernel_rfl) rfl #[.slice A0 l0.length c0] rfl lm16_ ?_; (with_reducible refine (spec_DrawJoinBits.calls k _ _ l0 t270 t271 t274 t275 _ ?side1 ?side2 A5.out).mono ?_); (case side1 => exact lc16_ HR0.out); (case side2 => exact HC0.out); rintro e w9 ⟨v272, v276, rfl, ho0, ho1, hb⟩; refine ⟨_, rfl, ?_⟩; have n0_ := am16_ (Kd.R_lower ho0 (below_size (lw16_ HB))); have n1_ := am16_ (Kd.R_lower ho1 (below_size (lw16_ HB))); have n2_ := am16_ (below_step (lw16_ HB) hb); clear HB; have HO273 := n0_; have HO277 := n1_; have HB := n2_; clear n0_ n1_ n2_; (try clear hb); (try clear hb2); (try clear hk); (try clear hi); (try clear ho0); (try clear ho1)) | ((with_reducible refine gate_dst (N := 5) rfl ?_); refine box_event ?hg (N := 5) ?hd (cs := #[.int .i64 0, .slice none 0 0]) (t := 26) ?hr ?_; (case hd => rfl); (case hg => rfl); (case hr => first | (go_simp; done) | (go_simp; rfl)); intro gb278 hg w10 hbox hb; have n0_ := am16_ (Kd.R_below (lf16_ HO273) hb); have n1_ := am16_ (Kd.R_below (lf16_ HO277) hb); have n2_ := am16_ (below_step (lw16_ HB) hb); have n3_ := am16_ (hbox); have n4_ := am16_ ((by rw [hg]; exact (below_size (lw16_ HB)) : w.heap.size ≤ gb278)); have n5_ := am16_ ((by rw [hg]; exact (below_size (lw16_ HB)) : w.heap.size ≤ gb278)); clear HO273; clear HO277; clear HB; have HO273 := n0_; have HO277 := n1_; have HB := n2_; have BK278 := n3_; have GW278 := n4_; have GE278 := n5_; clear n0_ n1_ n2_ n3_ n4_ n5_; clear hb hbox hg) | ((with_reducible refine gate_dst (N := 6) rfl ?_); refine box_event ?hg (N := 6) ?hd (cs := #[.int .i64 0, .slice none 0 0]) (t := 26) ?hr ?_; (case hd => rfl); (case hg => rfl); (case hr => first | (go_simp; done) | (go_simp; rfl)); intro gb279 hg w11 hbox hb; have n0_ := am16_ (Kd.R_below (lf16_ HO273) hb); have n1_ := am16_ (Kd.R_below (lf16_ HO277) hb); have n2_ := am16_ (blk_below (g := gb278) (o := .cells #[.int .i64 0, .slice none 0 0] 26 (0, 0)) (lb16_ BK278) hb); have n3_ := am16_ (below_step (lw16_ HB) hb); have n4_ := am16_ (hbox); have n5_ := am16_ ((by rw [hg]; exact (below_size (lw16_ HB)) : w.heap.size ≤ gb279)); have n6_ := am16_ ((by rw [hg]; exact (below_size (lw16_ HB)) : w.heap.size ≤ gb279)); have n7_ := am16_ ((by rw [hg]; exact Nat.ne_of_lt (blk_lt (g := gb278) (lb16_ BK278)) : gb278 ≠ gb279)); have n8_ := am16_ ((by rw [hg]; exact Nat.ne_of_gt (blk_lt (g := gb278) (lb16_ BK278)) : gb279 ≠ gb278)); clear HO273; clear HO277; clear BK278; clear HB; have HO273 := n0_; have HO277 := n1_; have BK278 := n2_; have HB := n3_; have BK279 := n4_; have GW279 := n5_; have GE279 := n6_; have NB278_279 := n7_; have NB279_278 := n8_; clear n0_ n1_ n2_ n3_ n4_ n5_ n6_ n7_ n8_; clear hb hbox hg; have hnb12 := NB278_279.out; have hnc12 := NB279_278.out; have hcz13_0 : w11.cell? ⟨gb278, 0, none⟩ = some (.int .i64 0) := (blk_cell BK278.out 0).trans rfl; have hcz13_1 : w11.cell? ⟨gb278, 1, none⟩ = some (.slice none 0 0) := (blk_cell BK278.out 1).trans rfl; have hfz13_0 := blk_frozen BK278.out 0; have hfz13_1 := blk_frozen BK278.out 1; obtain ⟨Ao14, co14, eo14⟩ := Kd.R_slice HO273.out; subst eo14; have hcz15_0 : w11.cell? ⟨gb279, 0, none⟩ = some (.int .i64 0) := (blk_cell BK279.out 0).trans rfl; have hcz15_1 : w11.cell? ⟨gb279, 1, none⟩ = some (.slice none 0 0) := (blk_cell BK279.out 1).trans rfl; have hfz15_0 := blk_frozen BK279.out 0; have hfz15_1 := blk_frozen BK279.out 1; obtain ⟨Ao16, co16, eo16⟩ := Kd.R_slice HO277.out; subst eo16) | ((with_reducible refine gate_callee (f := 26) rfl ?_); refine goesL_ (some 32) rfl rfl Try.func26 (by kernel_rfl) rfl #[.agg #[.int .i64 t270, .slice Ao14 t271.length co14], .agg #[.int .i64 t274, .slice Ao16 t275.length co16]] rfl lm16_ ?_; (with_reducible refine (impl_JoinBits.calls k t270 _ _ t271 t274 _ _ t275 t280 t281 t284 _ ?side1 ?side2 ?side3 ?side4 A6.out).mono ?_); (case side1 => refine (Kd.R_reads' (e := 3) (base := w.heap.size) (ok := fun k_ => some k_ ≠ (.slice Ao16 t275.length co16 : Value).ownBlock) (n := t271.length) (c := co14) ?_).2.2; exact (lt16_ (Kd.R_mono (Kd.R_mono (Kd.R_far (p := ⟨gb279, 1, none⟩) (Kd.R_far (p := ⟨gb279, 0, none⟩) (Kd.R_far (p := ⟨gb278, 1, none⟩) (Kd.R_far (p := ⟨gb278, 0, none⟩) (Kd.R_types (Kd.R_types HO273.out BK278.out (by decide)) BK279.out (by decide)) (fun _ hk => hk.1.2) (.int .i64 t270)) (fun _ hk => hk.1.2) (.slice Ao14 t271.length co14)) (fun _ hk => hk.2) (.int .i64 t274)) (fun _ hk => hk.2) (.slice Ao16 t275.length co16)) (fun _ h_ => h_.1)) (fun _ h_ => h_.1)))); (case side2 => exact (Kd.R_reads' HO273.out).2.1); (case side3 => refine (Kd.R_reads' (e := 3) (base := w.heap.size) (ok := fun k_ => some k_ ≠ (.slice Ao14 t271.length co14 : Value).ownBlock) (n := t275.length) (c := co16) ?_).2.2; exact (lt16_ (Kd.R_mono (Kd.R_mono (Kd.R_far (p := ⟨gb279, 1, none⟩) (Kd.R_far (p := ⟨gb279, 0, none⟩) (Kd.R_far (p := ⟨gb278, 1, none⟩) (Kd.R_far (p := ⟨gb278, 0, none⟩) (Kd.R_types (Kd.R_types HO277.out BK278.out (by decide)) BK279.out (by decide)) (fun _ hk => hk.1.2) (.int .i64 t270)) (fun _ hk => hk.1.2) (.slice Ao14 t271.length co14)) (fun _ hk => hk.2) (.int .i64 t274)) (fun _ hk => hk.2) (.slice Ao16 t275.length co16)) (fun _ h_ => h_.1)) (fun _ h_ => h_.1)))); (case side4 => exact (Kd.R_reads' HO277.out).2.1); rintro e w17 ⟨v282, rfl, ho0, hb⟩; refine ⟨_, rfl, ?_⟩; have n0_ := am16_ (Kd.R_elder' (lt16_ (Kd.R_mono (Kd.R_mono (Kd.R_far (p := ⟨gb279, 1, none⟩) (Kd.R_far (p := ⟨gb279, 0, none⟩) (Kd.R_far (p := ⟨gb278, 1, none⟩) (Kd.R_far (p := ⟨gb278, 0, none⟩) (Kd.R_types (Kd.R_types HO273.out BK278.out (by decide)) BK279.out (by decide)) (fun _ hk => hk.1.2) (.int .i64 t270)) (fun _ hk => hk.1.2) (.slice Ao14 t271.length co14)) (fun _ hk => hk.2) (.int .i64 t274)) (fun _ hk => hk.2) (.slice Ao16 t275.length co16)) (fun _ h_ => h_.1)) (fun _ h_ => h_.1))) (Kd.R_base ho0) hb); have n1_ := am16_ (Kd.R_elder' (lt16_ (Kd.R_mono (Kd.R_mono (Kd.R_far (p := ⟨gb279, 1, none⟩) (Kd.R_far (p := ⟨gb279, 0, none⟩) (Kd.R_far (p := ⟨gb278, 1, none⟩) (Kd.R_far (p := ⟨gb278, 0, none⟩) (Kd.R_types (Kd.R_types HO277.out BK278.out (by decide)) BK279.out (by decide)) (fun _ hk => hk.1.2) (.int .i64 t270)) (fun _ hk => hk.1.2) (.slice Ao14 t271.length co14)) (fun _ hk => hk.2) (.int .i64 t274)) (fun _ hk => hk.2) (.slice Ao16 t275.length co16)) (fun _ h_ => h_.1)) (fun _ h_ => h_.1))) (Kd.R_base ho0) hb); have n2_ := am16_ (Kd.R_lower (Kd.R_new' (Kd.R_new' ho0 (Kd.R_lt (lt16_ (Kd.R_mono (Kd.R_mono (Kd.R_far (p := ⟨gb279, 1, none⟩) (Kd.R_far (p := ⟨gb279, 0, none⟩) (Kd.R_far (p := ⟨gb278, 1, none⟩) (Kd.R_far (p := ⟨gb278, 0, none⟩) (Kd.R_types (Kd.R_types HO273.out BK278.out (by decide)) BK279.out (by decide)) (fun _ hk => hk.1.2) (.int .i64 t270)) (fun _ hk => hk.1.2) (.slice Ao14 t271.length co14)) (fun _ hk => hk.2) (.int .i64 t274)) (fun _ hk => hk.2) (.slice Ao16 t275.length co16)) (fun _ h_ => h_.1)) (fun _ h_ => h_.1))))) (Kd.R_lt (lt16_ (Kd.R_mono (Kd.R_mono (Kd.R_far (p := ⟨gb279, 1, none⟩) (Kd.R_far (p := ⟨gb279, 0, none⟩) (Kd.R_far (p := ⟨gb278, 1, none⟩) (Kd.R_far (p := ⟨gb278, 0, none⟩) (Kd.R_types (Kd.R_types HO277.out BK278.out (by decide)) BK279.out (by decide)) (fun _ hk => hk.1.2) (.int .i64 t270)) (fun _ hk => hk.1.2) (.slice Ao14 t271.length co14)) (fun _ hk => hk.2) (.int .i64 t274)) (fun _ hk => hk.2) (.slice Ao16 t275.length co16)) (fun _ h_ => h_.1)) (fun _ h_ => h_.1))))) (below_size (lw16_ HB))); have n3_ := am16_ (blk_below (g := gb278) (o := .cells #[.int .i64 t270, .slice Ao14 t271.length co14] 26 (0, 0)) (by (with_reducible repeat (first | refine blk_drewN ?_ _ | refine blk_drew ?_ | refine blk_alloc ?_ _)); refine blk_far ?_ NB278_279.out _; (with_reducible repeat (first | refine blk_drewN ?_ _ | refine blk_drew ?_ | refine blk_alloc ?_ _)); refine blk_far ?_ NB278_279.out _; (with_reducible repeat (first | refine blk_drewN ?_ _ | refine blk_drew ?_ | refine blk_alloc ?_ _)); refine blk_put (cs := #[.int .i64 t270, .slice none 0 0]) ?_ 1 _ rfl; (with_reducible repeat (first | refine blk_drewN ?_ _ | refine blk_drew ?_ | refine blk_alloc ?_ _)); refine blk_put (cs := #[.int .i64 0, .slice none 0 0]) ?_ 0 _ rfl; (with_reducible repeat (first | refine blk_drewN ?_ _ | refine blk_drew ?_ | refine blk_alloc ?_ _)); exact BK278.out) hb); have n4_ := am16_ (blk_below (g := gb279) (o := .cells #[.int .i64 t274, .slice Ao16 t275.length co16] 26 (0, 0)) (by (with_reducible repeat (first | refine blk_drewN ?_ _ | refine blk_drew ?_ | refine blk_alloc ?_ _)); refine blk_put (cs := #[.int .i64 t274, .slice none 0 0]) ?_ 1 _ rfl; (with_reducible repeat (first | refine blk_drewN ?_ _ | refine blk_drew ?_ | refine blk_alloc ?_ _)); refine blk_put (cs := #[.int .i64 0, .slice none 0 0]) ?_ 0 _ rfl; (with_reducible repeat (first | refine blk_drewN ?_ _ | refine blk_drew ?_ | refine blk_alloc ?_ _)); refine blk_far ?_ NB279_278.out _; (with_reducible repeat (first | refine blk_drewN ?_ _ | refine blk_drew ?_ | refine blk_alloc ?_ _)); refine blk_far ?_ NB279_278.out _; (with_reducible repeat (first | refine blk_drewN ?_ _ | refine blk_drew ?_ | refine blk_alloc ?_ _)); exact BK279.out) hb); have n5_ := am16_ (below_step (lw16_ HB) hb); clear HO273; clear HO277; clear BK278; clear BK279; clear HB; have HO273 := n0_; have HO277 := n1_; have HO283 := n2_; have BK278 := n3_; have BK279 := n4_; have HB := n5_; clear n0_ n1_ n2_ n3_ n4_ n5_; (try clear hb); (try clear hb2); (try clear hk); (try clear hi); (try clear ho0)) | ((with_reducible refine gate_dst (N := 7) rfl ?_); refine box_event ?hg (N := 7) ?hd (cs := #[.int .i64 0, .slice none 0 0]) (t := 26) ?hr ?_; (case hd => rfl); (case hg => rfl); (case hr => first | (go_simp; done) | (go_simp; rfl)); intro gb285 hg w18 hbox hb; have n0_ := am16_ (Kd.R_below (lf16_ HO273) hb); have n1_ := am16_ (Kd.R_below (lf16_ HO277) hb); have n2_ := am16_ (Kd.R_below (lf16_ HO283) hb); have n3_ := am16_ (blk_below (g := gb278) (o := .cells #[.int .i64 t270, .slice Ao14 t271.length co14] 26 (0, 0)) (lb16_ BK278) hb); have n4_ := am16_ (blk_below (g := gb279) (o := .cells #[.int .i64 t274, .slice Ao16 t275.length co16] 26 (0, 0)) (lb16_ BK279) hb); have n5_ := am16_ (below_step (lw16_ HB) hb); have n6_ := am16_ (hbox); have n7_ := am16_ ((by rw [hg]; exact (below_size (lw16_ HB)) : w.heap.size ≤ gb285)); have n8_ := am16_ ((by rw [hg]; exact (below_size (lw16_ HB)) : w.heap.size ≤ gb285)); have n9_ := am16_ ((by rw [hg]; exact Nat.ne_of_lt (blk_lt (g := gb278) (lb16_ BK278)) : gb278 ≠ gb285)); have n10_ := am16_ ((by rw [hg]; exact Nat.ne_of_gt (blk_lt (g := gb278) (lb16_ BK278)) : gb285 ≠ gb278)); have n11_ := am16_ ((by rw [hg]; exact Nat.ne_of_lt (blk_lt (g := gb279) (lb16_ BK279)) : gb279 ≠ gb285)); have n12_ := am16_ ((by rw [hg]; exact Nat.ne_of_gt (blk_lt (g := gb279) (lb16_ BK279)) : gb285 ≠ gb279)); clear HO273; clear HO277; clear HO283; clear BK278; clear BK279; clear HB; have HO273 := n0_; have HO277 := n1_; have HO283 := n2_; have BK278 := n3_; have BK279 := n4_; have HB := n5_; have BK285 := n6_; have GW285 := n7_; have GE285 := n8_; have NB278_285 := n9_; have NB285_278 := n10_; have NB279_285 := n11_; have NB285_279 := n12_; clear n0_ n1_ n2_ n3_ n4_ n5_ n6_ n7_ n8_ n9_ n10_ n11_ n12_; clear hb hbox hg; have hnb19 := NB285_278.out; have hnc19 := NB278_285.out; have hnb20 := NB285_279.out; have hnc20 := NB279_285.out; have hcz21_0 : w18.cell? ⟨gb285, 0, none⟩ = some (.int .i64 0) := (blk_cell BK285.out 0).trans rfl; have hcz21_1 : w18.cell? ⟨gb285, 1, none⟩ = some (.slice none 0 0) := (blk_cell BK285.out 1).trans rfl; have hfz21_0 := blk_frozen BK285.out 0; have hfz21_1 := blk_frozen BK285.out 1; obtain ⟨Ao22, co22, eo22⟩ := Kd.R_slice HO283.out; subst eo22; have hcz23_0 : w18.cell? ⟨gb278, 0, none⟩ = some (.int .i64 t270) := (blk_cell BK278.out 0).trans rfl; have hcz23_1 : w18.cell? ⟨gb278, 1, none⟩ = some (.slice Ao14 t271.length co14) := (blk_cell BK278.out 1).trans rfl; have hfz23_0 := blk_frozen BK278.out 0; have hfz23_1 := blk_frozen BK278.out 1; have hcz24_0 : w18.cell? ⟨gb279, 0, none⟩ = some (.int .i64 t274) := (blk_cell BK279.out 0).trans rfl; have hcz24_1 : w18.cell? ⟨gb279, 1, none⟩ = some (.slice Ao16 t275.length co16) := (blk_cell BK279.out 1).trans rfl; have hfz24_0 := blk_frozen BK279.out 0; have hfz24_1 := blk_frozen BK279.out 1) | ((with_reducible refine gate_callee (f := 25) rfl ?_); refine goesL_ (some 38) rfl rfl Try.func25 (by kernel_rfl) rfl #[.agg #[.int .i64 t270, .slice Ao14 t271.length co14], .agg #[.int .i64 t274, .slice Ao16 t275.length co16]] rfl lm16_ ?_; (with_reducible refine (spec_JoinBits.calls k t270 _ _ t271 t274 _ _ t275 t286 t287 t290 _ ?side1 ?side2 ?side3 ?side4 A7.out).mono ?_); (case side1 => refine (Kd.R_reads' (e := 3) (base := w.heap.size) (ok := fun k_ => (some k_ ≠ (.slice Ao16 t275.length co16 : Value).ownBlock ∧ some k_ ≠ (.slice Ao22 t281.length co22 : Value).ownBlock)) (n := t271.length) (c := co14) ?_).2.2; exact (lt16_ (Kd.R_mono (Kd.R_far (p := ⟨gb285, 1, none⟩) (Kd.R_far (p := ⟨gb285, 0, none⟩) (Kd.R_types HO273.out BK285.out (by decide)) (fun _ hk => hk.2) (.int .i64 t280)) (fun _ hk => hk.2) (.slice Ao22 t281.length co22)) (fun _ h_ => h_.1)))); (case side2 => exact (Kd.R_reads' HO273.out).2.1); (case side3 => refine (Kd.R_reads' (e := 3) (base := w.heap.size) (ok := fun k_ => (some k_ ≠ (.slice Ao14 t271.length co14 : Value).ownBlock ∧ some k_ ≠ (.slice Ao22 t281.length co22 : Value).ownBlock)) (n := t275.length) (c := co16) ?_).2.2; exact (lt16_ (Kd.R_mono (Kd.R_far (p := ⟨gb285, 1, none⟩) (Kd.R_far (p := ⟨gb285, 0, none⟩) (Kd.R_types HO277.out BK285.out (by decide)) (fun _ hk => hk.2) (.int .i64 t280)) (fun _ hk => hk.2) (.slice Ao22 t281.length co22)) (fun _ h_ => h_.1)))); (case side4 => exact (Kd.R_reads' HO277.out).2.1); rintro e w25 ⟨v288, rfl, ho0, hb⟩; refine ⟨_, rfl, ?_⟩; have n0_ := am16_ (Kd.R_elder' (lt16_ (Kd.R_mono (Kd.R_far (p := ⟨gb285, 1, none⟩) (Kd.R_far (p := ⟨gb285, 0, none⟩) (Kd.R_types HO273.out BK285.out (by decide)) (fun _ hk => hk.2) (.int .i64 t280)) (fun _ hk => hk.2) (.slice Ao22 t281.length co22)) (fun _ h_ => h_.1))) (Kd.R_base ho0) hb); have n1_ := am16_ (Kd.R_elder' (lt16_ (Kd.R_mono (Kd.R_far (p := ⟨gb285, 1, none⟩) (Kd.R_far (p := ⟨gb285, 0, none⟩) (Kd.R_types HO277.out BK285.out (by decide)) (fun _ hk => hk.2) (.int .i64 t280)) (fun _ hk => hk.2) (.slice Ao22 t281.length co22)) (fun _ h_ => h_.1))) (Kd.R_base ho0) hb); have n2_ := am16_ (Kd.R_elder' (lt16_ (Kd.R_mono (Kd.R_far (p := ⟨gb285, 1, none⟩) (Kd.R_far (p := ⟨gb285, 0, none⟩) (Kd.R_types HO283.out BK285.out (by decide)) (fun _ hk => hk.2) (.int .i64 t280)) (fun _ hk => hk.2) (.slice Ao22 t281.length co22)) (fun _ h_ => h_.1))) (Kd.R_base ho0) hb); have n3_ := am16_ (Kd.R_lower (Kd.R_new' (Kd.R_new' (Kd.R_new' ho0 (Kd.R_lt (lt16_ (Kd.R_mono (Kd.R_far (p := ⟨gb285, 1, none⟩) (Kd.R_far (p := ⟨gb285, 0, none⟩) (Kd.R_types HO273.out BK285.out (by decide)) (fun _ hk => hk.2) (.int .i64 t280)) (fun _ hk => hk.2) (.slice Ao22 t281.length co22)) (fun _ h_ => h_.1))))) (Kd.R_lt (lt16_ (Kd.R_mono (Kd.R_far (p := ⟨gb285, 1, none⟩) (Kd.R_far (p := ⟨gb285, 0, none⟩) (Kd.R_types HO277.out BK285.out (by decide)) (fun _ hk => hk.2) (.int .i64 t280)) (fun _ hk => hk.2) (.slice Ao22 t281.length co22)) (fun _ h_ => h_.1))))) (Kd.R_lt (lt16_ (Kd.R_mono (Kd.R_far (p := ⟨gb285, 1, none⟩) (Kd.R_far (p := ⟨gb285, 0, none⟩) (Kd.R_types HO283.out BK285.out (by decide)) (fun _ hk => hk.2) (.int .i64 t280)) (fun _ hk => hk.2) (.slice Ao22 t281.length co22)) (fun _ h_ => h_.1))))) (below_size (lw16_ HB))); have n4_ := am16_ (blk_below (g := gb278) (o := .cells #[.int .i64 t270, .slice Ao14 t271.length co14] 26 (0, 0)) (by (with_reducible repeat (first | refine blk_drewN ?_ _ | refine blk_drew ?_ | refine blk_alloc ?_ _)); refine blk_far ?_ NB278_285.out _; (with_reducible repeat (first | refine blk_drewN ?_ _ | refine blk_drew ?_ | refine blk_alloc ?_ _)); refine blk_far ?_ NB278_285.out _; (with_reducible repeat (first | refine blk_drewN ?_ _ | refine blk_drew ?_ | refine blk_alloc ?_ _)); exact BK278.out) hb); have n5_ := am16_ (blk_below (g := gb279) (o := .cells #[.int .i64 t274, .slice Ao16 t275.length co16] 26 (0, 0)) (by (with_reducible repeat (first | refine blk_drewN ?_ _ | refine blk_drew ?_ | refine blk_alloc ?_ _)); refine blk_far ?_ NB279_285.out _; (with_reducible repeat (first | refine blk_drewN ?_ _ | refine blk_drew ?_ | refine blk_alloc ?_ _)); refine blk_far ?_ NB279_285.out _; (with_reducible repeat (first | refine blk_drewN ?_ _ | refine blk_drew ?_ | refine blk_alloc ?_ _)); exact BK279.out) hb); have n6_ := am16_ (blk_below (g := gb285) (o := .cells #[.int .i64 t280, .slice Ao22 t281.length co22] 26 (0, 0)) (by (with_reducible repeat (first | refine blk_drewN ?_ _ | refine blk_drew ?_ | refine blk_alloc ?_ _)); refine blk_put (cs := #[.int .i64 t280, .slice none 0 0]) ?_ 1 _ rfl; (with_reducible repeat (first | refine blk_drewN ?_ _ | refine blk_drew ?_ | refine blk_alloc ?_ _)); refine blk_put (cs := #[.int .i64 0, .slice none 0 0]) ?_ 0 _ rfl; (with_reducible repeat (first | refine blk_drewN ?_ _ | refine blk_drew ?_ | refine blk_alloc ?_ _)); exact BK285.out) hb); have n7_ := am16_ (below_step (lw16_ HB) hb); clear HO273; clear HO277; clear HO283; clear BK278; clear BK279; clear BK285; clear HB; have HO273 := n0_; have HO277 := n1_; have HO283 := n2_; have HO289 := n3_; have BK278 := n4_; have BK279 := n5_; have BK285 := n6_; have HB := n7_; clear n0_ n1_ n2_ n3_ n4_ n5_ n6_ n7_; (try clear hb); (try clear hb2); (try clear hk); (try clear hi); (try clear ho0)) | ((with_reducible refine gate_dst (N := 9) rfl ?_); refine box_event ?hg (N := 9) ?hd (cs := #[.int .i64 0, .slice none 0 0]) (t := 26) ?hr ?_; (case hd => rfl); (case hg => rfl); (case hr => first | (go_simp; done) | (go_simp; rfl)); intro gb291 hg w26 hbox hb; have n0_ := am16_ (Kd.R_below (lf16_ HO273) hb); have n1_ := am16_ (Kd.R_below (lf16_ HO277) hb); have n2_ := am16_ (Kd.R_below (lf16_ HO283) hb); have n3_ := am16_ (Kd.R_below (lf16_ HO289) hb); have n4_ := am16_ (blk_below (g := gb278) (o := .cells #[.int .i64 t270, .slice Ao14 t271.length co14] 26 (0, 0)) (lb16_ BK278) hb); have n5_ := am16_ (blk_below (g := gb279) (o := .cells #[.int .i64 t274, .slice Ao16 t275.length co16] 26 (0, 0)) (lb16_ BK279) hb); have n6_ := am16_ (blk_below (g := gb285) (o := .cells #[.int .i64 t280, .slice Ao22 t281.length co22] 26 (0, 0)) (lb16_ BK285) hb); have n7_ := am16_ (below_step (lw16_ HB) hb); have n8_ := am16_ (hbox); have n9_ := am16_ ((by rw [hg]; exact (below_size (lw16_ HB)) : w.heap.size ≤ gb291)); have n10_ := am16_ ((by rw [hg]; exact (below_size (lw16_ HB)) : w.heap.size ≤ gb291)); have n11_ := am16_ ((by rw [hg]; exact Nat.ne_of_lt (blk_lt (g := gb278) (lb16_ BK278)) : gb278 ≠ gb291)); have n12_ := am16_ ((by rw [hg]; exact Nat.ne_of_gt (blk_lt (g := gb278) (lb16_ BK278)) : gb291 ≠ gb278)); have n13_ := am16_ ((by rw [hg]; exact Nat.ne_of_lt (blk_lt (g := gb279) (lb16_ BK279)) : gb279 ≠ gb291)); have n14_ := am16_ ((by rw [hg]; exact Nat.ne_of_gt (blk_lt (g := gb279) (lb16_ BK279)) : gb291 ≠ gb279)); have n15_ := am16_ ((by rw [hg]; exact Nat.ne_of_lt (blk_lt (g := gb285) (lb16_ BK285)) : gb285 ≠ gb291)); have n16_ := am16_ ((by rw [hg]; exact Nat.ne_of_gt (blk_lt (g := gb285) (lb16_ BK285)) : gb291 ≠ gb285)); clear HO273; clear HO277; clear HO283; clear HO289; clear BK278; clear BK279; clear BK285; clear HB; have HO273 := n0_; have HO277 := n1_; have HO283 := n2_; have HO289 := n3_; have BK278 := n4_; have BK279 := n5_; have BK285 := n6_; have HB := n7_; have BK291 := n8_; have GW291 := n9_; have GE291 := n10_; have NB278_291 := n11_; have NB291_278 := n12_; have NB279_291 := n13_; have NB291_279 := n14_; have NB285_291 := n15_; have NB291_285 := n16_; clear n0_ n1_ n2_ n3_ n4_ n5_ n6_ n7_ n8_ n9_ n10_ n11_ n12_ n13_ n14_ n15_ n16_; clear hb hbox hg; have hnb27 := NB291_278.out; have hnc27 := NB278_291.out; have hnb28 := NB291_279.out; have hnc28 := NB279_291.out; have hnb29 := NB291_285.out; have hnc29 := NB285_291.out; have hcz30_0 : w26.cell? ⟨gb291, 0, none⟩ = some (.int .i64 0) := (blk_cell BK291.out 0).trans rfl; have hcz30_1 : w26.cell? ⟨gb291, 1, none⟩ = some (.slice none 0 0) := (blk_cell BK291.out 1).trans rfl; have hfz30_0 := blk_frozen BK291.out 0; have hfz30_1 := blk_frozen BK291.out 1; obtain ⟨Ao31, co31, eo31⟩ := Kd.R_slice HO289.out; subst eo31))
  (try simp only [Act.put, List.setIfInBounds_toArray, List.set_cons_zero, List.set_cons_succ])
  go_cut [49] (fun v49 wc => ∃ (kq : Nat) (x49_7 : Bool), v49 = .bool x49_7 ∧ Aside0 (laws_FnJoinsAreCut.j0 kq t290 x49_7 t270 t271 t274 t275 t280 t281 = some r) ∧ Aside0 (kq ≤ k) ∧ Aside0 (Kd.R (Kd.int .i64) 3 wc w.heap.size (fun k_ => some k_ ≠ ((.slice Ao16 t275.length co16) : Value).ownBlock ∧ some k_ ≠ ((.slice Ao22 t281.length co22) : Value).ownBlock ∧ some k_ ≠ ((.slice Ao31 t287.length co31) : Value).ownBlock) (.slice Ao14 t271.length co14) t271) ∧ Aside0 (Kd.R (Kd.int .i64) 3 wc w.heap.size (fun k_ => some k_ ≠ ((.slice Ao14 t271.length co14) : Value).ownBlock ∧ some k_ ≠ ((.slice Ao22 t281.length co22) : Value).ownBlock ∧ some k_ ≠ ((.slice Ao31 t287.length co31) : Value).ownBlock) (.slice Ao16 t275.length co16) t275) ∧ Aside0 (Kd.R (Kd.int .i64) 3 wc w.heap.size (fun k_ => some k_ ≠ ((.slice Ao14 t271.length co14) : Value).ownBlock ∧ some k_ ≠ ((.slice Ao16 t275.length co16) : Value).ownBlock ∧ some k_ ≠ ((.slice Ao31 t287.length co31) : Value).ownBlock) (.slice Ao22 t281.length co22) t281) ∧ Aside0 (Kd.R (Kd.int .i64) 3 wc w.heap.size (fun k_ => some k_ ≠ ((.slice Ao14 t271.length co14) : Value).ownBlock ∧ some k_ ≠ ((.slice Ao16 t275.length co16) : Value).ownBlock ∧ some k_ ≠ ((.slice Ao22 t281.length co22) : Value).ownBlock) (.slice Ao31 t287.length co31) t287) ∧ Aside0 (wc.heap[gb278]? = some (.cells #[.int .i64 t270, (.slice Ao14 t271.length co14)] 26 (0, 0))) ∧ Aside0 (wc.heap[gb279]? = some (.cells #[.int .i64 t274, (.slice Ao16 t275.length co16)] 26 (0, 0))) ∧ Aside0 (wc.heap[gb285]? = some (.cells #[.int .i64 t280, (.slice Ao22 t281.length co22)] 26 (0, 0))) ∧ Aside0 (wc.heap[gb291]? = some (.cells #[.int .i64 t286, (.slice Ao31 t287.length co31)] 26 (0, 0))) ∧ Aside0 (Below w.heap.size w wc))
  case first =>
   have H := HC8.out
   clear HC8
   by_cases c32 : (t284 != t290) = true
   ·rw [if_pos c32] at H
    exact absurd H (by simp)
   ·rw [if_neg c32] at H
    have c32b0 : (t284 != t290) = false := by simpa using c32
    (try (have c32b1 : decide (t284 = t290) = true := by simpa using c32))
    (try (have c32b2 : (t284 == t290) = true := by simpa using c32))
    clear c32
    (first | rw [c32b0] | (simp only [i64_w, i32_w]; rw [c32b0]) | skip)
    replace H := Option.bind_eq_some_iff.mp H
    obtain ⟨t292, A330, H⟩ := H
    replace H : (laws_FnJoinsAreCut.j0 k t290 (!t292) t270 t271 t274 t275 t280 t281) = some r := H
    have A33 := am16_ A330
    clear A330
    have H' := am16_ H
    clear H
    have hnb34 := NB285_278.out
    have hnc34 := NB278_285.out
    have hnb35 := NB285_279.out
    have hnc35 := NB279_285.out
    have hnb36 := NB285_291.out
    have hnc36 := NB291_285.out
    have hcz37_0 : w26.cell? ⟨gb285, 0, none⟩ = some (.int .i64 t280) := (blk_cell BK285.out 0).trans rfl
    have hcz37_1 : w26.cell? ⟨gb285, 1, none⟩ = some (.slice Ao22 t281.length co22) := (blk_cell BK285.out 1).trans rfl
    have hfz37_0 := blk_frozen BK285.out 0
    have hfz37_1 := blk_frozen BK285.out 1
    have hnb38 := NB291_278.out
    have hnc38 := NB278_291.out
    have hnb39 := NB291_279.out
    have hnc39 := NB279_291.out
    have hcz40_0 : w26.cell? ⟨gb291, 0, none⟩ = some (.int .i64 0) := (blk_cell BK291.out 0).trans rfl
    have hcz40_1 : w26.cell? ⟨gb291, 1, none⟩ = some (.slice none 0 0) := (blk_cell BK291.out 1).trans rfl
    have hfz40_0 := blk_frozen BK291.out 0
    have hfz40_1 := blk_frozen BK291.out 1
    go_wp2_with (first | (go_at_call 47; (with_reducible refine (laws_pSameBits.calls k t280 _ _ t281 t286 _ _ t287 t292 _ ?side1 ?side2 ?side3 ?side4 A33.out).mono ?_); (case side1 => refine (Kd.R_reads' (e := 3) (base := w.heap.size) (ok := fun k_ => (((True ∧ some k_ ≠ (.slice Ao14 t271.length co14 : Value).ownBlock) ∧ some k_ ≠ (.slice Ao16 t275.length co16 : Value).ownBlock) ∧ some k_ ≠ (.slice Ao31 t287.length co31 : Value).ownBlock)) (n := t281.length) (c := co22) ?_).2.2; exact (lt16_ (Kd.R_mono (Kd.R_far (p := ⟨gb291, 1, none⟩) (Kd.R_far (p := ⟨gb291, 0, none⟩) (Kd.R_types HO283.out BK291.out (by decide)) (fun _ hk => hk.2) (.int .i64 t286)) (fun _ hk => hk.2) (.slice Ao31 t287.length co31)) (fun _ h_ => h_.1)))); (case side2 => exact (Kd.R_reads' HO283.out).2.1); (case side3 => refine (Kd.R_reads' (e := 3) (base := w.heap.size) (ok := fun k_ => (((True ∧ some k_ ≠ (.slice Ao14 t271.length co14 : Value).ownBlock) ∧ some k_ ≠ (.slice Ao16 t275.length co16 : Value).ownBlock) ∧ some k_ ≠ (.slice Ao22 t281.length co22 : Value).ownBlock)) (n := t287.length) (c := co31) ?_).2.2; exact (lt16_ (Kd.R_mono (Kd.R_far (p := ⟨gb291, 1, none⟩) (Kd.R_far (p := ⟨gb291, 0, none⟩) (Kd.R_types HO289.out BK291.out (by decide)) (fun _ hk => hk.2) (.int .i64 t286)) (fun _ hk => hk.2) (.slice Ao31 t287.length co31)) (fun _ h_ => h_.1)))); (case side4 => exact (Kd.R_reads' HO289.out).2.1); rintro e w41 ⟨rfl, hb⟩; have n0_ := am16_ (Kd.R_below (lt16_ (Kd.R_mono (Kd.R_far (p := ⟨gb291, 1, none⟩) (Kd.R_far (p := ⟨gb291, 0, none⟩) (Kd.R_types HO273.out BK291.out (by decide)) (fun _ hk => hk.2) (.int .i64 t286)) (fun _ hk => hk.2) (.slice Ao31 t287.length co31)) (fun _ h_ => h_.1))) hb); have n1_ := am16_ (Kd.R_below (lt16_ (Kd.R_mono (Kd.R_far (p := ⟨gb291, 1, none⟩) (Kd.R_far (p := ⟨gb291, 0, none⟩) (Kd.R_types HO277.out BK291.out (by decide)) (fun _ hk => hk.2) (.int .i64 t286)) (fun _ hk => hk.2) (.slice Ao31 t287.length co31)) (fun _ h_ => h_.1))) hb); have n2_ := am16_ (Kd.R_below (lt16_ (Kd.R_mono (Kd.R_far (p := ⟨gb291, 1, none⟩) (Kd.R_far (p := ⟨gb291, 0, none⟩) (Kd.R_types HO283.out BK291.out (by decide)) (fun _ hk => hk.2) (.int .i64 t286)) (fun _ hk => hk.2) (.slice Ao31 t287.length co31)) (fun _ h_ => h_.1))) hb); have n3_ := am16_ (Kd.R_below (lt16_ (Kd.R_mono (Kd.R_far (p := ⟨gb291, 1, none⟩) (Kd.R_far (p := ⟨gb291, 0, none⟩) (Kd.R_types HO289.out BK291.out (by decide)) (fun _ hk => hk.2) (.int .i64 t286)) (fun _ hk => hk.2) (.slice Ao31 t287.length co31)) (fun _ h_ => h_.1))) hb); have n4_ := am16_ (blk_below (g := gb278) (o := .cells #[.int .i64 t270, .slice Ao14 t271.length co14] 26 (0, 0)) (by (with_reducible repeat (first | refine blk_drewN ?_ _ | refine blk_drew ?_ | refine blk_alloc ?_ _)); refine blk_far ?_ NB278_291.out _; (with_reducible repeat (first | refine blk_drewN ?_ _ | refine blk_drew ?_ | refine blk_alloc ?_ _)); refine blk_far ?_ NB278_291.out _; (with_reducible repeat (first | refine blk_drewN ?_ _ | refine blk_drew ?_ | refine blk_alloc ?_ _)); exact BK278.out) hb); have n5_ := am16_ (blk_below (g := gb279) (o := .cells #[.int .i64 t274, .slice Ao16 t275.length co16] 26 (0, 0)) (by (with_reducible repeat (first | refine blk_drewN ?_ _ | refine blk_drew ?_ | refine blk_alloc ?_ _)); refine blk_far ?_ NB279_291.out _; (with_reducible repeat (first | refine blk_drewN ?_ _ | refine blk_drew ?_ | refine blk_alloc ?_ _)); refine blk_far ?_ NB279_291.out _; (with_reducible repeat (first | refine blk_drewN ?_ _ | refine blk_drew ?_ | refine blk_alloc ?_ _)); exact BK279.out) hb); have n6_ := am16_ (blk_below (g := gb285) (o := .cells #[.int .i64 t280, .slice Ao22 t281.length co22] 26 (0, 0)) (by (with_reducible repeat (first | refine blk_drewN ?_ _ | refine blk_drew ?_ | refine blk_alloc ?_ _)); refine blk_far ?_ NB285_291.out _; (with_reducible repeat (first | refine blk_drewN ?_ _ | refine blk_drew ?_ | refine blk_alloc ?_ _)); refine blk_far ?_ NB285_291.out _; (with_reducible repeat (first | refine blk_drewN ?_ _ | refine blk_drew ?_ | refine blk_alloc ?_ _)); exact BK285.out) hb); have n7_ := am16_ (blk_below (g := gb291) (o := .cells #[.int .i64 t286, .slice Ao31 t287.length co31] 26 (0, 0)) (by (with_reducible repeat (first | refine blk_drewN ?_ _ | refine blk_drew ?_ | refine blk_alloc ?_ _)); refine blk_put (cs := #[.int .i64 t286, .slice none 0 0]) ?_ 1 _ rfl; (with_reducible repeat (first | refine blk_drewN ?_ _ | refine blk_drew ?_ | refine blk_alloc ?_ _)); refine blk_put (cs := #[.int .i64 0, .slice none 0 0]) ?_ 0 _ rfl; (with_reducible repeat (first | refine blk_drewN ?_ _ | refine blk_drew ?_ | refine blk_alloc ?_ _)); exact BK291.out) hb); have n8_ := am16_ (below_step (lw16_ HB) hb); clear HO273; clear HO277; clear HO283; clear HO289; clear BK278; clear BK279; clear BK285; clear BK291; clear HB; have HO273 := n0_; have HO277 := n1_; have HO283 := n2_; have HO289 := n3_; have BK278 := n4_; have BK279 := n5_; have BK285 := n6_; have BK291 := n7_; have HB := n8_; clear n0_ n1_ n2_ n3_ n4_ n5_ n6_ n7_ n8_; (try clear hb); (try clear hb2); (try clear hk); (try clear hi)))
    go_meet
    case rel => exact ⟨_, (!t292), (by first | rfl | (simp; done) | (simp [*]; done)), H', ⟨by first | omega | exact Nat.le_refl _⟩, ⟨by (with_reducible repeat (first | apply Kd.R_alloc | apply Kd.R_drewN | apply Kd.R_drew)); exact Kd.R_mono HO273.out (fun _ hk => ⟨hk.1.1, ⟨hk.1.2, hk.2⟩⟩)⟩, ⟨by (with_reducible repeat (first | apply Kd.R_alloc | apply Kd.R_drewN | apply Kd.R_drew)); exact Kd.R_mono HO277.out (fun _ hk => ⟨hk.1.1, ⟨hk.1.2, hk.2⟩⟩)⟩, ⟨by (with_reducible repeat (first | apply Kd.R_alloc | apply Kd.R_drewN | apply Kd.R_drew)); exact Kd.R_mono HO283.out (fun _ hk => ⟨hk.1.1.2, ⟨hk.1.2, hk.2⟩⟩)⟩, ⟨by (with_reducible repeat (first | apply Kd.R_alloc | apply Kd.R_drewN | apply Kd.R_drew)); exact Kd.R_mono HO289.out (fun _ hk => ⟨hk.1.1.2, ⟨hk.1.2, hk.2⟩⟩)⟩, ⟨lb16_ BK278⟩, ⟨lb16_ BK279⟩, ⟨lb16_ BK285⟩, ⟨lb16_ BK291⟩, ⟨lw16_ HB⟩⟩
  case rest =>
   clear HC8
   try clear c1
   try clear c2
   try clear p2
   try clear c3
   try clear c4
   try clear c5
   try clear c12
   try clear c19
   try clear c20
   try clear c25
   try clear c26
   try clear c27
   try clear c28
   try clear c29
   try clear c32
   try clear c32b0
   try clear c32b1
   try clear c32b2
   try clear c34
   try clear c35
   try clear c36
   try clear c38
   try clear c39
   try clear hcz13_0
   try clear hcz13_1
   try clear hcz15_0
   try clear hcz15_1
   try clear hcz21_0
   try clear hcz21_1
   try clear hcz23_0
   try clear hcz23_1
   try clear hcz24_0
   try clear hcz24_1
   try clear hcz30_0
   try clear hcz30_1
   try clear hcz37_0
   try clear hcz37_1
   try clear hcz40_0
   try clear hcz40_1
   try clear hfz13_0
   try clear hfz13_1
   try clear hfz15_0
   try clear hfz15_1
   try clear hfz21_0
   try clear hfz21_1
   try clear hfz23_0
   try clear hfz23_1
   try clear hfz24_0
   try clear hfz24_1
   try clear hfz30_0
   try clear hfz30_1
   try clear hfz37_0
   try clear hfz37_1
   try clear hfz40_0
   try clear hfz40_1
   obtain ⟨kq, x49_7, rfl, HA, HJ7, HO_279001, HO_280001, HO_286001, HO_292001, BK278, BK279, BK285, BK291, HB⟩ := hcut
   cases kq with
   | zero => exact absurd HA.out (by simp [laws_FnJoinsAreCut.j0])
   | succ kj7 =>
    have H := HA.out
    clear HA
    simp only [laws_FnJoinsAreCut.j0] at H
    by_cases c42 : x49_7 = true
    ·subst c42
     have H1 : (none) = some r := by rw [if_pos rfl] at H; exact H
     clear H
     have H := H1
     clear H1
     exact absurd H (by simp)
    ·replace c42 := Bool.eq_false_iff.mpr c42
     subst c42
     have H1 : (if t290 = true then ((impl_CutBits.f kj7 t280 t281 0 t270).bind fun bt293 => ((impl_CutBits.f kj7 t280 t281 t270 t280).bind fun bt299 => (if bt293.2.2 = true then (if bt299.2.2 = true then ((laws_pSameBits.f kj7 bt293.1 bt293.2.1 t270 t271).bind fun t305 => (if t305 = true then ((laws_pSameBits.f kj7 bt299.1 bt299.2.1 t274 t275).bind fun t306 => (laws_FnJoinsAreCut.j1 kj7 (!t306) t270 t271 t274 t275 t280 t281)) else (none))) else (none)) else (none)))) else (some true)) = some r := by rw [if_neg (show ¬ (false = true) by decide)] at H; exact H
     clear H
     have H := H1
     clear H1
     by_cases c43 : t290 = true
     ·subst c43
      have H1 : ((impl_CutBits.f kj7 t280 t281 0 t270).bind fun bt293 => ((impl_CutBits.f kj7 t280 t281 t270 t280).bind fun bt299 => (if bt293.2.2 = true then (if bt299.2.2 = true then ((laws_pSameBits.f kj7 bt293.1 bt293.2.1 t270 t271).bind fun t305 => (if t305 = true then ((laws_pSameBits.f kj7 bt299.1 bt299.2.1 t274 t275).bind fun t306 => (laws_FnJoinsAreCut.j1 kj7 (!t306) t270 t271 t274 t275 t280 t281)) else (none))) else (none)) else (none)))) = some r := by rw [if_pos rfl] at H; exact H
      clear H
      have H := H1
      clear H1
      replace H := Option.bind_eq_some_iff.mp H
      obtain ⟨⟨t293, t294, t297⟩, A440, H⟩ := H
      replace H : ((impl_CutBits.f kj7 t280 t281 t270 t280).bind fun bt299 => (if t297 = true then (if bt299.2.2 = true then ((laws_pSameBits.f kj7 t293 t294 t270 t271).bind fun t305 => (if t305 = true then ((laws_pSameBits.f kj7 bt299.1 bt299.2.1 t274 t275).bind fun t306 => (laws_FnJoinsAreCut.j1 kj7 (!t306) t270 t271 t274 t275 t280 t281)) else (none))) else (none)) else (none))) = some r := H
      have A44 := am16_ A440
      clear A440
      replace H := Option.bind_eq_some_iff.mp H
      obtain ⟨⟨t299, t300, t303⟩, A450, H⟩ := H
      replace H : (if t297 = true then (if t303 = true then ((laws_pSameBits.f kj7 t293 t294 t270 t271).bind fun t305 => (if t305 = true then ((laws_pSameBits.f kj7 t299 t300 t274 t275).bind fun t306 => (laws_FnJoinsAreCut.j1 kj7 (!t306) t270 t271 t274 t275 t280 t281)) else (none))) else (none)) else (none)) = some r := H
      have A45 := am16_ A450
      clear A450
      have HC46 := am16_ H
      clear H
      have hnb47 := NB285_278.out
      have hnc47 := NB278_285.out
      have hnb48 := NB285_279.out
      have hnc48 := NB279_285.out
      have hnb49 := NB285_291.out
      have hnc49 := NB291_285.out
      have hcz50_0 : wc.cell? ⟨gb285, 0, none⟩ = some (.int .i64 t280) := (blk_cell BK285.out 0).trans rfl
      have hcz50_1 : wc.cell? ⟨gb285, 1, none⟩ = some (.slice Ao22 t281.length co22) := (blk_cell BK285.out 1).trans rfl
      have hfz50_0 := blk_frozen BK285.out 0
      have hfz50_1 := blk_frozen BK285.out 1
      have hnb51 := NB278_279.out
      have hnc51 := NB279_278.out
      have hnb52 := NB278_291.out
      have hnc52 := NB291_278.out
      have hcz53_0 : wc.cell? ⟨gb278, 0, none⟩ = some (.int .i64 t270) := (blk_cell BK278.out 0).trans rfl
      have hcz53_1 : wc.cell? ⟨gb278, 1, none⟩ = some (.slice Ao14 t271.length co14) := (blk_cell BK278.out 1).trans rfl
      have hfz53_0 := blk_frozen BK278.out 0
      have hfz53_1 := blk_frozen BK278.out 1
      go_upto_region 12 with (first | ((with_reducible refine gate_callee (f := 24) rfl ?_); refine goesL_ (some 56) rfl rfl Try.func24 (by kernel_rfl) rfl #[.agg #[.int .i64 t280, .slice Ao22 t281.length co22], .int .i64 0, .int .i64 t270] rfl lm16_ ?_; (with_reducible refine (impl_CutBits.calls kj7 t280 _ _ t281 0 t270 t293 t294 t297 _ ?side1 ?side2 A44.out).mono ?_); (case side1 => exact lc16_ (Kd.R_reads' HO_286001.out).2.2); (case side2 => exact (Kd.R_reads' HO_286001.out).2.1); rintro e w54 ⟨v295, rfl, ho0, hb⟩; refine ⟨_, rfl, ?_⟩; have n0_ := am16_ (Kd.R_elder' (lf16_ HO_279001) (Kd.R_base ho0) hb); have n1_ := am16_ (Kd.R_elder' (lf16_ HO_280001) (Kd.R_base ho0) hb); have n2_ := am16_ (Kd.R_elder' (lf16_ HO_286001) (Kd.R_base ho0) hb); have n3_ := am16_ (Kd.R_elder' (lf16_ HO_292001) (Kd.R_base ho0) hb); have n4_ := am16_ (Kd.R_lower (Kd.R_new' (Kd.R_new' (Kd.R_new' (Kd.R_new' ho0 (Kd.R_lt (lf16_ HO_279001))) (Kd.R_lt (lf16_ HO_280001))) (Kd.R_lt (lf16_ HO_286001))) (Kd.R_lt (lf16_ HO_292001))) (below_size (lw16_ HB))); have n5_ := am16_ (blk_below (g := gb278) (o := .cells #[.int .i64 t270, .slice Ao14 t271.length co14] 26 (0, 0)) (lb16_ BK278) hb); have n6_ := am16_ (blk_below (g := gb279) (o := .cells #[.int .i64 t274, .slice Ao16 t275.length co16] 26 (0, 0)) (lb16_ BK279) hb); have n7_ := am16_ (blk_below (g := gb285) (o := .cells #[.int .i64 t280, .slice Ao22 t281.length co22] 26 (0, 0)) (lb16_ BK285) hb); have n8_ := am16_ (blk_below (g := gb291) (o := .cells #[.int .i64 t286, .slice Ao31 t287.length co31] 26 (0, 0)) (lb16_ BK291) hb); have n9_ := am16_ (below_step (lw16_ HB) hb); clear HO_279001; clear HO_280001; clear HO_286001; clear HO_292001; clear BK278; clear BK279; clear BK285; clear BK291; clear HB; have HO_279001 := n0_; have HO_280001 := n1_; have HO_286001 := n2_; have HO_292001 := n3_; have HO296 := n4_; have BK278 := n5_; have BK279 := n6_; have BK285 := n7_; have BK291 := n8_; have HB := n9_; clear n0_ n1_ n2_ n3_ n4_ n5_ n6_ n7_ n8_ n9_; (try clear hb); (try clear hb2); (try clear hk); (try clear hi); (try clear ho0)) | ((with_reducible refine gate_dst (N := 11) rfl ?_); refine box_event ?hg (N := 11) ?hd (cs := #[.int .i64 0, .slice none 0 0]) (t := 26) ?hr ?_; (case hd => rfl); (case hg => rfl); (case hr => first | (go_simp; done) | (go_simp; rfl)); intro gb298 hg w55 hbox hb; have n0_ := am16_ (Kd.R_below (lf16_ HO_279001) hb); have n1_ := am16_ (Kd.R_below (lf16_ HO_280001) hb); have n2_ := am16_ (Kd.R_below (lf16_ HO_286001) hb); have n3_ := am16_ (Kd.R_below (lf16_ HO_292001) hb); have n4_ := am16_ (Kd.R_below (lf16_ HO296) hb); have n5_ := am16_ (blk_below (g := gb278) (o := .cells #[.int .i64 t270, .slice Ao14 t271.length co14] 26 (0, 0)) (lb16_ BK278) hb); have n6_ := am16_ (blk_below (g := gb279) (o := .cells #[.int .i64 t274, .slice Ao16 t275.length co16] 26 (0, 0)) (lb16_ BK279) hb); have n7_ := am16_ (blk_below (g := gb285) (o := .cells #[.int .i64 t280, .slice Ao22 t281.length co22] 26 (0, 0)) (lb16_ BK285) hb); have n8_ := am16_ (blk_below (g := gb291) (o := .cells #[.int .i64 t286, .slice Ao31 t287.length co31] 26 (0, 0)) (lb16_ BK291) hb); have n9_ := am16_ (below_step (lw16_ HB) hb); have n10_ := am16_ (hbox); have n11_ := am16_ ((by rw [hg]; exact (below_size (lw16_ HB)) : w.heap.size ≤ gb298)); have n12_ := am16_ ((by rw [hg]; exact (below_size (lw16_ HB)) : w.heap.size ≤ gb298)); have n13_ := am16_ ((by rw [hg]; exact Nat.ne_of_lt (blk_lt (g := gb278) (lb16_ BK278)) : gb278 ≠ gb298)); have n14_ := am16_ ((by rw [hg]; exact Nat.ne_of_gt (blk_lt (g := gb278) (lb16_ BK278)) : gb298 ≠ gb278)); have n15_ := am16_ ((by rw [hg]; exact Nat.ne_of_lt (blk_lt (g := gb279) (lb16_ BK279)) : gb279 ≠ gb298)); have n16_ := am16_ ((by rw [hg]; exact Nat.ne_of_gt (blk_lt (g := gb279) (lb16_ BK279)) : gb298 ≠ gb279)); have n17_ := am16_ ((by rw [hg]; exact Nat.ne_of_lt (blk_lt (g := gb285) (lb16_ BK285)) : gb285 ≠ gb298)); have n18_ := am16_ ((by rw [hg]; exact Nat.ne_of_gt (blk_lt (g := gb285) (lb16_ BK285)) : gb298 ≠ gb285)); have n19_ := am16_ ((by rw [hg]; exact Nat.ne_of_lt (blk_lt (g := gb291) (lb16_ BK291)) : gb291 ≠ gb298)); have n20_ := am16_ ((by rw [hg]; exact Nat.ne_of_gt (blk_lt (g := gb291) (lb16_ BK291)) : gb298 ≠ gb291)); clear HO_279001; clear HO_280001; clear HO_286001; clear HO_292001; clear HO296; clear BK278; clear BK279; clear BK285; clear BK291; clear HB; have HO_279001 := n0_; have HO_280001 := n1_; have HO_286001 := n2_; have HO_292001 := n3_; have HO296 := n4_; have BK278 := n5_; have BK279 := n6_; have BK285 := n7_; have BK291 := n8_; have HB := n9_; have BK298 := n10_; have GW298 := n11_; have GE298 := n12_; have NB278_298 := n13_; have NB298_278 := n14_; have NB279_298 := n15_; have NB298_279 := n16_; have NB285_298 := n17_; have NB298_285 := n18_; have NB291_298 := n19_; have NB298_291 := n20_; clear n0_ n1_ n2_ n3_ n4_ n5_ n6_ n7_ n8_ n9_ n10_ n11_ n12_ n13_ n14_ n15_ n16_ n17_ n18_ n19_ n20_; clear hb hbox hg; have hnb56 := NB298_278.out; have hnc56 := NB278_298.out; have hnb57 := NB298_279.out; have hnc57 := NB279_298.out; have hnb58 := NB298_285.out; have hnc58 := NB285_298.out; have hnb59 := NB298_291.out; have hnc59 := NB291_298.out; have hcz60_0 : w55.cell? ⟨gb298, 0, none⟩ = some (.int .i64 0) := (blk_cell BK298.out 0).trans rfl; have hcz60_1 : w55.cell? ⟨gb298, 1, none⟩ = some (.slice none 0 0) := (blk_cell BK298.out 1).trans rfl; have hfz60_0 := blk_frozen BK298.out 0; have hfz60_1 := blk_frozen BK298.out 1; obtain ⟨Ao61, co61, eo61⟩ := Kd.R_slice HO296.out; subst eo61; have hcz62_0 : w55.cell? ⟨gb285, 0, none⟩ = some (.int .i64 t280) := (blk_cell BK285.out 0).trans rfl; have hcz62_1 : w55.cell? ⟨gb285, 1, none⟩ = some (.slice Ao22 t281.length co22) := (blk_cell BK285.out 1).trans rfl; have hfz62_0 := blk_frozen BK285.out 0; have hfz62_1 := blk_frozen BK285.out 1; have hcz63_0 : w55.cell? ⟨gb278, 0, none⟩ = some (.int .i64 t270) := (blk_cell BK278.out 0).trans rfl; have hcz63_1 : w55.cell? ⟨gb278, 1, none⟩ = some (.slice Ao14 t271.length co14) := (blk_cell BK278.out 1).trans rfl; have hfz63_0 := blk_frozen BK278.out 0; have hfz63_1 := blk_frozen BK278.out 1) | ((with_reducible refine gate_callee (f := 24) rfl ?_); refine goesL_ (some 65) rfl rfl Try.func24 (by kernel_rfl) rfl #[.agg #[.int .i64 t280, .slice Ao22 t281.length co22], .int .i64 t270, .int .i64 t280] rfl lm16_ ?_; (with_reducible refine (impl_CutBits.calls kj7 t280 _ _ t281 t270 t280 t299 t300 t303 _ ?side1 ?side2 A45.out).mono ?_); (case side1 => refine (Kd.R_reads' (e := 3) (base := w.heap.size) (ok := fun k_ => ((some k_ ≠ (.slice Ao14 t271.length co14 : Value).ownBlock ∧ (some k_ ≠ (.slice Ao16 t275.length co16 : Value).ownBlock ∧ some k_ ≠ (.slice Ao31 t287.length co31 : Value).ownBlock)) ∧ some k_ ≠ (.slice Ao61 t294.length co61 : Value).ownBlock)) (n := t281.length) (c := co22) ?_).2.2; exact (lt16_ (Kd.R_mono (Kd.R_far (p := ⟨gb298, 1, none⟩) (Kd.R_far (p := ⟨gb298, 0, none⟩) (Kd.R_types HO_286001.out BK298.out (by decide)) (fun _ hk => hk.2) (.int .i64 t293)) (fun _ hk => hk.2) (.slice Ao61 t294.length co61)) (fun _ h_ => h_.1)))); (case side2 => exact (Kd.R_reads' HO_286001.out).2.1); rintro e w64 ⟨v301, rfl, ho0, hb⟩; refine ⟨_, rfl, ?_⟩; have n0_ := am16_ (Kd.R_elder' (lt16_ (Kd.R_mono (Kd.R_far (p := ⟨gb298, 1, none⟩) (Kd.R_far (p := ⟨gb298, 0, none⟩) (Kd.R_types HO_279001.out BK298.out (by decide)) (fun _ hk => hk.2) (.int .i64 t293)) (fun _ hk => hk.2) (.slice Ao61 t294.length co61)) (fun _ h_ => h_.1))) (Kd.R_base ho0) hb); have n1_ := am16_ (Kd.R_elder' (lt16_ (Kd.R_mono (Kd.R_far (p := ⟨gb298, 1, none⟩) (Kd.R_far (p := ⟨gb298, 0, none⟩) (Kd.R_types HO_280001.out BK298.out (by decide)) (fun _ hk => hk.2) (.int .i64 t293)) (fun _ hk => hk.2) (.slice Ao61 t294.length co61)) (fun _ h_ => h_.1))) (Kd.R_base ho0) hb); have n2_ := am16_ (Kd.R_elder' (lt16_ (Kd.R_mono (Kd.R_far (p := ⟨gb298, 1, none⟩) (Kd.R_far (p := ⟨gb298, 0, none⟩) (Kd.R_types HO_286001.out BK298.out (by decide)) (fun _ hk => hk.2) (.int .i64 t293)) (fun _ hk => hk.2) (.slice Ao61 t294.length co61)) (fun _ h_ => h_.1))) (Kd.R_base ho0) hb); have n3_ := am16_ (Kd.R_elder' (lt16_ (Kd.R_mono (Kd.R_far (p := ⟨gb298, 1, none⟩) (Kd.R_far (p := ⟨gb298, 0, none⟩) (Kd.R_types HO_292001.out BK298.out (by decide)) (fun _ hk => hk.2) (.int .i64 t293)) (fun _ hk => hk.2) (.slice Ao61 t294.length co61)) (fun _ h_ => h_.1))) (Kd.R_base ho0) hb); have n4_ := am16_ (Kd.R_elder' (lt16_ (Kd.R_mono (Kd.R_far (p := ⟨gb298, 1, none⟩) (Kd.R_far (p := ⟨gb298, 0, none⟩) (Kd.R_types HO296.out BK298.out (by decide)) (fun _ hk => hk.2) (.int .i64 t293)) (fun _ hk => hk.2) (.slice Ao61 t294.length co61)) (fun _ h_ => h_.1))) (Kd.R_base ho0) hb); have n5_ := am16_ (Kd.R_lower (Kd.R_new' (Kd.R_new' (Kd.R_new' (Kd.R_new' (Kd.R_new' ho0 (Kd.R_lt (lt16_ (Kd.R_mono (Kd.R_far (p := ⟨gb298, 1, none⟩) (Kd.R_far (p := ⟨gb298, 0, none⟩) (Kd.R_types HO_279001.out BK298.out (by decide)) (fun _ hk => hk.2) (.int .i64 t293)) (fun _ hk => hk.2) (.slice Ao61 t294.length co61)) (fun _ h_ => h_.1))))) (Kd.R_lt (lt16_ (Kd.R_mono (Kd.R_far (p := ⟨gb298, 1, none⟩) (Kd.R_far (p := ⟨gb298, 0, none⟩) (Kd.R_types HO_280001.out BK298.out (by decide)) (fun _ hk => hk.2) (.int .i64 t293)) (fun _ hk => hk.2) (.slice Ao61 t294.length co61)) (fun _ h_ => h_.1))))) (Kd.R_lt (lt16_ (Kd.R_mono (Kd.R_far (p := ⟨gb298, 1, none⟩) (Kd.R_far (p := ⟨gb298, 0, none⟩) (Kd.R_types HO_286001.out BK298.out (by decide)) (fun _ hk => hk.2) (.int .i64 t293)) (fun _ hk => hk.2) (.slice Ao61 t294.length co61)) (fun _ h_ => h_.1))))) (Kd.R_lt (lt16_ (Kd.R_mono (Kd.R_far (p := ⟨gb298, 1, none⟩) (Kd.R_far (p := ⟨gb298, 0, none⟩) (Kd.R_types HO_292001.out BK298.out (by decide)) (fun _ hk => hk.2) (.int .i64 t293)) (fun _ hk => hk.2) (.slice Ao61 t294.length co61)) (fun _ h_ => h_.1))))) (Kd.R_lt (lt16_ (Kd.R_mono (Kd.R_far (p := ⟨gb298, 1, none⟩) (Kd.R_far (p := ⟨gb298, 0, none⟩) (Kd.R_types HO296.out BK298.out (by decide)) (fun _ hk => hk.2) (.int .i64 t293)) (fun _ hk => hk.2) (.slice Ao61 t294.length co61)) (fun _ h_ => h_.1))))) (below_size (lw16_ HB))); have n6_ := am16_ (blk_below (g := gb278) (o := .cells #[.int .i64 t270, .slice Ao14 t271.length co14] 26 (0, 0)) (by (with_reducible repeat (first | refine blk_drewN ?_ _ | refine blk_drew ?_ | refine blk_alloc ?_ _)); refine blk_far ?_ NB278_298.out _; (with_reducible repeat (first | refine blk_drewN ?_ _ | refine blk_drew ?_ | refine blk_alloc ?_ _)); refine blk_far ?_ NB278_298.out _; (with_reducible repeat (first | refine blk_drewN ?_ _ | refine blk_drew ?_ | refine blk_alloc ?_ _)); exact BK278.out) hb); have n7_ := am16_ (blk_below (g := gb279) (o := .cells #[.int .i64 t274, .slice Ao16 t275.length co16] 26 (0, 0)) (by (with_reducible repeat (first | refine blk_drewN ?_ _ | refine blk_drew ?_ | refine blk_alloc ?_ _)); refine blk_far ?_ NB279_298.out _; (with_reducible repeat (first | refine blk_drewN ?_ _ | refine blk_drew ?_ | refine blk_alloc ?_ _)); refine blk_far ?_ NB279_298.out _; (with_reducible repeat (first | refine blk_drewN ?_ _ | refine blk_drew ?_ | refine blk_alloc ?_ _)); exact BK279.out) hb); have n8_ := am16_ (blk_below (g := gb285) (o := .cells #[.int .i64 t280, .slice Ao22 t281.length co22] 26 (0, 0)) (by (with_reducible repeat (first | refine blk_drewN ?_ _ | refine blk_drew ?_ | refine blk_alloc ?_ _)); refine blk_far ?_ NB285_298.out _; (with_reducible repeat (first | refine blk_drewN ?_ _ | refine blk_drew ?_ | refine blk_alloc ?_ _)); refine blk_far ?_ NB285_298.out _; (with_reducible repeat (first | refine blk_drewN ?_ _ | refine blk_drew ?_ | refine blk_alloc ?_ _)); exact BK285.out) hb); have n9_ := am16_ (blk_below (g := gb291) (o := .cells #[.int .i64 t286, .slice Ao31 t287.length co31] 26 (0, 0)) (by (with_reducible repeat (first | refine blk_drewN ?_ _ | refine blk_drew ?_ | refine blk_alloc ?_ _)); refine blk_far ?_ NB291_298.out _; (with_reducible repeat (first | refine blk_drewN ?_ _ | refine blk_drew ?_ | refine blk_alloc ?_ _)); refine blk_far ?_ NB291_298.out _; (with_reducible repeat (first | refine blk_drewN ?_ _ | refine blk_drew ?_ | refine blk_alloc ?_ _)); exact BK291.out) hb); have n10_ := am16_ (blk_below (g := gb298) (o := .cells #[.int .i64 t293, .slice Ao61 t294.length co61] 26 (0, 0)) (by (with_reducible repeat (first | refine blk_drewN ?_ _ | refine blk_drew ?_ | refine blk_alloc ?_ _)); refine blk_put (cs := #[.int .i64 t293, .slice none 0 0]) ?_ 1 _ rfl; (with_reducible repeat (first | refine blk_drewN ?_ _ | refine blk_drew ?_ | refine blk_alloc ?_ _)); refine blk_put (cs := #[.int .i64 0, .slice none 0 0]) ?_ 0 _ rfl; (with_reducible repeat (first | refine blk_drewN ?_ _ | refine blk_drew ?_ | refine blk_alloc ?_ _)); exact BK298.out) hb); have n11_ := am16_ (below_step (lw16_ HB) hb); clear HO_279001; clear HO_280001; clear HO_286001; clear HO_292001; clear HO296; clear BK278; clear BK279; clear BK285; clear BK291; clear BK298; clear HB; have HO_279001 := n0_; have HO_280001 := n1_; have HO_286001 := n2_; have HO_292001 := n3_; have HO296 := n4_; have HO302 := n5_; have BK278 := n6_; have BK279 := n7_; have BK285 := n8_; have BK291 := n9_; have BK298 := n10_; have HB := n11_; clear n0_ n1_ n2_ n3_ n4_ n5_ n6_ n7_ n8_ n9_ n10_ n11_; (try clear hb); (try clear hb2); (try clear hk); (try clear hi); (try clear ho0)) | ((with_reducible refine gate_dst (N := 13) rfl ?_); refine box_event ?hg (N := 13) ?hd (cs := #[.int .i64 0, .slice none 0 0]) (t := 26) ?hr ?_; (case hd => rfl); (case hg => rfl); (case hr => first | (go_simp; done) | (go_simp; rfl)); intro gb304 hg w65 hbox hb; have n0_ := am16_ (Kd.R_below (lf16_ HO_279001) hb); have n1_ := am16_ (Kd.R_below (lf16_ HO_280001) hb); have n2_ := am16_ (Kd.R_below (lf16_ HO_286001) hb); have n3_ := am16_ (Kd.R_below (lf16_ HO_292001) hb); have n4_ := am16_ (Kd.R_below (lf16_ HO296) hb); have n5_ := am16_ (Kd.R_below (lf16_ HO302) hb); have n6_ := am16_ (blk_below (g := gb278) (o := .cells #[.int .i64 t270, .slice Ao14 t271.length co14] 26 (0, 0)) (lb16_ BK278) hb); have n7_ := am16_ (blk_below (g := gb279) (o := .cells #[.int .i64 t274, .slice Ao16 t275.length co16] 26 (0, 0)) (lb16_ BK279) hb); have n8_ := am16_ (blk_below (g := gb285) (o := .cells #[.int .i64 t280, .slice Ao22 t281.length co22] 26 (0, 0)) (lb16_ BK285) hb); have n9_ := am16_ (blk_below (g := gb291) (o := .cells #[.int .i64 t286, .slice Ao31 t287.length co31] 26 (0, 0)) (lb16_ BK291) hb); have n10_ := am16_ (blk_below (g := gb298) (o := .cells #[.int .i64 t293, .slice Ao61 t294.length co61] 26 (0, 0)) (lb16_ BK298) hb); have n11_ := am16_ (below_step (lw16_ HB) hb); have n12_ := am16_ (hbox); have n13_ := am16_ ((by rw [hg]; exact (below_size (lw16_ HB)) : w.heap.size ≤ gb304)); have n14_ := am16_ ((by rw [hg]; exact (below_size (lw16_ HB)) : w.heap.size ≤ gb304)); have n15_ := am16_ ((by rw [hg]; exact Nat.ne_of_lt (blk_lt (g := gb278) (lb16_ BK278)) : gb278 ≠ gb304)); have n16_ := am16_ ((by rw [hg]; exact Nat.ne_of_gt (blk_lt (g := gb278) (lb16_ BK278)) : gb304 ≠ gb278)); have n17_ := am16_ ((by rw [hg]; exact Nat.ne_of_lt (blk_lt (g := gb279) (lb16_ BK279)) : gb279 ≠ gb304)); have n18_ := am16_ ((by rw [hg]; exact Nat.ne_of_gt (blk_lt (g := gb279) (lb16_ BK279)) : gb304 ≠ gb279)); have n19_ := am16_ ((by rw [hg]; exact Nat.ne_of_lt (blk_lt (g := gb285) (lb16_ BK285)) : gb285 ≠ gb304)); have n20_ := am16_ ((by rw [hg]; exact Nat.ne_of_gt (blk_lt (g := gb285) (lb16_ BK285)) : gb304 ≠ gb285)); have n21_ := am16_ ((by rw [hg]; exact Nat.ne_of_lt (blk_lt (g := gb291) (lb16_ BK291)) : gb291 ≠ gb304)); have n22_ := am16_ ((by rw [hg]; exact Nat.ne_of_gt (blk_lt (g := gb291) (lb16_ BK291)) : gb304 ≠ gb291)); have n23_ := am16_ ((by rw [hg]; exact Nat.ne_of_lt (blk_lt (g := gb298) (lb16_ BK298)) : gb298 ≠ gb304)); have n24_ := am16_ ((by rw [hg]; exact Nat.ne_of_gt (blk_lt (g := gb298) (lb16_ BK298)) : gb304 ≠ gb298)); clear HO_279001; clear HO_280001; clear HO_286001; clear HO_292001; clear HO296; clear HO302; clear BK278; clear BK279; clear BK285; clear BK291; clear BK298; clear HB; have HO_279001 := n0_; have HO_280001 := n1_; have HO_286001 := n2_; have HO_292001 := n3_; have HO296 := n4_; have HO302 := n5_; have BK278 := n6_; have BK279 := n7_; have BK285 := n8_; have BK291 := n9_; have BK298 := n10_; have HB := n11_; have BK304 := n12_; have GW304 := n13_; have GE304 := n14_; have NB278_304 := n15_; have NB304_278 := n16_; have NB279_304 := n17_; have NB304_279 := n18_; have NB285_304 := n19_; have NB304_285 := n20_; have NB291_304 := n21_; have NB304_291 := n22_; have NB298_304 := n23_; have NB304_298 := n24_; clear n0_ n1_ n2_ n3_ n4_ n5_ n6_ n7_ n8_ n9_ n10_ n11_ n12_ n13_ n14_ n15_ n16_ n17_ n18_ n19_ n20_ n21_ n22_ n23_ n24_; clear hb hbox hg; have hnb66 := NB304_278.out; have hnc66 := NB278_304.out; have hnb67 := NB304_279.out; have hnc67 := NB279_304.out; have hnb68 := NB304_285.out; have hnc68 := NB285_304.out; have hnb69 := NB304_291.out; have hnc69 := NB291_304.out; have hnb70 := NB304_298.out; have hnc70 := NB298_304.out; have hcz71_0 : w65.cell? ⟨gb304, 0, none⟩ = some (.int .i64 0) := (blk_cell BK304.out 0).trans rfl; have hcz71_1 : w65.cell? ⟨gb304, 1, none⟩ = some (.slice none 0 0) := (blk_cell BK304.out 1).trans rfl; have hfz71_0 := blk_frozen BK304.out 0; have hfz71_1 := blk_frozen BK304.out 1; obtain ⟨Ao72, co72, eo72⟩ := Kd.R_slice HO302.out; subst eo72))
      (try simp only [Act.put, List.setIfInBounds_toArray, List.set_cons_zero, List.set_cons_succ])
      go_cut [85] (fun v85 wc => ∃ (kq : Nat) (x85_45 : Bool), v85 = .bool x85_45 ∧ Aside0 (laws_FnJoinsAreCut.j1 kq x85_45 t270 t271 t274 t275 t280 t281 = some r) ∧ Aside0 (kq ≤ kj7) ∧ Aside0 (Kd.R (Kd.int .i64) 3 wc w.heap.size (fun k_ => some k_ ≠ ((.slice Ao16 t275.length co16) : Value).ownBlock ∧ some k_ ≠ ((.slice Ao22 t281.length co22) : Value).ownBlock ∧ some k_ ≠ ((.slice Ao31 t287.length co31) : Value).ownBlock ∧ some k_ ≠ ((.slice Ao61 t294.length co61) : Value).ownBlock ∧ some k_ ≠ ((.slice Ao72 t300.length co72) : Value).ownBlock) (.slice Ao14 t271.length co14) t271) ∧ Aside0 (Kd.R (Kd.int .i64) 3 wc w.heap.size (fun k_ => some k_ ≠ ((.slice Ao14 t271.length co14) : Value).ownBlock ∧ some k_ ≠ ((.slice Ao22 t281.length co22) : Value).ownBlock ∧ some k_ ≠ ((.slice Ao31 t287.length co31) : Value).ownBlock ∧ some k_ ≠ ((.slice Ao61 t294.length co61) : Value).ownBlock ∧ some k_ ≠ ((.slice Ao72 t300.length co72) : Value).ownBlock) (.slice Ao16 t275.length co16) t275) ∧ Aside0 (Kd.R (Kd.int .i64) 3 wc w.heap.size (fun k_ => some k_ ≠ ((.slice Ao14 t271.length co14) : Value).ownBlock ∧ some k_ ≠ ((.slice Ao16 t275.length co16) : Value).ownBlock ∧ some k_ ≠ ((.slice Ao31 t287.length co31) : Value).ownBlock ∧ some k_ ≠ ((.slice Ao61 t294.length co61) : Value).ownBlock ∧ some k_ ≠ ((.slice Ao72 t300.length co72) : Value).ownBlock) (.slice Ao22 t281.length co22) t281) ∧ Aside0 (Kd.R (Kd.int .i64) 3 wc w.heap.size (fun k_ => some k_ ≠ ((.slice Ao14 t271.length co14) : Value).ownBlock ∧ some k_ ≠ ((.slice Ao16 t275.length co16) : Value).ownBlock ∧ some k_ ≠ ((.slice Ao22 t281.length co22) : Value).ownBlock ∧ some k_ ≠ ((.slice Ao61 t294.length co61) : Value).ownBlock ∧ some k_ ≠ ((.slice Ao72 t300.length co72) : Value).ownBlock) (.slice Ao31 t287.length co31) t287) ∧ Aside0 (Kd.R (Kd.int .i64) 3 wc w.heap.size (fun k_ => some k_ ≠ ((.slice Ao14 t271.length co14) : Value).ownBlock ∧ some k_ ≠ ((.slice Ao16 t275.length co16) : Value).ownBlock ∧ some k_ ≠ ((.slice Ao22 t281.length co22) : Value).ownBlock ∧ some k_ ≠ ((.slice Ao31 t287.length co31) : Value).ownBlock ∧ some k_ ≠ ((.slice Ao72 t300.length co72) : Value).ownBlock) (.slice Ao61 t294.length co61) t294) ∧ Aside0 (Kd.R (Kd.int .i64) 3 wc w.heap.size (fun k_ => some k_ ≠ ((.slice Ao14 t271.length co14) : Value).ownBlock ∧ some k_ ≠ ((.slice Ao16 t275.length co16) : Value).ownBlock ∧ some k_ ≠ ((.slice Ao22 t281.length co22) : Value).ownBlock ∧ some k_ ≠ ((.slice Ao31 t287.length co31) : Value).ownBlock ∧ some k_ ≠ ((.slice Ao61 t294.length co61) : Value).ownBlock) (.slice Ao72 t300.length co72) t300) ∧ Aside0 (wc.heap[gb278]? = some (.cells #[.int .i64 t270, (.slice Ao14 t271.length co14)] 26 (0, 0))) ∧ Aside0 (wc.heap[gb279]? = some (.cells #[.int .i64 t274, (.slice Ao16 t275.length co16)] 26 (0, 0))) ∧ Aside0 (wc.heap[gb285]? = some (.cells #[.int .i64 t280, (.slice Ao22 t281.length co22)] 26 (0, 0))) ∧ Aside0 (wc.heap[gb291]? = some (.cells #[.int .i64 t286, (.slice Ao31 t287.length co31)] 26 (0, 0))) ∧ Aside0 (wc.heap[gb298]? = some (.cells #[.int .i64 t293, (.slice Ao61 t294.length co61)] 26 (0, 0))) ∧ Aside0 (wc.heap[gb304]? = some (.cells #[.int .i64 t299, (.slice Ao72 t300.length co72)] 26 (0, 0))) ∧ Aside0 (Below w.heap.size w wc))
      case first =>
       have H := HC46.out
       clear HC46
       by_cases c73 : t297 = true
       ·subst c73
        have H1 : (if t303 = true then ((laws_pSameBits.f kj7 t293 t294 t270 t271).bind fun t305 => (if t305 = true then ((laws_pSameBits.f kj7 t299 t300 t274 t275).bind fun t306 => (laws_FnJoinsAreCut.j1 kj7 (!t306) t270 t271 t274 t275 t280 t281)) else (none))) else (none)) = some r := by rw [if_pos rfl] at H; exact H
        clear H
        have H := H1
        clear H1
        by_cases c74 : t303 = true
        ·subst c74
         have H1 : ((laws_pSameBits.f kj7 t293 t294 t270 t271).bind fun t305 => (if t305 = true then ((laws_pSameBits.f kj7 t299 t300 t274 t275).bind fun t306 => (laws_FnJoinsAreCut.j1 kj7 (!t306) t270 t271 t274 t275 t280 t281)) else (none))) = some r := by rw [if_pos rfl] at H; exact H
         clear H
         have H := H1
         clear H1
         replace H := Option.bind_eq_some_iff.mp H
         obtain ⟨t305, A750, H⟩ := H
         replace H : (if t305 = true then ((laws_pSameBits.f kj7 t299 t300 t274 t275).bind fun t306 => (laws_FnJoinsAreCut.j1 kj7 (!t306) t270 t271 t274 t275 t280 t281)) else (none)) = some r := H
         have A75 := am16_ A750
         clear A750
         by_cases c76 : t305 = true
         ·subst c76
          have H1 : ((laws_pSameBits.f kj7 t299 t300 t274 t275).bind fun t306 => (laws_FnJoinsAreCut.j1 kj7 (!t306) t270 t271 t274 t275 t280 t281)) = some r := by rw [if_pos rfl] at H; exact H
          clear H
          have H := H1
          clear H1
          replace H := Option.bind_eq_some_iff.mp H
          obtain ⟨t306, A770, H⟩ := H
          replace H : (laws_FnJoinsAreCut.j1 kj7 (!t306) t270 t271 t274 t275 t280 t281) = some r := H
          have A77 := am16_ A770
          clear A770
          have H' := am16_ H
          clear H
          have hnb78 := NB298_278.out
          have hnc78 := NB278_298.out
          have hnb79 := NB298_279.out
          have hnc79 := NB279_298.out
          have hnb80 := NB298_285.out
          have hnc80 := NB285_298.out
          have hnb81 := NB298_291.out
          have hnc81 := NB291_298.out
          have hnb82 := NB298_304.out
          have hnc82 := NB304_298.out
          have hcz83_0 : w65.cell? ⟨gb298, 0, none⟩ = some (.int .i64 t293) := (blk_cell BK298.out 0).trans rfl
          have hcz83_1 : w65.cell? ⟨gb298, 1, none⟩ = some (.slice Ao61 t294.length co61) := (blk_cell BK298.out 1).trans rfl
          have hfz83_0 := blk_frozen BK298.out 0
          have hfz83_1 := blk_frozen BK298.out 1
          have hnb84 := NB278_279.out
          have hnc84 := NB279_278.out
          have hnb85 := NB278_285.out
          have hnc85 := NB285_278.out
          have hnb86 := NB278_291.out
          have hnc86 := NB291_278.out
          have hnb87 := NB278_304.out
          have hnc87 := NB304_278.out
          have hcz88_0 : w65.cell? ⟨gb278, 0, none⟩ = some (.int .i64 t270) := (blk_cell BK278.out 0).trans rfl
          have hcz88_1 : w65.cell? ⟨gb278, 1, none⟩ = some (.slice Ao14 t271.length co14) := (blk_cell BK278.out 1).trans rfl
          have hfz88_0 := blk_frozen BK278.out 0
          have hfz88_1 := blk_frozen BK278.out 1
          have Z2_ := am16_ (Kd.R_far (p := ⟨gb304, 1, none⟩) (Kd.R_far (p := ⟨gb304, 0, none⟩) (Kd.R_types HO296.out BK304.out (by decide)) (fun _ hk => hk.2) (.int .i64 t299)) (fun _ hk => hk.2) (.slice Ao72 t300.length co72))
          have Z1_ := am16_ (Kd.R_far (p := ⟨gb304, 1, none⟩) (Kd.R_far (p := ⟨gb304, 0, none⟩) (Kd.R_types HO_279001.out BK304.out (by decide)) (fun _ hk => hk.2) (.int .i64 t299)) (fun _ hk => hk.2) (.slice Ao72 t300.length co72))
          go_wp2_with (first | (go_at_call 47; (with_reducible refine (laws_pSameBits.calls kj7 t293 _ _ t294 t270 _ _ t271 true _ ?side1 ?side2 ?side3 ?side4 A75.out).mono ?_); (case side1 => refine (Kd.R_reads' (e := 3) (base := w.heap.size) (ok := fun k_ => (((((True ∧ some k_ ≠ (.slice Ao14 t271.length co14 : Value).ownBlock) ∧ some k_ ≠ (.slice Ao16 t275.length co16 : Value).ownBlock) ∧ some k_ ≠ (.slice Ao22 t281.length co22 : Value).ownBlock) ∧ some k_ ≠ (.slice Ao31 t287.length co31 : Value).ownBlock) ∧ some k_ ≠ (.slice Ao72 t300.length co72 : Value).ownBlock)) (n := t294.length) (c := co61) ?_).2.2; exact (lt16_ (Kd.R_mono Z2_.out (fun _ h_ => h_.1)))); (case side2 => exact (Kd.R_reads' HO296.out).2.1); (case side3 => refine (Kd.R_reads' (e := 3) (base := w.heap.size) (ok := fun k_ => (((some k_ ≠ (.slice Ao16 t275.length co16 : Value).ownBlock ∧ (some k_ ≠ (.slice Ao22 t281.length co22 : Value).ownBlock ∧ some k_ ≠ (.slice Ao31 t287.length co31 : Value).ownBlock)) ∧ some k_ ≠ (.slice Ao61 t294.length co61 : Value).ownBlock) ∧ some k_ ≠ (.slice Ao72 t300.length co72 : Value).ownBlock)) (n := t271.length) (c := co14) ?_).2.2; exact (lt16_ (Kd.R_mono Z1_.out (fun _ h_ => h_.1)))); (case side4 => exact (Kd.R_reads' HO_279001.out).2.1); rintro e w89 ⟨rfl, hb⟩; have n0_ := am16_ (Kd.R_below (lt16_ (Kd.R_mono Z1_.out (fun _ h_ => h_.1))) hb); have n1_ := am16_ (Kd.R_below (lt16_ (Kd.R_mono (Kd.R_far (p := ⟨gb304, 1, none⟩) (Kd.R_far (p := ⟨gb304, 0, none⟩) (Kd.R_types HO_280001.out BK304.out (by decide)) (fun _ hk => hk.2) (.int .i64 t299)) (fun _ hk => hk.2) (.slice Ao72 t300.length co72)) (fun _ h_ => h_.1))) hb); have n2_ := am16_ (Kd.R_below (lt16_ (Kd.R_mono (Kd.R_far (p := ⟨gb304, 1, none⟩) (Kd.R_far (p := ⟨gb304, 0, none⟩) (Kd.R_types HO_286001.out BK304.out (by decide)) (fun _ hk => hk.2) (.int .i64 t299)) (fun _ hk => hk.2) (.slice Ao72 t300.length co72)) (fun _ h_ => h_.1))) hb); have n3_ := am16_ (Kd.R_below (lt16_ (Kd.R_mono (Kd.R_far (p := ⟨gb304, 1, none⟩) (Kd.R_far (p := ⟨gb304, 0, none⟩) (Kd.R_types HO_292001.out BK304.out (by decide)) (fun _ hk => hk.2) (.int .i64 t299)) (fun _ hk => hk.2) (.slice Ao72 t300.length co72)) (fun _ h_ => h_.1))) hb); have n4_ := am16_ (Kd.R_below (lt16_ (Kd.R_mono Z2_.out (fun _ h_ => h_.1))) hb); have n5_ := am16_ (Kd.R_below (lt16_ (Kd.R_mono (Kd.R_far (p := ⟨gb304, 1, none⟩) (Kd.R_far (p := ⟨gb304, 0, none⟩) (Kd.R_types HO302.out BK304.out (by decide)) (fun _ hk => hk.2) (.int .i64 t299)) (fun _ hk => hk.2) (.slice Ao72 t300.length co72)) (fun _ h_ => h_.1))) hb); have n6_ := am16_ (blk_below (g := gb278) (o := .cells #[.int .i64 t270, .slice Ao14 t271.length co14] 26 (0, 0)) (by (with_reducible repeat (first | refine blk_drewN ?_ _ | refine blk_drew ?_ | refine blk_alloc ?_ _)); refine blk_far ?_ NB278_304.out _; (with_reducible repeat (first | refine blk_drewN ?_ _ | refine blk_drew ?_ | refine blk_alloc ?_ _)); refine blk_far ?_ NB278_304.out _; (with_reducible repeat (first | refine blk_drewN ?_ _ | refine blk_drew ?_ | refine blk_alloc ?_ _)); exact BK278.out) hb); have n7_ := am16_ (blk_below (g := gb279) (o := .cells #[.int .i64 t274, .slice Ao16 t275.length co16] 26 (0, 0)) (by (with_reducible repeat (first | refine blk_drewN ?_ _ | refine blk_drew ?_ | refine blk_alloc ?_ _)); refine blk_far ?_ NB279_304.out _; (with_reducible repeat (first | refine blk_drewN ?_ _ | refine blk_drew ?_ | refine blk_alloc ?_ _)); refine blk_far ?_ NB279_304.out _; (with_reducible repeat (first | refine blk_drewN ?_ _ | refine blk_drew ?_ | refine blk_alloc ?_ _)); exact BK279.out) hb); have n8_ := am16_ (blk_below (g := gb285) (o := .cells #[.int .i64 t280, .slice Ao22 t281.length co22] 26 (0, 0)) (by (with_reducible repeat (first | refine blk_drewN ?_ _ | refine blk_drew ?_ | refine blk_alloc ?_ _)); refine blk_far ?_ NB285_304.out _; (with_reducible repeat (first | refine blk_drewN ?_ _ | refine blk_drew ?_ | refine blk_alloc ?_ _)); refine blk_far ?_ NB285_304.out _; (with_reducible repeat (first | refine blk_drewN ?_ _ | refine blk_drew ?_ | refine blk_alloc ?_ _)); exact BK285.out) hb); have n9_ := am16_ (blk_below (g := gb291) (o := .cells #[.int .i64 t286, .slice Ao31 t287.length co31] 26 (0, 0)) (by (with_reducible repeat (first | refine blk_drewN ?_ _ | refine blk_drew ?_ | refine blk_alloc ?_ _)); refine blk_far ?_ NB291_304.out _; (with_reducible repeat (first | refine blk_drewN ?_ _ | refine blk_drew ?_ | refine blk_alloc ?_ _)); refine blk_far ?_ NB291_304.out _; (with_reducible repeat (first | refine blk_drewN ?_ _ | refine blk_drew ?_ | refine blk_alloc ?_ _)); exact BK291.out) hb); have n10_ := am16_ (blk_below (g := gb298) (o := .cells #[.int .i64 t293, .slice Ao61 t294.length co61] 26 (0, 0)) (by (with_reducible repeat (first | refine blk_drewN ?_ _ | refine blk_drew ?_ | refine blk_alloc ?_ _)); refine blk_far ?_ NB298_304.out _; (with_reducible repeat (first | refine blk_drewN ?_ _ | refine blk_drew ?_ | refine blk_alloc ?_ _)); refine blk_far ?_ NB298_304.out _; (with_reducible repeat (first | refine blk_drewN ?_ _ | refine blk_drew ?_ | refine blk_alloc ?_ _)); exact BK298.out) hb); have n11_ := am16_ (blk_below (g := gb304) (o := .cells #[.int .i64 t299, .slice Ao72 t300.length co72] 26 (0, 0)) (by (with_reducible repeat (first | refine blk_drewN ?_ _ | refine blk_drew ?_ | refine blk_alloc ?_ _)); refine blk_put (cs := #[.int .i64 t299, .slice none 0 0]) ?_ 1 _ rfl; (with_reducible repeat (first | refine blk_drewN ?_ _ | refine blk_drew ?_ | refine blk_alloc ?_ _)); refine blk_put (cs := #[.int .i64 0, .slice none 0 0]) ?_ 0 _ rfl; (with_reducible repeat (first | refine blk_drewN ?_ _ | refine blk_drew ?_ | refine blk_alloc ?_ _)); exact BK304.out) hb); have n12_ := am16_ (below_step (lw16_ HB) hb); clear HO_279001; clear HO_280001; clear HO_286001; clear HO_292001; clear HO296; clear HO302; clear BK278; clear BK279; clear BK285; clear BK291; clear BK298; clear BK304; clear HB; have HO_279001 := n0_; have HO_280001 := n1_; have HO_286001 := n2_; have HO_292001 := n3_; have HO296 := n4_; have HO302 := n5_; have BK278 := n6_; have BK279 := n7_; have BK285 := n8_; have BK291 := n9_; have BK298 := n10_; have BK304 := n11_; have HB := n12_; clear n0_ n1_ n2_ n3_ n4_ n5_ n6_ n7_ n8_ n9_ n10_ n11_ n12_; (try clear hb); (try clear hb2); (try clear hk); (try clear hi); have hnb90 := NB304_279.out; have hnc90 := NB279_304.out; have hnb91 := NB304_285.out; have hnc91 := NB285_304.out; have hnb92 := NB304_291.out; have hnc92 := NB291_304.out; have hcz93_0 : w89.cell? ⟨gb304, 0, none⟩ = some (.int .i64 t299) := (blk_cell BK304.out 0).trans rfl; have hcz93_1 : w89.cell? ⟨gb304, 1, none⟩ = some (.slice Ao72 t300.length co72) := (blk_cell BK304.out 1).trans rfl; have hfz93_0 := blk_frozen BK304.out 0; have hfz93_1 := blk_frozen BK304.out 1; have hnb94 := NB279_285.out; have hnc94 := NB285_279.out; have hnb95 := NB279_291.out; have hnc95 := NB291_279.out; have hcz96_0 : w89.cell? ⟨gb279, 0, none⟩ = some (.int .i64 t274) := (blk_cell BK279.out 0).trans rfl; have hcz96_1 : w89.cell? ⟨gb279, 1, none⟩ = some (.slice Ao16 t275.length co16) := (blk_cell BK279.out 1).trans rfl; have hfz96_0 := blk_frozen BK279.out 0; have hfz96_1 := blk_frozen BK279.out 1) | (go_at_call 47; (with_reducible refine (laws_pSameBits.calls kj7 t299 _ _ t300 t274 _ _ t275 t306 _ ?side1 ?side2 ?side3 ?side4 A77.out).mono ?_); (case side1 => exact lc16_ (Kd.R_reads' HO302.out).2.2); (case side2 => exact (Kd.R_reads' HO302.out).2.1); (case side3 => exact lc16_ (Kd.R_reads' HO_280001.out).2.2); (case side4 => exact (Kd.R_reads' HO_280001.out).2.1); rintro e w97 ⟨rfl, hb⟩; have n0_ := am16_ (Kd.R_below (lf16_ HO_279001) hb); have n1_ := am16_ (Kd.R_below (lf16_ HO_280001) hb); have n2_ := am16_ (Kd.R_below (lf16_ HO_286001) hb); have n3_ := am16_ (Kd.R_below (lf16_ HO_292001) hb); have n4_ := am16_ (Kd.R_below (lf16_ HO296) hb); have n5_ := am16_ (Kd.R_below (lf16_ HO302) hb); have n6_ := am16_ (blk_below (g := gb278) (o := .cells #[.int .i64 t270, .slice Ao14 t271.length co14] 26 (0, 0)) (lb16_ BK278) hb); have n7_ := am16_ (blk_below (g := gb279) (o := .cells #[.int .i64 t274, .slice Ao16 t275.length co16] 26 (0, 0)) (lb16_ BK279) hb); have n8_ := am16_ (blk_below (g := gb285) (o := .cells #[.int .i64 t280, .slice Ao22 t281.length co22] 26 (0, 0)) (lb16_ BK285) hb); have n9_ := am16_ (blk_below (g := gb291) (o := .cells #[.int .i64 t286, .slice Ao31 t287.length co31] 26 (0, 0)) (lb16_ BK291) hb); have n10_ := am16_ (blk_below (g := gb298) (o := .cells #[.int .i64 t293, .slice Ao61 t294.length co61] 26 (0, 0)) (lb16_ BK298) hb); have n11_ := am16_ (blk_below (g := gb304) (o := .cells #[.int .i64 t299, .slice Ao72 t300.length co72] 26 (0, 0)) (lb16_ BK304) hb); have n12_ := am16_ (below_step (lw16_ HB) hb); clear HO_279001; clear HO_280001; clear HO_286001; clear HO_292001; clear HO296; clear HO302; clear BK278; clear BK279; clear BK285; clear BK291; clear BK298; clear BK304; clear HB; have HO_279001 := n0_; have HO_280001 := n1_; have HO_286001 := n2_; have HO_292001 := n3_; have HO296 := n4_; have HO302 := n5_; have BK278 := n6_; have BK279 := n7_; have BK285 := n8_; have BK291 := n9_; have BK298 := n10_; have BK304 := n11_; have HB := n12_; clear n0_ n1_ n2_ n3_ n4_ n5_ n6_ n7_ n8_ n9_ n10_ n11_ n12_; (try clear hb); (try clear hb2); (try clear hk); (try clear hi)))
          go_meet
          case rel => exact ⟨_, (!t306), (by first | rfl | (simp; done) | (simp [*]; done)), H', ⟨by have := HJ7.out; first | omega | exact Nat.le_refl _⟩, ⟨by (with_reducible repeat (first | apply Kd.R_alloc | apply Kd.R_drewN | apply Kd.R_drew)); exact Kd.R_mono HO_279001.out (fun _ hk => ⟨hk.1.1.1, ⟨hk.1.1.2.1, ⟨hk.1.1.2.2, ⟨hk.1.2, hk.2⟩⟩⟩⟩)⟩, ⟨by (with_reducible repeat (first | apply Kd.R_alloc | apply Kd.R_drewN | apply Kd.R_drew)); exact Kd.R_mono HO_280001.out (fun _ hk => ⟨hk.1.1.1, ⟨hk.1.1.2.1, ⟨hk.1.1.2.2, ⟨hk.1.2, hk.2⟩⟩⟩⟩)⟩, ⟨by (with_reducible repeat (first | apply Kd.R_alloc | apply Kd.R_drewN | apply Kd.R_drew)); exact Kd.R_mono HO_286001.out (fun _ hk => ⟨hk.1.1.1, ⟨hk.1.1.2.1, ⟨hk.1.1.2.2, ⟨hk.1.2, hk.2⟩⟩⟩⟩)⟩, ⟨by (with_reducible repeat (first | apply Kd.R_alloc | apply Kd.R_drewN | apply Kd.R_drew)); exact Kd.R_mono HO_292001.out (fun _ hk => ⟨hk.1.1.1, ⟨hk.1.1.2.1, ⟨hk.1.1.2.2, ⟨hk.1.2, hk.2⟩⟩⟩⟩)⟩, ⟨by (with_reducible repeat (first | apply Kd.R_alloc | apply Kd.R_drewN | apply Kd.R_drew)); exact Kd.R_mono HO296.out (fun _ hk => ⟨hk.1.1.1.1.2, ⟨hk.1.1.1.2, ⟨hk.1.1.2, ⟨hk.1.2, hk.2⟩⟩⟩⟩)⟩, ⟨by (with_reducible repeat (first | apply Kd.R_alloc | apply Kd.R_drewN | apply Kd.R_drew)); exact Kd.R_mono HO302.out (fun _ hk => ⟨hk.1.1.1.1.2, ⟨hk.1.1.1.2, ⟨hk.1.1.2, ⟨hk.1.2, hk.2⟩⟩⟩⟩)⟩, ⟨lb16_ BK278⟩, ⟨lb16_ BK279⟩, ⟨lb16_ BK285⟩, ⟨lb16_ BK291⟩, ⟨lb16_ BK298⟩, ⟨lb16_ BK304⟩, ⟨lw16_ HB⟩⟩
         ·replace c76 := Bool.eq_false_iff.mpr c76
          subst c76
          have H1 : (none) = some r := by rw [if_neg (show ¬ (false = true) by decide)] at H; exact H
          clear H
          have H := H1
          clear H1
          exact absurd H (by simp)
        ·replace c74 := Bool.eq_false_iff.mpr c74
         subst c74
         have H1 : (none) = some r := by rw [if_neg (show ¬ (false = true) by decide)] at H; exact H
         clear H
         have H := H1
         clear H1
         exact absurd H (by simp)
       ·replace c73 := Bool.eq_false_iff.mpr c73
        subst c73
        have H1 : (none) = some r := by rw [if_neg (show ¬ (false = true) by decide)] at H; exact H
        clear H
        have H := H1
        clear H1
        exact absurd H (by simp)
      case rest =>
       clear HC46
       try clear c1
       try clear c2
       try clear p2
       try clear c3
       try clear c4
       try clear c5
       try clear c6
       try clear c7
       try clear c8
       try clear c9
       try clear c12
       try clear c19
       try clear c20
       try clear c24
       try clear c25
       try clear c26
       try clear c27
       try clear c28
       try clear c29
       try clear c32
       try clear c32b0
       try clear c32b1
       try clear c32b2
       try clear c34
       try clear c35
       try clear c36
       try clear c38
       try clear c39
       try clear c42
       try clear c43
       try clear c45
       try clear c47
       try clear c48
       try clear c49
       try clear c51
       try clear c52
       try clear c56
       try clear c57
       try clear c58
       try clear c59
       try clear c66
       try clear c67
       try clear c68
       try clear c69
       try clear c70
       try clear c73
       try clear c74
       try clear c76
       try clear c78
       try clear c79
       try clear c80
       try clear c81
       try clear c82
       try clear c84
       try clear c85
       try clear c86
       try clear c87
       try clear c90
       try clear c91
       try clear c92
       try clear c94
       try clear c95
       try clear hcz13_0
       try clear hcz13_1
       try clear hcz15_0
       try clear hcz15_1
       try clear hcz21_0
       try clear hcz21_1
       try clear hcz23_0
       try clear hcz23_1
       try clear hcz24_0
       try clear hcz24_1
       try clear hcz30_0
       try clear hcz30_1
       try clear hcz37_0
       try clear hcz37_1
       try clear hcz40_0
       try clear hcz40_1
       try clear hcz50_0
       try clear hcz50_1
       try clear hcz53_0
       try clear hcz53_1
       try clear hcz60_0
       try clear hcz60_1
       try clear hcz62_0
       try clear hcz62_1
       try clear hcz63_0
       try clear hcz63_1
       try clear hcz71_0
       try clear hcz71_1
       try clear hcz83_0
       try clear hcz83_1
       try clear hcz88_0
       try clear hcz88_1
       try clear hcz93_0
       try clear hcz93_1
       try clear hcz96_0
       try clear hcz96_1
       try clear hfz13_0
       try clear hfz13_1
       try clear hfz15_0
       try clear hfz15_1
       try clear hfz21_0
       try clear hfz21_1
       try clear hfz23_0
       try clear hfz23_1
       try clear hfz24_0
       try clear hfz24_1
       try clear hfz30_0
       try clear hfz30_1
       try clear hfz37_0
       try clear hfz37_1
       try clear hfz40_0
       try clear hfz40_1
       try clear hfz50_0
       try clear hfz50_1
       try clear hfz53_0
       try clear hfz53_1
       try clear hfz60_0
       try clear hfz60_1
       try clear hfz62_0
       try clear hfz62_1
       try clear hfz63_0
       try clear hfz63_1
       try clear hfz71_0
       try clear hfz71_1
       try clear hfz83_0
       try clear hfz83_1
       try clear hfz88_0
       try clear hfz88_1
       try clear hfz93_0
       try clear hfz93_1
       try clear hfz96_0
       try clear hfz96_1
       try clear p2
       obtain ⟨kq, x85_45, rfl, HA, HJ45, HO_279001, HO_280001, HO_286001, HO_292001, HO_299001, HO_305001, BK278, BK279, BK285, BK291, BK298, BK304, HB⟩ := hcut
       cases kq with
       | zero => exact absurd HA.out (by simp [laws_FnJoinsAreCut.j1])
       | succ kj45 =>
        have H := HA.out
        clear HA
        simp only [laws_FnJoinsAreCut.j1] at H
        by_cases c98 : x85_45 = true
        ·subst c98
         have H1 : (none) = some r := by rw [if_pos rfl] at H; exact H
         clear H
         have H := H1
         clear H1
         exact absurd H (by simp)
        ·replace c98 := Bool.eq_false_iff.mpr c98
         subst c98
         have H1 : ((impl_CountBits.f kj45 t270 t271 0 t270).bind fun bt307 => ((impl_CountBits.f kj45 t274 t275 0 t274).bind fun bt309 => ((impl_CountBits.f kj45 t280 t281 0 t280).bind fun bt311 => (if bt307.2 = true then (if bt309.2 = true then (if bt311.2 = true then (some (bt311.1 == (wrap64 (bt307.1 + bt309.1)))) else (none)) else (none)) else (none))))) = some r := by rw [if_neg (show ¬ (false = true) by decide)] at H; exact H
         clear H
         have H := H1
         clear H1
         replace H := Option.bind_eq_some_iff.mp H
         obtain ⟨⟨t307, t308⟩, A990, H⟩ := H
         replace H : ((impl_CountBits.f kj45 t274 t275 0 t274).bind fun bt309 => ((impl_CountBits.f kj45 t280 t281 0 t280).bind fun bt311 => (if t308 = true then (if bt309.2 = true then (if bt311.2 = true then (some (bt311.1 == (wrap64 (t307 + bt309.1)))) else (none)) else (none)) else (none)))) = some r := H
         have A99 := am16_ A990
         clear A990
         replace H := Option.bind_eq_some_iff.mp H
         obtain ⟨⟨t309, t310⟩, A1000, H⟩ := H
         replace H : ((impl_CountBits.f kj45 t280 t281 0 t280).bind fun bt311 => (if t308 = true then (if t310 = true then (if bt311.2 = true then (some (bt311.1 == (wrap64 (t307 + t309)))) else (none)) else (none)) else (none))) = some r := H
         have A100 := am16_ A1000
         clear A1000
         replace H := Option.bind_eq_some_iff.mp H
         obtain ⟨⟨t311, t312⟩, A1010, H⟩ := H
         replace H : (if t308 = true then (if t310 = true then (if t312 = true then (some (t311 == (wrap64 (t307 + t309)))) else (none)) else (none)) else (none)) = some r := H
         have A101 := am16_ A1010
         clear A1010
         by_cases c102 : t308 = true
         ·subst c102
          have H1 : (if t310 = true then (if t312 = true then (some (t311 == (wrap64 (t307 + t309)))) else (none)) else (none)) = some r := by rw [if_pos rfl] at H; exact H
          clear H
          have H := H1
          clear H1
          by_cases c103 : t310 = true
          ·subst c103
           have H1 : (if t312 = true then (some (t311 == (wrap64 (t307 + t309)))) else (none)) = some r := by rw [if_pos rfl] at H; exact H
           clear H
           have H := H1
           clear H1
           by_cases c104 : t312 = true
           ·subst c104
            have H1 : (some (t311 == (wrap64 (t307 + t309)))) = some r := by rw [if_pos rfl] at H; exact H
            clear H
            have H := H1
            clear H1
            obtain rfl := Option.some.inj H
            have hnb105 := NB278_279.out
            have hnc105 := NB279_278.out
            have hnb106 := NB278_285.out
            have hnc106 := NB285_278.out
            have hnb107 := NB278_291.out
            have hnc107 := NB291_278.out
            have hnb108 := NB278_298.out
            have hnc108 := NB298_278.out
            have hnb109 := NB278_304.out
            have hnc109 := NB304_278.out
            have hcz110_0 : wc.cell? ⟨gb278, 0, none⟩ = some (.int .i64 t270) := (blk_cell BK278.out 0).trans rfl
            have hcz110_1 : wc.cell? ⟨gb278, 1, none⟩ = some (.slice Ao14 t271.length co14) := (blk_cell BK278.out 1).trans rfl
            have hfz110_0 := blk_frozen BK278.out 0
            have hfz110_1 := blk_frozen BK278.out 1
            go_wp2_with (first | ((with_reducible refine gate_callee (f := 52) rfl ?_); refine goesL_ (some 90) rfl rfl Try.func52 (by kernel_rfl) rfl #[.agg #[.int .i64 t270, .slice Ao14 t271.length co14], .int .i64 0, .int .i64 t270] rfl lm16_ ?_; (with_reducible refine (impl_CountBits.calls kj45 t270 _ _ t271 0 t270 t307 true _ ?side1 ?side2 A99.out).mono ?_); (case side1 => exact lc16_ (Kd.R_reads' HO_279001.out).2.2); (case side2 => exact (Kd.R_reads' HO_279001.out).2.1); rintro e w111 ⟨rfl, hb⟩; refine ⟨_, rfl, ?_⟩; have n0_ := am16_ (Kd.R_below (lf16_ HO_279001) hb); have n1_ := am16_ (Kd.R_below (lf16_ HO_280001) hb); have n2_ := am16_ (Kd.R_below (lf16_ HO_286001) hb); have n3_ := am16_ (Kd.R_below (lf16_ HO_292001) hb); have n4_ := am16_ (Kd.R_below (lf16_ HO_299001) hb); have n5_ := am16_ (Kd.R_below (lf16_ HO_305001) hb); have n6_ := am16_ (blk_below (g := gb278) (o := .cells #[.int .i64 t270, .slice Ao14 t271.length co14] 26 (0, 0)) (lb16_ BK278) hb); have n7_ := am16_ (blk_below (g := gb279) (o := .cells #[.int .i64 t274, .slice Ao16 t275.length co16] 26 (0, 0)) (lb16_ BK279) hb); have n8_ := am16_ (blk_below (g := gb285) (o := .cells #[.int .i64 t280, .slice Ao22 t281.length co22] 26 (0, 0)) (lb16_ BK285) hb); have n9_ := am16_ (blk_below (g := gb291) (o := .cells #[.int .i64 t286, .slice Ao31 t287.length co31] 26 (0, 0)) (lb16_ BK291) hb); have n10_ := am16_ (blk_below (g := gb298) (o := .cells #[.int .i64 t293, .slice Ao61 t294.length co61] 26 (0, 0)) (lb16_ BK298) hb); have n11_ := am16_ (blk_below (g := gb304) (o := .cells #[.int .i64 t299, .slice Ao72 t300.length co72] 26 (0, 0)) (lb16_ BK304) hb); have n12_ := am16_ (below_step (lw16_ HB) hb); clear HO_279001; clear HO_280001; clear HO_286001; clear HO_292001; clear HO_299001; clear HO_305001; clear BK278; clear BK279; clear BK285; clear BK291; clear BK298; clear BK304; clear HB; have HO_279001 := n0_; have HO_280001 := n1_; have HO_286001 := n2_; have HO_292001 := n3_; have HO_299001 := n4_; have HO_305001 := n5_; have BK278 := n6_; have BK279 := n7_; have BK285 := n8_; have BK291 := n9_; have BK298 := n10_; have BK304 := n11_; have HB := n12_; clear n0_ n1_ n2_ n3_ n4_ n5_ n6_ n7_ n8_ n9_ n10_ n11_ n12_; (try clear hb); (try clear hb2); (try clear hk); (try clear hi); have hnb112 := NB279_285.out; have hnc112 := NB285_279.out; have hnb113 := NB279_291.out; have hnc113 := NB291_279.out; have hnb114 := NB279_298.out; have hnc114 := NB298_279.out; have hnb115 := NB279_304.out; have hnc115 := NB304_279.out; have hcz116_0 : w111.cell? ⟨gb279, 0, none⟩ = some (.int .i64 t274) := (blk_cell BK279.out 0).trans rfl; have hcz116_1 : w111.cell? ⟨gb279, 1, none⟩ = some (.slice Ao16 t275.length co16) := (blk_cell BK279.out 1).trans rfl; have hfz116_0 := blk_frozen BK279.out 0; have hfz116_1 := blk_frozen BK279.out 1) | ((with_reducible refine gate_callee (f := 52) rfl ?_); refine goesL_ (some 97) rfl rfl Try.func52 (by kernel_rfl) rfl #[.agg #[.int .i64 t274, .slice Ao16 t275.length co16], .int .i64 0, .int .i64 t274] rfl lm16_ ?_; (with_reducible refine (impl_CountBits.calls kj45 t274 _ _ t275 0 t274 t309 true _ ?side1 ?side2 A100.out).mono ?_); (case side1 => exact lc16_ (Kd.R_reads' HO_280001.out).2.2); (case side2 => exact (Kd.R_reads' HO_280001.out).2.1); rintro e w117 ⟨rfl, hb⟩; refine ⟨_, rfl, ?_⟩; have n0_ := am16_ (Kd.R_below (lf16_ HO_279001) hb); have n1_ := am16_ (Kd.R_below (lf16_ HO_280001) hb); have n2_ := am16_ (Kd.R_below (lf16_ HO_286001) hb); have n3_ := am16_ (Kd.R_below (lf16_ HO_292001) hb); have n4_ := am16_ (Kd.R_below (lf16_ HO_299001) hb); have n5_ := am16_ (Kd.R_below (lf16_ HO_305001) hb); have n6_ := am16_ (blk_below (g := gb278) (o := .cells #[.int .i64 t270, .slice Ao14 t271.length co14] 26 (0, 0)) (lb16_ BK278) hb); have n7_ := am16_ (blk_below (g := gb279) (o := .cells #[.int .i64 t274, .slice Ao16 t275.length co16] 26 (0, 0)) (lb16_ BK279) hb); have n8_ := am16_ (blk_below (g := gb285) (o := .cells #[.int .i64 t280, .slice Ao22 t281.length co22] 26 (0, 0)) (lb16_ BK285) hb); have n9_ := am16_ (blk_below (g := gb291) (o := .cells #[.int .i64 t286, .slice Ao31 t287.length co31] 26 (0, 0)) (lb16_ BK291) hb); have n10_ := am16_ (blk_below (g := gb298) (o := .cells #[.int .i64 t293, .slice Ao61 t294.length co61] 26 (0, 0)) (lb16_ BK298) hb); have n11_ := am16_ (blk_below (g := gb304) (o := .cells #[.int .i64 t299, .slice Ao72 t300.length co72] 26 (0, 0)) (lb16_ BK304) hb); have n12_ := am16_ (below_step (lw16_ HB) hb); clear HO_279001; clear HO_280001; clear HO_286001; clear HO_292001; clear HO_299001; clear HO_305001; clear BK278; clear BK279; clear BK285; clear BK291; clear BK298; clear BK304; clear HB; have HO_279001 := n0_; have HO_280001 := n1_; have HO_286001 := n2_; have HO_292001 := n3_; have HO_299001 := n4_; have HO_305001 := n5_; have BK278 := n6_; have BK279 := n7_; have BK285 := n8_; have BK291 := n9_; have BK298 := n10_; have BK304 := n11_; have HB := n12_; clear n0_ n1_ n2_ n3_ n4_ n5_ n6_ n7_ n8_ n9_ n10_ n11_ n12_; (try clear hb); (try clear hb2); (try clear hk); (try clear hi); have hnb118 := NB285_291.out; have hnc118 := NB291_285.out; have hnb119 := NB285_298.out; have hnc119 := NB298_285.out; have hnb120 := NB285_304.out; have hnc120 := NB304_285.out; have hcz121_0 : w117.cell? ⟨gb285, 0, none⟩ = some (.int .i64 t280) := (blk_cell BK285.out 0).trans rfl; have hcz121_1 : w117.cell? ⟨gb285, 1, none⟩ = some (.slice Ao22 t281.length co22) := (blk_cell BK285.out 1).trans rfl; have hfz121_0 := blk_frozen BK285.out 0; have hfz121_1 := blk_frozen BK285.out 1) | ((with_reducible refine gate_callee (f := 52) rfl ?_); refine goesL_ (some 104) rfl rfl Try.func52 (by kernel_rfl) rfl #[.agg #[.int .i64 t280, .slice Ao22 t281.length co22], .int .i64 0, .int .i64 t280] rfl lm16_ ?_; (with_reducible refine (impl_CountBits.calls kj45 t280 _ _ t281 0 t280 t311 true _ ?side1 ?side2 A101.out).mono ?_); (case side1 => exact lc16_ (Kd.R_reads' HO_286001.out).2.2); (case side2 => exact (Kd.R_reads' HO_286001.out).2.1); rintro e w122 ⟨rfl, hb⟩; refine ⟨_, rfl, ?_⟩; have n0_ := am16_ (Kd.R_below (lf16_ HO_279001) hb); have n1_ := am16_ (Kd.R_below (lf16_ HO_280001) hb); have n2_ := am16_ (Kd.R_below (lf16_ HO_286001) hb); have n3_ := am16_ (Kd.R_below (lf16_ HO_292001) hb); have n4_ := am16_ (Kd.R_below (lf16_ HO_299001) hb); have n5_ := am16_ (Kd.R_below (lf16_ HO_305001) hb); have n6_ := am16_ (blk_below (g := gb278) (o := .cells #[.int .i64 t270, .slice Ao14 t271.length co14] 26 (0, 0)) (lb16_ BK278) hb); have n7_ := am16_ (blk_below (g := gb279) (o := .cells #[.int .i64 t274, .slice Ao16 t275.length co16] 26 (0, 0)) (lb16_ BK279) hb); have n8_ := am16_ (blk_below (g := gb285) (o := .cells #[.int .i64 t280, .slice Ao22 t281.length co22] 26 (0, 0)) (lb16_ BK285) hb); have n9_ := am16_ (blk_below (g := gb291) (o := .cells #[.int .i64 t286, .slice Ao31 t287.length co31] 26 (0, 0)) (lb16_ BK291) hb); have n10_ := am16_ (blk_below (g := gb298) (o := .cells #[.int .i64 t293, .slice Ao61 t294.length co61] 26 (0, 0)) (lb16_ BK298) hb); have n11_ := am16_ (blk_below (g := gb304) (o := .cells #[.int .i64 t299, .slice Ao72 t300.length co72] 26 (0, 0)) (lb16_ BK304) hb); have n12_ := am16_ (below_step (lw16_ HB) hb); clear HO_279001; clear HO_280001; clear HO_286001; clear HO_292001; clear HO_299001; clear HO_305001; clear BK278; clear BK279; clear BK285; clear BK291; clear BK298; clear BK304; clear HB; have HO_279001 := n0_; have HO_280001 := n1_; have HO_286001 := n2_; have HO_292001 := n3_; have HO_299001 := n4_; have HO_305001 := n5_; have BK278 := n6_; have BK279 := n7_; have BK285 := n8_; have BK291 := n9_; have BK298 := n10_; have BK304 := n11_; have HB := n12_; clear n0_ n1_ n2_ n3_ n4_ n5_ n6_ n7_ n8_ n9_ n10_ n11_ n12_; (try clear hb); (try clear hb2); (try clear hk); (try clear hi)))
            go_ret
            exact ⟨by first | rfl | (simp [errW_none, errW_some] <;> rfl) | (simp [*, errW_none, errW_some] <;> rfl), lw16_ HB⟩
           ·replace c104 := Bool.eq_false_iff.mpr c104
            subst c104
            have H1 : (none) = some r := by rw [if_neg (show ¬ (false = true) by decide)] at H; exact H
            clear H
            have H := H1
            clear H1
            exact absurd H (by simp)
          ·replace c103 := Bool.eq_false_iff.mpr c103
           subst c103
           have H1 : (none) = some r := by rw [if_neg (show ¬ (false = true) by decide)] at H; exact H
           clear H
           have H := H1
           clear H1
           exact absurd H (by simp)
         ·replace c102 := Bool.eq_false_iff.mpr c102
          subst c102
          have H1 : (none) = some r := by rw [if_neg (show ¬ (false = true) by decide)] at H; exact H
          clear H
          have H := H1
          clear H1
          exact absurd H (by simp)
     ·replace c43 := Bool.eq_false_iff.mpr c43
      subst c43
      have H1 : (some true) = some r := by rw [if_neg (show ¬ (false = true) by decide)] at H; exact H
      clear H
      have H := H1
      clear H1
      obtain rfl := Option.some.inj H
      go_wp2
      go_ret
      exact ⟨by first | rfl | (simp [errW_none, errW_some] <;> rfl) | (simp [*, errW_none, errW_some] <;> rfl), lw16_ HB⟩

/-- THE ONE PURE STATEMENT of laws_FnJoinsAreCut: yours. -/
def laws_FnJoinsAreCut.Pure : Prop := ∀ (l0 : List Int) (l1 : List Int), l0.length ≤ maxLen → l0.length * 1 ≤ 140737488351232 → (∀ x ∈ l0, (Lit.int .u8 x).wf = true) → l1.length ≤ maxLen → l1.length * 1 ≤ 140737488351232 → (∀ x ∈ l1, (Lit.int .u8 x).wf = true) → ∃ k, laws_FnJoinsAreCut.f k l0 l1 = some true
theorem laws_FnJoinsAreCut.walk (P : laws_FnJoinsAreCut.Pure) (a0 : Option Addr) (len0 cap0 : Nat) (z0 : List Int) (a1 : Option Addr) (len1 cap1 : Nat) (z1 : List Int) (w : World) (w0 : (a0 = none ∧ len0 = 0 ∧ cap0 = 0 ∧ z0 = []) ∨ ∃ x, a0 = some x ∧ len0 ≤ cap0 ∧ cap0 ≤ maxLen ∧ z0.length = cap0 ∧ (∀ i, i < z0.length → w.cell? (x.add i) = some (.int .u8 (z0.getD i 0))) ∧ ∀ n ∈ z0, (Lit.int .u8 n).wf = true) (y0 : len0 * 1 ≤ 140737488351232) (w1 : (a1 = none ∧ len1 = 0 ∧ cap1 = 0 ∧ z1 = []) ∨ ∃ x, a1 = some x ∧ len1 ≤ cap1 ∧ cap1 ≤ maxLen ∧ z1.length = cap1 ∧ (∀ i, i < z1.length → w.cell? (x.add i) = some (.int .u8 (z1.getD i 0))) ∧ ∀ n ∈ z1, (Lit.int .u8 n).wf = true) (y1 : len1 * 1 ≤ 140737488351232) :
  Calls Try.prog 12 #[.slice a0 len0 cap0, .slice a1 len1 cap1] w fun e w' => e = .returned (.bool true) ∧ Below w.heap.size w w' := by
 obtain ⟨l0, rfl, hr0, hm0, hw0, hc0⟩ := ReadsInt.ofRowC w0
 obtain ⟨l1, rfl, hr1, hm1, hw1, hc1⟩ := ReadsInt.ofRowC w1
 obtain ⟨k, h⟩ := P l0 l1 hm0 y0 hw0 hm1 y1 hw1
 refine (laws_FnJoinsAreCut.calls k _ _ l0 _ _ l1 true w (Kd.C_of_reads (d := (0 : Int)) (h1 := fun _ => rfl) hr0) hc0 (Kd.C_of_reads (d := (0 : Int)) (h1 := fun _ => rfl) hr1) hc1 h).mono ?_
 rintro e w' ⟨rfl, hd⟩
 exact ⟨rfl, hd⟩

end Go.Proofs.Ytkmhjgejficclaa.PFnJoinsAreCut
