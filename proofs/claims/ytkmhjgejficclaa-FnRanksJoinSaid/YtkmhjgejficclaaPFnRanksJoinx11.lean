-- Laid by a program of this session: the print of the kit with additions of ours (wip/tools/patchprint.py). Nothing of it is trusted: Lean checks it.
import Derived.Test.YtkmhjgejficclaaPFnRanksJoinx0
import Derived.Test.YtkmhjgejficclaaPFnRanksJoinx1
import Derived.Test.YtkmhjgejficclaaPFnRanksJoinx3
import Derived.Test.YtkmhjgejficclaaPFnRanksJoinx4
import Derived.Test.YtkmhjgejficclaaPFnRanksJoinx6
import Derived.Test.YtkmhjgejficclaaPFnRanksJoinx7
import Derived.Test.YtkmhjgejficclaaPFnRanksJoinx8
import Derived.Test.YtkmhjgejficclaaPFnRanksJoinx10
namespace Go.Proofs.Ytkmhjgejficclaa.PFnRanksJoin
open Go.RowKit Go.Proofs.YtkmhjgejficclaaW.PrintWords Go.Proofs.YtkmhjgejficclaaW.PrintLast Go.Proofs.YtkmhjgejficclaaW.PrintMore
attribute [local go_sem] max2_int min2_int max_two min_two max_three min_three max_four min_four   -- for this text's walks alone
set_option linter.unusedVariables false
set_option linter.unusedSimpArgs false

/-! ### spec_DrawJoinRanked: function 53 -/
def spec_DrawJoinRanked.f (k : Nat) (l0 : List Int) : Option (Int × List Int × List Int × List Int × Int × List Int × List Int × List Int) := (spec_l1Cur_ranked.f k l0 0 0).bind fun bt453 => ((spec_l1Cur_one.f l0 bt453.2.2.2.2.1 bt453.2.2.2.2.2 12).bind fun bt466 => (if bt466.1 = true then ((spec_l1Cur_pick.f l0 bt466.2.1 bt466.2.2 3).bind fun bt469 => ((spec_biNew.f (wrap64 (4096 - bt469.1))).bind fun bt472 => ((spec_raOf.f k bt472.1 bt472.2).bind fun bt476 => ((spec_l1Cur_bits.f k l0 bt469.2.1 bt469.2.2 3).bind fun bt486 => ((spec_raOf.f k bt486.1 bt486.2.1).bind fun bt492 => (some (bt476.1, bt476.2.1, bt476.2.2.1, bt476.2.2.2, bt492.1, bt492.2.1, bt492.2.2.1, bt492.2.2.2))))))) else ((spec_l1Cur_ranked.f k l0 bt466.2.1 bt466.2.2).bind fun bt502 => (some (bt453.1, bt453.2.1, bt453.2.2.1, bt453.2.2.2.1, bt502.1, bt502.2.1, bt502.2.2.1, bt502.2.2.2.1)))))
theorem spec_DrawJoinRanked.mono : ∀ a0 k, LeO (spec_DrawJoinRanked.f k a0) (spec_DrawJoinRanked.f (k + 1) a0) := by
 intro a0 k
 unfold spec_DrawJoinRanked.f
 repeat' first
   | (with_reducible exact spec_l1Cur_bits.mono _ _ _ _ _)
   | (with_reducible exact spec_l1Cur_ranked.mono _ _ _ _)
   | (with_reducible exact spec_raOf.mono _ _ _)
   | (with_reducible exact LeO.refl _)
   | (with_reducible exact LeO.none _)
   | (with_reducible refine LeO.ite ?_ ?_)
   | (with_reducible refine LeO.bind ?_ (fun _ => ?_))
   | exact spec_l1Cur_bits.mono _ _ _ _ _
   | exact spec_l1Cur_ranked.mono _ _ _ _
   | exact spec_raOf.mono _ _ _
   | exact LeO.none _
   | refine LeO.ite ?_ ?_
   | refine LeO.bind ?_ (fun _ => ?_)
set_option maxHeartbeats 8000000 in
set_option maxRecDepth 100000 in
theorem spec_DrawJoinRanked.calls (k : Nat) (A0 : Option Addr) (c0 : Nat) (l0 : List Int) (r1 : Int) (r2 : List Int) (r3 : List Int) (r4 : List Int) (r5 : Int) (r6 : List Int) (r7 : List Int) (r8 : List Int) (w : World) (hr0 : Kd.C (Kd.int .u8) w A0 l0.length l0) (hc0 : l0.length ≤ c0) (h : spec_DrawJoinRanked.f k l0 = some (r1, r2, r3, r4, r5, r6, r7, r8)) :
  Calls Try.prog 53 #[.slice A0 l0.length c0] w fun e w' => ∃ v1_ v2_ v3_ v5_ v6_ v7_ : Value, e = .returned (.tuple #[.agg #[.int .i64 r1, v1_, v2_, v3_], .agg #[.int .i64 r5, v5_, v6_, v7_]]) ∧ Kd.R (Kd.int .i64) 3 w' w.heap.size (fun k_ => nb_ k_ v2_ ∧ nb_ k_ v3_ ∧ nb_ k_ v5_ ∧ nb_ k_ v6_ ∧ nb_ k_ v7_) v1_ r2 ∧ Kd.R (Kd.int .i64) 3 w' w.heap.size (fun k_ => nb_ k_ v1_ ∧ nb_ k_ v3_ ∧ nb_ k_ v5_ ∧ nb_ k_ v6_ ∧ nb_ k_ v7_) v2_ r3 ∧ Kd.R (Kd.int .i64) 3 w' w.heap.size (fun k_ => nb_ k_ v1_ ∧ nb_ k_ v2_ ∧ nb_ k_ v5_ ∧ nb_ k_ v6_ ∧ nb_ k_ v7_) v3_ r4 ∧ Kd.R (Kd.int .i64) 3 w' w.heap.size (fun k_ => nb_ k_ v1_ ∧ nb_ k_ v2_ ∧ nb_ k_ v3_ ∧ nb_ k_ v6_ ∧ nb_ k_ v7_) v5_ r6 ∧ Kd.R (Kd.int .i64) 3 w' w.heap.size (fun k_ => nb_ k_ v1_ ∧ nb_ k_ v2_ ∧ nb_ k_ v3_ ∧ nb_ k_ v5_ ∧ nb_ k_ v7_) v6_ r7 ∧ Kd.R (Kd.int .i64) 3 w' w.heap.size (fun k_ => nb_ k_ v1_ ∧ nb_ k_ v2_ ∧ nb_ k_ v3_ ∧ nb_ k_ v5_ ∧ nb_ k_ v6_) v7_ r8 ∧ Below w.heap.size w w' := by
 have hu48 := Try.underlying48
 have hu109 := Try.underlying109
 have HR0 := am_ hr0
 have HC0 := am_ hc0
 clear hr0 hc0
 have HB := am_ (Below.refl w.heap.size w)
 have H : ((spec_l1Cur_ranked.f k l0 0 0).bind fun bt453 => ((spec_l1Cur_one.f l0 bt453.2.2.2.2.1 bt453.2.2.2.2.2 12).bind fun bt466 => (if bt466.1 = true then ((spec_l1Cur_pick.f l0 bt466.2.1 bt466.2.2 3).bind fun bt469 => ((spec_biNew.f (wrap64 (4096 - bt469.1))).bind fun bt472 => ((spec_raOf.f k bt472.1 bt472.2).bind fun bt476 => ((spec_l1Cur_bits.f k l0 bt469.2.1 bt469.2.2 3).bind fun bt486 => ((spec_raOf.f k bt486.1 bt486.2.1).bind fun bt492 => (some (bt476.1, bt476.2.1, bt476.2.2.1, bt476.2.2.2, bt492.1, bt492.2.1, bt492.2.2.1, bt492.2.2.2))))))) else ((spec_l1Cur_ranked.f k l0 bt466.2.1 bt466.2.2).bind fun bt502 => (some (bt453.1, bt453.2.1, bt453.2.2.1, bt453.2.2.2.1, bt502.1, bt502.2.1, bt502.2.2.1, bt502.2.2.2.1)))))) = some (r1, r2, r3, r4, r5, r6, r7, r8) := h
 clear h
 replace H := Option.bind_eq_some_iff.mp H
 obtain ⟨⟨t453, t454, t457, t460, t463, t464⟩, A20, H⟩ := H
 replace H : ((spec_l1Cur_one.f l0 t463 t464 12).bind fun bt466 => (if bt466.1 = true then ((spec_l1Cur_pick.f l0 bt466.2.1 bt466.2.2 3).bind fun bt469 => ((spec_biNew.f (wrap64 (4096 - bt469.1))).bind fun bt472 => ((spec_raOf.f k bt472.1 bt472.2).bind fun bt476 => ((spec_l1Cur_bits.f k l0 bt469.2.1 bt469.2.2 3).bind fun bt486 => ((spec_raOf.f k bt486.1 bt486.2.1).bind fun bt492 => (some (bt476.1, bt476.2.1, bt476.2.2.1, bt476.2.2.2, bt492.1, bt492.2.1, bt492.2.2.1, bt492.2.2.2))))))) else ((spec_l1Cur_ranked.f k l0 bt466.2.1 bt466.2.2).bind fun bt502 => (some (t453, t454, t457, t460, bt502.1, bt502.2.1, bt502.2.2.1, bt502.2.2.2.1))))) = some (r1, r2, r3, r4, r5, r6, r7, r8) := H
 have A2 := am_ A20
 clear A20
 replace H := Option.bind_eq_some_iff.mp H
 obtain ⟨⟨t466, t467, t468⟩, A30, H⟩ := H
 replace H : (if t466 = true then ((spec_l1Cur_pick.f l0 t467 t468 3).bind fun bt469 => ((spec_biNew.f (wrap64 (4096 - bt469.1))).bind fun bt472 => ((spec_raOf.f k bt472.1 bt472.2).bind fun bt476 => ((spec_l1Cur_bits.f k l0 bt469.2.1 bt469.2.2 3).bind fun bt486 => ((spec_raOf.f k bt486.1 bt486.2.1).bind fun bt492 => (some (bt476.1, bt476.2.1, bt476.2.2.1, bt476.2.2.2, bt492.1, bt492.2.1, bt492.2.2.1, bt492.2.2.2))))))) else ((spec_l1Cur_ranked.f k l0 t467 t468).bind fun bt502 => (some (t453, t454, t457, t460, bt502.1, bt502.2.1, bt502.2.2.1, bt502.2.2.2.1)))) = some (r1, r2, r3, r4, r5, r6, r7, r8) := H
 have A3 := am_ A30
 clear A30
 by_cases c4 : t466 = true
 ·subst c4
  have H1 : ((spec_l1Cur_pick.f l0 t467 t468 3).bind fun bt469 => ((spec_biNew.f (wrap64 (4096 - bt469.1))).bind fun bt472 => ((spec_raOf.f k bt472.1 bt472.2).bind fun bt476 => ((spec_l1Cur_bits.f k l0 bt469.2.1 bt469.2.2 3).bind fun bt486 => ((spec_raOf.f k bt486.1 bt486.2.1).bind fun bt492 => (some (bt476.1, bt476.2.1, bt476.2.2.1, bt476.2.2.2, bt492.1, bt492.2.1, bt492.2.2.1, bt492.2.2.2))))))) = some (r1, r2, r3, r4, r5, r6, r7, r8) := by rw [if_pos rfl] at H; exact H
  clear H
  have H := H1
  clear H1
  replace H := Option.bind_eq_some_iff.mp H
  obtain ⟨⟨t469, t470, t471⟩, A50, H⟩ := H
  replace H : ((spec_biNew.f (wrap64 (4096 - t469))).bind fun bt472 => ((spec_raOf.f k bt472.1 bt472.2).bind fun bt476 => ((spec_l1Cur_bits.f k l0 t470 t471 3).bind fun bt486 => ((spec_raOf.f k bt486.1 bt486.2.1).bind fun bt492 => (some (bt476.1, bt476.2.1, bt476.2.2.1, bt476.2.2.2, bt492.1, bt492.2.1, bt492.2.2.1, bt492.2.2.2)))))) = some (r1, r2, r3, r4, r5, r6, r7, r8) := H
  have A5 := am_ A50
  clear A50
  replace H := Option.bind_eq_some_iff.mp H
  obtain ⟨⟨t472, t473⟩, A60, H⟩ := H
  replace H : ((spec_raOf.f k t472 t473).bind fun bt476 => ((spec_l1Cur_bits.f k l0 t470 t471 3).bind fun bt486 => ((spec_raOf.f k bt486.1 bt486.2.1).bind fun bt492 => (some (bt476.1, bt476.2.1, bt476.2.2.1, bt476.2.2.2, bt492.1, bt492.2.1, bt492.2.2.1, bt492.2.2.2))))) = some (r1, r2, r3, r4, r5, r6, r7, r8) := H
  have A6 := am_ A60
  clear A60
  replace H := Option.bind_eq_some_iff.mp H
  obtain ⟨⟨t476, t477, t480, t483⟩, A70, H⟩ := H
  replace H : ((spec_l1Cur_bits.f k l0 t470 t471 3).bind fun bt486 => ((spec_raOf.f k bt486.1 bt486.2.1).bind fun bt492 => (some (t476, t477, t480, t483, bt492.1, bt492.2.1, bt492.2.2.1, bt492.2.2.2)))) = some (r1, r2, r3, r4, r5, r6, r7, r8) := H
  have A7 := am_ A70
  clear A70
  replace H := Option.bind_eq_some_iff.mp H
  obtain ⟨⟨t486, t487, t490, t491⟩, A80, H⟩ := H
  replace H : ((spec_raOf.f k t486 t487).bind fun bt492 => (some (t476, t477, t480, t483, bt492.1, bt492.2.1, bt492.2.2.1, bt492.2.2.2))) = some (r1, r2, r3, r4, r5, r6, r7, r8) := H
  have A8 := am_ A80
  clear A80
  replace H := Option.bind_eq_some_iff.mp H
  obtain ⟨⟨t492, t493, t496, t499⟩, A90, H⟩ := H
  replace H : (some (t476, t477, t480, t483, t492, t493, t496, t499)) = some (r1, r2, r3, r4, r5, r6, r7, r8) := H
  have A9 := am_ A90
  clear A90
  simp only [Option.some.injEq, Prod.mk.injEq] at H
  obtain ⟨rfl, rfl, rfl, rfl, rfl, rfl, rfl, rfl⟩ := H
  go_enter Try.func53, Try.ntmps53
  try go_wp2_with (first | ((with_reducible refine gate_dst (N := 2) rfl ?_); refine bev_ 2 #[.int .i64 0, .slice none 0 0, .slice none 0 0, .slice none 0 0] 48 rfl rfl ?_; intro gb450 hg w10 hbox hb; have BK450 := am_ (hbox); have GW450 := am_ ((by rw [hg]; exact (below_size (lw_ HB)) : w.heap.size ≤ gb450)); have GE450 := am_ ((by rw [hg]; exact (below_size (lw_ HB)) : w.heap.size ≤ gb450)); replace HB := am_ (below_step (lw_ HB) hb); clear hb hbox hg) | ((with_reducible refine gate_dst (N := 3) rfl ?_); refine bev_ 3 #[.int .i64 0, .slice none 0 0, .slice none 0 0, .slice none 0 0] 48 rfl rfl ?_; intro gb451 hg w11 hbox hb; have BK451 := am_ (hbox); have GW451 := am_ ((by rw [hg]; exact (below_size (lw_ HB)) : w.heap.size ≤ gb451)); have GE451 := am_ ((by rw [hg]; exact (below_size (lw_ HB)) : w.heap.size ≤ gb451)); have NB450_451 := am_ ((by rw [hg]; exact Nat.ne_of_lt (blk_lt (g := gb450) (lb_ BK450)) : gb450 ≠ gb451)); have NB451_450 := am_ ((by rw [hg]; exact Nat.ne_of_gt (blk_lt (g := gb450) (lb_ BK450)) : gb451 ≠ gb450)); replace BK450 := am_ (blk_below (g := gb450) (lb_ BK450) hb); replace HB := am_ (below_step (lw_ HB) hb); clear hb hbox hg) | ((with_reducible refine gate_dst (N := 8) rfl ?_); refine bev_ 8 #[.slice A0 l0.length c0, .int .i64 0, .int .u64 0] 109 rfl rfl ?_; intro gb452 hg w12 hbox hb; have BK452 := am_ (hbox); have GW452 := am_ ((by rw [hg]; exact (below_size (lw_ HB)) : w.heap.size ≤ gb452)); have GE452 := am_ ((by rw [hg]; exact (below_size (lw_ HB)) : w.heap.size ≤ gb452)); have NB450_452 := am_ ((by rw [hg]; exact Nat.ne_of_lt (blk_lt (g := gb450) (lb_ BK450)) : gb450 ≠ gb452)); have NB452_450 := am_ ((by rw [hg]; exact Nat.ne_of_gt (blk_lt (g := gb450) (lb_ BK450)) : gb452 ≠ gb450)); have NB451_452 := am_ ((by rw [hg]; exact Nat.ne_of_lt (blk_lt (g := gb451) (lb_ BK451)) : gb451 ≠ gb452)); have NB452_451 := am_ ((by rw [hg]; exact Nat.ne_of_gt (blk_lt (g := gb451) (lb_ BK451)) : gb452 ≠ gb451)); replace BK450 := am_ (blk_below (g := gb450) (lb_ BK450) hb); replace BK451 := am_ (blk_below (g := gb451) (lb_ BK451) hb); replace HB := am_ (below_step (lw_ HB) hb); clear hb hbox hg) | ((with_reducible refine gate_callee (f := 101) rfl ?_); refine goesL_ (some 10) rfl rfl Try.func101 (by kernel_rfl) rfl #[.pointer (some ⟨gb452, 0, none⟩)] rfl lm_ ?_; (with_reducible refine (spec_l1Cur_ranked.calls k gb452 l0 0 0 t453 t454 t457 t460 t463 t464 w _ ?side1 ?side2 A2.out).mono ?_); (case side1 => exact ⟨_, _, (lb_ BK452), GE452.out, HR0.out⟩); (case side2 => exact lv109_ HB); rintro e w13 ⟨v455, v458, v461, rfl, ho0, ho1, ho2, hi, hb, hk⟩; refine ⟨_, rfl, ?_⟩; have HO456 := am_ (Kd.R_lower ho0 (below_size (lv109_ HB))); have HO459 := am_ (Kd.R_lower ho1 (below_size (lv109_ HB))); have HO462 := am_ (Kd.R_lower ho2 (below_size (lv109_ HB))); have HI452 := am_ (hi); replace BK450 := am_ (KeepBut.blk hk (g' := gb450) (lb_ BK450) NB450_452.out (by simp)); replace BK451 := am_ (KeepBut.blk hk (g' := gb451) (lb_ BK451) NB451_452.out (by simp)); replace HB := am_ (hb); (try clear hb); (try clear hb2); (try clear hk); (try clear hi); (try clear ho0); (try clear ho1); (try clear ho2)) | ((with_reducible refine gate_dst (N := 5) rfl ?_); refine bev_ 5 #[.int .i64 0, .slice none 0 0, .slice none 0 0, .slice none 0 0] 48 rfl rfl ?_; intro gb465 hg w14 hbox hb; have BK465 := am_ (hbox); have GW465 := am_ ((by rw [hg]; exact (below_size (lv109_ HB)) : w.heap.size ≤ gb465)); have GE465 := am_ ((by rw [hg]; exact (below_size (lv109_ HB)) : w.heap.size ≤ gb465)); have NB450_465 := am_ ((by rw [hg]; exact Nat.ne_of_lt (blk_lt (g := gb450) (lb_ BK450)) : gb450 ≠ gb465)); have NB465_450 := am_ ((by rw [hg]; exact Nat.ne_of_gt (blk_lt (g := gb450) (lb_ BK450)) : gb465 ≠ gb450)); have NB451_465 := am_ ((by rw [hg]; exact Nat.ne_of_lt (blk_lt (g := gb451) (lb_ BK451)) : gb451 ≠ gb465)); have NB465_451 := am_ ((by rw [hg]; exact Nat.ne_of_gt (blk_lt (g := gb451) (lb_ BK451)) : gb465 ≠ gb451)); have NB452_465 := am_ ((by rw [hg]; exact Nat.ne_of_lt (IsS109.lt (show IsS109 w _ gb452 l0 t463 t464 from ls109_ HI452)) : gb452 ≠ gb465)); have NB465_452 := am_ ((by rw [hg]; exact Nat.ne_of_gt (IsS109.lt (show IsS109 w _ gb452 l0 t463 t464 from ls109_ HI452)) : gb465 ≠ gb452)); replace HO456 := am_ (Kd.R_below (lf_ HO456) hb); replace HO459 := am_ (Kd.R_below (lf_ HO459) hb); replace HO462 := am_ (Kd.R_below (lf_ HO462) hb); replace BK450 := am_ (blk_below (g := gb450) (lb_ BK450) hb); replace BK451 := am_ (blk_below (g := gb451) (lb_ BK451) hb); replace HI452 := am_ (IsS109.below (ls109_ HI452) hb); replace HB := am_ (below_step (lv109_ HB) hb); clear hb hbox hg; have hnb15 := NB465_450.out; have hnc15 := NB450_465.out; have hnb16 := NB465_451.out; have hnc16 := NB451_465.out; have hnb17 := NB465_452.out; have hnc17 := NB452_465.out; obtain ⟨hcz18_0, hcz18_1, hcz18_2, hcz18_3, hfz18_0, hfz18_1, hfz18_2, hfz18_3⟩ := bx4_ BK465.out; obtain ⟨Ao19, co19, eo19⟩ := Kd.R_slice HO456.out; subst eo19; obtain ⟨Ao20, co20, eo20⟩ := Kd.R_slice HO459.out; subst eo20; obtain ⟨Ao21, co21, eo21⟩ := Kd.R_slice HO462.out; subst eo21) | ((with_reducible refine gate_callee (f := 105) rfl ?_); refine goesL_ (some 12) rfl rfl Try.func105 (by kernel_rfl) rfl #[.pointer (some ⟨gb452, 0, none⟩), .int .i64 12] rfl lm_ ?_; (with_reducible refine (spec_l1Cur_one.calls gb452 l0 t463 t464 12 true t467 t468 w _ ?side1 ?side2 A3.out).mono ?_); (case side1 => exact ls109_ HI452); (case side2 => exact lv109_ HB); rintro e w22 ⟨rfl, hi, hb, hk⟩; refine ⟨_, rfl, ?_⟩; replace BK450 := am_ (KeepBut.blk hk (g' := gb450) (lg_ BK450) NB450_452.out (by simp)); replace BK451 := am_ (KeepBut.blk hk (g' := gb451) (lg_ BK451) NB451_452.out (by simp)); replace HO456 := am_ (m1_ (Kd.R_keep (IsS109.apart (show IsS109 w _ gb452 l0 t463 t464 from ls109_ HI452) (lt_ ((m1_ (fr4_ HO456.out BK465.out (.int .i64 t453) (.slice Ao19 t454.length co19) (.slice Ao20 t457.length co20) (.slice Ao21 t460.length co21))))) (by decide)) hk (fun _ h => h.2))); replace HO459 := am_ (m1_ (Kd.R_keep (IsS109.apart (show IsS109 w _ gb452 l0 t463 t464 from ls109_ HI452) (lt_ ((m1_ (fr4_ HO459.out BK465.out (.int .i64 t453) (.slice Ao19 t454.length co19) (.slice Ao20 t457.length co20) (.slice Ao21 t460.length co21))))) (by decide)) hk (fun _ h => h.2))); replace HO462 := am_ (m1_ (Kd.R_keep (IsS109.apart (show IsS109 w _ gb452 l0 t463 t464 from ls109_ HI452) (lt_ ((m1_ (fr4_ HO462.out BK465.out (.int .i64 t453) (.slice Ao19 t454.length co19) (.slice Ao20 t457.length co20) (.slice Ao21 t460.length co21))))) (by decide)) hk (fun _ h => h.2))); replace BK465 := am_ (KeepBut.blk hk (g' := gb465) (o := .cells #[.int .i64 t453, .slice Ao19 t454.length co19, .slice Ao20 t457.length co20, .slice Ao21 t460.length co21] 48 (0, 0)) (lq_ BK465) NB465_452.out (by simp)); replace HB := am_ (hb); replace HI452 := am_ (hi); (try clear hb); (try clear hb2); (try clear hk); (try clear hi)) | ((with_reducible refine gate_callee (f := 107) rfl ?_); refine goesL_ (some 14) rfl rfl Try.func107 (by kernel_rfl) rfl #[.pointer (some ⟨gb452, 0, none⟩), .int .i64 3] rfl lm_ ?_; (with_reducible refine (spec_l1Cur_pick.calls gb452 l0 t467 t468 3 t469 t470 t471 w _ ?side1 ?side2 A5.out).mono ?_); (case side1 => exact ls109_ HI452); (case side2 => exact lv109_ HB); rintro e w23 ⟨rfl, hi, hb, hk⟩; refine ⟨_, rfl, ?_⟩; replace BK450 := am_ (KeepBut.blk hk (g' := gb450) (lb_ BK450) NB450_452.out (by simp)); replace BK451 := am_ (KeepBut.blk hk (g' := gb451) (lb_ BK451) NB451_452.out (by simp)); replace HO456 := am_ (m1_ (Kd.R_keep (IsS109.apart (show IsS109 w _ gb452 l0 t467 t468 from ls109_ HI452) (lf_ HO456) (by decide)) hk (fun _ h => h.2))); replace HO459 := am_ (m1_ (Kd.R_keep (IsS109.apart (show IsS109 w _ gb452 l0 t467 t468 from ls109_ HI452) (lf_ HO459) (by decide)) hk (fun _ h => h.2))); replace HO462 := am_ (m1_ (Kd.R_keep (IsS109.apart (show IsS109 w _ gb452 l0 t467 t468 from ls109_ HI452) (lf_ HO462) (by decide)) hk (fun _ h => h.2))); replace BK465 := am_ (KeepBut.blk hk (g' := gb465) (lb_ BK465) NB465_452.out (by simp)); replace HB := am_ (hb); replace HI452 := am_ (hi); (try clear hb); (try clear hb2); (try clear hk); (try clear hi)) | ((with_reducible refine gate_callee (f := 106) rfl ?_); refine goesL_ (some 16) rfl rfl Try.func106 (by kernel_rfl) rfl #[.int .i64 (wrap64 (4096 - t469))] rfl lm_ ?_; (with_reducible refine (spec_biNew.calls (wrap64 (4096 - t469)) t472 t473 _ A6.out).mono ?_); rintro e w24 ⟨v474, rfl, ho0, hb⟩; refine ⟨_, rfl, ?_⟩; have HO475 := am_ (Kd.R_lower (nw_ (nw_ (nw_ ho0 HO456) HO459) HO462) (below_size (lv109_ HB))); replace HO456 := am_ (Kd.R_elder' (lf_ HO456) (Kd.R_base ho0) hb); replace HO459 := am_ (Kd.R_elder' (lf_ HO459) (Kd.R_base ho0) hb); replace HO462 := am_ (Kd.R_elder' (lf_ HO462) (Kd.R_base ho0) hb); replace BK450 := am_ (blk_below (g := gb450) (lb_ BK450) hb); replace BK451 := am_ (blk_below (g := gb451) (lb_ BK451) hb); replace HI452 := am_ (IsS109.below (ls109_ HI452) hb); replace BK465 := am_ (blk_below (g := gb465) (lb_ BK465) hb); replace HB := am_ (below_step (lv109_ HB) hb); (try clear hb); (try clear hb2); (try clear hk); (try clear hi); (try clear ho0); obtain ⟨Ao25, co25, eo25⟩ := Kd.R_slice HO475.out; subst eo25) | ((with_reducible refine gate_callee (f := 95) rfl ?_); refine goesL_ (some 17) rfl rfl Try.func95 (by kernel_rfl) rfl #[.agg #[.int .i64 t472, .slice Ao25 t473.length co25]] rfl lm_ ?_; (with_reducible refine (spec_raOf.calls k t472 _ _ t473 t476 t477 t480 t483 _ ?side1 ?side2 A7.out).mono ?_); (case side1 => exact lc_ (Kd.R_reads' HO475.out).2.2); (case side2 => exact (Kd.R_reads' HO475.out).2.1); rintro e w26 ⟨v478, v481, v484, rfl, ho0, ho1, ho2, hb⟩; refine ⟨_, rfl, ?_⟩; have HO479 := am_ (Kd.R_lower (nw_ (nw_ (nw_ (nw_ ho0 HO456) HO459) HO462) HO475) (below_size (lv109_ HB))); have HO482 := am_ (Kd.R_lower (nw_ (nw_ (nw_ (nw_ ho1 HO456) HO459) HO462) HO475) (below_size (lv109_ HB))); have HO485 := am_ (Kd.R_lower (nw_ (nw_ (nw_ (nw_ ho2 HO456) HO459) HO462) HO475) (below_size (lv109_ HB))); replace HO456 := am_ (m1_ (td_ (td_ (td_ (Kd.R_old (lf_ HO456) hb) ho0) ho1) ho2)); replace HO459 := am_ (m1_ (td_ (td_ (td_ (Kd.R_old (lf_ HO459) hb) ho0) ho1) ho2)); replace HO462 := am_ (m1_ (td_ (td_ (td_ (Kd.R_old (lf_ HO462) hb) ho0) ho1) ho2)); replace HO475 := am_ (m1_ (td_ (td_ (td_ (Kd.R_old (lf_ HO475) hb) ho0) ho1) ho2)); replace BK450 := am_ (blk_below (g := gb450) (lb_ BK450) hb); replace BK451 := am_ (blk_below (g := gb451) (lb_ BK451) hb); replace HI452 := am_ (IsS109.below (ls109_ HI452) hb); replace BK465 := am_ (blk_below (g := gb465) (lb_ BK465) hb); replace HB := am_ (below_step (lv109_ HB) hb); (try clear hb); (try clear hb2); (try clear hk); (try clear hi); (try clear ho0); (try clear ho1); (try clear ho2); obtain ⟨hcz27_0, hcz27_1, hcz27_2, hcz27_3, hfz27_0, hfz27_1, hfz27_2, hfz27_3⟩ := bx4_ BK465.out; obtain ⟨Ao28, co28, eo28⟩ := Kd.R_slice HO479.out; subst eo28; obtain ⟨Ao29, co29, eo29⟩ := Kd.R_slice HO482.out; subst eo29; obtain ⟨Ao30, co30, eo30⟩ := Kd.R_slice HO485.out; subst eo30))
  have n0_ : Aside0 (Kd.R (Kd.int .i64) 3 ((((w26.setCell ⟨gb465, 0, none⟩ (.int .i64 t476)).setCell ⟨gb465, 1, none⟩ (.slice Ao28 t477.length co28)).setCell ⟨gb465, 2, none⟩ (.slice Ao29 t480.length co29)).setCell ⟨gb465, 3, none⟩ (.slice Ao30 t483.length co30)) w.heap.size (fun k_ => ns_ k_ Ao20 t457 co20 ∧ ns_ k_ Ao21 t460 co21 ∧ ns_ k_ Ao25 t473 co25 ∧ ns_ k_ Ao28 t477 co28 ∧ ns_ k_ Ao29 t480 co29 ∧ ns_ k_ Ao30 t483 co30) (.slice Ao19 t454.length co19) t454) := ⟨lo2_ (fr4_ HO456.out BK465.out (.int .i64 t476) (.slice Ao28 t477.length co28) (.slice Ao29 t480.length co29) (.slice Ao30 t483.length co30))⟩
  have n1_ : Aside0 (Kd.R (Kd.int .i64) 3 ((((w26.setCell ⟨gb465, 0, none⟩ (.int .i64 t476)).setCell ⟨gb465, 1, none⟩ (.slice Ao28 t477.length co28)).setCell ⟨gb465, 2, none⟩ (.slice Ao29 t480.length co29)).setCell ⟨gb465, 3, none⟩ (.slice Ao30 t483.length co30)) w.heap.size (fun k_ => ns_ k_ Ao19 t454 co19 ∧ ns_ k_ Ao21 t460 co21 ∧ ns_ k_ Ao25 t473 co25 ∧ ns_ k_ Ao28 t477 co28 ∧ ns_ k_ Ao29 t480 co29 ∧ ns_ k_ Ao30 t483 co30) (.slice Ao20 t457.length co20) t457) := ⟨lo2_ (fr4_ HO459.out BK465.out (.int .i64 t476) (.slice Ao28 t477.length co28) (.slice Ao29 t480.length co29) (.slice Ao30 t483.length co30))⟩
  have n2_ : Aside0 (Kd.R (Kd.int .i64) 3 ((((w26.setCell ⟨gb465, 0, none⟩ (.int .i64 t476)).setCell ⟨gb465, 1, none⟩ (.slice Ao28 t477.length co28)).setCell ⟨gb465, 2, none⟩ (.slice Ao29 t480.length co29)).setCell ⟨gb465, 3, none⟩ (.slice Ao30 t483.length co30)) w.heap.size (fun k_ => ns_ k_ Ao19 t454 co19 ∧ ns_ k_ Ao20 t457 co20 ∧ ns_ k_ Ao25 t473 co25 ∧ ns_ k_ Ao28 t477 co28 ∧ ns_ k_ Ao29 t480 co29 ∧ ns_ k_ Ao30 t483 co30) (.slice Ao21 t460.length co21) t460) := ⟨lo2_ (fr4_ HO462.out BK465.out (.int .i64 t476) (.slice Ao28 t477.length co28) (.slice Ao29 t480.length co29) (.slice Ao30 t483.length co30))⟩
  have n3_ : Aside0 (Kd.R (Kd.int .i64) 3 ((((w26.setCell ⟨gb465, 0, none⟩ (.int .i64 t476)).setCell ⟨gb465, 1, none⟩ (.slice Ao28 t477.length co28)).setCell ⟨gb465, 2, none⟩ (.slice Ao29 t480.length co29)).setCell ⟨gb465, 3, none⟩ (.slice Ao30 t483.length co30)) w.heap.size (fun k_ => ns_ k_ Ao19 t454 co19 ∧ ns_ k_ Ao20 t457 co20 ∧ ns_ k_ Ao21 t460 co21 ∧ ns_ k_ Ao28 t477 co28 ∧ ns_ k_ Ao29 t480 co29 ∧ ns_ k_ Ao30 t483 co30) (.slice Ao25 t473.length co25) t473) := ⟨lo2_ (fr4_ HO475.out BK465.out (.int .i64 t476) (.slice Ao28 t477.length co28) (.slice Ao29 t480.length co29) (.slice Ao30 t483.length co30))⟩
  have n4_ : Aside0 (Kd.R (Kd.int .i64) 3 ((((w26.setCell ⟨gb465, 0, none⟩ (.int .i64 t476)).setCell ⟨gb465, 1, none⟩ (.slice Ao28 t477.length co28)).setCell ⟨gb465, 2, none⟩ (.slice Ao29 t480.length co29)).setCell ⟨gb465, 3, none⟩ (.slice Ao30 t483.length co30)) w.heap.size (fun k_ => ns_ k_ Ao19 t454 co19 ∧ ns_ k_ Ao20 t457 co20 ∧ ns_ k_ Ao21 t460 co21 ∧ ns_ k_ Ao25 t473 co25 ∧ ns_ k_ Ao29 t480 co29 ∧ ns_ k_ Ao30 t483 co30) (.slice Ao28 t477.length co28) t477) := ⟨lo2_ (fr4_ HO479.out BK465.out (.int .i64 t476) (.slice Ao28 t477.length co28) (.slice Ao29 t480.length co29) (.slice Ao30 t483.length co30))⟩
  have n5_ : Aside0 (Kd.R (Kd.int .i64) 3 ((((w26.setCell ⟨gb465, 0, none⟩ (.int .i64 t476)).setCell ⟨gb465, 1, none⟩ (.slice Ao28 t477.length co28)).setCell ⟨gb465, 2, none⟩ (.slice Ao29 t480.length co29)).setCell ⟨gb465, 3, none⟩ (.slice Ao30 t483.length co30)) w.heap.size (fun k_ => ns_ k_ Ao19 t454 co19 ∧ ns_ k_ Ao20 t457 co20 ∧ ns_ k_ Ao21 t460 co21 ∧ ns_ k_ Ao25 t473 co25 ∧ ns_ k_ Ao28 t477 co28 ∧ ns_ k_ Ao30 t483 co30) (.slice Ao29 t480.length co29) t480) := ⟨lo2_ (fr4_ HO482.out BK465.out (.int .i64 t476) (.slice Ao28 t477.length co28) (.slice Ao29 t480.length co29) (.slice Ao30 t483.length co30))⟩
  have n6_ : Aside0 (Kd.R (Kd.int .i64) 3 ((((w26.setCell ⟨gb465, 0, none⟩ (.int .i64 t476)).setCell ⟨gb465, 1, none⟩ (.slice Ao28 t477.length co28)).setCell ⟨gb465, 2, none⟩ (.slice Ao29 t480.length co29)).setCell ⟨gb465, 3, none⟩ (.slice Ao30 t483.length co30)) w.heap.size (fun k_ => ns_ k_ Ao19 t454 co19 ∧ ns_ k_ Ao20 t457 co20 ∧ ns_ k_ Ao21 t460 co21 ∧ ns_ k_ Ao25 t473 co25 ∧ ns_ k_ Ao28 t477 co28 ∧ ns_ k_ Ao29 t480 co29) (.slice Ao30 t483.length co30) t483) := ⟨lo2_ (fr4_ HO485.out BK465.out (.int .i64 t476) (.slice Ao28 t477.length co28) (.slice Ao29 t480.length co29) (.slice Ao30 t483.length co30))⟩
  have n7_ : Aside0 (((((w26.setCell ⟨gb465, 0, none⟩ (.int .i64 t476)).setCell ⟨gb465, 1, none⟩ (.slice Ao28 t477.length co28)).setCell ⟨gb465, 2, none⟩ (.slice Ao29 t480.length co29)).setCell ⟨gb465, 3, none⟩ (.slice Ao30 t483.length co30)).heap[gb450]? = some (.cells #[.int .i64 0, .slice none 0 0, .slice none 0 0, .slice none 0 0] 48 (0, 0))) := ⟨lg_ BK450⟩
  have n8_ : Aside0 (((((w26.setCell ⟨gb465, 0, none⟩ (.int .i64 t476)).setCell ⟨gb465, 1, none⟩ (.slice Ao28 t477.length co28)).setCell ⟨gb465, 2, none⟩ (.slice Ao29 t480.length co29)).setCell ⟨gb465, 3, none⟩ (.slice Ao30 t483.length co30)).heap[gb451]? = some (.cells #[.int .i64 0, .slice none 0 0, .slice none 0 0, .slice none 0 0] 48 (0, 0))) := ⟨lg_ BK451⟩
  have n9_ : Aside0 (((((w26.setCell ⟨gb465, 0, none⟩ (.int .i64 t476)).setCell ⟨gb465, 1, none⟩ (.slice Ao28 t477.length co28)).setCell ⟨gb465, 2, none⟩ (.slice Ao29 t480.length co29)).setCell ⟨gb465, 3, none⟩ (.slice Ao30 t483.length co30)).heap[gb465]? = some (.cells #[.int .i64 t476, .slice Ao28 t477.length co28, .slice Ao29 t480.length co29, .slice Ao30 t483.length co30] 48 (0, 0))) := ⟨lq_ BK465⟩
  have n10_ : Aside0 (IsS109 w ((((w26.setCell ⟨gb465, 0, none⟩ (.int .i64 t476)).setCell ⟨gb465, 1, none⟩ (.slice Ao28 t477.length co28)).setCell ⟨gb465, 2, none⟩ (.slice Ao29 t480.length co29)).setCell ⟨gb465, 3, none⟩ (.slice Ao30 t483.length co30)) gb452 l0 t470 t471) := ⟨ls109_ HI452⟩
  have n11_ : Aside0 (Below w.heap.size w ((((w26.setCell ⟨gb465, 0, none⟩ (.int .i64 t476)).setCell ⟨gb465, 1, none⟩ (.slice Ao28 t477.length co28)).setCell ⟨gb465, 2, none⟩ (.slice Ao29 t480.length co29)).setCell ⟨gb465, 3, none⟩ (.slice Ao30 t483.length co30))) := ⟨lv109_ HB⟩
  (try clear HO456)
  (try clear HO459)
  (try clear HO462)
  (try clear HO475)
  (try clear HO479)
  (try clear HO482)
  (try clear HO485)
  (try clear BK450)
  (try clear BK451)
  (try clear BK465)
  (try clear HI452)
  (try clear HB)
  generalize ((((w26.setCell ⟨gb465, 0, none⟩ (.int .i64 t476)).setCell ⟨gb465, 1, none⟩ (.slice Ao28 t477.length co28)).setCell ⟨gb465, 2, none⟩ (.slice Ao29 t480.length co29)).setCell ⟨gb465, 3, none⟩ (.slice Ao30 t483.length co30)) = w31 at n0_ n1_ n2_ n3_ n4_ n5_ n6_ n7_ n8_ n9_ n10_ n11_ ⊢
  have HO456 := n0_
  have HO459 := n1_
  have HO462 := n2_
  have HO475 := n3_
  have HO479 := n4_
  have HO482 := n5_
  have HO485 := n6_
  have BK450 := n7_
  have BK451 := n8_
  have BK465 := n9_
  have HI452 := n10_
  have HB := n11_
  clear n0_ n1_ n2_ n3_ n4_ n5_ n6_ n7_ n8_ n9_ n10_ n11_
  have n0_ := am_ (Kd.R_drew HO456.out)
  have n1_ := am_ (Kd.R_drew HO459.out)
  have n2_ := am_ (Kd.R_drew HO462.out)
  have n3_ := am_ (Kd.R_drew HO475.out)
  have n4_ := am_ (Kd.R_drew HO479.out)
  have n5_ := am_ (Kd.R_drew HO482.out)
  have n6_ := am_ (Kd.R_drew HO485.out)
  have n7_ := am_ (blk_drew BK450.out)
  have n8_ := am_ (blk_drew BK451.out)
  have n9_ := am_ (blk_drew BK465.out)
  have n10_ := am_ (IsS109.drew HI452.out)
  have n11_ := am_ (below_drew1 HB.out)
  clear HO456
  clear HO459
  clear HO462
  clear HO475
  clear HO479
  clear HO482
  clear HO485
  clear BK450
  clear BK451
  clear BK465
  clear HI452
  clear HB
  have HO456 := n0_
  have HO459 := n1_
  have HO462 := n2_
  have HO475 := n3_
  have HO479 := n4_
  have HO482 := n5_
  have HO485 := n6_
  have BK450 := n7_
  have BK451 := n8_
  have BK465 := n9_
  have HI452 := n10_
  have HB := n11_
  clear n0_ n1_ n2_ n3_ n4_ n5_ n6_ n7_ n8_ n9_ n10_ n11_
  refine start_ (n := 6) (S := fun w' => w'.cell? ⟨gb465, 0, none⟩ = some (.int .i64 t476) ∧ w'.cell? ⟨gb465, 1, none⟩ = some (.slice Ao28 t477.length co28) ∧ w'.cell? ⟨gb465, 2, none⟩ = some (.slice Ao29 t480.length co29) ∧ w'.cell? ⟨gb465, 3, none⟩ = some (.slice Ao30 t483.length co30)) (ds := []) #[false, false, false, false, false, false] (by kernel_rfl) rfl rfl ⟨(blk_cell BK465.out 0).trans rfl, (blk_cell BK465.out 1).trans rfl, (blk_cell BK465.out 2).trans rfl, (blk_cell BK465.out 3).trans rfl⟩ (fun hHeld => ?_)
  generalize w31.drew = w32 at HO456 HO459 HO462 HO475 HO479 HO482 HO485 BK450 BK451 BK465 HI452 HB hHeld ⊢
  refine pure_ (i := 1) (N := some 19) (v := ?_) (a' := ?_) #[false, true, false, false, false, false] rfl rfl (by kernel_rfl) (fun _ _ _ h => h) (Or.inl ⟨by rfl, ?_⟩) ?_ ?_
  rotate_left
  ·intro w'
   go_simp
   with_reducible rfl
  rotate_left
  ·simp only [Act.put, List.setIfInBounds_toArray, List.set_cons_zero, List.set_cons_succ, i64_w, i32_w]
   rfl
  refine take_ (i := 0) (N := some 18) (v := ?_) (a' := ?_) #[true, true, false, false, false, false] rfl rfl (by kernel_rfl) (fun _ _ _ h => h) (Or.inl ⟨by rfl, ?_⟩) hHeld ?_ ?_
  rotate_left
  ·rintro w' ⟨s0, s1, s2, s3⟩
   go_simp
   with_reducible rfl
  rotate_left
  ·simp only [Act.put, List.setIfInBounds_toArray, List.set_cons_zero, List.set_cons_succ, i64_w, i32_w]
   rfl
  refine one_ (i := 2) (N := some 20) #[true, true, true, false, false, false] rfl rfl (by kernel_rfl) (by decide) (fun K hK => ?_)
  refine goes_ Try.func108 (by kernel_rfl) rfl #[.pointer (some ⟨gb452, 0, none⟩), .int .i64 3] (by rfl) rfl rfl lm_ ?_
  with_reducible refine (spec_l1Cur_bits.calls k gb452 l0 t470 t471 3 t486 t487 t490 t491 w _ ?side1 ?side2 A8.out).mono ?_
  (case side1 => exact ls109_ HI452)
  (case side2 => exact lv109_ HB)
  rintro e w33 ⟨v488, rfl, ho0, hi, hb, hk⟩
  refine ⟨_, rfl, ?_⟩
  have n0_ := am_ (KeepBut.blk hk (g' := gb450) (lb_ BK450) NB450_452.out (by simp))
  have n1_ := am_ (KeepBut.blk hk (g' := gb451) (lb_ BK451) NB451_452.out (by simp))
  have n2_ := am_ (m1_ (td_ (Kd.R_oldK (IsS109.apart (show IsS109 w _ gb452 l0 t470 t471 from ls109_ HI452) (lf_ HO456) (by decide)) hk) ho0))
  have n3_ := am_ (m1_ (td_ (Kd.R_oldK (IsS109.apart (show IsS109 w _ gb452 l0 t470 t471 from ls109_ HI452) (lf_ HO459) (by decide)) hk) ho0))
  have n4_ := am_ (m1_ (td_ (Kd.R_oldK (IsS109.apart (show IsS109 w _ gb452 l0 t470 t471 from ls109_ HI452) (lf_ HO462) (by decide)) hk) ho0))
  have n5_ := am_ (KeepBut.blk hk (g' := gb465) (lb_ BK465) NB465_452.out (by simp))
  have n6_ := am_ (m1_ (td_ (Kd.R_oldK (IsS109.apart (show IsS109 w _ gb452 l0 t470 t471 from ls109_ HI452) (lf_ HO475) (by decide)) hk) ho0))
  have n7_ := am_ (m1_ (td_ (Kd.R_oldK (IsS109.apart (show IsS109 w _ gb452 l0 t470 t471 from ls109_ HI452) (lf_ HO479) (by decide)) hk) ho0))
  have n8_ := am_ (m1_ (td_ (Kd.R_oldK (IsS109.apart (show IsS109 w _ gb452 l0 t470 t471 from ls109_ HI452) (lf_ HO482) (by decide)) hk) ho0))
  have n9_ := am_ (m1_ (td_ (Kd.R_oldK (IsS109.apart (show IsS109 w _ gb452 l0 t470 t471 from ls109_ HI452) (lf_ HO485) (by decide)) hk) ho0))
  have n10_ := am_ (Kd.R_lower (nw_ (nw_ (nw_ (nw_ (nw_ (nw_ (nw_ ho0 HO456) HO459) HO462) HO475) HO479) HO482) HO485) (below_size (lv109_ HB)))
  have n11_ := am_ (hb)
  have n12_ := am_ (hi)
  clear BK450
  clear BK451
  clear HO456
  clear HO459
  clear HO462
  clear BK465
  clear HO475
  clear HO479
  clear HO482
  clear HO485
  clear HB
  clear HI452
  have BK450 := n0_
  have BK451 := n1_
  have HO456 := n2_
  have HO459 := n3_
  have HO462 := n4_
  have BK465 := n5_
  have HO475 := n6_
  have HO479 := n7_
  have HO482 := n8_
  have HO485 := n9_
  have HO489 := n10_
  have HB := n11_
  have HI452 := n12_
  clear n0_ n1_ n2_ n3_ n4_ n5_ n6_ n7_ n8_ n9_ n10_ n11_ n12_
  (try clear hb)
  (try clear hb2)
  (try clear hk)
  (try clear hi)
  (try clear ho0)
  obtain ⟨Ao34, co34, eo34⟩ := Kd.R_slice HO489.out
  (first | subst eo34 | (injection eo34 with f1_ f2_ f3_; have f4_ := f1_.symm; have f5_ := f3_.symm; clear f1_ f2_ f3_; subst f4_; subst f5_))
  refine hK.out _ _ ⟨(blk_cell BK465.out 0).trans rfl, (blk_cell BK465.out 1).trans rfl, (blk_cell BK465.out 2).trans rfl, (blk_cell BK465.out 3).trans rfl⟩ (fun hHeld => ?_)
  clear hK K
  refine norm_ (a' := ?_) ?_ ?_
  rotate_left
  ·show Act.put _ (some 20) _ = _
   simp only [Act.put, List.setIfInBounds_toArray, List.set_cons_zero, List.set_cons_succ, i64_w, i32_w]
   rfl
  refine one_ (i := 3) (N := some 21) #[true, true, true, true, false, false] rfl rfl (by kernel_rfl) (by decide) (fun K hK => ?_)
  refine goes_ Try.func95 (by kernel_rfl) rfl #[.agg #[.int .i64 t486, .slice Ao34 t487.length co34]] (by rfl) rfl rfl lm_ ?_
  with_reducible refine (spec_raOf.calls k t486 _ _ t487 t492 t493 t496 t499 _ ?side1 ?side2 A9.out).mono ?_
  (case side1 => exact lc_ (Kd.R_reads' HO489.out).2.2)
  (case side2 => exact (Kd.R_reads' HO489.out).2.1)
  rintro e w35 ⟨v494, v497, v500, rfl, ho0, ho1, ho2, hb⟩
  refine ⟨_, rfl, ?_⟩
  have n0_ := am_ (m1_ (td_ (td_ (td_ (Kd.R_old (lf_ HO456) hb) ho0) ho1) ho2))
  have n1_ := am_ (m1_ (td_ (td_ (td_ (Kd.R_old (lf_ HO459) hb) ho0) ho1) ho2))
  have n2_ := am_ (m1_ (td_ (td_ (td_ (Kd.R_old (lf_ HO462) hb) ho0) ho1) ho2))
  have n3_ := am_ (m1_ (td_ (td_ (td_ (Kd.R_old (lf_ HO475) hb) ho0) ho1) ho2))
  have n4_ := am_ (m1_ (td_ (td_ (td_ (Kd.R_old (lf_ HO479) hb) ho0) ho1) ho2))
  have n5_ := am_ (m1_ (td_ (td_ (td_ (Kd.R_old (lf_ HO482) hb) ho0) ho1) ho2))
  have n6_ := am_ (m1_ (td_ (td_ (td_ (Kd.R_old (lf_ HO485) hb) ho0) ho1) ho2))
  have n7_ := am_ (m1_ (td_ (td_ (td_ (Kd.R_old (lf_ HO489) hb) ho0) ho1) ho2))
  have n8_ := am_ (Kd.R_lower (nw_ (nw_ (nw_ (nw_ (nw_ (nw_ (nw_ (nw_ ho0 HO456) HO459) HO462) HO475) HO479) HO482) HO485) HO489) (below_size (lv109_ HB)))
  have n9_ := am_ (Kd.R_lower (nw_ (nw_ (nw_ (nw_ (nw_ (nw_ (nw_ (nw_ ho1 HO456) HO459) HO462) HO475) HO479) HO482) HO485) HO489) (below_size (lv109_ HB)))
  have n10_ := am_ (Kd.R_lower (nw_ (nw_ (nw_ (nw_ (nw_ (nw_ (nw_ (nw_ ho2 HO456) HO459) HO462) HO475) HO479) HO482) HO485) HO489) (below_size (lv109_ HB)))
  have n11_ := am_ (blk_below (g := gb450) (lb_ BK450) hb)
  have n12_ := am_ (blk_below (g := gb451) (lb_ BK451) hb)
  have n13_ := am_ (IsS109.below (ls109_ HI452) hb)
  have n14_ := am_ (blk_below (g := gb465) (lb_ BK465) hb)
  have n15_ := am_ (below_step (lv109_ HB) hb)
  clear HO456
  clear HO459
  clear HO462
  clear HO475
  clear HO479
  clear HO482
  clear HO485
  clear HO489
  clear BK450
  clear BK451
  clear HI452
  clear BK465
  clear HB
  have HO456 := n0_
  have HO459 := n1_
  have HO462 := n2_
  have HO475 := n3_
  have HO479 := n4_
  have HO482 := n5_
  have HO485 := n6_
  have HO489 := n7_
  have HO495 := n8_
  have HO498 := n9_
  have HO501 := n10_
  have BK450 := n11_
  have BK451 := n12_
  have HI452 := n13_
  have BK465 := n14_
  have HB := n15_
  clear n0_ n1_ n2_ n3_ n4_ n5_ n6_ n7_ n8_ n9_ n10_ n11_ n12_ n13_ n14_ n15_
  (try clear hb)
  (try clear hb2)
  (try clear hk)
  (try clear hi)
  (try clear ho0)
  (try clear ho1)
  (try clear ho2)
  obtain ⟨Ao41, co41, eo41⟩ := Kd.R_slice HO495.out
  (first | subst eo41 | (injection eo41 with f1_ f2_ f3_; have f4_ := f1_.symm; have f5_ := f3_.symm; clear f1_ f2_ f3_; subst f4_; subst f5_))
  obtain ⟨Ao43, co43, eo43⟩ := Kd.R_slice HO498.out
  (first | subst eo43 | (injection eo43 with f1_ f2_ f3_; have f4_ := f1_.symm; have f5_ := f3_.symm; clear f1_ f2_ f3_; subst f4_; subst f5_))
  obtain ⟨Ao45, co45, eo45⟩ := Kd.R_slice HO501.out
  (first | subst eo45 | (injection eo45 with f1_ f2_ f3_; have f4_ := f1_.symm; have f5_ := f3_.symm; clear f1_ f2_ f3_; subst f4_; subst f5_))
  refine hK.out _ _ ⟨(blk_cell BK465.out 0).trans rfl, (blk_cell BK465.out 1).trans rfl, (blk_cell BK465.out 2).trans rfl, (blk_cell BK465.out 3).trans rfl⟩ (fun hHeld => ?_)
  clear hK K
  refine norm_ (a' := ?_) ?_ ?_
  rotate_left
  ·show Act.put _ (some 21) _ = _
   simp only [Act.put, List.setIfInBounds_toArray, List.set_cons_zero, List.set_cons_succ, i64_w, i32_w]
   rfl
  refine one_ (i := 4) (N := none) #[true, true, true, true, true, false] rfl rfl (by kernel_rfl) (by decide) (fun K hK => ?_)
  have hs36 : w35.cell? ⟨gb450, 0, none⟩ = some (.int .i64 0) := (blk_cell BK450.out 0).trans rfl
  have hfs36 := blk_frozen BK450.out 0
  have hns36_1 := NB451_450.out
  have hns36_2 := NB465_450.out
  have hms36_1 := NB450_451.out
  have hms36_2 := NB450_465.out
  have hs37 : w35.cell? ⟨gb450, 1, none⟩ = some (.slice none 0 0) := (blk_cell BK450.out 1).trans rfl
  have hfs37 := blk_frozen BK450.out 1
  have hns37_1 := NB451_450.out
  have hns37_2 := NB465_450.out
  have hms37_1 := NB450_451.out
  have hms37_2 := NB450_465.out
  have hs38 : w35.cell? ⟨gb450, 2, none⟩ = some (.slice none 0 0) := (blk_cell BK450.out 2).trans rfl
  have hfs38 := blk_frozen BK450.out 2
  have hns38_1 := NB451_450.out
  have hns38_2 := NB465_450.out
  have hms38_1 := NB450_451.out
  have hms38_2 := NB450_465.out
  have hs39 : w35.cell? ⟨gb450, 3, none⟩ = some (.slice none 0 0) := (blk_cell BK450.out 3).trans rfl
  have hfs39 := blk_frozen BK450.out 3
  have hns39_1 := NB451_450.out
  have hns39_2 := NB465_450.out
  have hms39_1 := NB450_451.out
  have hms39_2 := NB450_465.out
  refine skip_ (w1 := ?_) (by rfl) rfl ?_ ?_
  rotate_left
  ·go_simp
   rfl
  refine hK.out _ _ ⟨((cell_far (p := ⟨gb450, _, none⟩) NB465_450.out _).trans (((cell_far (p := ⟨gb450, _, none⟩) NB465_450.out _).trans (((cell_far (p := ⟨gb450, _, none⟩) NB465_450.out _).trans (((cell_far (p := ⟨gb450, _, none⟩) NB465_450.out _).trans (hHeld.1)))))))), ((cell_far (p := ⟨gb450, _, none⟩) NB465_450.out _).trans (((cell_far (p := ⟨gb450, _, none⟩) NB465_450.out _).trans (((cell_far (p := ⟨gb450, _, none⟩) NB465_450.out _).trans (((cell_far (p := ⟨gb450, _, none⟩) NB465_450.out _).trans (hHeld.2.1)))))))), ((cell_far (p := ⟨gb450, _, none⟩) NB465_450.out _).trans (((cell_far (p := ⟨gb450, _, none⟩) NB465_450.out _).trans (((cell_far (p := ⟨gb450, _, none⟩) NB465_450.out _).trans (((cell_far (p := ⟨gb450, _, none⟩) NB465_450.out _).trans (hHeld.2.2.1)))))))), ((cell_far (p := ⟨gb450, _, none⟩) NB465_450.out _).trans (((cell_far (p := ⟨gb450, _, none⟩) NB465_450.out _).trans (((cell_far (p := ⟨gb450, _, none⟩) NB465_450.out _).trans (((cell_far (p := ⟨gb450, _, none⟩) NB465_450.out _).trans (hHeld.2.2.2))))))))⟩ (fun hHeld => ?_)
  clear hK K
  refine one_ (i := 5) (N := none) #[true, true, true, true, true, true] rfl rfl (by kernel_rfl) (by decide) (fun K hK => ?_)
  have hs40 : w35.cell? ⟨gb451, 0, none⟩ = some (.int .i64 0) := (blk_cell BK451.out 0).trans rfl
  have hfs40 := blk_frozen BK451.out 0
  have hns40_0 := NB450_451.out
  have hns40_2 := NB465_451.out
  have hms40_0 := NB451_450.out
  have hms40_2 := NB451_465.out
  have hs42 : w35.cell? ⟨gb451, 1, none⟩ = some (.slice none 0 0) := (blk_cell BK451.out 1).trans rfl
  have hfs42 := blk_frozen BK451.out 1
  have hns42_0 := NB450_451.out
  have hns42_2 := NB465_451.out
  have hms42_0 := NB451_450.out
  have hms42_2 := NB451_465.out
  have hs44 : w35.cell? ⟨gb451, 2, none⟩ = some (.slice none 0 0) := (blk_cell BK451.out 2).trans rfl
  have hfs44 := blk_frozen BK451.out 2
  have hns44_0 := NB450_451.out
  have hns44_2 := NB465_451.out
  have hms44_0 := NB451_450.out
  have hms44_2 := NB451_465.out
  have hs46 : w35.cell? ⟨gb451, 3, none⟩ = some (.slice none 0 0) := (blk_cell BK451.out 3).trans rfl
  have hfs46 := blk_frozen BK451.out 3
  have hns46_0 := NB450_451.out
  have hns46_2 := NB465_451.out
  have hms46_0 := NB451_450.out
  have hms46_2 := NB451_465.out
  refine skip_ (w1 := ?_) (by rfl) rfl ?_ ?_
  rotate_left
  ·go_simp
   rfl
  refine hK.out _ _ ⟨((cell_far (p := ⟨gb451, _, none⟩) NB465_451.out _).trans (((cell_far (p := ⟨gb451, _, none⟩) NB465_451.out _).trans (((cell_far (p := ⟨gb451, _, none⟩) NB465_451.out _).trans (((cell_far (p := ⟨gb451, _, none⟩) NB465_451.out _).trans (hHeld.1)))))))), ((cell_far (p := ⟨gb451, _, none⟩) NB465_451.out _).trans (((cell_far (p := ⟨gb451, _, none⟩) NB465_451.out _).trans (((cell_far (p := ⟨gb451, _, none⟩) NB465_451.out _).trans (((cell_far (p := ⟨gb451, _, none⟩) NB465_451.out _).trans (hHeld.2.1)))))))), ((cell_far (p := ⟨gb451, _, none⟩) NB465_451.out _).trans (((cell_far (p := ⟨gb451, _, none⟩) NB465_451.out _).trans (((cell_far (p := ⟨gb451, _, none⟩) NB465_451.out _).trans (((cell_far (p := ⟨gb451, _, none⟩) NB465_451.out _).trans (hHeld.2.2.1)))))))), ((cell_far (p := ⟨gb451, _, none⟩) NB465_451.out _).trans (((cell_far (p := ⟨gb451, _, none⟩) NB465_451.out _).trans (((cell_far (p := ⟨gb451, _, none⟩) NB465_451.out _).trans (((cell_far (p := ⟨gb451, _, none⟩) NB465_451.out _).trans (hHeld.2.2.2))))))))⟩ (fun hHeld => ?_)
  clear hK K
  refine done_ (by kernel_rfl) ?_
  try go_wp2
  refine bodyPost_ret (results_cc rfl _ _ gb450 gb451 48 48 #[.int .i64 t476, .slice Ao28 t477.length co28, .slice Ao29 t480.length co29, .slice Ao30 t483.length co30] #[.int .i64 t492, .slice Ao41 t493.length co41, .slice Ao43 t496.length co43, .slice Ao45 t499.length co45] (0, 0) (0, 0) _ _ rfl (lq_ BK450) Try.underlying48 rfl (by kernel_rfl) rfl (lq_ BK451) Try.underlying48 rfl (by kernel_rfl)) rfl ?_
  exact ⟨_, _, _, _, _, _, er_, lo2_ (Kd.R_far (p := ⟨gb451, 3, none⟩) (Kd.R_far (p := ⟨gb451, 2, none⟩) (Kd.R_far (p := ⟨gb451, 1, none⟩) (Kd.R_far (p := ⟨gb451, 0, none⟩) (Kd.R_far (p := ⟨gb450, 3, none⟩) (Kd.R_far (p := ⟨gb450, 2, none⟩) (Kd.R_far (p := ⟨gb450, 1, none⟩) (Kd.R_far (p := ⟨gb450, 0, none⟩) (Kd.R_types (Kd.R_types HO479.out BK450.out (by decide)) BK451.out (by decide)) (fun _ hk => hk.1.2) (.int .i64 t476)) (fun _ hk => hk.1.2) (.slice Ao28 t477.length co28)) (fun _ hk => hk.1.2) (.slice Ao29 t480.length co29)) (fun _ hk => hk.1.2) (.slice Ao30 t483.length co30)) (fun _ hk => hk.2) (.int .i64 t492)) (fun _ hk => hk.2) (.slice Ao41 t493.length co41)) (fun _ hk => hk.2) (.slice Ao43 t496.length co43)) (fun _ hk => hk.2) (.slice Ao45 t499.length co45)), lo2_ (Kd.R_far (p := ⟨gb451, 3, none⟩) (Kd.R_far (p := ⟨gb451, 2, none⟩) (Kd.R_far (p := ⟨gb451, 1, none⟩) (Kd.R_far (p := ⟨gb451, 0, none⟩) (Kd.R_far (p := ⟨gb450, 3, none⟩) (Kd.R_far (p := ⟨gb450, 2, none⟩) (Kd.R_far (p := ⟨gb450, 1, none⟩) (Kd.R_far (p := ⟨gb450, 0, none⟩) (Kd.R_types (Kd.R_types HO482.out BK450.out (by decide)) BK451.out (by decide)) (fun _ hk => hk.1.2) (.int .i64 t476)) (fun _ hk => hk.1.2) (.slice Ao28 t477.length co28)) (fun _ hk => hk.1.2) (.slice Ao29 t480.length co29)) (fun _ hk => hk.1.2) (.slice Ao30 t483.length co30)) (fun _ hk => hk.2) (.int .i64 t492)) (fun _ hk => hk.2) (.slice Ao41 t493.length co41)) (fun _ hk => hk.2) (.slice Ao43 t496.length co43)) (fun _ hk => hk.2) (.slice Ao45 t499.length co45)), lo2_ (Kd.R_far (p := ⟨gb451, 3, none⟩) (Kd.R_far (p := ⟨gb451, 2, none⟩) (Kd.R_far (p := ⟨gb451, 1, none⟩) (Kd.R_far (p := ⟨gb451, 0, none⟩) (Kd.R_far (p := ⟨gb450, 3, none⟩) (Kd.R_far (p := ⟨gb450, 2, none⟩) (Kd.R_far (p := ⟨gb450, 1, none⟩) (Kd.R_far (p := ⟨gb450, 0, none⟩) (Kd.R_types (Kd.R_types HO485.out BK450.out (by decide)) BK451.out (by decide)) (fun _ hk => hk.1.2) (.int .i64 t476)) (fun _ hk => hk.1.2) (.slice Ao28 t477.length co28)) (fun _ hk => hk.1.2) (.slice Ao29 t480.length co29)) (fun _ hk => hk.1.2) (.slice Ao30 t483.length co30)) (fun _ hk => hk.2) (.int .i64 t492)) (fun _ hk => hk.2) (.slice Ao41 t493.length co41)) (fun _ hk => hk.2) (.slice Ao43 t496.length co43)) (fun _ hk => hk.2) (.slice Ao45 t499.length co45)), lo2_ (Kd.R_far (p := ⟨gb451, 3, none⟩) (Kd.R_far (p := ⟨gb451, 2, none⟩) (Kd.R_far (p := ⟨gb451, 1, none⟩) (Kd.R_far (p := ⟨gb451, 0, none⟩) (Kd.R_far (p := ⟨gb450, 3, none⟩) (Kd.R_far (p := ⟨gb450, 2, none⟩) (Kd.R_far (p := ⟨gb450, 1, none⟩) (Kd.R_far (p := ⟨gb450, 0, none⟩) (Kd.R_types (Kd.R_types HO495.out BK450.out (by decide)) BK451.out (by decide)) (fun _ hk => hk.1.2) (.int .i64 t476)) (fun _ hk => hk.1.2) (.slice Ao28 t477.length co28)) (fun _ hk => hk.1.2) (.slice Ao29 t480.length co29)) (fun _ hk => hk.1.2) (.slice Ao30 t483.length co30)) (fun _ hk => hk.2) (.int .i64 t492)) (fun _ hk => hk.2) (.slice Ao41 t493.length co41)) (fun _ hk => hk.2) (.slice Ao43 t496.length co43)) (fun _ hk => hk.2) (.slice Ao45 t499.length co45)), lo2_ (Kd.R_far (p := ⟨gb451, 3, none⟩) (Kd.R_far (p := ⟨gb451, 2, none⟩) (Kd.R_far (p := ⟨gb451, 1, none⟩) (Kd.R_far (p := ⟨gb451, 0, none⟩) (Kd.R_far (p := ⟨gb450, 3, none⟩) (Kd.R_far (p := ⟨gb450, 2, none⟩) (Kd.R_far (p := ⟨gb450, 1, none⟩) (Kd.R_far (p := ⟨gb450, 0, none⟩) (Kd.R_types (Kd.R_types HO498.out BK450.out (by decide)) BK451.out (by decide)) (fun _ hk => hk.1.2) (.int .i64 t476)) (fun _ hk => hk.1.2) (.slice Ao28 t477.length co28)) (fun _ hk => hk.1.2) (.slice Ao29 t480.length co29)) (fun _ hk => hk.1.2) (.slice Ao30 t483.length co30)) (fun _ hk => hk.2) (.int .i64 t492)) (fun _ hk => hk.2) (.slice Ao41 t493.length co41)) (fun _ hk => hk.2) (.slice Ao43 t496.length co43)) (fun _ hk => hk.2) (.slice Ao45 t499.length co45)), lo2_ (Kd.R_far (p := ⟨gb451, 3, none⟩) (Kd.R_far (p := ⟨gb451, 2, none⟩) (Kd.R_far (p := ⟨gb451, 1, none⟩) (Kd.R_far (p := ⟨gb451, 0, none⟩) (Kd.R_far (p := ⟨gb450, 3, none⟩) (Kd.R_far (p := ⟨gb450, 2, none⟩) (Kd.R_far (p := ⟨gb450, 1, none⟩) (Kd.R_far (p := ⟨gb450, 0, none⟩) (Kd.R_types (Kd.R_types HO501.out BK450.out (by decide)) BK451.out (by decide)) (fun _ hk => hk.1.2) (.int .i64 t476)) (fun _ hk => hk.1.2) (.slice Ao28 t477.length co28)) (fun _ hk => hk.1.2) (.slice Ao29 t480.length co29)) (fun _ hk => hk.1.2) (.slice Ao30 t483.length co30)) (fun _ hk => hk.2) (.int .i64 t492)) (fun _ hk => hk.2) (.slice Ao41 t493.length co41)) (fun _ hk => hk.2) (.slice Ao43 t496.length co43)) (fun _ hk => hk.2) (.slice Ao45 t499.length co45)), lv109_ HB⟩
 ·replace c4 := Bool.eq_false_iff.mpr c4
  subst c4
  have H1 : ((spec_l1Cur_ranked.f k l0 t467 t468).bind fun bt502 => (some (t453, t454, t457, t460, bt502.1, bt502.2.1, bt502.2.2.1, bt502.2.2.2.1))) = some (r1, r2, r3, r4, r5, r6, r7, r8) := by rw [if_neg (show ¬ (false = true) by decide)] at H; exact H
  clear H
  have H := H1
  clear H1
  replace H := Option.bind_eq_some_iff.mp H
  obtain ⟨⟨t502, t503, t506, t509, t512, t513⟩, A470, H⟩ := H
  replace H : (some (t453, t454, t457, t460, t502, t503, t506, t509)) = some (r1, r2, r3, r4, r5, r6, r7, r8) := H
  have A47 := am_ A470
  clear A470
  simp only [Option.some.injEq, Prod.mk.injEq] at H
  obtain ⟨rfl, rfl, rfl, rfl, rfl, rfl, rfl, rfl⟩ := H
  go_enter Try.func53, Try.ntmps53
  try go_wp2_with (first | ((with_reducible refine gate_dst (N := 2) rfl ?_); refine bev_ 2 #[.int .i64 0, .slice none 0 0, .slice none 0 0, .slice none 0 0] 48 rfl rfl ?_; intro gb450 hg w48 hbox hb; have BK450 := am_ (hbox); have GW450 := am_ ((by rw [hg]; exact (below_size (lw_ HB)) : w.heap.size ≤ gb450)); have GE450 := am_ ((by rw [hg]; exact (below_size (lw_ HB)) : w.heap.size ≤ gb450)); replace HB := am_ (below_step (lw_ HB) hb); clear hb hbox hg) | ((with_reducible refine gate_dst (N := 3) rfl ?_); refine bev_ 3 #[.int .i64 0, .slice none 0 0, .slice none 0 0, .slice none 0 0] 48 rfl rfl ?_; intro gb451 hg w49 hbox hb; have BK451 := am_ (hbox); have GW451 := am_ ((by rw [hg]; exact (below_size (lw_ HB)) : w.heap.size ≤ gb451)); have GE451 := am_ ((by rw [hg]; exact (below_size (lw_ HB)) : w.heap.size ≤ gb451)); have NB450_451 := am_ ((by rw [hg]; exact Nat.ne_of_lt (blk_lt (g := gb450) (lb_ BK450)) : gb450 ≠ gb451)); have NB451_450 := am_ ((by rw [hg]; exact Nat.ne_of_gt (blk_lt (g := gb450) (lb_ BK450)) : gb451 ≠ gb450)); replace BK450 := am_ (blk_below (g := gb450) (lb_ BK450) hb); replace HB := am_ (below_step (lw_ HB) hb); clear hb hbox hg) | ((with_reducible refine gate_dst (N := 8) rfl ?_); refine bev_ 8 #[.slice A0 l0.length c0, .int .i64 0, .int .u64 0] 109 rfl rfl ?_; intro gb452 hg w50 hbox hb; have BK452 := am_ (hbox); have GW452 := am_ ((by rw [hg]; exact (below_size (lw_ HB)) : w.heap.size ≤ gb452)); have GE452 := am_ ((by rw [hg]; exact (below_size (lw_ HB)) : w.heap.size ≤ gb452)); have NB450_452 := am_ ((by rw [hg]; exact Nat.ne_of_lt (blk_lt (g := gb450) (lb_ BK450)) : gb450 ≠ gb452)); have NB452_450 := am_ ((by rw [hg]; exact Nat.ne_of_gt (blk_lt (g := gb450) (lb_ BK450)) : gb452 ≠ gb450)); have NB451_452 := am_ ((by rw [hg]; exact Nat.ne_of_lt (blk_lt (g := gb451) (lb_ BK451)) : gb451 ≠ gb452)); have NB452_451 := am_ ((by rw [hg]; exact Nat.ne_of_gt (blk_lt (g := gb451) (lb_ BK451)) : gb452 ≠ gb451)); replace BK450 := am_ (blk_below (g := gb450) (lb_ BK450) hb); replace BK451 := am_ (blk_below (g := gb451) (lb_ BK451) hb); replace HB := am_ (below_step (lw_ HB) hb); clear hb hbox hg) | ((with_reducible refine gate_callee (f := 101) rfl ?_); refine goesL_ (some 10) rfl rfl Try.func101 (by kernel_rfl) rfl #[.pointer (some ⟨gb452, 0, none⟩)] rfl lm_ ?_; (with_reducible refine (spec_l1Cur_ranked.calls k gb452 l0 0 0 t453 t454 t457 t460 t463 t464 w _ ?side1 ?side2 A2.out).mono ?_); (case side1 => exact ⟨_, _, (lb_ BK452), GE452.out, HR0.out⟩); (case side2 => exact lv109_ HB); rintro e w51 ⟨v455, v458, v461, rfl, ho0, ho1, ho2, hi, hb, hk⟩; refine ⟨_, rfl, ?_⟩; have HO456 := am_ (Kd.R_lower ho0 (below_size (lv109_ HB))); have HO459 := am_ (Kd.R_lower ho1 (below_size (lv109_ HB))); have HO462 := am_ (Kd.R_lower ho2 (below_size (lv109_ HB))); have HI452 := am_ (hi); replace BK450 := am_ (KeepBut.blk hk (g' := gb450) (lb_ BK450) NB450_452.out (by simp)); replace BK451 := am_ (KeepBut.blk hk (g' := gb451) (lb_ BK451) NB451_452.out (by simp)); replace HB := am_ (hb); (try clear hb); (try clear hb2); (try clear hk); (try clear hi); (try clear ho0); (try clear ho1); (try clear ho2)) | ((with_reducible refine gate_dst (N := 5) rfl ?_); refine bev_ 5 #[.int .i64 0, .slice none 0 0, .slice none 0 0, .slice none 0 0] 48 rfl rfl ?_; intro gb465 hg w52 hbox hb; have BK465 := am_ (hbox); have GW465 := am_ ((by rw [hg]; exact (below_size (lv109_ HB)) : w.heap.size ≤ gb465)); have GE465 := am_ ((by rw [hg]; exact (below_size (lv109_ HB)) : w.heap.size ≤ gb465)); have NB450_465 := am_ ((by rw [hg]; exact Nat.ne_of_lt (blk_lt (g := gb450) (lb_ BK450)) : gb450 ≠ gb465)); have NB465_450 := am_ ((by rw [hg]; exact Nat.ne_of_gt (blk_lt (g := gb450) (lb_ BK450)) : gb465 ≠ gb450)); have NB451_465 := am_ ((by rw [hg]; exact Nat.ne_of_lt (blk_lt (g := gb451) (lb_ BK451)) : gb451 ≠ gb465)); have NB465_451 := am_ ((by rw [hg]; exact Nat.ne_of_gt (blk_lt (g := gb451) (lb_ BK451)) : gb465 ≠ gb451)); have NB452_465 := am_ ((by rw [hg]; exact Nat.ne_of_lt (IsS109.lt (show IsS109 w _ gb452 l0 t463 t464 from ls109_ HI452)) : gb452 ≠ gb465)); have NB465_452 := am_ ((by rw [hg]; exact Nat.ne_of_gt (IsS109.lt (show IsS109 w _ gb452 l0 t463 t464 from ls109_ HI452)) : gb465 ≠ gb452)); replace HO456 := am_ (Kd.R_below (lf_ HO456) hb); replace HO459 := am_ (Kd.R_below (lf_ HO459) hb); replace HO462 := am_ (Kd.R_below (lf_ HO462) hb); replace BK450 := am_ (blk_below (g := gb450) (lb_ BK450) hb); replace BK451 := am_ (blk_below (g := gb451) (lb_ BK451) hb); replace HI452 := am_ (IsS109.below (ls109_ HI452) hb); replace HB := am_ (below_step (lv109_ HB) hb); clear hb hbox hg; have hnb53 := NB465_450.out; have hnc53 := NB450_465.out; have hnb54 := NB465_451.out; have hnc54 := NB451_465.out; have hnb55 := NB465_452.out; have hnc55 := NB452_465.out; obtain ⟨hcz56_0, hcz56_1, hcz56_2, hcz56_3, hfz56_0, hfz56_1, hfz56_2, hfz56_3⟩ := bx4_ BK465.out; obtain ⟨Ao57, co57, eo57⟩ := Kd.R_slice HO456.out; subst eo57; obtain ⟨Ao58, co58, eo58⟩ := Kd.R_slice HO459.out; subst eo58; obtain ⟨Ao59, co59, eo59⟩ := Kd.R_slice HO462.out; subst eo59) | ((with_reducible refine gate_callee (f := 105) rfl ?_); refine goesL_ (some 12) rfl rfl Try.func105 (by kernel_rfl) rfl #[.pointer (some ⟨gb452, 0, none⟩), .int .i64 12] rfl lm_ ?_; (with_reducible refine (spec_l1Cur_one.calls gb452 l0 t463 t464 12 false t467 t468 w _ ?side1 ?side2 A3.out).mono ?_); (case side1 => exact ls109_ HI452); (case side2 => exact lv109_ HB); rintro e w60 ⟨rfl, hi, hb, hk⟩; refine ⟨_, rfl, ?_⟩; replace BK450 := am_ (KeepBut.blk hk (g' := gb450) (lg_ BK450) NB450_452.out (by simp)); replace BK451 := am_ (KeepBut.blk hk (g' := gb451) (lg_ BK451) NB451_452.out (by simp)); replace HO456 := am_ (m1_ (Kd.R_keep (IsS109.apart (show IsS109 w _ gb452 l0 t463 t464 from ls109_ HI452) (lt_ ((m1_ (fr4_ HO456.out BK465.out (.int .i64 t453) (.slice Ao57 t454.length co57) (.slice Ao58 t457.length co58) (.slice Ao59 t460.length co59))))) (by decide)) hk (fun _ h => h.2))); replace HO459 := am_ (m1_ (Kd.R_keep (IsS109.apart (show IsS109 w _ gb452 l0 t463 t464 from ls109_ HI452) (lt_ ((m1_ (fr4_ HO459.out BK465.out (.int .i64 t453) (.slice Ao57 t454.length co57) (.slice Ao58 t457.length co58) (.slice Ao59 t460.length co59))))) (by decide)) hk (fun _ h => h.2))); replace HO462 := am_ (m1_ (Kd.R_keep (IsS109.apart (show IsS109 w _ gb452 l0 t463 t464 from ls109_ HI452) (lt_ ((m1_ (fr4_ HO462.out BK465.out (.int .i64 t453) (.slice Ao57 t454.length co57) (.slice Ao58 t457.length co58) (.slice Ao59 t460.length co59))))) (by decide)) hk (fun _ h => h.2))); replace BK465 := am_ (KeepBut.blk hk (g' := gb465) (o := .cells #[.int .i64 t453, .slice Ao57 t454.length co57, .slice Ao58 t457.length co58, .slice Ao59 t460.length co59] 48 (0, 0)) (lq_ BK465) NB465_452.out (by simp)); replace HB := am_ (hb); replace HI452 := am_ (hi); (try clear hb); (try clear hb2); (try clear hk); (try clear hi)))
  have n0_ := am_ (Kd.R_drew HO456.out)
  have n1_ := am_ (Kd.R_drew HO459.out)
  have n2_ := am_ (Kd.R_drew HO462.out)
  have n3_ := am_ (blk_drew BK450.out)
  have n4_ := am_ (blk_drew BK451.out)
  have n5_ := am_ (blk_drew BK465.out)
  have n6_ := am_ (IsS109.drew HI452.out)
  have n7_ := am_ (below_drew1 HB.out)
  clear HO456
  clear HO459
  clear HO462
  clear BK450
  clear BK451
  clear BK465
  clear HI452
  clear HB
  have HO456 := n0_
  have HO459 := n1_
  have HO462 := n2_
  have BK450 := n3_
  have BK451 := n4_
  have BK465 := n5_
  have HI452 := n6_
  have HB := n7_
  clear n0_ n1_ n2_ n3_ n4_ n5_ n6_ n7_
  refine start_ (n := 5) (S := fun w' => w'.cell? ⟨gb465, 0, none⟩ = some (.int .i64 t453) ∧ w'.cell? ⟨gb465, 1, none⟩ = some (.slice Ao57 t454.length co57) ∧ w'.cell? ⟨gb465, 2, none⟩ = some (.slice Ao58 t457.length co58) ∧ w'.cell? ⟨gb465, 3, none⟩ = some (.slice Ao59 t460.length co59)) (ds := []) #[false, false, false, false, false] (by kernel_rfl) rfl rfl ⟨(blk_cell BK465.out 0).trans rfl, (blk_cell BK465.out 1).trans rfl, (blk_cell BK465.out 2).trans rfl, (blk_cell BK465.out 3).trans rfl⟩ (fun hHeld => ?_)
  generalize w60.drew = w61 at HO456 HO459 HO462 BK450 BK451 BK465 HI452 HB hHeld ⊢
  refine pure_ (i := 1) (N := some 23) (v := ?_) (a' := ?_) #[false, true, false, false, false] rfl rfl (by kernel_rfl) (fun _ _ _ h => h) (Or.inl ⟨by rfl, ?_⟩) ?_ ?_
  rotate_left
  ·intro w'
   go_simp
   with_reducible rfl
  rotate_left
  ·simp only [Act.put, List.setIfInBounds_toArray, List.set_cons_zero, List.set_cons_succ, i64_w, i32_w]
   rfl
  refine take_ (i := 0) (N := some 22) (v := ?_) (a' := ?_) #[true, true, false, false, false] rfl rfl (by kernel_rfl) (fun _ _ _ h => h) (Or.inl ⟨by rfl, ?_⟩) hHeld ?_ ?_
  rotate_left
  ·rintro w' ⟨s0, s1, s2, s3⟩
   go_simp
   with_reducible rfl
  rotate_left
  ·simp only [Act.put, List.setIfInBounds_toArray, List.set_cons_zero, List.set_cons_succ, i64_w, i32_w]
   rfl
  refine one_ (i := 2) (N := some 24) #[true, true, true, false, false] rfl rfl (by kernel_rfl) (by decide) (fun K hK => ?_)
  refine goes_ Try.func101 (by kernel_rfl) rfl #[.pointer (some ⟨gb452, 0, none⟩)] (by rfl) rfl rfl lm_ ?_
  with_reducible refine (spec_l1Cur_ranked.calls k gb452 l0 t467 t468 t502 t503 t506 t509 t512 t513 w _ ?side1 ?side2 A47.out).mono ?_
  (case side1 => exact ls109_ HI452)
  (case side2 => exact lv109_ HB)
  rintro e w62 ⟨v504, v507, v510, rfl, ho0, ho1, ho2, hi, hb, hk⟩
  refine ⟨_, rfl, ?_⟩
  have n0_ := am_ (KeepBut.blk hk (g' := gb450) (lb_ BK450) NB450_452.out (by simp))
  have n1_ := am_ (KeepBut.blk hk (g' := gb451) (lb_ BK451) NB451_452.out (by simp))
  have n2_ := am_ (m1_ (td_ (td_ (td_ (Kd.R_oldK (IsS109.apart (show IsS109 w _ gb452 l0 t467 t468 from ls109_ HI452) (lf_ HO456) (by decide)) hk) ho0) ho1) ho2))
  have n3_ := am_ (m1_ (td_ (td_ (td_ (Kd.R_oldK (IsS109.apart (show IsS109 w _ gb452 l0 t467 t468 from ls109_ HI452) (lf_ HO459) (by decide)) hk) ho0) ho1) ho2))
  have n4_ := am_ (m1_ (td_ (td_ (td_ (Kd.R_oldK (IsS109.apart (show IsS109 w _ gb452 l0 t467 t468 from ls109_ HI452) (lf_ HO462) (by decide)) hk) ho0) ho1) ho2))
  have n5_ := am_ (KeepBut.blk hk (g' := gb465) (lb_ BK465) NB465_452.out (by simp))
  have n6_ := am_ (Kd.R_lower (nw_ (nw_ (nw_ ho0 HO456) HO459) HO462) (below_size (lv109_ HB)))
  have n7_ := am_ (Kd.R_lower (nw_ (nw_ (nw_ ho1 HO456) HO459) HO462) (below_size (lv109_ HB)))
  have n8_ := am_ (Kd.R_lower (nw_ (nw_ (nw_ ho2 HO456) HO459) HO462) (below_size (lv109_ HB)))
  have n9_ := am_ (hb)
  have n10_ := am_ (hi)
  clear BK450
  clear BK451
  clear HO456
  clear HO459
  clear HO462
  clear BK465
  clear HB
  clear HI452
  have BK450 := n0_
  have BK451 := n1_
  have HO456 := n2_
  have HO459 := n3_
  have HO462 := n4_
  have BK465 := n5_
  have HO505 := n6_
  have HO508 := n7_
  have HO511 := n8_
  have HB := n9_
  have HI452 := n10_
  clear n0_ n1_ n2_ n3_ n4_ n5_ n6_ n7_ n8_ n9_ n10_
  (try clear hb)
  (try clear hb2)
  (try clear hk)
  (try clear hi)
  (try clear ho0)
  (try clear ho1)
  (try clear ho2)
  obtain ⟨Ao68, co68, eo68⟩ := Kd.R_slice HO505.out
  (first | subst eo68 | (injection eo68 with f1_ f2_ f3_; have f4_ := f1_.symm; have f5_ := f3_.symm; clear f1_ f2_ f3_; subst f4_; subst f5_))
  obtain ⟨Ao70, co70, eo70⟩ := Kd.R_slice HO508.out
  (first | subst eo70 | (injection eo70 with f1_ f2_ f3_; have f4_ := f1_.symm; have f5_ := f3_.symm; clear f1_ f2_ f3_; subst f4_; subst f5_))
  obtain ⟨Ao72, co72, eo72⟩ := Kd.R_slice HO511.out
  (first | subst eo72 | (injection eo72 with f1_ f2_ f3_; have f4_ := f1_.symm; have f5_ := f3_.symm; clear f1_ f2_ f3_; subst f4_; subst f5_))
  refine hK.out _ _ ⟨(blk_cell BK465.out 0).trans rfl, (blk_cell BK465.out 1).trans rfl, (blk_cell BK465.out 2).trans rfl, (blk_cell BK465.out 3).trans rfl⟩ (fun hHeld => ?_)
  clear hK K
  refine norm_ (a' := ?_) ?_ ?_
  rotate_left
  ·show Act.put _ (some 24) _ = _
   simp only [Act.put, List.setIfInBounds_toArray, List.set_cons_zero, List.set_cons_succ, i64_w, i32_w]
   rfl
  refine one_ (i := 3) (N := none) #[true, true, true, true, false] rfl rfl (by kernel_rfl) (by decide) (fun K hK => ?_)
  have hs63 : w62.cell? ⟨gb450, 0, none⟩ = some (.int .i64 0) := (blk_cell BK450.out 0).trans rfl
  have hfs63 := blk_frozen BK450.out 0
  have hns63_1 := NB451_450.out
  have hns63_2 := NB465_450.out
  have hms63_1 := NB450_451.out
  have hms63_2 := NB450_465.out
  have hs64 : w62.cell? ⟨gb450, 1, none⟩ = some (.slice none 0 0) := (blk_cell BK450.out 1).trans rfl
  have hfs64 := blk_frozen BK450.out 1
  have hns64_1 := NB451_450.out
  have hns64_2 := NB465_450.out
  have hms64_1 := NB450_451.out
  have hms64_2 := NB450_465.out
  have hs65 : w62.cell? ⟨gb450, 2, none⟩ = some (.slice none 0 0) := (blk_cell BK450.out 2).trans rfl
  have hfs65 := blk_frozen BK450.out 2
  have hns65_1 := NB451_450.out
  have hns65_2 := NB465_450.out
  have hms65_1 := NB450_451.out
  have hms65_2 := NB450_465.out
  have hs66 : w62.cell? ⟨gb450, 3, none⟩ = some (.slice none 0 0) := (blk_cell BK450.out 3).trans rfl
  have hfs66 := blk_frozen BK450.out 3
  have hns66_1 := NB451_450.out
  have hns66_2 := NB465_450.out
  have hms66_1 := NB450_451.out
  have hms66_2 := NB450_465.out
  refine skip_ (w1 := ?_) (by rfl) rfl ?_ ?_
  rotate_left
  ·go_simp
   rfl
  refine hK.out _ _ ⟨((cell_far (p := ⟨gb450, _, none⟩) NB465_450.out _).trans (((cell_far (p := ⟨gb450, _, none⟩) NB465_450.out _).trans (((cell_far (p := ⟨gb450, _, none⟩) NB465_450.out _).trans (((cell_far (p := ⟨gb450, _, none⟩) NB465_450.out _).trans (hHeld.1)))))))), ((cell_far (p := ⟨gb450, _, none⟩) NB465_450.out _).trans (((cell_far (p := ⟨gb450, _, none⟩) NB465_450.out _).trans (((cell_far (p := ⟨gb450, _, none⟩) NB465_450.out _).trans (((cell_far (p := ⟨gb450, _, none⟩) NB465_450.out _).trans (hHeld.2.1)))))))), ((cell_far (p := ⟨gb450, _, none⟩) NB465_450.out _).trans (((cell_far (p := ⟨gb450, _, none⟩) NB465_450.out _).trans (((cell_far (p := ⟨gb450, _, none⟩) NB465_450.out _).trans (((cell_far (p := ⟨gb450, _, none⟩) NB465_450.out _).trans (hHeld.2.2.1)))))))), ((cell_far (p := ⟨gb450, _, none⟩) NB465_450.out _).trans (((cell_far (p := ⟨gb450, _, none⟩) NB465_450.out _).trans (((cell_far (p := ⟨gb450, _, none⟩) NB465_450.out _).trans (((cell_far (p := ⟨gb450, _, none⟩) NB465_450.out _).trans (hHeld.2.2.2))))))))⟩ (fun hHeld => ?_)
  clear hK K
  refine one_ (i := 4) (N := none) #[true, true, true, true, true] rfl rfl (by kernel_rfl) (by decide) (fun K hK => ?_)
  have hs67 : w62.cell? ⟨gb451, 0, none⟩ = some (.int .i64 0) := (blk_cell BK451.out 0).trans rfl
  have hfs67 := blk_frozen BK451.out 0
  have hns67_0 := NB450_451.out
  have hns67_2 := NB465_451.out
  have hms67_0 := NB451_450.out
  have hms67_2 := NB451_465.out
  have hs69 : w62.cell? ⟨gb451, 1, none⟩ = some (.slice none 0 0) := (blk_cell BK451.out 1).trans rfl
  have hfs69 := blk_frozen BK451.out 1
  have hns69_0 := NB450_451.out
  have hns69_2 := NB465_451.out
  have hms69_0 := NB451_450.out
  have hms69_2 := NB451_465.out
  have hs71 : w62.cell? ⟨gb451, 2, none⟩ = some (.slice none 0 0) := (blk_cell BK451.out 2).trans rfl
  have hfs71 := blk_frozen BK451.out 2
  have hns71_0 := NB450_451.out
  have hns71_2 := NB465_451.out
  have hms71_0 := NB451_450.out
  have hms71_2 := NB451_465.out
  have hs73 : w62.cell? ⟨gb451, 3, none⟩ = some (.slice none 0 0) := (blk_cell BK451.out 3).trans rfl
  have hfs73 := blk_frozen BK451.out 3
  have hns73_0 := NB450_451.out
  have hns73_2 := NB465_451.out
  have hms73_0 := NB451_450.out
  have hms73_2 := NB451_465.out
  refine skip_ (w1 := ?_) (by rfl) rfl ?_ ?_
  rotate_left
  ·go_simp
   rfl
  refine hK.out _ _ ⟨((cell_far (p := ⟨gb451, _, none⟩) NB465_451.out _).trans (((cell_far (p := ⟨gb451, _, none⟩) NB465_451.out _).trans (((cell_far (p := ⟨gb451, _, none⟩) NB465_451.out _).trans (((cell_far (p := ⟨gb451, _, none⟩) NB465_451.out _).trans (hHeld.1)))))))), ((cell_far (p := ⟨gb451, _, none⟩) NB465_451.out _).trans (((cell_far (p := ⟨gb451, _, none⟩) NB465_451.out _).trans (((cell_far (p := ⟨gb451, _, none⟩) NB465_451.out _).trans (((cell_far (p := ⟨gb451, _, none⟩) NB465_451.out _).trans (hHeld.2.1)))))))), ((cell_far (p := ⟨gb451, _, none⟩) NB465_451.out _).trans (((cell_far (p := ⟨gb451, _, none⟩) NB465_451.out _).trans (((cell_far (p := ⟨gb451, _, none⟩) NB465_451.out _).trans (((cell_far (p := ⟨gb451, _, none⟩) NB465_451.out _).trans (hHeld.2.2.1)))))))), ((cell_far (p := ⟨gb451, _, none⟩) NB465_451.out _).trans (((cell_far (p := ⟨gb451, _, none⟩) NB465_451.out _).trans (((cell_far (p := ⟨gb451, _, none⟩) NB465_451.out _).trans (((cell_far (p := ⟨gb451, _, none⟩) NB465_451.out _).trans (hHeld.2.2.2))))))))⟩ (fun hHeld => ?_)
  clear hK K
  refine done_ (by kernel_rfl) ?_
  try go_wp2
  refine bodyPost_ret (results_cc rfl _ _ gb450 gb451 48 48 #[.int .i64 t453, .slice Ao57 t454.length co57, .slice Ao58 t457.length co58, .slice Ao59 t460.length co59] #[.int .i64 t502, .slice Ao68 t503.length co68, .slice Ao70 t506.length co70, .slice Ao72 t509.length co72] (0, 0) (0, 0) _ _ rfl (lq_ BK450) Try.underlying48 rfl (by kernel_rfl) rfl (lq_ BK451) Try.underlying48 rfl (by kernel_rfl)) rfl ?_
  exact ⟨_, _, _, _, _, _, er_, lo2_ (Kd.R_far (p := ⟨gb451, 3, none⟩) (Kd.R_far (p := ⟨gb451, 2, none⟩) (Kd.R_far (p := ⟨gb451, 1, none⟩) (Kd.R_far (p := ⟨gb451, 0, none⟩) (Kd.R_far (p := ⟨gb450, 3, none⟩) (Kd.R_far (p := ⟨gb450, 2, none⟩) (Kd.R_far (p := ⟨gb450, 1, none⟩) (Kd.R_far (p := ⟨gb450, 0, none⟩) (Kd.R_types (Kd.R_types HO456.out BK450.out (by decide)) BK451.out (by decide)) (fun _ hk => hk.1.2) (.int .i64 t453)) (fun _ hk => hk.1.2) (.slice Ao57 t454.length co57)) (fun _ hk => hk.1.2) (.slice Ao58 t457.length co58)) (fun _ hk => hk.1.2) (.slice Ao59 t460.length co59)) (fun _ hk => hk.2) (.int .i64 t502)) (fun _ hk => hk.2) (.slice Ao68 t503.length co68)) (fun _ hk => hk.2) (.slice Ao70 t506.length co70)) (fun _ hk => hk.2) (.slice Ao72 t509.length co72)), lo2_ (Kd.R_far (p := ⟨gb451, 3, none⟩) (Kd.R_far (p := ⟨gb451, 2, none⟩) (Kd.R_far (p := ⟨gb451, 1, none⟩) (Kd.R_far (p := ⟨gb451, 0, none⟩) (Kd.R_far (p := ⟨gb450, 3, none⟩) (Kd.R_far (p := ⟨gb450, 2, none⟩) (Kd.R_far (p := ⟨gb450, 1, none⟩) (Kd.R_far (p := ⟨gb450, 0, none⟩) (Kd.R_types (Kd.R_types HO459.out BK450.out (by decide)) BK451.out (by decide)) (fun _ hk => hk.1.2) (.int .i64 t453)) (fun _ hk => hk.1.2) (.slice Ao57 t454.length co57)) (fun _ hk => hk.1.2) (.slice Ao58 t457.length co58)) (fun _ hk => hk.1.2) (.slice Ao59 t460.length co59)) (fun _ hk => hk.2) (.int .i64 t502)) (fun _ hk => hk.2) (.slice Ao68 t503.length co68)) (fun _ hk => hk.2) (.slice Ao70 t506.length co70)) (fun _ hk => hk.2) (.slice Ao72 t509.length co72)), lo2_ (Kd.R_far (p := ⟨gb451, 3, none⟩) (Kd.R_far (p := ⟨gb451, 2, none⟩) (Kd.R_far (p := ⟨gb451, 1, none⟩) (Kd.R_far (p := ⟨gb451, 0, none⟩) (Kd.R_far (p := ⟨gb450, 3, none⟩) (Kd.R_far (p := ⟨gb450, 2, none⟩) (Kd.R_far (p := ⟨gb450, 1, none⟩) (Kd.R_far (p := ⟨gb450, 0, none⟩) (Kd.R_types (Kd.R_types HO462.out BK450.out (by decide)) BK451.out (by decide)) (fun _ hk => hk.1.2) (.int .i64 t453)) (fun _ hk => hk.1.2) (.slice Ao57 t454.length co57)) (fun _ hk => hk.1.2) (.slice Ao58 t457.length co58)) (fun _ hk => hk.1.2) (.slice Ao59 t460.length co59)) (fun _ hk => hk.2) (.int .i64 t502)) (fun _ hk => hk.2) (.slice Ao68 t503.length co68)) (fun _ hk => hk.2) (.slice Ao70 t506.length co70)) (fun _ hk => hk.2) (.slice Ao72 t509.length co72)), lo2_ (Kd.R_far (p := ⟨gb451, 3, none⟩) (Kd.R_far (p := ⟨gb451, 2, none⟩) (Kd.R_far (p := ⟨gb451, 1, none⟩) (Kd.R_far (p := ⟨gb451, 0, none⟩) (Kd.R_far (p := ⟨gb450, 3, none⟩) (Kd.R_far (p := ⟨gb450, 2, none⟩) (Kd.R_far (p := ⟨gb450, 1, none⟩) (Kd.R_far (p := ⟨gb450, 0, none⟩) (Kd.R_types (Kd.R_types HO505.out BK450.out (by decide)) BK451.out (by decide)) (fun _ hk => hk.1.2) (.int .i64 t453)) (fun _ hk => hk.1.2) (.slice Ao57 t454.length co57)) (fun _ hk => hk.1.2) (.slice Ao58 t457.length co58)) (fun _ hk => hk.1.2) (.slice Ao59 t460.length co59)) (fun _ hk => hk.2) (.int .i64 t502)) (fun _ hk => hk.2) (.slice Ao68 t503.length co68)) (fun _ hk => hk.2) (.slice Ao70 t506.length co70)) (fun _ hk => hk.2) (.slice Ao72 t509.length co72)), lo2_ (Kd.R_far (p := ⟨gb451, 3, none⟩) (Kd.R_far (p := ⟨gb451, 2, none⟩) (Kd.R_far (p := ⟨gb451, 1, none⟩) (Kd.R_far (p := ⟨gb451, 0, none⟩) (Kd.R_far (p := ⟨gb450, 3, none⟩) (Kd.R_far (p := ⟨gb450, 2, none⟩) (Kd.R_far (p := ⟨gb450, 1, none⟩) (Kd.R_far (p := ⟨gb450, 0, none⟩) (Kd.R_types (Kd.R_types HO508.out BK450.out (by decide)) BK451.out (by decide)) (fun _ hk => hk.1.2) (.int .i64 t453)) (fun _ hk => hk.1.2) (.slice Ao57 t454.length co57)) (fun _ hk => hk.1.2) (.slice Ao58 t457.length co58)) (fun _ hk => hk.1.2) (.slice Ao59 t460.length co59)) (fun _ hk => hk.2) (.int .i64 t502)) (fun _ hk => hk.2) (.slice Ao68 t503.length co68)) (fun _ hk => hk.2) (.slice Ao70 t506.length co70)) (fun _ hk => hk.2) (.slice Ao72 t509.length co72)), lo2_ (Kd.R_far (p := ⟨gb451, 3, none⟩) (Kd.R_far (p := ⟨gb451, 2, none⟩) (Kd.R_far (p := ⟨gb451, 1, none⟩) (Kd.R_far (p := ⟨gb451, 0, none⟩) (Kd.R_far (p := ⟨gb450, 3, none⟩) (Kd.R_far (p := ⟨gb450, 2, none⟩) (Kd.R_far (p := ⟨gb450, 1, none⟩) (Kd.R_far (p := ⟨gb450, 0, none⟩) (Kd.R_types (Kd.R_types HO511.out BK450.out (by decide)) BK451.out (by decide)) (fun _ hk => hk.1.2) (.int .i64 t453)) (fun _ hk => hk.1.2) (.slice Ao57 t454.length co57)) (fun _ hk => hk.1.2) (.slice Ao58 t457.length co58)) (fun _ hk => hk.1.2) (.slice Ao59 t460.length co59)) (fun _ hk => hk.2) (.int .i64 t502)) (fun _ hk => hk.2) (.slice Ao68 t503.length co68)) (fun _ hk => hk.2) (.slice Ao70 t506.length co70)) (fun _ hk => hk.2) (.slice Ao72 t509.length co72)), lv109_ HB⟩

/-! ### impl_Rank1: function 56 -/
def impl_Rank1.f (k : Nat) (a0_0 : Int) (l0_1 : List Int) (l0_2 : List Int) (l0_3 : List Int) (a1 : Int) : Option (Int × Bool) := (impl_IsRanked.f k a0_0 l0_1 l0_2 l0_3).bind fun t515 => (if t515 = true then ((impl_in.f a1 0 a0_0).bind fun t516 => (if t516 = true then ((impl_Bits_count.f k a0_0 l0_1 0 a1).bind fun t517 => (some (t517, true))) else (some (0, false)))) else (some (0, false)))
theorem impl_Rank1.mono : ∀ a0 a1 a2 a3 a4 k, LeO (impl_Rank1.f k a0 a1 a2 a3 a4) (impl_Rank1.f (k + 1) a0 a1 a2 a3 a4) := by
 intro a0 a1 a2 a3 a4 k
 unfold impl_Rank1.f
 repeat' first
   | (with_reducible exact impl_Bits_count.mono _ _ _ _ _)
   | (with_reducible exact impl_IsRanked.mono _ _ _ _ _)
   | (with_reducible exact LeO.refl _)
   | (with_reducible exact LeO.none _)
   | (with_reducible refine LeO.ite ?_ ?_)
   | (with_reducible refine LeO.bind ?_ (fun _ => ?_))
   | exact impl_Bits_count.mono _ _ _ _ _
   | exact impl_IsRanked.mono _ _ _ _ _
   | exact LeO.none _
   | refine LeO.ite ?_ ?_
   | refine LeO.bind ?_ (fun _ => ?_)
set_option maxHeartbeats 8000000 in
set_option maxRecDepth 100000 in
theorem impl_Rank1.calls (k : Nat) (a0_0 : Int) (A0_1 : Option Addr) (c0_1 : Nat) (l0_1 : List Int) (A0_2 : Option Addr) (c0_2 : Nat) (l0_2 : List Int) (A0_3 : Option Addr) (c0_3 : Nat) (l0_3 : List Int) (a1 : Int) (r1 : Int) (r2 : Bool) (w : World) (hr0_1 : Kd.C (Kd.int .i64) w A0_1 l0_1.length l0_1) (hc0_1 : l0_1.length ≤ c0_1) (hr0_2 : Kd.C (Kd.int .i64) w A0_2 l0_2.length l0_2) (hc0_2 : l0_2.length ≤ c0_2) (hr0_3 : Kd.C (Kd.int .i64) w A0_3 l0_3.length l0_3) (hc0_3 : l0_3.length ≤ c0_3) (h : impl_Rank1.f k a0_0 l0_1 l0_2 l0_3 a1 = some (r1, r2)) :
  Calls Try.prog 56 #[.agg #[.int .i64 a0_0, .slice A0_1 l0_1.length c0_1, .slice A0_2 l0_2.length c0_2, .slice A0_3 l0_3.length c0_3], .int .i64 a1] w fun e w' => e = .returned (.tuple #[.int .i64 r1, .bool r2]) ∧ Below w.heap.size w w' := by
 have hu48 := Try.underlying48
 have HR0_1 := am_ hr0_1
 have HC0_1 := am_ hc0_1
 clear hr0_1 hc0_1
 have HR0_2 := am_ hr0_2
 have HC0_2 := am_ hc0_2
 clear hr0_2 hc0_2
 have HR0_3 := am_ hr0_3
 have HC0_3 := am_ hc0_3
 clear hr0_3 hc0_3
 have HB := am_ (Below.refl w.heap.size w)
 have H : ((impl_IsRanked.f k a0_0 l0_1 l0_2 l0_3).bind fun t515 => (if t515 = true then ((impl_in.f a1 0 a0_0).bind fun t516 => (if t516 = true then ((impl_Bits_count.f k a0_0 l0_1 0 a1).bind fun t517 => (some (t517, true))) else (some (0, false)))) else (some (0, false)))) = some (r1, r2) := h
 clear h
 replace H := Option.bind_eq_some_iff.mp H
 obtain ⟨t515, A30, H⟩ := H
 replace H : (if t515 = true then ((impl_in.f a1 0 a0_0).bind fun t516 => (if t516 = true then ((impl_Bits_count.f k a0_0 l0_1 0 a1).bind fun t517 => (some (t517, true))) else (some (0, false)))) else (some (0, false))) = some (r1, r2) := H
 have A3 := am_ A30
 clear A30
 by_cases c4 : t515 = true
 ·subst c4
  have H1 : ((impl_in.f a1 0 a0_0).bind fun t516 => (if t516 = true then ((impl_Bits_count.f k a0_0 l0_1 0 a1).bind fun t517 => (some (t517, true))) else (some (0, false)))) = some (r1, r2) := by rw [if_pos rfl] at H; exact H
  clear H
  have H := H1
  clear H1
  replace H := Option.bind_eq_some_iff.mp H
  obtain ⟨t516, A50, H⟩ := H
  replace H : (if t516 = true then ((impl_Bits_count.f k a0_0 l0_1 0 a1).bind fun t517 => (some (t517, true))) else (some (0, false))) = some (r1, r2) := H
  have A5 := am_ A50
  clear A50
  by_cases c6 : t516 = true
  ·subst c6
   have H1 : ((impl_Bits_count.f k a0_0 l0_1 0 a1).bind fun t517 => (some (t517, true))) = some (r1, r2) := by rw [if_pos rfl] at H; exact H
   clear H
   have H := H1
   clear H1
   replace H := Option.bind_eq_some_iff.mp H
   obtain ⟨t517, A70, H⟩ := H
   replace H : (some (t517, true)) = some (r1, r2) := H
   have A7 := am_ A70
   clear A70
   simp only [Option.some.injEq, Prod.mk.injEq] at H
   obtain ⟨rfl, rfl⟩ := H
   go_enter Try.func56, Try.ntmps56
   go_wp2_with (first | ((with_reducible refine gate_dst (N := 2) rfl ?_); refine bev_ 2 #[.int .i64 a0_0, .slice A0_1 l0_1.length c0_1, .slice A0_2 l0_2.length c0_2, .slice A0_3 l0_3.length c0_3] 48 rfl rfl ?_; intro gb514 hg w8 hbox hb; have BK514 := am_ (hbox); have GW514 := am_ ((by rw [hg]; exact (below_size (lw_ HB)) : w.heap.size ≤ gb514)); have GE514 := am_ ((by rw [hg]; exact (below_size (lw_ HB)) : w.heap.size ≤ gb514)); replace HB := am_ (below_step (lw_ HB) hb); clear hb hbox hg; obtain ⟨hcz9_0, hcz9_1, hcz9_2, hcz9_3, hfz9_0, hfz9_1, hfz9_2, hfz9_3⟩ := bx4_ BK514.out) | ((with_reducible refine gate_callee (f := 55) rfl ?_); refine goesL_ (some 7) rfl rfl Try.func55 (by kernel_rfl) rfl #[.agg #[.int .i64 a0_0, .slice A0_1 l0_1.length c0_1, .slice A0_2 l0_2.length c0_2, .slice A0_3 l0_3.length c0_3]] rfl lm_ ?_; (with_reducible refine (impl_IsRanked.calls k a0_0 _ _ l0_1 _ _ l0_2 _ _ l0_3 true _ ?side1 ?side2 ?side3 ?side4 ?side5 ?side6 A3.out).mono ?_); (case side1 => exact lc_ (Kd.C_below HR0_1.out HB.out)); (case side2 => exact HC0_1.out); (case side3 => exact lc_ (Kd.C_below HR0_2.out HB.out)); (case side4 => exact HC0_2.out); (case side5 => exact lc_ (Kd.C_below HR0_3.out HB.out)); (case side6 => exact HC0_3.out); rintro e w10 ⟨rfl, hb⟩; refine ⟨_, rfl, ?_⟩; replace BK514 := am_ (blk_below (g := gb514) (lb_ BK514) hb); replace HB := am_ (below_step (lw_ HB) hb); (try clear hb); (try clear hb2); (try clear hk); (try clear hi); obtain ⟨hcz11_0, hcz11_1, hcz11_2, hcz11_3, hfz11_0, hfz11_1, hfz11_2, hfz11_3⟩ := bx4_ BK514.out) | (go_at_call 74; (with_reducible refine (impl_in.calls a1 0 a0_0 true _ A5.out).mono ?_); rintro e w' ⟨rfl, ⟨nd, rfl⟩⟩) | ((with_reducible refine gate_callee (f := 104) rfl ?_); refine goesL_ (some 19) rfl rfl Try.func104 (by kernel_rfl) rfl #[.pointer (some ⟨gb514, 0, none⟩), .int .i64 0, .int .i64 a1] rfl lm_ ?_; (with_reducible refine (impl_Bits_count.calls k gb514 [.slice A0_2 l0_2.length c0_2, .slice A0_3 l0_3.length c0_3] 48 a0_0 A0_1 c0_1 l0_1 0 a1 t517 _ ?side1 ?side2 ?side3 A7.out).mono ?_); (case side1 => exact lb_ BK514); (case side2 => exact lc_ (Kd.C_below HR0_1.out (lw_ HB))); (case side3 => exact HC0_1.out); rintro e w12 ⟨rfl, hb⟩; refine ⟨_, rfl, ?_⟩; replace BK514 := am_ (blk_below (g := gb514) (lb_ BK514) hb); replace HB := am_ (below_step (lw_ HB) hb); (try clear hb); (try clear hb2); (try clear hk); (try clear hi)))
   go_ret2
   exact ⟨er_, lw_ HB⟩
  ·replace c6 := Bool.eq_false_iff.mpr c6
   subst c6
   have H1 : (some (0, false)) = some (r1, r2) := by rw [if_neg (show ¬ (false = true) by decide)] at H; exact H
   clear H
   have H := H1
   clear H1
   simp only [Option.some.injEq, Prod.mk.injEq] at H
   obtain ⟨rfl, rfl⟩ := H
   go_enter Try.func56, Try.ntmps56
   go_wp2_with (first | ((with_reducible refine gate_dst (N := 2) rfl ?_); refine bev_ 2 #[.int .i64 a0_0, .slice A0_1 l0_1.length c0_1, .slice A0_2 l0_2.length c0_2, .slice A0_3 l0_3.length c0_3] 48 rfl rfl ?_; intro gb514 hg w13 hbox hb; have BK514 := am_ (hbox); have GW514 := am_ ((by rw [hg]; exact (below_size (lw_ HB)) : w.heap.size ≤ gb514)); have GE514 := am_ ((by rw [hg]; exact (below_size (lw_ HB)) : w.heap.size ≤ gb514)); replace HB := am_ (below_step (lw_ HB) hb); clear hb hbox hg; obtain ⟨hcz14_0, hcz14_1, hcz14_2, hcz14_3, hfz14_0, hfz14_1, hfz14_2, hfz14_3⟩ := bx4_ BK514.out) | ((with_reducible refine gate_callee (f := 55) rfl ?_); refine goesL_ (some 7) rfl rfl Try.func55 (by kernel_rfl) rfl #[.agg #[.int .i64 a0_0, .slice A0_1 l0_1.length c0_1, .slice A0_2 l0_2.length c0_2, .slice A0_3 l0_3.length c0_3]] rfl lm_ ?_; (with_reducible refine (impl_IsRanked.calls k a0_0 _ _ l0_1 _ _ l0_2 _ _ l0_3 true _ ?side1 ?side2 ?side3 ?side4 ?side5 ?side6 A3.out).mono ?_); (case side1 => exact lc_ (Kd.C_below HR0_1.out HB.out)); (case side2 => exact HC0_1.out); (case side3 => exact lc_ (Kd.C_below HR0_2.out HB.out)); (case side4 => exact HC0_2.out); (case side5 => exact lc_ (Kd.C_below HR0_3.out HB.out)); (case side6 => exact HC0_3.out); rintro e w15 ⟨rfl, hb⟩; refine ⟨_, rfl, ?_⟩; replace BK514 := am_ (blk_below (g := gb514) (lb_ BK514) hb); replace HB := am_ (below_step (lw_ HB) hb); (try clear hb); (try clear hb2); (try clear hk); (try clear hi); obtain ⟨hcz16_0, hcz16_1, hcz16_2, hcz16_3, hfz16_0, hfz16_1, hfz16_2, hfz16_3⟩ := bx4_ BK514.out) | (go_at_call 74; (with_reducible refine (impl_in.calls a1 0 a0_0 false _ A5.out).mono ?_); rintro e w' ⟨rfl, ⟨nd, rfl⟩⟩))
   go_ret2
   exact ⟨er_, lw_ HB⟩
 ·replace c4 := Bool.eq_false_iff.mpr c4
  subst c4
  have H1 : (some (0, false)) = some (r1, r2) := by rw [if_neg (show ¬ (false = true) by decide)] at H; exact H
  clear H
  have H := H1
  clear H1
  simp only [Option.some.injEq, Prod.mk.injEq] at H
  obtain ⟨rfl, rfl⟩ := H
  go_enter Try.func56, Try.ntmps56
  go_wp2_with (first | ((with_reducible refine gate_dst (N := 2) rfl ?_); refine bev_ 2 #[.int .i64 a0_0, .slice A0_1 l0_1.length c0_1, .slice A0_2 l0_2.length c0_2, .slice A0_3 l0_3.length c0_3] 48 rfl rfl ?_; intro gb514 hg w17 hbox hb; have BK514 := am_ (hbox); have GW514 := am_ ((by rw [hg]; exact (below_size (lw_ HB)) : w.heap.size ≤ gb514)); have GE514 := am_ ((by rw [hg]; exact (below_size (lw_ HB)) : w.heap.size ≤ gb514)); replace HB := am_ (below_step (lw_ HB) hb); clear hb hbox hg; obtain ⟨hcz18_0, hcz18_1, hcz18_2, hcz18_3, hfz18_0, hfz18_1, hfz18_2, hfz18_3⟩ := bx4_ BK514.out) | ((with_reducible refine gate_callee (f := 55) rfl ?_); refine goesL_ (some 7) rfl rfl Try.func55 (by kernel_rfl) rfl #[.agg #[.int .i64 a0_0, .slice A0_1 l0_1.length c0_1, .slice A0_2 l0_2.length c0_2, .slice A0_3 l0_3.length c0_3]] rfl lm_ ?_; (with_reducible refine (impl_IsRanked.calls k a0_0 _ _ l0_1 _ _ l0_2 _ _ l0_3 false _ ?side1 ?side2 ?side3 ?side4 ?side5 ?side6 A3.out).mono ?_); (case side1 => exact lc_ (Kd.C_below HR0_1.out HB.out)); (case side2 => exact HC0_1.out); (case side3 => exact lc_ (Kd.C_below HR0_2.out HB.out)); (case side4 => exact HC0_2.out); (case side5 => exact lc_ (Kd.C_below HR0_3.out HB.out)); (case side6 => exact HC0_3.out); rintro e w19 ⟨rfl, hb⟩; refine ⟨_, rfl, ?_⟩; replace BK514 := am_ (blk_below (g := gb514) (lb_ BK514) hb); replace HB := am_ (below_step (lw_ HB) hb); (try clear hb); (try clear hb2); (try clear hk); (try clear hi)))
  go_ret2
  exact ⟨er_, lw_ HB⟩

/-! ### impl_OnesOf: function 54 -/
def impl_OnesOf.f (k : Nat) (a0_0 : Int) (l0_1 : List Int) (l0_2 : List Int) (l0_3 : List Int) : Option (Int × Bool) := (impl_Rank1.f k a0_0 l0_1 l0_2 l0_3 a0_0).bind fun bt519 => (some (bt519.1, bt519.2))
theorem impl_OnesOf.mono : ∀ a0 a1 a2 a3 k, LeO (impl_OnesOf.f k a0 a1 a2 a3) (impl_OnesOf.f (k + 1) a0 a1 a2 a3) := by
 intro a0 a1 a2 a3 k
 unfold impl_OnesOf.f
 repeat' first
   | (with_reducible exact impl_Rank1.mono _ _ _ _ _ _)
   | (with_reducible exact LeO.refl _)
   | (with_reducible exact LeO.none _)
   | (with_reducible refine LeO.ite ?_ ?_)
   | (with_reducible refine LeO.bind ?_ (fun _ => ?_))
   | exact impl_Rank1.mono _ _ _ _ _ _
   | exact LeO.none _
   | refine LeO.ite ?_ ?_
   | refine LeO.bind ?_ (fun _ => ?_)
set_option maxHeartbeats 8000000 in
set_option maxRecDepth 100000 in
theorem impl_OnesOf.calls (k : Nat) (a0_0 : Int) (A0_1 : Option Addr) (c0_1 : Nat) (l0_1 : List Int) (A0_2 : Option Addr) (c0_2 : Nat) (l0_2 : List Int) (A0_3 : Option Addr) (c0_3 : Nat) (l0_3 : List Int) (r1 : Int) (r2 : Bool) (w : World) (hr0_1 : Kd.C (Kd.int .i64) w A0_1 l0_1.length l0_1) (hc0_1 : l0_1.length ≤ c0_1) (hr0_2 : Kd.C (Kd.int .i64) w A0_2 l0_2.length l0_2) (hc0_2 : l0_2.length ≤ c0_2) (hr0_3 : Kd.C (Kd.int .i64) w A0_3 l0_3.length l0_3) (hc0_3 : l0_3.length ≤ c0_3) (h : impl_OnesOf.f k a0_0 l0_1 l0_2 l0_3 = some (r1, r2)) :
  Calls Try.prog 54 #[.agg #[.int .i64 a0_0, .slice A0_1 l0_1.length c0_1, .slice A0_2 l0_2.length c0_2, .slice A0_3 l0_3.length c0_3]] w fun e w' => e = .returned (.tuple #[.int .i64 r1, .bool r2]) ∧ Below w.heap.size w w' := by
 have hu48 := Try.underlying48
 have HR0_1 := am_ hr0_1
 have HC0_1 := am_ hc0_1
 clear hr0_1 hc0_1
 have HR0_2 := am_ hr0_2
 have HC0_2 := am_ hc0_2
 clear hr0_2 hc0_2
 have HR0_3 := am_ hr0_3
 have HC0_3 := am_ hc0_3
 clear hr0_3 hc0_3
 have HB := am_ (Below.refl w.heap.size w)
 have H : ((impl_Rank1.f k a0_0 l0_1 l0_2 l0_3 a0_0).bind fun bt519 => (some (bt519.1, bt519.2))) = some (r1, r2) := h
 clear h
 replace H := Option.bind_eq_some_iff.mp H
 obtain ⟨⟨t519, t520⟩, A20, H⟩ := H
 replace H : (some (t519, t520)) = some (r1, r2) := H
 have A2 := am_ A20
 clear A20
 simp only [Option.some.injEq, Prod.mk.injEq] at H
 obtain ⟨rfl, rfl⟩ := H
 go_enter Try.func54, Try.ntmps54
 go_wp2_with (first | ((with_reducible refine gate_dst (N := 1) rfl ?_); refine bev_ 1 #[.int .i64 a0_0, .slice A0_1 l0_1.length c0_1, .slice A0_2 l0_2.length c0_2, .slice A0_3 l0_3.length c0_3] 48 rfl rfl ?_; intro gb518 hg w3 hbox hb; have BK518 := am_ (hbox); have GW518 := am_ ((by rw [hg]; exact (below_size (lw_ HB)) : w.heap.size ≤ gb518)); have GE518 := am_ ((by rw [hg]; exact (below_size (lw_ HB)) : w.heap.size ≤ gb518)); replace HB := am_ (below_step (lw_ HB) hb); clear hb hbox hg; obtain ⟨hcz4_0, hcz4_1, hcz4_2, hcz4_3, hfz4_0, hfz4_1, hfz4_2, hfz4_3⟩ := bx4_ BK518.out) | ((with_reducible refine gate_callee (f := 56) rfl ?_); refine goesL_ (some 8) rfl rfl Try.func56 (by kernel_rfl) rfl #[.agg #[.int .i64 a0_0, .slice A0_1 l0_1.length c0_1, .slice A0_2 l0_2.length c0_2, .slice A0_3 l0_3.length c0_3], .int .i64 a0_0] rfl lm_ ?_; (with_reducible refine (impl_Rank1.calls k a0_0 _ _ l0_1 _ _ l0_2 _ _ l0_3 a0_0 t519 t520 _ ?side1 ?side2 ?side3 ?side4 ?side5 ?side6 A2.out).mono ?_); (case side1 => exact lc_ (Kd.C_below HR0_1.out HB.out)); (case side2 => exact HC0_1.out); (case side3 => exact lc_ (Kd.C_below HR0_2.out HB.out)); (case side4 => exact HC0_2.out); (case side5 => exact lc_ (Kd.C_below HR0_3.out HB.out)); (case side6 => exact HC0_3.out); rintro e w5 ⟨rfl, hb⟩; refine ⟨_, rfl, ?_⟩; replace BK518 := am_ (blk_below (g := gb518) (lb_ BK518) hb); replace HB := am_ (below_step (lw_ HB) hb); (try clear hb); (try clear hb2); (try clear hk); (try clear hi)))
 go_ret2
 exact ⟨er_, lw_ HB⟩

end Go.Proofs.Ytkmhjgejficclaa.PFnRanksJoin
