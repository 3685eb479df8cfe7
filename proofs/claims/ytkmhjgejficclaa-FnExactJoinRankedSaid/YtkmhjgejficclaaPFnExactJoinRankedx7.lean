-- Laid by a program of this session: the print of the kit with additions of ours (wip/tools/patchprint.py). Nothing of it is trusted: Lean checks it.
import Derived.Test.YtkmhjgejficclaaPFnExactJoinRankedx0
import Derived.Test.YtkmhjgejficclaaPFnExactJoinRankedx5
import Derived.Test.YtkmhjgejficclaaPFnExactJoinRankedx6
namespace Go.Proofs.Ytkmhjgejficclaa.PFnExactJoinRanked
open Go.RowKit Go.Proofs.YtkmhjgejficclaaW.PrintWords Go.Proofs.YtkmhjgejficclaaW.PrintLast Go.Proofs.YtkmhjgejficclaaW.PrintMore
attribute [local go_sem] max2_int min2_int max_two min_two max_three min_three max_four min_four   -- for this text's walks alone
set_option linter.unusedVariables false
set_option linter.unusedSimpArgs false

/-! ### impl_JoinBits: function 26 -/
def impl_JoinBits.f (k : Nat) (a0_0 : Int) (l0_1 : List Int) (a1_0 : Int) (l1_1 : List Int) : Option (Int × List Int × Bool) := (impl_IsBits.f k a0_0 l0_1).bind fun t255 => (if t255 = true then ((impl_IsBits.f k a1_0 l1_1).bind fun t256 => (if t256 = true then (if (wrap64 (a0_0 + a1_0)) > 4096 then (some (0, ([] : List Int), false)) else ((impl_joinBits.f k a0_0 l0_1 a1_0 l1_1).bind fun bt257 => (some (bt257.1, bt257.2, true)))) else (some (0, ([] : List Int), false)))) else (some (0, ([] : List Int), false)))
theorem impl_JoinBits.mono : ∀ a0 a1 a2 a3 k, LeO (impl_JoinBits.f k a0 a1 a2 a3) (impl_JoinBits.f (k + 1) a0 a1 a2 a3) := by
 intro a0 a1 a2 a3 k
 unfold impl_JoinBits.f
 repeat' first
   | (with_reducible exact impl_IsBits.mono _ _ _)
   | (with_reducible exact impl_joinBits.mono _ _ _ _ _)
   | (with_reducible exact LeO.refl _)
   | (with_reducible exact LeO.none _)
   | (with_reducible refine LeO.ite ?_ ?_)
   | (with_reducible refine LeO.bind ?_ (fun _ => ?_))
   | exact impl_IsBits.mono _ _ _
   | exact impl_joinBits.mono _ _ _ _ _
   | exact LeO.none _
   | refine LeO.ite ?_ ?_
   | refine LeO.bind ?_ (fun _ => ?_)
set_option maxHeartbeats 8000000 in
set_option maxRecDepth 100000 in
theorem impl_JoinBits.calls (k : Nat) (a0_0 : Int) (A0_1 : Option Addr) (c0_1 : Nat) (l0_1 : List Int) (a1_0 : Int) (A1_1 : Option Addr) (c1_1 : Nat) (l1_1 : List Int) (r1 : Int) (r2 : List Int) (r3 : Bool) (w : World) (hr0_1 : Kd.C (Kd.int .i64) w A0_1 l0_1.length l0_1) (hc0_1 : l0_1.length ≤ c0_1) (hr1_1 : Kd.C (Kd.int .i64) w A1_1 l1_1.length l1_1) (hc1_1 : l1_1.length ≤ c1_1) (h : impl_JoinBits.f k a0_0 l0_1 a1_0 l1_1 = some (r1, r2, r3)) :
  Calls Try.prog 26 #[.agg #[.int .i64 a0_0, .slice A0_1 l0_1.length c0_1], .agg #[.int .i64 a1_0, .slice A1_1 l1_1.length c1_1]] w fun e w' => ∃ v1_ : Value, e = .returned (.tuple #[.agg #[.int .i64 r1, v1_], .bool r3]) ∧ Kd.R (Kd.int .i64) 3 w' w.heap.size (fun _ => True) v1_ r2 ∧ Below w.heap.size w w' := by
 have hu26 := Try.underlying26
 have HR0_1 := am_ hr0_1
 have HC0_1 := am_ hc0_1
 clear hr0_1 hc0_1
 have HR1_1 := am_ hr1_1
 have HC1_1 := am_ hc1_1
 clear hr1_1 hc1_1
 have HB := am_ (Below.refl w.heap.size w)
 have H : ((impl_IsBits.f k a0_0 l0_1).bind fun t255 => (if t255 = true then ((impl_IsBits.f k a1_0 l1_1).bind fun t256 => (if t256 = true then (if (wrap64 (a0_0 + a1_0)) > 4096 then (some (0, ([] : List Int), false)) else ((impl_joinBits.f k a0_0 l0_1 a1_0 l1_1).bind fun bt257 => (some (bt257.1, bt257.2, true)))) else (some (0, ([] : List Int), false)))) else (some (0, ([] : List Int), false)))) = some (r1, r2, r3) := h
 clear h
 replace H := Option.bind_eq_some_iff.mp H
 obtain ⟨t255, A30, H⟩ := H
 replace H : (if t255 = true then ((impl_IsBits.f k a1_0 l1_1).bind fun t256 => (if t256 = true then (if (wrap64 (a0_0 + a1_0)) > 4096 then (some (0, ([] : List Int), false)) else ((impl_joinBits.f k a0_0 l0_1 a1_0 l1_1).bind fun bt257 => (some (bt257.1, bt257.2, true)))) else (some (0, ([] : List Int), false)))) else (some (0, ([] : List Int), false))) = some (r1, r2, r3) := H
 have A3 := am_ A30
 clear A30
 by_cases c4 : t255 = true
 ·subst c4
  have H1 : ((impl_IsBits.f k a1_0 l1_1).bind fun t256 => (if t256 = true then (if (wrap64 (a0_0 + a1_0)) > 4096 then (some (0, ([] : List Int), false)) else ((impl_joinBits.f k a0_0 l0_1 a1_0 l1_1).bind fun bt257 => (some (bt257.1, bt257.2, true)))) else (some (0, ([] : List Int), false)))) = some (r1, r2, r3) := by rw [if_pos rfl] at H; exact H
  clear H
  have H := H1
  clear H1
  replace H := Option.bind_eq_some_iff.mp H
  obtain ⟨t256, A50, H⟩ := H
  replace H : (if t256 = true then (if (wrap64 (a0_0 + a1_0)) > 4096 then (some (0, ([] : List Int), false)) else ((impl_joinBits.f k a0_0 l0_1 a1_0 l1_1).bind fun bt257 => (some (bt257.1, bt257.2, true)))) else (some (0, ([] : List Int), false))) = some (r1, r2, r3) := H
  have A5 := am_ A50
  clear A50
  by_cases c6 : t256 = true
  ·subst c6
   have H1 : (if (wrap64 (a0_0 + a1_0)) > 4096 then (some (0, ([] : List Int), false)) else ((impl_joinBits.f k a0_0 l0_1 a1_0 l1_1).bind fun bt257 => (some (bt257.1, bt257.2, true)))) = some (r1, r2, r3) := by rw [if_pos rfl] at H; exact H
   clear H
   have H := H1
   clear H1
   by_cases c7 : (wrap64 (a0_0 + a1_0)) > 4096
   ·rw [if_pos c7] at H
    have c7b0 : decide (4096 < (wrap64 (a0_0 + a1_0))) = true := decide_eq_true c7
    clear c7
    simp only [Option.some.injEq, Prod.mk.injEq] at H
    obtain ⟨rfl, rfl, rfl⟩ := H
    go_enter Try.func26, Try.ntmps26
    go_wp2_with (first | ((with_reducible refine gate_dst (N := 2) rfl ?_); refine bev_ 2 #[.int .i64 a0_0, .slice A0_1 l0_1.length c0_1] 26 rfl rfl ?_; intro gb252 hg w8 hbox hb; have BK252 := am_ (hbox); have GW252 := am_ ((by rw [hg]; exact (below_size (lw_ HB)) : w.heap.size ≤ gb252)); have GE252 := am_ ((by rw [hg]; exact (below_size (lw_ HB)) : w.heap.size ≤ gb252)); replace HB := am_ (below_step (lw_ HB) hb); clear hb hbox hg) | ((with_reducible refine gate_dst (N := 3) rfl ?_); refine bev_ 3 #[.int .i64 a1_0, .slice A1_1 l1_1.length c1_1] 26 rfl rfl ?_; intro gb253 hg w9 hbox hb; have BK253 := am_ (hbox); have GW253 := am_ ((by rw [hg]; exact (below_size (lw_ HB)) : w.heap.size ≤ gb253)); have GE253 := am_ ((by rw [hg]; exact (below_size (lw_ HB)) : w.heap.size ≤ gb253)); have NB252_253 := am_ ((by rw [hg]; exact Nat.ne_of_lt (blk_lt (g := gb252) (lb_ BK252)) : gb252 ≠ gb253)); have NB253_252 := am_ ((by rw [hg]; exact Nat.ne_of_gt (blk_lt (g := gb252) (lb_ BK252)) : gb253 ≠ gb252)); replace BK252 := am_ (blk_below (g := gb252) (lb_ BK252) hb); replace HB := am_ (below_step (lw_ HB) hb); clear hb hbox hg) | ((with_reducible refine gate_dst (N := 4) rfl ?_); refine bev_ 4 #[.int .i64 0, .slice none 0 0] 26 rfl rfl ?_; intro gb254 hg w10 hbox hb; have BK254 := am_ (hbox); have GW254 := am_ ((by rw [hg]; exact (below_size (lw_ HB)) : w.heap.size ≤ gb254)); have GE254 := am_ ((by rw [hg]; exact (below_size (lw_ HB)) : w.heap.size ≤ gb254)); have NB252_254 := am_ ((by rw [hg]; exact Nat.ne_of_lt (blk_lt (g := gb252) (lb_ BK252)) : gb252 ≠ gb254)); have NB254_252 := am_ ((by rw [hg]; exact Nat.ne_of_gt (blk_lt (g := gb252) (lb_ BK252)) : gb254 ≠ gb252)); have NB253_254 := am_ ((by rw [hg]; exact Nat.ne_of_lt (blk_lt (g := gb253) (lb_ BK253)) : gb253 ≠ gb254)); have NB254_253 := am_ ((by rw [hg]; exact Nat.ne_of_gt (blk_lt (g := gb253) (lb_ BK253)) : gb254 ≠ gb253)); replace BK252 := am_ (blk_below (g := gb252) (lb_ BK252) hb); replace BK253 := am_ (blk_below (g := gb253) (lb_ BK253) hb); replace HB := am_ (below_step (lw_ HB) hb); clear hb hbox hg; have hnb11 := NB252_253.out; have hnc11 := NB253_252.out; have hnb12 := NB252_254.out; have hnc12 := NB254_252.out; obtain ⟨hcz13_0, hcz13_1, hfz13_0, hfz13_1⟩ := bx2_ BK252.out) | ((with_reducible refine gate_callee (f := 73) rfl ?_); refine goesL_ (some 7) rfl rfl Try.func73 (by kernel_rfl) rfl #[.agg #[.int .i64 a0_0, .slice A0_1 l0_1.length c0_1]] rfl lm_ ?_; (with_reducible refine (impl_IsBits.calls k a0_0 _ _ l0_1 true _ ?side1 ?side2 A3.out).mono ?_); (case side1 => exact lc_ (Kd.C_below HR0_1.out HB.out)); (case side2 => exact HC0_1.out); rintro e w14 ⟨rfl, hb⟩; refine ⟨_, rfl, ?_⟩; replace BK252 := am_ (blk_below (g := gb252) (lb_ BK252) hb); replace BK253 := am_ (blk_below (g := gb253) (lb_ BK253) hb); replace BK254 := am_ (blk_below (g := gb254) (lb_ BK254) hb); replace HB := am_ (below_step (lw_ HB) hb); (try clear hb); (try clear hb2); (try clear hk); (try clear hi); have hnb15 := NB253_254.out; have hnc15 := NB254_253.out; obtain ⟨hcz16_0, hcz16_1, hfz16_0, hfz16_1⟩ := bx2_ BK253.out) | (go_at_call 73; (with_reducible refine (impl_IsBits.calls k a1_0 _ _ l1_1 true _ ?side1 ?side2 A5.out).mono ?_); (case side1 => exact lc_ (Kd.C_below HR1_1.out HB.out)); (case side2 => exact HC1_1.out); rintro e w17 ⟨rfl, hb⟩; replace BK252 := am_ (blk_below (g := gb252) (lb_ BK252) hb); replace BK253 := am_ (blk_below (g := gb253) (lb_ BK253) hb); replace BK254 := am_ (blk_below (g := gb254) (lb_ BK254) hb); replace HB := am_ (below_step (lw_ HB) hb); (try clear hb); (try clear hb2); (try clear hk); (try clear hi); obtain ⟨hcz18_0, hcz18_1, hfz18_0, hfz18_1⟩ := bx2_ BK252.out; obtain ⟨hcz19_0, hcz19_1, hfz19_0, hfz19_1⟩ := bx2_ BK253.out; obtain ⟨hcz20_0, hcz20_1, hfz20_0, hfz20_1⟩ := bx2_ BK254.out))
    refine bodyPost_ret (results_ct rfl _ _ gb254 26 #[.int .i64 0, .slice none 0 0] (0, 0) _ rfl (lq_ BK254) Try.underlying26 rfl (by kernel_rfl)) rfl ?_
    exact ⟨_, er_, by first | exact Kd.R_nil _ _ _ _ _ | exact Kd.N_nil _ _ _ _ _ | exact Kd.V_nil _ _ _ _ _ | exact Kd.Q_nil _ _ _ _ _ | exact Kd.S_nil _ _ _ _ _, lw_ HB⟩
   ·rw [if_neg c7] at H
    have c7b0 : decide (4096 < (wrap64 (a0_0 + a1_0))) = false := decide_eq_false c7
    clear c7
    replace H := Option.bind_eq_some_iff.mp H
    obtain ⟨⟨t257, t258⟩, A210, H⟩ := H
    replace H : (some (t257, t258, true)) = some (r1, r2, r3) := H
    have A21 := am_ A210
    clear A210
    simp only [Option.some.injEq, Prod.mk.injEq] at H
    obtain ⟨rfl, rfl, rfl⟩ := H
    go_enter Try.func26, Try.ntmps26
    go_wp2_with (first | ((with_reducible refine gate_dst (N := 2) rfl ?_); refine bev_ 2 #[.int .i64 a0_0, .slice A0_1 l0_1.length c0_1] 26 rfl rfl ?_; intro gb252 hg w22 hbox hb; have BK252 := am_ (hbox); have GW252 := am_ ((by rw [hg]; exact (below_size (lw_ HB)) : w.heap.size ≤ gb252)); have GE252 := am_ ((by rw [hg]; exact (below_size (lw_ HB)) : w.heap.size ≤ gb252)); replace HB := am_ (below_step (lw_ HB) hb); clear hb hbox hg) | ((with_reducible refine gate_dst (N := 3) rfl ?_); refine bev_ 3 #[.int .i64 a1_0, .slice A1_1 l1_1.length c1_1] 26 rfl rfl ?_; intro gb253 hg w23 hbox hb; have BK253 := am_ (hbox); have GW253 := am_ ((by rw [hg]; exact (below_size (lw_ HB)) : w.heap.size ≤ gb253)); have GE253 := am_ ((by rw [hg]; exact (below_size (lw_ HB)) : w.heap.size ≤ gb253)); have NB252_253 := am_ ((by rw [hg]; exact Nat.ne_of_lt (blk_lt (g := gb252) (lb_ BK252)) : gb252 ≠ gb253)); have NB253_252 := am_ ((by rw [hg]; exact Nat.ne_of_gt (blk_lt (g := gb252) (lb_ BK252)) : gb253 ≠ gb252)); replace BK252 := am_ (blk_below (g := gb252) (lb_ BK252) hb); replace HB := am_ (below_step (lw_ HB) hb); clear hb hbox hg) | ((with_reducible refine gate_dst (N := 4) rfl ?_); refine bev_ 4 #[.int .i64 0, .slice none 0 0] 26 rfl rfl ?_; intro gb254 hg w24 hbox hb; have BK254 := am_ (hbox); have GW254 := am_ ((by rw [hg]; exact (below_size (lw_ HB)) : w.heap.size ≤ gb254)); have GE254 := am_ ((by rw [hg]; exact (below_size (lw_ HB)) : w.heap.size ≤ gb254)); have NB252_254 := am_ ((by rw [hg]; exact Nat.ne_of_lt (blk_lt (g := gb252) (lb_ BK252)) : gb252 ≠ gb254)); have NB254_252 := am_ ((by rw [hg]; exact Nat.ne_of_gt (blk_lt (g := gb252) (lb_ BK252)) : gb254 ≠ gb252)); have NB253_254 := am_ ((by rw [hg]; exact Nat.ne_of_lt (blk_lt (g := gb253) (lb_ BK253)) : gb253 ≠ gb254)); have NB254_253 := am_ ((by rw [hg]; exact Nat.ne_of_gt (blk_lt (g := gb253) (lb_ BK253)) : gb254 ≠ gb253)); replace BK252 := am_ (blk_below (g := gb252) (lb_ BK252) hb); replace BK253 := am_ (blk_below (g := gb253) (lb_ BK253) hb); replace HB := am_ (below_step (lw_ HB) hb); clear hb hbox hg; have hnb25 := NB252_253.out; have hnc25 := NB253_252.out; have hnb26 := NB252_254.out; have hnc26 := NB254_252.out; obtain ⟨hcz27_0, hcz27_1, hfz27_0, hfz27_1⟩ := bx2_ BK252.out) | ((with_reducible refine gate_callee (f := 73) rfl ?_); refine goesL_ (some 7) rfl rfl Try.func73 (by kernel_rfl) rfl #[.agg #[.int .i64 a0_0, .slice A0_1 l0_1.length c0_1]] rfl lm_ ?_; (with_reducible refine (impl_IsBits.calls k a0_0 _ _ l0_1 true _ ?side1 ?side2 A3.out).mono ?_); (case side1 => exact lc_ (Kd.C_below HR0_1.out HB.out)); (case side2 => exact HC0_1.out); rintro e w28 ⟨rfl, hb⟩; refine ⟨_, rfl, ?_⟩; replace BK252 := am_ (blk_below (g := gb252) (lb_ BK252) hb); replace BK253 := am_ (blk_below (g := gb253) (lb_ BK253) hb); replace BK254 := am_ (blk_below (g := gb254) (lb_ BK254) hb); replace HB := am_ (below_step (lw_ HB) hb); (try clear hb); (try clear hb2); (try clear hk); (try clear hi); have hnb29 := NB253_254.out; have hnc29 := NB254_253.out; obtain ⟨hcz30_0, hcz30_1, hfz30_0, hfz30_1⟩ := bx2_ BK253.out) | (go_at_call 73; (with_reducible refine (impl_IsBits.calls k a1_0 _ _ l1_1 true _ ?side1 ?side2 A5.out).mono ?_); (case side1 => exact lc_ (Kd.C_below HR1_1.out HB.out)); (case side2 => exact HC1_1.out); rintro e w31 ⟨rfl, hb⟩; replace BK252 := am_ (blk_below (g := gb252) (lb_ BK252) hb); replace BK253 := am_ (blk_below (g := gb253) (lb_ BK253) hb); replace BK254 := am_ (blk_below (g := gb254) (lb_ BK254) hb); replace HB := am_ (below_step (lw_ HB) hb); (try clear hb); (try clear hb2); (try clear hk); (try clear hi); obtain ⟨hcz32_0, hcz32_1, hfz32_0, hfz32_1⟩ := bx2_ BK252.out; obtain ⟨hcz33_0, hcz33_1, hfz33_0, hfz33_1⟩ := bx2_ BK253.out) | ((with_reducible refine gate_callee (f := 84) rfl ?_); refine goesL_ (some 25) rfl rfl Try.func84 (by kernel_rfl) rfl #[.agg #[.int .i64 a0_0, .slice A0_1 l0_1.length c0_1], .agg #[.int .i64 a1_0, .slice A1_1 l1_1.length c1_1]] rfl lm_ ?_; (with_reducible refine (impl_joinBits.calls k a0_0 _ _ l0_1 a1_0 _ _ l1_1 t257 t258 _ ?side1 ?side2 ?side3 ?side4 A21.out).mono ?_); (case side1 => exact lc_ (Kd.C_below HR0_1.out HB.out)); (case side2 => exact HC0_1.out); (case side3 => exact lc_ (Kd.C_below HR1_1.out HB.out)); (case side4 => exact HC1_1.out); rintro e w34 ⟨v259, rfl, ho0, hb⟩; refine ⟨_, rfl, ?_⟩; have HO260 := am_ (Kd.R_lower ho0 (below_size (lw_ HB))); replace BK252 := am_ (blk_below (g := gb252) (lb_ BK252) hb); replace BK253 := am_ (blk_below (g := gb253) (lb_ BK253) hb); replace BK254 := am_ (blk_below (g := gb254) (lb_ BK254) hb); replace HB := am_ (below_step (lw_ HB) hb); (try clear hb); (try clear hb2); (try clear hk); (try clear hi); (try clear ho0); obtain ⟨hcz35_0, hcz35_1, hfz35_0, hfz35_1⟩ := bx2_ BK254.out; obtain ⟨Ao36, co36, eo36⟩ := Kd.R_slice HO260.out; subst eo36))
    refine bodyPost_ret (results_ct rfl _ _ gb254 26 #[.int .i64 t257, .slice Ao36 t258.length co36] (0, 0) _ rfl (lq_ BK254) Try.underlying26 rfl (by kernel_rfl)) rfl ?_
    exact ⟨_, er_, lt_ (mt_ (fr2_ HO260.out BK254.out (.int .i64 t257) (.slice Ao36 t258.length co36))), lw_ HB⟩
  ·replace c6 := Bool.eq_false_iff.mpr c6
   subst c6
   have H1 : (some (0, ([] : List Int), false)) = some (r1, r2, r3) := by rw [if_neg (show ¬ (false = true) by decide)] at H; exact H
   clear H
   have H := H1
   clear H1
   simp only [Option.some.injEq, Prod.mk.injEq] at H
   obtain ⟨rfl, rfl, rfl⟩ := H
   go_enter Try.func26, Try.ntmps26
   go_wp2_with (first | ((with_reducible refine gate_dst (N := 2) rfl ?_); refine bev_ 2 #[.int .i64 a0_0, .slice A0_1 l0_1.length c0_1] 26 rfl rfl ?_; intro gb252 hg w37 hbox hb; have BK252 := am_ (hbox); have GW252 := am_ ((by rw [hg]; exact (below_size (lw_ HB)) : w.heap.size ≤ gb252)); have GE252 := am_ ((by rw [hg]; exact (below_size (lw_ HB)) : w.heap.size ≤ gb252)); replace HB := am_ (below_step (lw_ HB) hb); clear hb hbox hg) | ((with_reducible refine gate_dst (N := 3) rfl ?_); refine bev_ 3 #[.int .i64 a1_0, .slice A1_1 l1_1.length c1_1] 26 rfl rfl ?_; intro gb253 hg w38 hbox hb; have BK253 := am_ (hbox); have GW253 := am_ ((by rw [hg]; exact (below_size (lw_ HB)) : w.heap.size ≤ gb253)); have GE253 := am_ ((by rw [hg]; exact (below_size (lw_ HB)) : w.heap.size ≤ gb253)); have NB252_253 := am_ ((by rw [hg]; exact Nat.ne_of_lt (blk_lt (g := gb252) (lb_ BK252)) : gb252 ≠ gb253)); have NB253_252 := am_ ((by rw [hg]; exact Nat.ne_of_gt (blk_lt (g := gb252) (lb_ BK252)) : gb253 ≠ gb252)); replace BK252 := am_ (blk_below (g := gb252) (lb_ BK252) hb); replace HB := am_ (below_step (lw_ HB) hb); clear hb hbox hg) | ((with_reducible refine gate_dst (N := 4) rfl ?_); refine bev_ 4 #[.int .i64 0, .slice none 0 0] 26 rfl rfl ?_; intro gb254 hg w39 hbox hb; have BK254 := am_ (hbox); have GW254 := am_ ((by rw [hg]; exact (below_size (lw_ HB)) : w.heap.size ≤ gb254)); have GE254 := am_ ((by rw [hg]; exact (below_size (lw_ HB)) : w.heap.size ≤ gb254)); have NB252_254 := am_ ((by rw [hg]; exact Nat.ne_of_lt (blk_lt (g := gb252) (lb_ BK252)) : gb252 ≠ gb254)); have NB254_252 := am_ ((by rw [hg]; exact Nat.ne_of_gt (blk_lt (g := gb252) (lb_ BK252)) : gb254 ≠ gb252)); have NB253_254 := am_ ((by rw [hg]; exact Nat.ne_of_lt (blk_lt (g := gb253) (lb_ BK253)) : gb253 ≠ gb254)); have NB254_253 := am_ ((by rw [hg]; exact Nat.ne_of_gt (blk_lt (g := gb253) (lb_ BK253)) : gb254 ≠ gb253)); replace BK252 := am_ (blk_below (g := gb252) (lb_ BK252) hb); replace BK253 := am_ (blk_below (g := gb253) (lb_ BK253) hb); replace HB := am_ (below_step (lw_ HB) hb); clear hb hbox hg; have hnb40 := NB252_253.out; have hnc40 := NB253_252.out; have hnb41 := NB252_254.out; have hnc41 := NB254_252.out; obtain ⟨hcz42_0, hcz42_1, hfz42_0, hfz42_1⟩ := bx2_ BK252.out) | ((with_reducible refine gate_callee (f := 73) rfl ?_); refine goesL_ (some 7) rfl rfl Try.func73 (by kernel_rfl) rfl #[.agg #[.int .i64 a0_0, .slice A0_1 l0_1.length c0_1]] rfl lm_ ?_; (with_reducible refine (impl_IsBits.calls k a0_0 _ _ l0_1 true _ ?side1 ?side2 A3.out).mono ?_); (case side1 => exact lc_ (Kd.C_below HR0_1.out HB.out)); (case side2 => exact HC0_1.out); rintro e w43 ⟨rfl, hb⟩; refine ⟨_, rfl, ?_⟩; replace BK252 := am_ (blk_below (g := gb252) (lb_ BK252) hb); replace BK253 := am_ (blk_below (g := gb253) (lb_ BK253) hb); replace BK254 := am_ (blk_below (g := gb254) (lb_ BK254) hb); replace HB := am_ (below_step (lw_ HB) hb); (try clear hb); (try clear hb2); (try clear hk); (try clear hi); have hnb44 := NB253_254.out; have hnc44 := NB254_253.out; obtain ⟨hcz45_0, hcz45_1, hfz45_0, hfz45_1⟩ := bx2_ BK253.out) | (go_at_call 73; (with_reducible refine (impl_IsBits.calls k a1_0 _ _ l1_1 false _ ?side1 ?side2 A5.out).mono ?_); (case side1 => exact lc_ (Kd.C_below HR1_1.out HB.out)); (case side2 => exact HC1_1.out); rintro e w46 ⟨rfl, hb⟩; replace BK252 := am_ (blk_below (g := gb252) (lb_ BK252) hb); replace BK253 := am_ (blk_below (g := gb253) (lb_ BK253) hb); replace BK254 := am_ (blk_below (g := gb254) (lb_ BK254) hb); replace HB := am_ (below_step (lw_ HB) hb); (try clear hb); (try clear hb2); (try clear hk); (try clear hi); obtain ⟨hcz47_0, hcz47_1, hfz47_0, hfz47_1⟩ := bx2_ BK254.out))
   refine bodyPost_ret (results_ct rfl _ _ gb254 26 #[.int .i64 0, .slice none 0 0] (0, 0) _ rfl (lq_ BK254) Try.underlying26 rfl (by kernel_rfl)) rfl ?_
   exact ⟨_, er_, by first | exact Kd.R_nil _ _ _ _ _ | exact Kd.N_nil _ _ _ _ _ | exact Kd.V_nil _ _ _ _ _ | exact Kd.Q_nil _ _ _ _ _ | exact Kd.S_nil _ _ _ _ _, lw_ HB⟩
 ·replace c4 := Bool.eq_false_iff.mpr c4
  subst c4
  have H1 : (some (0, ([] : List Int), false)) = some (r1, r2, r3) := by rw [if_neg (show ¬ (false = true) by decide)] at H; exact H
  clear H
  have H := H1
  clear H1
  simp only [Option.some.injEq, Prod.mk.injEq] at H
  obtain ⟨rfl, rfl, rfl⟩ := H
  go_enter Try.func26, Try.ntmps26
  go_wp2_with (first | ((with_reducible refine gate_dst (N := 2) rfl ?_); refine bev_ 2 #[.int .i64 a0_0, .slice A0_1 l0_1.length c0_1] 26 rfl rfl ?_; intro gb252 hg w48 hbox hb; have BK252 := am_ (hbox); have GW252 := am_ ((by rw [hg]; exact (below_size (lw_ HB)) : w.heap.size ≤ gb252)); have GE252 := am_ ((by rw [hg]; exact (below_size (lw_ HB)) : w.heap.size ≤ gb252)); replace HB := am_ (below_step (lw_ HB) hb); clear hb hbox hg) | ((with_reducible refine gate_dst (N := 3) rfl ?_); refine bev_ 3 #[.int .i64 a1_0, .slice A1_1 l1_1.length c1_1] 26 rfl rfl ?_; intro gb253 hg w49 hbox hb; have BK253 := am_ (hbox); have GW253 := am_ ((by rw [hg]; exact (below_size (lw_ HB)) : w.heap.size ≤ gb253)); have GE253 := am_ ((by rw [hg]; exact (below_size (lw_ HB)) : w.heap.size ≤ gb253)); have NB252_253 := am_ ((by rw [hg]; exact Nat.ne_of_lt (blk_lt (g := gb252) (lb_ BK252)) : gb252 ≠ gb253)); have NB253_252 := am_ ((by rw [hg]; exact Nat.ne_of_gt (blk_lt (g := gb252) (lb_ BK252)) : gb253 ≠ gb252)); replace BK252 := am_ (blk_below (g := gb252) (lb_ BK252) hb); replace HB := am_ (below_step (lw_ HB) hb); clear hb hbox hg) | ((with_reducible refine gate_dst (N := 4) rfl ?_); refine bev_ 4 #[.int .i64 0, .slice none 0 0] 26 rfl rfl ?_; intro gb254 hg w50 hbox hb; have BK254 := am_ (hbox); have GW254 := am_ ((by rw [hg]; exact (below_size (lw_ HB)) : w.heap.size ≤ gb254)); have GE254 := am_ ((by rw [hg]; exact (below_size (lw_ HB)) : w.heap.size ≤ gb254)); have NB252_254 := am_ ((by rw [hg]; exact Nat.ne_of_lt (blk_lt (g := gb252) (lb_ BK252)) : gb252 ≠ gb254)); have NB254_252 := am_ ((by rw [hg]; exact Nat.ne_of_gt (blk_lt (g := gb252) (lb_ BK252)) : gb254 ≠ gb252)); have NB253_254 := am_ ((by rw [hg]; exact Nat.ne_of_lt (blk_lt (g := gb253) (lb_ BK253)) : gb253 ≠ gb254)); have NB254_253 := am_ ((by rw [hg]; exact Nat.ne_of_gt (blk_lt (g := gb253) (lb_ BK253)) : gb254 ≠ gb253)); replace BK252 := am_ (blk_below (g := gb252) (lb_ BK252) hb); replace BK253 := am_ (blk_below (g := gb253) (lb_ BK253) hb); replace HB := am_ (below_step (lw_ HB) hb); clear hb hbox hg; have hnb51 := NB252_253.out; have hnc51 := NB253_252.out; have hnb52 := NB252_254.out; have hnc52 := NB254_252.out; obtain ⟨hcz53_0, hcz53_1, hfz53_0, hfz53_1⟩ := bx2_ BK252.out) | ((with_reducible refine gate_callee (f := 73) rfl ?_); refine goesL_ (some 7) rfl rfl Try.func73 (by kernel_rfl) rfl #[.agg #[.int .i64 a0_0, .slice A0_1 l0_1.length c0_1]] rfl lm_ ?_; (with_reducible refine (impl_IsBits.calls k a0_0 _ _ l0_1 false _ ?side1 ?side2 A3.out).mono ?_); (case side1 => exact lc_ (Kd.C_below HR0_1.out HB.out)); (case side2 => exact HC0_1.out); rintro e w54 ⟨rfl, hb⟩; refine ⟨_, rfl, ?_⟩; replace BK252 := am_ (blk_below (g := gb252) (lb_ BK252) hb); replace BK253 := am_ (blk_below (g := gb253) (lb_ BK253) hb); replace BK254 := am_ (blk_below (g := gb254) (lb_ BK254) hb); replace HB := am_ (below_step (lw_ HB) hb); (try clear hb); (try clear hb2); (try clear hk); (try clear hi); have hnb55 := NB254_253.out; have hnc55 := NB253_254.out; obtain ⟨hcz56_0, hcz56_1, hfz56_0, hfz56_1⟩ := bx2_ BK254.out))
  refine bodyPost_ret (results_ct rfl _ _ gb254 26 #[.int .i64 0, .slice none 0 0] (0, 0) _ rfl (lq_ BK254) Try.underlying26 rfl (by kernel_rfl)) rfl ?_
  exact ⟨_, er_, by first | exact Kd.R_nil _ _ _ _ _ | exact Kd.N_nil _ _ _ _ _ | exact Kd.V_nil _ _ _ _ _ | exact Kd.Q_nil _ _ _ _ _ | exact Kd.S_nil _ _ _ _ _, lw_ HB⟩

/-! ### slices_Clone_int_int: function 124 (by hand) -/
def slices_Clone_int_int.f (l0 : List Int) : Option (List Int) := if l0.length < 17592186044416 then (some l0) else (none)
set_option maxHeartbeats 8000000 in
set_option maxRecDepth 100000 in
theorem slices_Clone_int_int.calls (A0 : Option Addr) (c0 : Nat) (l0 : List Int) (r : List Int) (w : World) (hr0 : Kd.C (Kd.int .i64) w A0 l0.length l0) (hc0 : l0.length ≤ c0) (h : slices_Clone_int_int.f l0 = some r) :
  Calls Try.prog 124 #[.slice A0 l0.length c0] w fun e w' => ∃ v0_ : Value, e = .returned (v0_) ∧ Kd.R (Kd.int .i64) 3 w' w.heap.size (fun _ => True) v0_ r ∧ Below w.heap.size w w' := by
 have hnil := fun (w : World) (a : Option Addr) (n c : Nat) => Lib.run_eql_slice_nil (P := Try.prog) w 22 3 a n c 0 0 Try.underlying22
 cases A0 with
 | none =>
  have hl : l0 = [] := by
   cases l0 with
   | nil => rfl
   | cons x xs => obtain ⟨_, e, _⟩ := Kd.at_int hr0 0 (by omega) (by simp only [List.length_cons]; omega); cases e
  subst hl
  obtain rfl : ([] : List Int) = r := by simpa [slices_Clone_int_int.f] using h
  go_enter Try.func124, Try.ntmps124
  go_wp2
  go_ret
  exact ⟨_, rfl, Kd.R_nil _ _ _ _ _, Below.refl _ _⟩
 | some a0 =>
 have HR0 := am_ hr0
 have HC0 := am_ hc0
 clear hr0 hc0
 have HB := am_ (Below.refl w.heap.size w)
 unfold slices_Clone_int_int.f at h
 by_cases c2 : l0.length < 17592186044416
 ·rw [if_pos c2] at h
  have LMc2 := am_ c2
  clear c2
  obtain rfl := Option.some.inj h
  clear h
  go_enter Try.func124, Try.ntmps124
  go_wp2_with (first | ((with_reducible refine gate_dst (N := 5) rfl ?_); refine Kd.R_lit (Kd.int .i64) _ 3 ?hg (N := 5) ?hd (xs := ([] : List Int)) (inner := []) (ok := fun _ => True) (okp := fun _ => True) ?hr ?hp (fun _ hk => hk) trivial (Below.refl _ _) (Nat.le_refl _) (by simp) ?_; (case hd => rfl); (case hg => rfl); (case hr => first | (go_simp; done) | (go_simp; rfl)); (case hp => exact (Reps.none _ _)); intro v118 w3 ho4 hb hg_ hnew_; clear hg_ hnew_; (first | done | skip); have HO119 := am_ (Kd.R_lower ho4 (below_size (lw_ HB))); replace HB := am_ (below_step (lw_ HB) hb); clear hb ho4) | ((with_reducible refine gate_builtin (b := .append) (xs := #[.tmp 5, .tmp 6]) rfl ?_); at_builtin; refine Kd.R_append_rows (Kd.int .i64) (w0 := w) w.heap.size rfl (.tmp 5) (.tmp 6) 22 3 (.int .i64 0) 8 rfl Try.underlying22 info3 rfl (by decide) (by omega) v118 ([] : List Int) l0 _ _ _ (fun _ => True) (fun _ => False) rfl rfl ?aO ?aR (fun _ _ h => h) (fun _ h => h.elim) ?aF ?aB ?aS ?aL ?_; (case aR => exact lc_ (Kd.C_below HR0.out HB.out)); (case aB => exact (lw_ HB)); (case aF => exact (fun _ _ => trivial)); (case aO => exact (lf_ HO119)); (case aS => exact (below_size (lw_ HB))); (case aL => have := LMc2.out; simp only [List.length_nil]; omega); intro v121 w5 ho hb hg hat; have HO122 := am_ (ho); replace HB := am_ (hb); clear HO119; clear ho hb hg hat))
  go_ret
  exact ⟨_, rfl, lf_ HO122, lw_ HB⟩
 ·rw [if_neg c2] at h
  exact absurd h (by simp)

/-! ### impl_cloneBits: function 75 -/
def impl_cloneBits.f (a0_0 : Int) (l0_1 : List Int) : Option (Int × List Int) := (slices_Clone_int_int.f l0_1).bind fun t263 => (some (a0_0, t263))
set_option maxHeartbeats 8000000 in
set_option maxRecDepth 100000 in
theorem impl_cloneBits.calls (a0_0 : Int) (A0_1 : Option Addr) (c0_1 : Nat) (l0_1 : List Int) (r1 : Int) (r2 : List Int) (w : World) (hr0_1 : Kd.C (Kd.int .i64) w A0_1 l0_1.length l0_1) (hc0_1 : l0_1.length ≤ c0_1) (h : impl_cloneBits.f a0_0 l0_1 = some (r1, r2)) :
  Calls Try.prog 75 #[.agg #[.int .i64 a0_0, .slice A0_1 l0_1.length c0_1]] w fun e w' => ∃ v1_ : Value, e = .returned (.agg #[.int .i64 r1, v1_]) ∧ Kd.R (Kd.int .i64) 3 w' w.heap.size (fun _ => True) v1_ r2 ∧ Below w.heap.size w w' := by
 have hu26 := Try.underlying26
 have HR0_1 := am_ hr0_1
 have HC0_1 := am_ hc0_1
 clear hr0_1 hc0_1
 have HB := am_ (Below.refl w.heap.size w)
 have H : ((slices_Clone_int_int.f l0_1).bind fun t263 => (some (a0_0, t263))) = some (r1, r2) := h
 clear h
 replace H := Option.bind_eq_some_iff.mp H
 obtain ⟨t263, A20, H⟩ := H
 replace H : (some (a0_0, t263)) = some (r1, r2) := H
 have A2 := am_ A20
 clear A20
 simp only [Option.some.injEq, Prod.mk.injEq] at H
 obtain ⟨rfl, rfl⟩ := H
 go_enter Try.func75, Try.ntmps75
 try go_wp2_with (first | ((with_reducible refine gate_dst (N := 1) rfl ?_); refine bev_ 1 #[.int .i64 a0_0, .slice A0_1 l0_1.length c0_1] 26 rfl rfl ?_; intro gb261 hg w3 hbox hb; have BK261 := am_ (hbox); have GW261 := am_ ((by rw [hg]; exact (below_size (lw_ HB)) : w.heap.size ≤ gb261)); have GE261 := am_ ((by rw [hg]; exact (below_size (lw_ HB)) : w.heap.size ≤ gb261)); replace HB := am_ (below_step (lw_ HB) hb); clear hb hbox hg) | ((with_reducible refine gate_dst (N := 2) rfl ?_); refine bev_ 2 #[.int .i64 0, .slice none 0 0] 26 rfl rfl ?_; intro gb262 hg w4 hbox hb; have BK262 := am_ (hbox); have GW262 := am_ ((by rw [hg]; exact (below_size (lw_ HB)) : w.heap.size ≤ gb262)); have GE262 := am_ ((by rw [hg]; exact (below_size (lw_ HB)) : w.heap.size ≤ gb262)); have NB261_262 := am_ ((by rw [hg]; exact Nat.ne_of_lt (blk_lt (g := gb261) (lb_ BK261)) : gb261 ≠ gb262)); have NB262_261 := am_ ((by rw [hg]; exact Nat.ne_of_gt (blk_lt (g := gb261) (lb_ BK261)) : gb262 ≠ gb261)); replace BK261 := am_ (blk_below (g := gb261) (lb_ BK261) hb); replace HB := am_ (below_step (lw_ HB) hb); clear hb hbox hg))
 replace BK261 := am_ (blk_drew BK261.out); replace BK262 := am_ (blk_drew BK262.out); replace HB := am_ (below_drew1 HB.out)
 refine start_ (n := 7) (S := fun w' => w'.cell? ⟨gb261, 0, none⟩ = some (.int .i64 a0_0) ∧ w'.cell? ⟨gb261, 1, none⟩ = some (.slice A0_1 l0_1.length c0_1)) (ds := []) #[false, false, false, false, false, false, false] (by kernel_rfl) rfl rfl ⟨(blk_cell BK261.out 0).trans rfl, (blk_cell BK261.out 1).trans rfl⟩ (fun hHeld => ?_)
 generalize w4.drew = w5 at BK261 BK262 HB hHeld ⊢
 refine pure_ (i := 0) (N := some 3) (v := ?_) (a' := ?_) #[true, false, false, false, false, false, false] rfl rfl (by kernel_rfl) (fun _ _ _ h => h) (Or.inl ⟨by rfl, ?_⟩) ?_ ?_
 rotate_left
 ·intro w'
  go_simp
  with_reducible rfl
 rotate_left
 ·simp only [Act.put, List.setIfInBounds_toArray, List.set_cons_zero, List.set_cons_succ, i64_w, i32_w]
  rfl
 refine pure_ (i := 2) (N := some 5) (v := ?_) (a' := ?_) #[true, false, true, false, false, false, false] rfl rfl (by kernel_rfl) (fun _ _ _ h => h) (Or.inl ⟨by rfl, ?_⟩) ?_ ?_
 rotate_left
 ·intro w'
  go_simp
  with_reducible rfl
 rotate_left
 ·simp only [Act.put, List.setIfInBounds_toArray, List.set_cons_zero, List.set_cons_succ, i64_w, i32_w]
  rfl
 refine take_ (i := 1) (N := some 4) (v := ?_) (a' := ?_) #[true, true, true, false, false, false, false] rfl rfl (by kernel_rfl) (fun _ _ _ h => h) (Or.inl ⟨by rfl, ?_⟩) hHeld ?_ ?_
 rotate_left
 ·rintro w' ⟨s0, s1⟩
  go_simp
  with_reducible rfl
 rotate_left
 ·simp only [Act.put, List.setIfInBounds_toArray, List.set_cons_zero, List.set_cons_succ, i64_w, i32_w]
  rfl
 refine take_ (i := 3) (N := some 6) (v := ?_) (a' := ?_) #[true, true, true, true, false, false, false] rfl rfl (by kernel_rfl) (fun _ _ _ h => h) (Or.inl ⟨by rfl, ?_⟩) hHeld ?_ ?_
 rotate_left
 ·rintro w' ⟨s0, s1⟩
  go_simp
  with_reducible rfl
 rotate_left
 ·simp only [Act.put, List.setIfInBounds_toArray, List.set_cons_zero, List.set_cons_succ, i64_w, i32_w]
  rfl
 refine one_ (i := 4) (N := some 7) #[true, true, true, true, true, false, false] rfl rfl (by kernel_rfl) (by decide) (fun K hK => ?_)
 refine goes_ Try.func124 (by kernel_rfl) rfl #[.slice A0_1 l0_1.length c0_1] (by rfl) rfl rfl lm_ ?_
 with_reducible refine (slices_Clone_int_int.calls _ _ l0_1 t263 _ ?side1 ?side2 A2.out).mono ?_
 (case side1 => exact lc_ (Kd.C_below HR0_1.out HB.out))
 (case side2 => exact HC0_1.out)
 rintro e w6 ⟨v264, rfl, ho0, hb⟩
 refine ⟨_, rfl, ?_⟩
 have HO265 := am_ (Kd.R_lower ho0 (below_size (lw_ HB))); replace BK261 := am_ (blk_below (g := gb261) (lb_ BK261) hb); replace BK262 := am_ (blk_below (g := gb262) (lb_ BK262) hb); replace HB := am_ (below_step (lw_ HB) hb)
 (try clear hb)
 (try clear hb2)
 (try clear hk)
 (try clear hi)
 (try clear ho0)
 obtain ⟨Ao7, co7, eo7⟩ := Kd.R_slice HO265.out
 (first | subst eo7 | (injection eo7 with f1_ f2_ f3_; have f4_ := f1_.symm; have f5_ := f3_.symm; clear f1_ f2_ f3_; subst f4_; subst f5_))
 refine hK.out _ _ ⟨(blk_cell BK261.out 0).trans rfl, (blk_cell BK261.out 1).trans rfl⟩ (fun hHeld => ?_)
 clear hK K
 refine norm_ (a' := ?_) ?_ ?_
 rotate_left
 ·show Act.put _ (some 7) _ = _
  simp only [Act.put, List.setIfInBounds_toArray, List.set_cons_zero, List.set_cons_succ, i64_w, i32_w]
  rfl
 refine pure_ (i := 5) (N := some 8) (v := ?_) (a' := ?_) #[true, true, true, true, true, true, false] rfl rfl (by kernel_rfl) (fun _ _ _ h => h) (Or.inl ⟨by rfl, ?_⟩) ?_ ?_
 rotate_left
 ·intro w'
  go_simp
  with_reducible rfl
 rotate_left
 ·simp only [Act.put, List.setIfInBounds_toArray, List.set_cons_zero, List.set_cons_succ, i64_w, i32_w]
  rfl
 refine one_ (i := 6) (N := none) #[true, true, true, true, true, true, true] rfl rfl (by kernel_rfl) (by decide) (fun K hK => ?_)
 have hs8 : w6.cell? ⟨gb262, 0, none⟩ = some (.int .i64 0) := (blk_cell BK262.out 0).trans rfl
 have hfs8 := blk_frozen BK262.out 0
 have hns8_0 := NB261_262.out
 have hms8_0 := NB262_261.out
 have hs9 : w6.cell? ⟨gb262, 1, none⟩ = some (.slice none 0 0) := (blk_cell BK262.out 1).trans rfl
 have hfs9 := blk_frozen BK262.out 1
 have hns9_0 := NB261_262.out
 have hms9_0 := NB262_261.out
 refine skip_ (w1 := ?_) (by rfl) rfl ?_ ?_
 rotate_left
 ·go_simp
  rfl
 refine hK.out _ _ ⟨((cell_far (p := ⟨gb262, _, none⟩) NB261_262.out _).trans (((cell_far (p := ⟨gb262, _, none⟩) NB261_262.out _).trans (hHeld.1)))), ((cell_far (p := ⟨gb262, _, none⟩) NB261_262.out _).trans (((cell_far (p := ⟨gb262, _, none⟩) NB261_262.out _).trans (hHeld.2))))⟩ (fun hHeld => ?_)
 clear hK K
 refine done_ (by kernel_rfl) ?_
 try go_wp2
 refine bodyPost_ret (results_cell_row rfl _ _ gb262 26 #[.int .i64 a0_0, .slice Ao7 t263.length co7] (0, 0) _ rfl (lq_ BK262) Try.underlying26 rfl (by kernel_rfl)) rfl ?_
 exact ⟨_, er_, lt_ (mt_ (fr2_ HO265.out BK262.out (.int .i64 a0_0) (.slice Ao7 t263.length co7))), lw_ HB⟩

/-! ### impl_Bits_count: function 104 -/
def impl_Bits_count.l0 : Nat → Int → Int → Int → Int → List Int → Option (Int)
 | 0, _, _, _, _, _ => none
 | k + 1, x2, x7, x8, x1000, x1001 => if x8 < x2 then ((impl_Bits_at.f x1000 x1001 x8).bind fun t266 => (if t266 = true then (impl_Bits_count.l0 k x2 (wrap64 (x7 + 1)) (wrap64 (x8 + 1)) x1000 x1001) else (impl_Bits_count.l0 k x2 x7 (wrap64 (x8 + 1)) x1000 x1001))) else (some x7)
def impl_Bits_count.f (k : Nat) (a0_0 : Int) (l0_1 : List Int) (a1 : Int) (a2 : Int) : Option (Int) := impl_Bits_count.l0 k a2 0 a1 a0_0 l0_1
theorem impl_Bits_count.mono_l : ∀ k, (∀ y0 y1 y2 y3 y4, LeO (impl_Bits_count.l0 k y0 y1 y2 y3 y4) (impl_Bits_count.l0 (k + 1) y0 y1 y2 y3 y4))
 | 0 => fun _ _ _ _ _ r h => by simp [impl_Bits_count.l0] at h
 | k + 1 => by
  have ih0 := impl_Bits_count.mono_l k
  ·intro y0 y1 y2 y3 y4
   unfold impl_Bits_count.l0
   repeat' first
   | (with_reducible exact ih0 _ _ _ _ _)
   | (with_reducible exact LeO.refl _)
   | (with_reducible exact LeO.none _)
   | (with_reducible refine LeO.ite ?_ ?_)
   | (with_reducible refine LeO.bind ?_ (fun _ => ?_))
   | exact ih0 _ _ _ _ _
   | exact LeO.none _
   | refine LeO.ite ?_ ?_
   | refine LeO.bind ?_ (fun _ => ?_)
theorem impl_Bits_count.mono : ∀ a0 a1 a2 a3 k, LeO (impl_Bits_count.f k a0 a1 a2 a3) (impl_Bits_count.f (k + 1) a0 a1 a2 a3) := by
 intro a0 a1 a2 a3 k
 have ih0 := impl_Bits_count.mono_l k
 unfold impl_Bits_count.f
 repeat' first
   | (with_reducible exact ih0 _ _ _ _ _)
   | (with_reducible exact LeO.refl _)
   | (with_reducible exact LeO.none _)
   | (with_reducible refine LeO.ite ?_ ?_)
   | (with_reducible refine LeO.bind ?_ (fun _ => ?_))
   | exact ih0 _ _ _ _ _
   | exact LeO.none _
   | refine LeO.ite ?_ ?_
   | refine LeO.bind ?_ (fun _ => ?_)
set_option maxHeartbeats 8000000 in
set_option maxRecDepth 100000 in
theorem impl_Bits_count.calls (k : Nat) (g0 : Nat) (ex0 : List Value) (ty0 : TypeId) (a0_0 : Int) (A0_1 : Option Addr) (c0_1 : Nat) (l0_1 : List Int) (a1 : Int) (a2 : Int) (r : Int) (w : World) (hb0 : w.heap[g0]? = some (.cells ⟨.int .i64 a0_0 :: .slice A0_1 l0_1.length c0_1 :: ex0⟩ ty0 (0, 0))) (hr0_1 : Kd.C (Kd.int .i64) w A0_1 l0_1.length l0_1) (hc0_1 : l0_1.length ≤ c0_1) (h : impl_Bits_count.f k a0_0 l0_1 a1 a2 = some r) :
  Calls Try.prog 104 #[.pointer (some ⟨g0, 0, none⟩), .int .i64 a1, .int .i64 a2] w fun e w' => e = .returned (.int .i64 r) ∧ Below w.heap.size w w' := by
 have HR0_1 := am_ hr0_1
 have HC0_1 := am_ hc0_1
 clear hr0_1 hc0_1
 have BK0 := am_ hb0
 clear hb0
 have HB := am_ (Below.refl w.heap.size w)
 have H : (impl_Bits_count.l0 k a2 0 a1 a0_0 l0_1) = some r := h
 clear h
 have H' := am_ H
 clear H
 go_enter Try.func104, Try.ntmps104
 go_wp2
 go_loopg [7, 8] k (fun kq v7 v8 w' => ∃ (x7_1 : Int) (x8_1 : Int) (x1000_1 : Int), v7 = .int .i64 x7_1 ∧ v8 = .int .i64 x8_1 ∧ Aside0 (impl_Bits_count.l0 kq a2 x7_1 x8_1 x1000_1 l0_1 = some r) ∧ Aside0 (kq ≤ k) ∧ Aside0 (w'.heap[g0]? = some (.cells ⟨.int .i64 x1000_1 :: (.slice A0_1 l0_1.length c0_1) :: ex0⟩ ty0 (0, 0))) ∧ Aside0 (Below w.heap.size w w'))
 case atStart => exact ⟨(0), (a1), (a0_0), sr_, sr_, H', ⟨Nat.le_refl _⟩, ⟨lb_ BK0⟩, ⟨lw_ HB⟩⟩
 case round =>
  clear H'
  try clear c1
  try clear p2
  obtain ⟨x7_1, x8_1, x1000_1, rfl, rfl, HA, HK1, BK0, HB⟩ := hrel
  cases gk with
  | zero => exact absurd HA.out (by simp [impl_Bits_count.l0])
  | succ k1 =>
   have H := HA.out
   clear HA
   simp only [impl_Bits_count.l0] at H
   by_cases c4 : x8_1 < a2
   ·rw [if_pos c4] at H
    have c4b0 : decide (x8_1 < a2) = true := decide_eq_true c4
    clear c4
    replace H := Option.bind_eq_some_iff.mp H
    obtain ⟨t266, A50, H⟩ := H
    replace H : (if t266 = true then (impl_Bits_count.l0 k1 a2 (wrap64 (x7_1 + 1)) (wrap64 (x8_1 + 1)) x1000_1 l0_1) else (impl_Bits_count.l0 k1 a2 x7_1 (wrap64 (x8_1 + 1)) x1000_1 l0_1)) = some r := H
    have A5 := am_ A50
    clear A50
    by_cases c6 : t266 = true
    ·subst c6
     have H1 : (impl_Bits_count.l0 k1 a2 (wrap64 (x7_1 + 1)) (wrap64 (x8_1 + 1)) x1000_1 l0_1) = some r := by rw [if_pos rfl] at H; exact H
     clear H
     have H := H1
     clear H1
     have H' := am_ H
     clear H
     go_wp2_with (first | ((with_reducible refine gate_callee (f := 82) rfl ?_); refine goesL_ (some 17) rfl rfl Try.func82 (by kernel_rfl) rfl #[.pointer (some ⟨g0, 0, none⟩), .int .i64 x8_1] rfl lm_ ?_; (with_reducible refine (impl_Bits_at.calls g0 ex0 ty0 x1000_1 A0_1 c0_1 l0_1 x8_1 true _ ?side1 ?side2 ?side3 A5.out).mono ?_); (case side1 => exact lb_ BK0); (case side2 => exact lc_ (Kd.C_below HR0_1.out HB.out)); (case side3 => exact HC0_1.out); rintro e w7 ⟨rfl, hb⟩; refine ⟨_, rfl, ?_⟩; replace BK0 := am_ (blk_below (g := g0) (lb_ BK0) hb); replace HB := am_ (below_step (lw_ HB) hb); (try clear hb); (try clear hb2); (try clear hk); (try clear hi)))
     go_roundg k1
     case measure => have := HK1.out; omega
     case rel => exact ⟨(wrap64 (x7_1 + 1)), (wrap64 (x8_1 + 1)), (x1000_1), sr_, sr_, H', ⟨by have := HK1.out; omega⟩, ⟨lb_ BK0⟩, ⟨lw_ HB⟩⟩
    ·replace c6 := Bool.eq_false_iff.mpr c6
     subst c6
     have H1 : (impl_Bits_count.l0 k1 a2 x7_1 (wrap64 (x8_1 + 1)) x1000_1 l0_1) = some r := by rw [if_neg (show ¬ (false = true) by decide)] at H; exact H
     clear H
     have H := H1
     clear H1
     have H' := am_ H
     clear H
     go_wp2_with (first | ((with_reducible refine gate_callee (f := 82) rfl ?_); refine goesL_ (some 17) rfl rfl Try.func82 (by kernel_rfl) rfl #[.pointer (some ⟨g0, 0, none⟩), .int .i64 x8_1] rfl lm_ ?_; (with_reducible refine (impl_Bits_at.calls g0 ex0 ty0 x1000_1 A0_1 c0_1 l0_1 x8_1 false _ ?side1 ?side2 ?side3 A5.out).mono ?_); (case side1 => exact lb_ BK0); (case side2 => exact lc_ (Kd.C_below HR0_1.out HB.out)); (case side3 => exact HC0_1.out); rintro e w8 ⟨rfl, hb⟩; refine ⟨_, rfl, ?_⟩; replace BK0 := am_ (blk_below (g := g0) (lb_ BK0) hb); replace HB := am_ (below_step (lw_ HB) hb); (try clear hb); (try clear hb2); (try clear hk); (try clear hi)))
     go_roundg k1
     case measure => have := HK1.out; omega
     case rel => exact ⟨(x7_1), (wrap64 (x8_1 + 1)), (x1000_1), sr_, sr_, H', ⟨by have := HK1.out; omega⟩, ⟨lb_ BK0⟩, ⟨lw_ HB⟩⟩
   ·rw [if_neg c4] at H
    have c4b0 : decide (x8_1 < a2) = false := decide_eq_false c4
    clear c4
    obtain rfl := Option.some.inj H
    go_wp2
    go_ret
    exact ⟨er_, lw_ HB⟩

/-! ### impl_ranked: function 96 -/
def impl_ranked.l0 : Nat → Int → Int → Int → Int → Int → List Int → Int → List Int → List Int → List Int → Option (Int × List Int × List Int × List Int)
 | 0, _, _, _, _, _, _, _, _, _, _ => none
 | k + 1, x4, x5, x6, x7, x268000, x268001, x274000, x274001, x274002, x274003 => if x6 < x268000 then (if (Int.tmod x6 64) = 0 then (if x274002.length < 17592186044416 then (if x274003.length < 17592186044416 then ((impl_Bits_count.f k x268000 x268001 x6 (mn (wrap64 (x6 + 16)) x268000)).bind fun t280 => (impl_ranked.l0 k (wrap64 (x4 + t280)) x4 (wrap64 (x6 + 16)) (wrap64 (x7 + 1)) x268000 x268001 x274000 x274001 (x274002 ++ [x4]) (x274003 ++ [0]))) else (none)) else (none)) else (if x274003.length < 17592186044416 then ((impl_Bits_count.f k x268000 x268001 x6 (mn (wrap64 (x6 + 16)) x268000)).bind fun t284 => (impl_ranked.l0 k (wrap64 (x4 + t284)) x5 (wrap64 (x6 + 16)) (wrap64 (x7 + 1)) x268000 x268001 x274000 x274001 x274002 (x274003 ++ [wrap64 (x4 - x5)]))) else (none))) else (some (x274000, x274001, x274002, x274003))
def impl_ranked.f (k : Nat) (a0_0 : Int) (l0_1 : List Int) : Option (Int × List Int × List Int × List Int) := (impl_cloneBits.f a0_0 l0_1).bind fun bt269 => (impl_ranked.l0 k 0 0 0 0 a0_0 l0_1 bt269.1 bt269.2 ([] : List Int) ([] : List Int))
theorem impl_ranked.mono_l : ∀ k, (∀ y0 y1 y2 y3 y4 y5 y6 y7 y8 y9, LeO (impl_ranked.l0 k y0 y1 y2 y3 y4 y5 y6 y7 y8 y9) (impl_ranked.l0 (k + 1) y0 y1 y2 y3 y4 y5 y6 y7 y8 y9))
 | 0 => fun _ _ _ _ _ _ _ _ _ _ r h => by simp [impl_ranked.l0] at h
 | k + 1 => by
  have ih0 := impl_ranked.mono_l k
  ·intro y0 y1 y2 y3 y4 y5 y6 y7 y8 y9
   unfold impl_ranked.l0
   repeat' first
   | (with_reducible exact ih0 _ _ _ _ _ _ _ _ _ _)
   | (with_reducible exact impl_Bits_count.mono _ _ _ _ _)
   | (with_reducible exact LeO.refl _)
   | (with_reducible exact LeO.none _)
   | (with_reducible refine LeO.ite ?_ ?_)
   | (with_reducible refine LeO.bind ?_ (fun _ => ?_))
   | exact ih0 _ _ _ _ _ _ _ _ _ _
   | exact impl_Bits_count.mono _ _ _ _ _
   | exact LeO.none _
   | refine LeO.ite ?_ ?_
   | refine LeO.bind ?_ (fun _ => ?_)
theorem impl_ranked.mono : ∀ a0 a1 k, LeO (impl_ranked.f k a0 a1) (impl_ranked.f (k + 1) a0 a1) := by
 intro a0 a1 k
 have ih0 := impl_ranked.mono_l k
 unfold impl_ranked.f
 repeat' first
   | (with_reducible exact ih0 _ _ _ _ _ _ _ _ _ _)
   | (with_reducible exact impl_Bits_count.mono _ _ _ _ _)
   | (with_reducible exact LeO.refl _)
   | (with_reducible exact LeO.none _)
   | (with_reducible refine LeO.ite ?_ ?_)
   | (with_reducible refine LeO.bind ?_ (fun _ => ?_))
   | exact ih0 _ _ _ _ _ _ _ _ _ _
   | exact impl_Bits_count.mono _ _ _ _ _
   | exact LeO.none _
   | refine LeO.ite ?_ ?_
   | refine LeO.bind ?_ (fun _ => ?_)
set_option maxHeartbeats 8000000 in
set_option maxRecDepth 100000 in
theorem impl_ranked.calls (k : Nat) (a0_0 : Int) (A0_1 : Option Addr) (c0_1 : Nat) (l0_1 : List Int) (r1 : Int) (r2 : List Int) (r3 : List Int) (r4 : List Int) (w : World) (hr0_1 : Kd.C (Kd.int .i64) w A0_1 l0_1.length l0_1) (hc0_1 : l0_1.length ≤ c0_1) (h : impl_ranked.f k a0_0 l0_1 = some (r1, r2, r3, r4)) :
  Calls Try.prog 96 #[.agg #[.int .i64 a0_0, .slice A0_1 l0_1.length c0_1]] w fun e w' => ∃ v1_ v2_ v3_ : Value, e = .returned (.agg #[.int .i64 r1, v1_, v2_, v3_]) ∧ Kd.R (Kd.int .i64) 3 w' w.heap.size (fun k_ => nb_ k_ v2_ ∧ nb_ k_ v3_) v1_ r2 ∧ Kd.R (Kd.int .i64) 3 w' w.heap.size (fun k_ => nb_ k_ v1_ ∧ nb_ k_ v3_) v2_ r3 ∧ Kd.R (Kd.int .i64) 3 w' w.heap.size (fun k_ => nb_ k_ v1_ ∧ nb_ k_ v2_) v3_ r4 ∧ Below w.heap.size w w' := by
 have hu26 := Try.underlying26
 have hu48 := Try.underlying48
 have HR0_1 := am_ hr0_1
 have HC0_1 := am_ hc0_1
 clear hr0_1 hc0_1
 have HB := am_ (Below.refl w.heap.size w)
 have H : ((impl_cloneBits.f a0_0 l0_1).bind fun bt269 => (impl_ranked.l0 k 0 0 0 0 a0_0 l0_1 bt269.1 bt269.2 ([] : List Int) ([] : List Int))) = some (r1, r2, r3, r4) := h
 clear h
 replace H := Option.bind_eq_some_iff.mp H
 obtain ⟨⟨t269, t270⟩, A20, H⟩ := H
 replace H : (impl_ranked.l0 k 0 0 0 0 a0_0 l0_1 t269 t270 ([] : List Int) ([] : List Int)) = some (r1, r2, r3, r4) := H
 have A2 := am_ A20
 clear A20
 have H' := am_ H
 clear H
 go_enter Try.func96, Try.ntmps96
 go_wp2_with (first | ((with_reducible refine gate_dst (N := 1) rfl ?_); refine bev_ 1 #[.int .i64 a0_0, .slice A0_1 l0_1.length c0_1] 26 rfl rfl ?_; intro gb267 hg w3 hbox hb; have BK267 := am_ (hbox); have GW267 := am_ ((by rw [hg]; exact (below_size (lw_ HB)) : w.heap.size ≤ gb267)); have GE267 := am_ ((by rw [hg]; exact (below_size (lw_ HB)) : w.heap.size ≤ gb267)); replace HB := am_ (below_step (lw_ HB) hb); clear hb hbox hg) | ((with_reducible refine gate_dst (N := 2) rfl ?_); refine bev_ 2 #[.int .i64 0, .slice none 0 0, .slice none 0 0, .slice none 0 0] 48 rfl rfl ?_; intro gb268 hg w4 hbox hb; have BK268 := am_ (hbox); have GW268 := am_ ((by rw [hg]; exact (below_size (lw_ HB)) : w.heap.size ≤ gb268)); have GE268 := am_ ((by rw [hg]; exact (below_size (lw_ HB)) : w.heap.size ≤ gb268)); have NB267_268 := am_ ((by rw [hg]; exact Nat.ne_of_lt (blk_lt (g := gb267) (lb_ BK267)) : gb267 ≠ gb268)); have NB268_267 := am_ ((by rw [hg]; exact Nat.ne_of_gt (blk_lt (g := gb267) (lb_ BK267)) : gb268 ≠ gb267)); replace BK267 := am_ (blk_below (g := gb267) (lb_ BK267) hb); replace HB := am_ (below_step (lw_ HB) hb); clear hb hbox hg; have hnb5 := NB267_268.out; have hnc5 := NB268_267.out; obtain ⟨hcz6_0, hcz6_1, hfz6_0, hfz6_1⟩ := bx2_ BK267.out) | ((with_reducible refine gate_callee (f := 75) rfl ?_); refine goesL_ (some 9) rfl rfl Try.func75 (by kernel_rfl) rfl #[.agg #[.int .i64 a0_0, .slice A0_1 l0_1.length c0_1]] rfl lm_ ?_; (with_reducible refine (impl_cloneBits.calls a0_0 _ _ l0_1 t269 t270 _ ?side1 ?side2 A2.out).mono ?_); (case side1 => exact lc_ (Kd.C_below HR0_1.out HB.out)); (case side2 => exact HC0_1.out); rintro e w7 ⟨v271, rfl, ho0, hb⟩; refine ⟨_, rfl, ?_⟩; have HO272 := am_ (Kd.R_lower ho0 (below_size (lw_ HB))); replace BK267 := am_ (blk_below (g := gb267) (lb_ BK267) hb); replace BK268 := am_ (blk_below (g := gb268) (lb_ BK268) hb); replace HB := am_ (below_step (lw_ HB) hb); (try clear hb); (try clear hb2); (try clear hk); (try clear hi); (try clear ho0); obtain ⟨Ao8, co8, eo8⟩ := Kd.R_slice HO272.out; subst eo8) | ((with_reducible refine gate_dst (N := 3) rfl ?_); refine bev_ 3 #[.int .i64 0, .slice none 0 0, .slice none 0 0, .slice none 0 0] 48 rfl rfl ?_; intro gb273 hg w9 hbox hb; have BK273 := am_ (hbox); have GW273 := am_ ((by rw [hg]; exact (below_size (lw_ HB)) : w.heap.size ≤ gb273)); have GE273 := am_ ((by rw [hg]; exact (below_size (lw_ HB)) : w.heap.size ≤ gb273)); have NB267_273 := am_ ((by rw [hg]; exact Nat.ne_of_lt (blk_lt (g := gb267) (lb_ BK267)) : gb267 ≠ gb273)); have NB273_267 := am_ ((by rw [hg]; exact Nat.ne_of_gt (blk_lt (g := gb267) (lb_ BK267)) : gb273 ≠ gb267)); have NB268_273 := am_ ((by rw [hg]; exact Nat.ne_of_lt (blk_lt (g := gb268) (lb_ BK268)) : gb268 ≠ gb273)); have NB273_268 := am_ ((by rw [hg]; exact Nat.ne_of_gt (blk_lt (g := gb268) (lb_ BK268)) : gb273 ≠ gb268)); replace HO272 := am_ (Kd.R_below (lf_ HO272) hb); replace BK267 := am_ (blk_below (g := gb267) (lb_ BK267) hb); replace BK268 := am_ (blk_below (g := gb268) (lb_ BK268) hb); replace HB := am_ (below_step (lw_ HB) hb); clear hb hbox hg; have hnb10 := NB273_267.out; have hnc10 := NB267_273.out; have hnb11 := NB273_268.out; have hnc11 := NB268_273.out; obtain ⟨hcz12_0, hcz12_1, hcz12_2, hcz12_3, hfz12_0, hfz12_1, hfz12_2, hfz12_3⟩ := bx4_ BK273.out))
 go_loopg [4, 5, 6, 7] k (fun kq v4 v5 v6 v7 w' => ∃ (x4_1 : Int) (x5_1 : Int) (x6_1 : Int) (x7_1 : Int) (x274002_1 : List Int) (x274003_1 : List Int) (u274002 : Value) (u274003 : Value), v4 = .int .i64 x4_1 ∧ v5 = .int .i64 x5_1 ∧ v6 = .int .i64 x6_1 ∧ v7 = .int .i64 x7_1 ∧ Aside0 (impl_ranked.l0 kq x4_1 x5_1 x6_1 x7_1 a0_0 l0_1 t269 t270 x274002_1 x274003_1 = some (r1, r2, r3, r4)) ∧ Aside0 (kq ≤ k) ∧ Aside0 (Kd.R (Kd.int .i64) 3 w' w.heap.size (fun k_ => nb_ k_ u274002 ∧ nb_ k_ u274003) (.slice Ao8 t270.length co8) t270) ∧ Aside0 (Kd.R (Kd.int .i64) 3 w' w.heap.size (fun k_ => ns_ k_ Ao8 t270 co8 ∧ nb_ k_ u274003) u274002 x274002_1) ∧ Aside0 (Kd.R (Kd.int .i64) 3 w' w.heap.size (fun k_ => ns_ k_ Ao8 t270 co8 ∧ nb_ k_ u274002) u274003 x274003_1) ∧ Aside0 (w'.heap[gb267]? = some (.cells #[.int .i64 a0_0, (.slice A0_1 l0_1.length c0_1)] 26 (0, 0))) ∧ Aside0 (w'.heap[gb268]? = some (.cells #[.int .i64 0, (.slice none 0 0), (.slice none 0 0), (.slice none 0 0)] 48 (0, 0))) ∧ Aside0 (w'.heap[gb273]? = some (.cells #[.int .i64 t269, (.slice Ao8 t270.length co8), u274002, u274003] 48 (0, 0))) ∧ Aside0 (Below w.heap.size w w'))
 case atStart => exact ⟨(0), (0), (0), (0), (([] : List Int)), (([] : List Int)), (.slice none 0 0), (.slice none 0 0), sr_, sr_, sr_, sr_, H', ⟨Nat.le_refl _⟩, ⟨lt_ (Kd.R_mono (fr4_ HO272.out BK273.out (.int .i64 t269) (.slice Ao8 t270.length co8) (.slice none 0 0) (.slice none 0 0)) (fun _ hk => ⟨(by simp [Value.ownBlock]), (by simp [Value.ownBlock])⟩))⟩, ⟨by first | exact Kd.R_nil _ _ _ _ _ | exact Kd.N_nil _ _ _ _ _ | exact Kd.V_nil _ _ _ _ _ | exact Kd.Q_nil _ _ _ _ _ | exact Kd.S_nil _ _ _ _ _⟩, ⟨by first | exact Kd.R_nil _ _ _ _ _ | exact Kd.N_nil _ _ _ _ _ | exact Kd.V_nil _ _ _ _ _ | exact Kd.Q_nil _ _ _ _ _ | exact Kd.S_nil _ _ _ _ _⟩, ⟨lg_ BK267⟩, ⟨lg_ BK268⟩, ⟨lq_ BK273⟩, ⟨lw_ HB⟩⟩
 case round =>
  clear H'
  try clear c1
  try clear p2
  try clear c5
  try clear c7
  try clear c9
  try clear c10
  try clear c11
  try clear hcz12_0
  try clear hcz12_1
  try clear hcz12_2
  try clear hcz12_3
  try clear hcz6_0
  try clear hcz6_1
  try clear hfz12_0
  try clear hfz12_1
  try clear hfz12_2
  try clear hfz12_3
  try clear hfz6_0
  try clear hfz6_1
  obtain ⟨x4_1, x5_1, x6_1, x7_1, x274002_1, x274003_1, u274002, u274003, rfl, rfl, rfl, rfl, HA, HK1, HO_274001, HO_274002, HO_274003, BK267, BK268, BK273, HB⟩ := hrel
  cases gk with
  | zero => exact absurd HA.out (by simp [impl_ranked.l0])
  | succ k1 =>
   have H := HA.out
   clear HA
   simp only [impl_ranked.l0] at H
   by_cases c13 : x6_1 < a0_0
   ·rw [if_pos c13] at H
    have c13b0 : decide (x6_1 < a0_0) = true := decide_eq_true c13
    clear c13
    by_cases c14 : (Int.tmod x6_1 64) = 0
    ·rw [if_pos c14] at H
     have c14b0 : ((Int.tmod x6_1 64) == 0) = true := beq_iff_eq.mpr c14
     have c14b1 : ((Int.tmod x6_1 64) != 0) = false := bne_eq_false_iff_eq.mpr c14
     clear c14
     by_cases c15 : x274002_1.length < 17592186044416
     ·rw [if_pos c15] at H
      have LMc15 := am_ c15
      clear c15
      obtain ⟨y274, hy274⟩ : ∃ y_ : List Int, y_ = (x274002_1 ++ [x4_1]) := ⟨_, rfl⟩
      replace H : (if x274003_1.length < 17592186044416 then ((impl_Bits_count.f k1 a0_0 l0_1 x6_1 (mn (wrap64 (x6_1 + 16)) a0_0)).bind fun t280 => (impl_ranked.l0 k1 (wrap64 (x4_1 + t280)) x4_1 (wrap64 (x6_1 + 16)) (wrap64 (x7_1 + 1)) a0_0 l0_1 t269 t270 y274 (x274003_1 ++ [0]))) else (none)) = some (r1, r2, r3, r4) := by first | (rw [hy274]; with_reducible exact H) | (have H2_ := (Option.bind_some _ _).symm.trans H; rw [hy274]; with_reducible exact H2_) | (have H2_ := (Option.bind_some _ _).symm.trans H; with_reducible exact H2_) | with_reducible exact H | (rw [hy274]; exact H) | exact H
      have Ny274 := am_ hy274
      clear hy274
      by_cases c16 : x274003_1.length < 17592186044416
      ·rw [if_pos c16] at H
       have LMc16 := am_ c16
       clear c16
       obtain ⟨y277, hy277⟩ : ∃ y_ : List Int, y_ = (x274003_1 ++ [0]) := ⟨_, rfl⟩
       replace H : ((impl_Bits_count.f k1 a0_0 l0_1 x6_1 (mn (wrap64 (x6_1 + 16)) a0_0)).bind fun t280 => (impl_ranked.l0 k1 (wrap64 (x4_1 + t280)) x4_1 (wrap64 (x6_1 + 16)) (wrap64 (x7_1 + 1)) a0_0 l0_1 t269 t270 y274 y277)) = some (r1, r2, r3, r4) := by first | (rw [hy277]; with_reducible exact H) | (have H2_ := (Option.bind_some _ _).symm.trans H; rw [hy277]; with_reducible exact H2_) | (have H2_ := (Option.bind_some _ _).symm.trans H; with_reducible exact H2_) | with_reducible exact H | (rw [hy277]; exact H) | exact H
       have Ny277 := am_ hy277
       clear hy277
       obtain ⟨ji17, hji17⟩ : ∃ j_ : Int, (mn (wrap64 (x6_1 + 16)) a0_0) = j_ := ⟨_, rfl⟩
       replace H : ((impl_Bits_count.f k1 a0_0 l0_1 x6_1 (ji17)).bind fun t280 => (impl_ranked.l0 k1 (wrap64 (x4_1 + t280)) x4_1 (wrap64 (x6_1 + 16)) (wrap64 (x7_1 + 1)) a0_0 l0_1 t269 t270 y274 y277)) = some (r1, r2, r3, r4) := by first | (rw [hji17] at H; exact H) | (simp only [hji17] at H ⊢; exact H)
       have hji17_ : (if a0_0 < (wrap64 (x6_1 + 16)) then a0_0 else (wrap64 (x6_1 + 16))) = ji17 := hji17
       replace H := Option.bind_eq_some_iff.mp H
       obtain ⟨t280, A180, H⟩ := H
       replace H : (impl_ranked.l0 k1 (wrap64 (x4_1 + t280)) x4_1 (wrap64 (x6_1 + 16)) (wrap64 (x7_1 + 1)) a0_0 l0_1 t269 t270 y274 y277) = some (r1, r2, r3, r4) := H
       have A18 := am_ A180
       clear A180
       have H' := am_ H
       clear H
       have hnb19 := NB267_268.out
       have hnc19 := NB268_267.out
       have hnb20 := NB267_273.out
       have hnc20 := NB273_267.out
       obtain ⟨hcz21_0, hcz21_1, hfz21_0, hfz21_1⟩ := bx2_ BK267.out
       have hnb22 := NB273_268.out
       have hnc22 := NB268_273.out
       obtain ⟨hcz23_0, hcz23_1, hcz23_2, hcz23_3, hfz23_0, hfz23_1, hfz23_2, hfz23_3⟩ := bx4_ BK273.out
       go_wp2_with (first | ((with_reducible refine gate_builtin (b := .append) (xs := #[.tmp 23, .tmp 25]) rfl ?_); at_builtin; refine Kd.R_append (Kd.int .i64) (w0 := w) w.heap.size rfl (.tmp 23) (.tmp 25) 22 3 (.int .i64 0) 8 rfl Try.underlying22 info3 rfl (by decide) (by omega) u274002 x274002_1 x4_1 [.int .i64 x4_1] (fun k_ => ns_ k_ Ao8 t270 co8 ∧ nb_ k_ u274003) (fun _ => False) rfl rfl ?aP (fun _ hk => hk.elim) ?aF ?aO ?aB ?aS ?aL ?_; (case aP => exact rfl); (case aB => exact (lw_ HB)); (case aF => exact (fun k_ hk => ⟨Kd.fresh' (Kd.R_lt (lf_ HO_274001)) k_ hk, Kd.fresh' (Kd.R_lt (lf_ HO_274003)) k_ hk⟩)); (case aO => exact (lf_ HO_274002)); (case aS => exact (below_size (lw_ HB))); (case aL => have := LMc15.out; omega); intro v275 w24 ho hb hg hat; rw [← Ny274.out] at ho; have HO276 := am_ (ho); replace HO_274001 := am_ (Kd.R_after (ok := (fun k_ => nb_ k_ u274003)) (lo_ HO_274001) hg hat); replace HO_274003 := am_ (Kd.R_after (ok := (fun k_ => ns_ k_ Ao8 t270 co8)) (lf_ HO_274003) hg hat); replace BK267 := am_ (blk_grown (g := gb267) (lb_ BK267) hg (Kd.R_ne HO_274002.out BK267.out (by decide))); replace BK268 := am_ (blk_grown (g := gb268) (lb_ BK268) hg (Kd.R_ne HO_274002.out BK268.out (by decide))); replace BK273 := am_ (blk_grown (g := gb273) (lb_ BK273) hg (Kd.R_ne HO_274002.out BK273.out (by decide))); replace HB := am_ (hb); clear HO_274002; clear ho hb hg hat; obtain ⟨Ao25, co25, eo25⟩ := Kd.R_slice HO276.out; subst eo25; obtain ⟨hcz26_0, hcz26_1, hcz26_2, hcz26_3, hfz26_0, hfz26_1, hfz26_2, hfz26_3⟩ := bx4_ BK273.out) | ((with_reducible refine gate_builtin (b := .append) (xs := #[.tmp 30, .tmp 34]) rfl ?_); at_builtin; refine Kd.R_append (Kd.int .i64) (w0 := w) w.heap.size rfl (.tmp 30) (.tmp 34) 22 3 (.int .i64 0) 8 rfl Try.underlying22 info3 rfl (by decide) (by omega) u274003 x274003_1 0 [.int .i64 0] (fun k_ => ns_ k_ Ao8 t270 co8 ∧ ns_ k_ Ao25 y274 co25) (fun _ => False) rfl (by first | (go_simp; done) | (go_simp; rfl)) ?aP (fun _ hk => hk.elim) ?aF ?aO ?aB ?aS ?aL ?_; (case aP => exact rfl); (case aB => exact (lw_ HB)); (case aF => exact (fun k_ hk => ⟨Kd.fresh' (Kd.R_lt (lt_ ((m1_ (Kd.R_far (p := ⟨gb273, 2, none⟩) (Kd.R_types HO_274001.out BK273.out (by decide)) (fun _ hk => hk.2) (.slice Ao25 y274.length co25)))))) k_ hk, Kd.fresh' (Kd.R_lt (lt_ ((m1_ (Kd.R_far (p := ⟨gb273, 2, none⟩) (Kd.R_types HO276.out BK273.out (by decide)) (fun _ hk => hk.2) (.slice Ao25 y274.length co25)))))) k_ hk⟩)); (case aO => exact (lo2_ (Kd.R_far (p := ⟨gb273, 2, none⟩) (Kd.R_types HO_274003.out BK273.out (by decide)) (fun _ hk => hk.2) (.slice Ao25 y274.length co25)))); (case aS => exact (below_size (lw_ HB))); (case aL => have := LMc16.out; omega); intro v278 w27 ho hb hg hat; rw [← Ny277.out] at ho; have HO279 := am_ (ho); replace HO_274001 := am_ (Kd.R_after (ok := (fun k_ => ns_ k_ Ao25 y274 co25)) (lo2_ (Kd.R_far (p := ⟨gb273, 2, none⟩) (Kd.R_types HO_274001.out BK273.out (by decide)) (fun _ hk => hk.2) (.slice Ao25 y274.length co25))) hg hat); replace BK267 := am_ (blk_grown (g := gb267) (lg_ BK267) hg (Kd.R_ne HO_274003.out BK267.out (by decide))); replace BK268 := am_ (blk_grown (g := gb268) (lg_ BK268) hg (Kd.R_ne HO_274003.out BK268.out (by decide))); replace HO276 := am_ (Kd.R_after (ok := (fun k_ => ns_ k_ Ao8 t270 co8)) (lo2_ (Kd.R_far (p := ⟨gb273, 2, none⟩) (Kd.R_types HO276.out BK273.out (by decide)) (fun _ hk => hk.2) (.slice Ao25 y274.length co25))) hg hat); replace BK273 := am_ (blk_grown (g := gb273) (o := .cells #[.int .i64 t269, .slice Ao8 t270.length co8, .slice Ao25 y274.length co25, u274003] 48 (0, 0)) (lq_ BK273) hg (Kd.R_ne HO_274003.out BK273.out (by decide))); replace HB := am_ (hb); clear HO_274003; clear ho hb hg hat; obtain ⟨Ao28, co28, eo28⟩ := Kd.R_slice HO279.out; subst eo28; obtain ⟨hcz29_0, hcz29_1, hcz29_2, hcz29_3, hfz29_0, hfz29_1, hfz29_2, hfz29_3⟩ := bx4_ BK273.out; obtain ⟨hcz30_0, hcz30_1, hfz30_0, hfz30_1⟩ := bx2_ BK267.out) | ((with_reducible refine gate_callee (f := 104) rfl ?_); refine goesL_ (some 44) rfl rfl Try.func104 (by kernel_rfl) rfl #[.pointer (some ⟨gb267, 0, none⟩), .int .i64 x6_1, .int .i64 ji17] rfl (by (try simp only [List.map_toArray, List.map_cons, List.map_nil]); first | done | (simp only [hji17]; rfl) | rfl | (simp only [List.length_drop, List.length_take]; rfl)) ?_; (with_reducible refine (impl_Bits_count.calls k1 gb267 [] 26 a0_0 A0_1 c0_1 l0_1 x6_1 ji17 t280 _ ?side1 ?side2 ?side3 A18.out).mono ?_); (case side1 => exact lg_ BK267); (case side2 => exact Kd.C_below HR0_1.out (lw_ HB)); (case side3 => exact HC0_1.out); rintro e w31 ⟨rfl, hb⟩; refine ⟨_, rfl, ?_⟩; replace HO_274001 := am_ (Kd.R_below (lt_ ((m1_ (Kd.R_far (p := ⟨gb273, 3, none⟩) (Kd.R_types HO_274001.out BK273.out (by decide)) (fun _ hk => hk.2) (.slice Ao28 y277.length co28))))) hb); replace HO276 := am_ (Kd.R_below (lt_ ((m1_ (Kd.R_far (p := ⟨gb273, 3, none⟩) (Kd.R_types HO276.out BK273.out (by decide)) (fun _ hk => hk.2) (.slice Ao28 y277.length co28))))) hb); replace HO279 := am_ (Kd.R_below (lt_ ((m1_ (Kd.R_far (p := ⟨gb273, 3, none⟩) (Kd.R_types HO279.out BK273.out (by decide)) (fun _ hk => hk.2) (.slice Ao28 y277.length co28))))) hb); replace BK267 := am_ (blk_below (g := gb267) (lg_ BK267) hb); replace BK268 := am_ (blk_below (g := gb268) (lg_ BK268) hb); replace BK273 := am_ (blk_below (g := gb273) (o := .cells #[.int .i64 t269, .slice Ao8 t270.length co8, .slice Ao25 y274.length co25, .slice Ao28 y277.length co28] 48 (0, 0)) (lq_ BK273) hb); replace HB := am_ (below_step (lw_ HB) hb); (try clear hb); (try clear hb2); (try clear hk); (try clear hi)))
       go_roundg k1
       case measure => have := HK1.out; omega
       case rel => exact ⟨(wrap64 (x4_1 + t280)), (x4_1), (wrap64 (x6_1 + 16)), (wrap64 (x7_1 + 1)), (y274), (y277), (.slice Ao25 y274.length co25), (.slice Ao28 y277.length co28), sr_, sr_, sr_, sr_, H', ⟨by have := HK1.out; omega⟩, ⟨lf_ HO_274001⟩, ⟨lf_ HO276⟩, ⟨lf_ HO279⟩, ⟨lb_ BK267⟩, ⟨lb_ BK268⟩, ⟨lb_ BK273⟩, ⟨lw_ HB⟩⟩
      ·rw [if_neg c16] at H
       exact absurd H (by simp)
     ·rw [if_neg c15] at H
      exact absurd H (by simp)
    ·rw [if_neg c14] at H
     have c14b0 : ((Int.tmod x6_1 64) == 0) = false := beq_eq_false_iff_ne.mpr c14
     have c14b1 : ((Int.tmod x6_1 64) != 0) = true := bne_iff_ne.mpr c14
     by_cases c32 : x274003_1.length < 17592186044416
     ·rw [if_pos c32] at H
      have LMc32 := am_ c32
      clear c32
      obtain ⟨y281, hy281⟩ : ∃ y_ : List Int, y_ = (x274003_1 ++ [wrap64 (x4_1 - x5_1)]) := ⟨_, rfl⟩
      replace H : ((impl_Bits_count.f k1 a0_0 l0_1 x6_1 (mn (wrap64 (x6_1 + 16)) a0_0)).bind fun t284 => (impl_ranked.l0 k1 (wrap64 (x4_1 + t284)) x5_1 (wrap64 (x6_1 + 16)) (wrap64 (x7_1 + 1)) a0_0 l0_1 t269 t270 x274002_1 y281)) = some (r1, r2, r3, r4) := by first | (rw [hy281]; with_reducible exact H) | (have H2_ := (Option.bind_some _ _).symm.trans H; rw [hy281]; with_reducible exact H2_) | (have H2_ := (Option.bind_some _ _).symm.trans H; with_reducible exact H2_) | with_reducible exact H | (rw [hy281]; exact H) | exact H
      have Ny281 := am_ hy281
      clear hy281
      obtain ⟨ji33, hji33⟩ : ∃ j_ : Int, (mn (wrap64 (x6_1 + 16)) a0_0) = j_ := ⟨_, rfl⟩
      replace H : ((impl_Bits_count.f k1 a0_0 l0_1 x6_1 (ji33)).bind fun t284 => (impl_ranked.l0 k1 (wrap64 (x4_1 + t284)) x5_1 (wrap64 (x6_1 + 16)) (wrap64 (x7_1 + 1)) a0_0 l0_1 t269 t270 x274002_1 y281)) = some (r1, r2, r3, r4) := by first | (rw [hji33] at H; exact H) | (simp only [hji33] at H ⊢; exact H)
      have hji33_ : (if a0_0 < (wrap64 (x6_1 + 16)) then a0_0 else (wrap64 (x6_1 + 16))) = ji33 := hji33
      replace H := Option.bind_eq_some_iff.mp H
      obtain ⟨t284, A340, H⟩ := H
      replace H : (impl_ranked.l0 k1 (wrap64 (x4_1 + t284)) x5_1 (wrap64 (x6_1 + 16)) (wrap64 (x7_1 + 1)) a0_0 l0_1 t269 t270 x274002_1 y281) = some (r1, r2, r3, r4) := H
      have A34 := am_ A340
      clear A340
      have H' := am_ H
      clear H
      have hnb35 := NB267_268.out
      have hnc35 := NB268_267.out
      have hnb36 := NB267_273.out
      have hnc36 := NB273_267.out
      obtain ⟨hcz37_0, hcz37_1, hfz37_0, hfz37_1⟩ := bx2_ BK267.out
      have hnb38 := NB273_268.out
      have hnc38 := NB268_273.out
      obtain ⟨hcz39_0, hcz39_1, hcz39_2, hcz39_3, hfz39_0, hfz39_1, hfz39_2, hfz39_3⟩ := bx4_ BK273.out
      go_wp2_with (first | ((with_reducible refine gate_builtin (b := .append) (xs := #[.tmp 30, .tmp 34]) rfl ?_); at_builtin; refine Kd.R_append (Kd.int .i64) (w0 := w) w.heap.size rfl (.tmp 30) (.tmp 34) 22 3 (.int .i64 0) 8 rfl Try.underlying22 info3 rfl (by decide) (by omega) u274003 x274003_1 (wrap64 (x4_1 - x5_1)) [.int .i64 (wrap64 (x4_1 - x5_1))] (fun k_ => ns_ k_ Ao8 t270 co8 ∧ nb_ k_ u274002) (fun _ => False) rfl rfl ?aP (fun _ hk => hk.elim) ?aF ?aO ?aB ?aS ?aL ?_; (case aP => exact rfl); (case aB => exact (lw_ HB)); (case aF => exact (fun k_ hk => ⟨Kd.fresh' (Kd.R_lt (lf_ HO_274001)) k_ hk, Kd.fresh' (Kd.R_lt (lf_ HO_274002)) k_ hk⟩)); (case aO => exact (lf_ HO_274003)); (case aS => exact (below_size (lw_ HB))); (case aL => have := LMc32.out; omega); intro v282 w40 ho hb hg hat; rw [← Ny281.out] at ho; have HO283 := am_ (ho); replace HO_274001 := am_ (Kd.R_after (ok := (fun k_ => nb_ k_ u274002)) (lf_ HO_274001) hg hat); replace HO_274002 := am_ (Kd.R_after (ok := (fun k_ => ns_ k_ Ao8 t270 co8)) (lf_ HO_274002) hg hat); replace BK267 := am_ (blk_grown (g := gb267) (lb_ BK267) hg (Kd.R_ne HO_274003.out BK267.out (by decide))); replace BK268 := am_ (blk_grown (g := gb268) (lb_ BK268) hg (Kd.R_ne HO_274003.out BK268.out (by decide))); replace BK273 := am_ (blk_grown (g := gb273) (lb_ BK273) hg (Kd.R_ne HO_274003.out BK273.out (by decide))); replace HB := am_ (hb); clear HO_274003; clear ho hb hg hat; obtain ⟨Ao41, co41, eo41⟩ := Kd.R_slice HO283.out; subst eo41; obtain ⟨hcz42_0, hcz42_1, hcz42_2, hcz42_3, hfz42_0, hfz42_1, hfz42_2, hfz42_3⟩ := bx4_ BK273.out; obtain ⟨hcz43_0, hcz43_1, hfz43_0, hfz43_1⟩ := bx2_ BK267.out) | ((with_reducible refine gate_callee (f := 104) rfl ?_); refine goesL_ (some 44) rfl rfl Try.func104 (by kernel_rfl) rfl #[.pointer (some ⟨gb267, 0, none⟩), .int .i64 x6_1, .int .i64 ji33] rfl (by (try simp only [List.map_toArray, List.map_cons, List.map_nil]); first | done | (simp only [hji33]; rfl) | rfl | (simp only [List.length_drop, List.length_take]; rfl)) ?_; (with_reducible refine (impl_Bits_count.calls k1 gb267 [] 26 a0_0 A0_1 c0_1 l0_1 x6_1 ji33 t284 _ ?side1 ?side2 ?side3 A34.out).mono ?_); (case side1 => exact lg_ BK267); (case side2 => exact Kd.C_below HR0_1.out (lw_ HB)); (case side3 => exact HC0_1.out); rintro e w44 ⟨rfl, hb⟩; refine ⟨_, rfl, ?_⟩; replace HO_274001 := am_ (Kd.R_below (lt_ ((m1_ (Kd.R_far (p := ⟨gb273, 3, none⟩) (Kd.R_types HO_274001.out BK273.out (by decide)) (fun _ hk => hk.2) (.slice Ao41 y281.length co41))))) hb); replace HO_274002 := am_ (Kd.R_below (lt_ ((m1_ (Kd.R_far (p := ⟨gb273, 3, none⟩) (Kd.R_types HO_274002.out BK273.out (by decide)) (fun _ hk => hk.2) (.slice Ao41 y281.length co41))))) hb); replace HO283 := am_ (Kd.R_below (lt_ ((m1_ (Kd.R_far (p := ⟨gb273, 3, none⟩) (Kd.R_types HO283.out BK273.out (by decide)) (fun _ hk => hk.2) (.slice Ao41 y281.length co41))))) hb); replace BK267 := am_ (blk_below (g := gb267) (lg_ BK267) hb); replace BK268 := am_ (blk_below (g := gb268) (lg_ BK268) hb); replace BK273 := am_ (blk_below (g := gb273) (o := .cells #[.int .i64 t269, .slice Ao8 t270.length co8, u274002, .slice Ao41 y281.length co41] 48 (0, 0)) (lq_ BK273) hb); replace HB := am_ (below_step (lw_ HB) hb); (try clear hb); (try clear hb2); (try clear hk); (try clear hi)))
      go_roundg k1
      case measure => have := HK1.out; omega
      case rel => exact ⟨(wrap64 (x4_1 + t284)), (x5_1), (wrap64 (x6_1 + 16)), (wrap64 (x7_1 + 1)), (x274002_1), (y281), (u274002), (.slice Ao41 y281.length co41), sr_, sr_, sr_, sr_, H', ⟨by have := HK1.out; omega⟩, ⟨lf_ HO_274001⟩, ⟨lf_ HO_274002⟩, ⟨lf_ HO283⟩, ⟨lb_ BK267⟩, ⟨lb_ BK268⟩, ⟨lb_ BK273⟩, ⟨lw_ HB⟩⟩
     ·rw [if_neg c32] at H
      exact absurd H (by simp)
   ·rw [if_neg c13] at H
    have c13b0 : decide (x6_1 < a0_0) = false := decide_eq_false c13
    clear c13
    simp only [Option.some.injEq, Prod.mk.injEq] at H
    obtain ⟨rfl, rfl, rfl, rfl⟩ := H
    have hnb45 := NB267_268.out
    have hnc45 := NB268_267.out
    have hnb46 := NB267_273.out
    have hnc46 := NB273_267.out
    obtain ⟨hcz47_0, hcz47_1, hfz47_0, hfz47_1⟩ := bx2_ BK267.out
    have hnb48 := NB273_268.out
    have hnc48 := NB268_273.out
    obtain ⟨hcz49_0, hcz49_1, hcz49_2, hcz49_3, hfz49_0, hfz49_1, hfz49_2, hfz49_3⟩ := bx4_ BK273.out
    obtain ⟨hcz50_0, hcz50_1, hcz50_2, hcz50_3, hfz50_0, hfz50_1, hfz50_2, hfz50_3⟩ := bx4_ BK268.out
    obtain ⟨Ao51, co51, eo51⟩ := Kd.R_slice HO_274002.out
    subst eo51
    obtain ⟨Ao52, co52, eo52⟩ := Kd.R_slice HO_274003.out
    subst eo52
    go_wp2
    refine bodyPost_ret (results_cell_row rfl _ _ gb268 48 #[.int .i64 t269, .slice Ao8 t270.length co8, .slice Ao51 x274002_1.length co51, .slice Ao52 x274003_1.length co52] (0, 0) _ rfl (lq_ BK268) Try.underlying48 rfl (by kernel_rfl)) rfl ?_
    exact ⟨_, _, _, er_, lo2_ (fr4_ HO_274001.out BK268.out (.int .i64 t269) (.slice Ao8 t270.length co8) (.slice Ao51 x274002_1.length co51) (.slice Ao52 x274003_1.length co52)), lo2_ (fr4_ HO_274002.out BK268.out (.int .i64 t269) (.slice Ao8 t270.length co8) (.slice Ao51 x274002_1.length co51) (.slice Ao52 x274003_1.length co52)), lo2_ (fr4_ HO_274003.out BK268.out (.int .i64 t269) (.slice Ao8 t270.length co8) (.slice Ao51 x274002_1.length co51) (.slice Ao52 x274003_1.length co52)), lw_ HB⟩

/-! ### slices_Equal_int_int: function 109 -/
def slices_Equal_int_int.l0 : Nat → List Int → List Int → Int → Int → Option (Bool)
 | 0, _, _, _, _ => none
 | k + 1, x0, x1, x12, x13 => if x13 < x12 then (if 0 ≤ x13 then (if x13 < (x0.length : Int) then (if x13 < (x1.length : Int) then (if (rd x0 x13) = (rd x1 x13) then (slices_Equal_int_int.l0 k x0 x1 x12 (wrap64 (x13 + 1))) else (some false)) else (none)) else (none)) else (none)) else (some true)
def slices_Equal_int_int.f (k : Nat) (l0 : List Int) (l1 : List Int) : Option (Bool) := if (l0.length : Int) = (l1.length : Int) then (slices_Equal_int_int.l0 k l0 l1 (l0.length : Int) 0) else (some false)
theorem slices_Equal_int_int.mono_l : ∀ k, (∀ y0 y1 y2 y3, LeO (slices_Equal_int_int.l0 k y0 y1 y2 y3) (slices_Equal_int_int.l0 (k + 1) y0 y1 y2 y3))
 | 0 => fun _ _ _ _ r h => by simp [slices_Equal_int_int.l0] at h
 | k + 1 => by
  have ih0 := slices_Equal_int_int.mono_l k
  ·intro y0 y1 y2 y3
   unfold slices_Equal_int_int.l0
   repeat' first
   | (with_reducible exact ih0 _ _ _ _)
   | (with_reducible exact LeO.refl _)
   | (with_reducible exact LeO.none _)
   | (with_reducible refine LeO.ite ?_ ?_)
   | (with_reducible refine LeO.bind ?_ (fun _ => ?_))
   | exact ih0 _ _ _ _
   | exact LeO.none _
   | refine LeO.ite ?_ ?_
   | refine LeO.bind ?_ (fun _ => ?_)
theorem slices_Equal_int_int.mono : ∀ a0 a1 k, LeO (slices_Equal_int_int.f k a0 a1) (slices_Equal_int_int.f (k + 1) a0 a1) := by
 intro a0 a1 k
 have ih0 := slices_Equal_int_int.mono_l k
 unfold slices_Equal_int_int.f
 repeat' first
   | (with_reducible exact ih0 _ _ _ _)
   | (with_reducible exact LeO.refl _)
   | (with_reducible exact LeO.none _)
   | (with_reducible refine LeO.ite ?_ ?_)
   | (with_reducible refine LeO.bind ?_ (fun _ => ?_))
   | exact ih0 _ _ _ _
   | exact LeO.none _
   | refine LeO.ite ?_ ?_
   | refine LeO.bind ?_ (fun _ => ?_)
set_option maxHeartbeats 8000000 in
set_option maxRecDepth 100000 in
theorem slices_Equal_int_int.calls (k : Nat) (A0 : Option Addr) (c0 : Nat) (l0 : List Int) (A1 : Option Addr) (c1 : Nat) (l1 : List Int) (r : Bool) (w : World) (hr0 : Kd.C (Kd.int .i64) w A0 l0.length l0) (hc0 : l0.length ≤ c0) (hr1 : Kd.C (Kd.int .i64) w A1 l1.length l1) (hc1 : l1.length ≤ c1) (h : slices_Equal_int_int.f k l0 l1 = some r) :
  Calls Try.prog 109 #[.slice A0 l0.length c0, .slice A1 l1.length c1] w fun e w' => e = .returned (.bool r) ∧ Drawn0 w w' := by
 have HR0 := am_ hr0
 have HC0 := am_ hc0
 clear hr0 hc0
 have HR1 := am_ hr1
 have HC1 := am_ hc1
 clear hr1 hc1
 have H : (if (l0.length : Int) = (l1.length : Int) then (slices_Equal_int_int.l0 k l0 l1 (l0.length : Int) 0) else (some false)) = some r := h
 clear h
 by_cases c3 : (l0.length : Int) = (l1.length : Int)
 ·rw [if_pos c3] at H
  have c3b0 : ((l0.length : Int) == (l1.length : Int)) = true := beq_iff_eq.mpr c3
  have c3b1 : ((l0.length : Int) != (l1.length : Int)) = false := bne_eq_false_iff_eq.mpr c3
  have c3b2 : (l0.length == l1.length) = true := by first | simpa using c3 | (simp at c3 ⊢; omega)
  clear c3
  have H' := am_ H
  clear H
  go_enter Try.func109, Try.ntmps109
  go_wp2
  repeat (go_quiet (fail); try go_wp2)
  go_loopg [13] k (fun kq v13 w' => ∃ (x13_1 : Int), v13 = .int .i64 x13_1 ∧ Aside0 (slices_Equal_int_int.l0 kq l0 l1 (l0.length : Int) x13_1 = some r) ∧ Aside0 (kq ≤ k) ∧ Drawn0 w w')
  case atStart => exact ⟨(0), sr_, H', ⟨Nat.le_refl _⟩, by repeat (first | exact Drawn0.refl _ | apply Drawn0.step)⟩
  case round =>
   clear H'
   try clear c1
   try clear p2
   try clear c3
   try clear c3b0
   try clear c3b1
   try clear c3b2
   obtain ⟨x13_1, rfl, HA, HK1, ⟨m1, rfl⟩⟩ := hrel
   cases gk with
   | zero => exact absurd HA.out (by simp [slices_Equal_int_int.l0])
   | succ k1 =>
    have H := HA.out
    clear HA
    simp only [slices_Equal_int_int.l0] at H
    by_cases c4 : x13_1 < (l0.length : Int)
    ·rw [if_pos c4] at H
     have c4b0 : decide (x13_1 < (l0.length : Int)) = true := decide_eq_true c4
     clear c4
     by_cases c5 : 0 ≤ x13_1
     ·rw [if_pos c5] at H
      have c5b0 : decide (0 ≤ x13_1) = true := decide_eq_true c5
      clear c5
      by_cases c6 : x13_1 < (l0.length : Int)
      ·rw [if_pos c6] at H
       have c6b0 : decide (x13_1 < (l0.length : Int)) = true := decide_eq_true c6
       clear c6
       by_cases c7 : x13_1 < (l1.length : Int)
       ·rw [if_pos c7] at H
        have c7b0 : decide (x13_1 < (l1.length : Int)) = true := decide_eq_true c7
        clear c7
        by_cases c8 : (rd l0 x13_1) = (rd l1 x13_1)
        ·rw [if_pos c8] at H
         have c8b0 : ((rd l0 x13_1) == (rd l1 x13_1)) = true := beq_iff_eq.mpr c8
         have c8b1 : ((rd l0 x13_1) != (rd l1 x13_1)) = false := bne_eq_false_iff_eq.mpr c8
         clear c8
         have H' := am_ H
         clear H
         have p285 : 0 ≤ (x13_1 : Int) := of_decide_eq_true (by first | (with_reducible assumption) | assumption)
         have q285 : x13_1 < (l0.length : Int) := of_decide_eq_true (by first | (with_reducible assumption) | assumption)
         obtain ⟨ad285, e285, hx285_0⟩ := Kd.at_int HR0.out x13_1 p285 q285
         cases e285
         replace p285 := eq_true p285
         replace q285 := eq_true q285
         have p286 : 0 ≤ (x13_1 : Int) := of_decide_eq_true (by first | (with_reducible assumption) | assumption)
         have q286 : x13_1 < (l1.length : Int) := of_decide_eq_true (by first | (with_reducible assumption) | assumption)
         obtain ⟨ad286, e286, hx286_0⟩ := Kd.at_int HR1.out x13_1 p286 q286
         cases e286
         replace p286 := eq_true p286
         replace q286 := eq_true q286
         go_wp2
         repeat (go_quiet (fail); try go_wp2)
         go_roundg k1
         case measure => have := HK1.out; omega
         case rel => exact ⟨(wrap64 (x13_1 + 1)), sr_, H', ⟨by have := HK1.out; omega⟩, by repeat (first | exact Drawn0.refl _ | apply Drawn0.step)⟩
        ·rw [if_neg c8] at H
         have c8b0 : ((rd l0 x13_1) == (rd l1 x13_1)) = false := beq_eq_false_iff_ne.mpr c8
         have c8b1 : ((rd l0 x13_1) != (rd l1 x13_1)) = true := bne_iff_ne.mpr c8
         obtain rfl := Option.some.inj H
         have p285 : 0 ≤ (x13_1 : Int) := of_decide_eq_true (by first | (with_reducible assumption) | assumption)
         have q285 : x13_1 < (l0.length : Int) := of_decide_eq_true (by first | (with_reducible assumption) | assumption)
         obtain ⟨ad285, e285, hx285_0⟩ := Kd.at_int HR0.out x13_1 p285 q285
         cases e285
         replace p285 := eq_true p285
         replace q285 := eq_true q285
         have p286 : 0 ≤ (x13_1 : Int) := of_decide_eq_true (by first | (with_reducible assumption) | assumption)
         have q286 : x13_1 < (l1.length : Int) := of_decide_eq_true (by first | (with_reducible assumption) | assumption)
         obtain ⟨ad286, e286, hx286_0⟩ := Kd.at_int HR1.out x13_1 p286 q286
         cases e286
         replace p286 := eq_true p286
         replace q286 := eq_true q286
         go_wp2
         repeat (go_quiet (fail); try go_wp2)
         go_ret
         exact ⟨by first | rfl | (simp; done) | (simp [*]; done), by repeat (first | exact Drawn0.refl _ | apply Drawn0.step)⟩
       ·rw [if_neg c7] at H
        exact absurd H (by simp)
      ·rw [if_neg c6] at H
       exact absurd H (by simp)
     ·rw [if_neg c5] at H
      exact absurd H (by simp)
    ·rw [if_neg c4] at H
     have c4b0 : decide (x13_1 < (l0.length : Int)) = false := decide_eq_false c4
     clear c4
     obtain rfl := Option.some.inj H
     go_wp2
     repeat (go_quiet (fail); try go_wp2)
     go_ret
     exact ⟨by first | rfl | (simp; done) | (simp [*]; done), by repeat (first | exact Drawn0.refl _ | apply Drawn0.step)⟩
 ·rw [if_neg c3] at H
  have c3b0 : ((l0.length : Int) == (l1.length : Int)) = false := beq_eq_false_iff_ne.mpr c3
  have c3b1 : ((l0.length : Int) != (l1.length : Int)) = true := bne_iff_ne.mpr c3
  have c3b2 : (l0.length == l1.length) = false := by first | simpa using c3 | (simp at c3 ⊢; omega)
  obtain rfl := Option.some.inj H
  go_enter Try.func109, Try.ntmps109
  go_wp2
  repeat (go_quiet (fail); try go_wp2)
  go_ret
  exact ⟨by first | rfl | (simp; done) | (simp [*]; done), by repeat (first | exact Drawn0.refl _ | apply Drawn0.step)⟩

/-! ### impl_IsRanked: function 55 -/
def impl_IsRanked.f (k : Nat) (a0_0 : Int) (l0_1 : List Int) (l0_2 : List Int) (l0_3 : List Int) : Option (Bool) := (impl_IsBits.f k a0_0 l0_1).bind fun t288 => (if t288 = true then ((impl_ranked.f k a0_0 l0_1).bind fun bt289 => ((slices_Equal_int_int.f k bt289.2.2.1 l0_2).bind fun t300 => (if t300 = true then ((slices_Equal_int_int.f k bt289.2.2.2 l0_3).bind fun t301 => (some t301)) else (some false)))) else (some false))
theorem impl_IsRanked.mono : ∀ a0 a1 a2 a3 k, LeO (impl_IsRanked.f k a0 a1 a2 a3) (impl_IsRanked.f (k + 1) a0 a1 a2 a3) := by
 intro a0 a1 a2 a3 k
 unfold impl_IsRanked.f
 repeat' first
   | (with_reducible exact impl_IsBits.mono _ _ _)
   | (with_reducible exact impl_ranked.mono _ _ _)
   | (with_reducible exact slices_Equal_int_int.mono _ _ _)
   | (with_reducible exact LeO.refl _)
   | (with_reducible exact LeO.none _)
   | (with_reducible refine LeO.ite ?_ ?_)
   | (with_reducible refine LeO.bind ?_ (fun _ => ?_))
   | exact impl_IsBits.mono _ _ _
   | exact impl_ranked.mono _ _ _
   | exact slices_Equal_int_int.mono _ _ _
   | exact LeO.none _
   | refine LeO.ite ?_ ?_
   | refine LeO.bind ?_ (fun _ => ?_)
set_option maxHeartbeats 8000000 in
set_option maxRecDepth 100000 in
theorem impl_IsRanked.calls (k : Nat) (a0_0 : Int) (A0_1 : Option Addr) (c0_1 : Nat) (l0_1 : List Int) (A0_2 : Option Addr) (c0_2 : Nat) (l0_2 : List Int) (A0_3 : Option Addr) (c0_3 : Nat) (l0_3 : List Int) (r : Bool) (w : World) (hr0_1 : Kd.C (Kd.int .i64) w A0_1 l0_1.length l0_1) (hc0_1 : l0_1.length ≤ c0_1) (hr0_2 : Kd.C (Kd.int .i64) w A0_2 l0_2.length l0_2) (hc0_2 : l0_2.length ≤ c0_2) (hr0_3 : Kd.C (Kd.int .i64) w A0_3 l0_3.length l0_3) (hc0_3 : l0_3.length ≤ c0_3) (h : impl_IsRanked.f k a0_0 l0_1 l0_2 l0_3 = some r) :
  Calls Try.prog 55 #[.agg #[.int .i64 a0_0, .slice A0_1 l0_1.length c0_1, .slice A0_2 l0_2.length c0_2, .slice A0_3 l0_3.length c0_3]] w fun e w' => e = .returned (.bool r) ∧ Below w.heap.size w w' := by
 have hu48 := Try.underlying48
 have hu26 := Try.underlying26
 have HR0_1 := am_ hr0_1
 have HC0_1 := am_ hc0_1
 clear hr0_1 hc0_1
 have HR0_2 := am_ hr0_2
 have HC0_2 := am_ hc0_2
 clear hr0_2 hc0_2
 have HR0_3 := am_ hr0_3
 have HC0_3 := am_ hc0_3
 clear hr0_3 hc0_3
 have HB := am_ (Below.refl w.heap.size w)
 have H : ((impl_IsBits.f k a0_0 l0_1).bind fun t288 => (if t288 = true then ((impl_ranked.f k a0_0 l0_1).bind fun bt289 => ((slices_Equal_int_int.f k bt289.2.2.1 l0_2).bind fun t300 => (if t300 = true then ((slices_Equal_int_int.f k bt289.2.2.2 l0_3).bind fun t301 => (some t301)) else (some false)))) else (some false))) = some r := h
 clear h
 replace H := Option.bind_eq_some_iff.mp H
 obtain ⟨t288, A20, H⟩ := H
 replace H : (if t288 = true then ((impl_ranked.f k a0_0 l0_1).bind fun bt289 => ((slices_Equal_int_int.f k bt289.2.2.1 l0_2).bind fun t300 => (if t300 = true then ((slices_Equal_int_int.f k bt289.2.2.2 l0_3).bind fun t301 => (some t301)) else (some false)))) else (some false)) = some r := H
 have A2 := am_ A20
 clear A20
 by_cases c3 : t288 = true
 ·subst c3
  have H1 : ((impl_ranked.f k a0_0 l0_1).bind fun bt289 => ((slices_Equal_int_int.f k bt289.2.2.1 l0_2).bind fun t300 => (if t300 = true then ((slices_Equal_int_int.f k bt289.2.2.2 l0_3).bind fun t301 => (some t301)) else (some false)))) = some r := by rw [if_pos rfl] at H; exact H
  clear H
  have H := H1
  clear H1
  replace H := Option.bind_eq_some_iff.mp H
  obtain ⟨⟨t289, t290, t293, t296⟩, A40, H⟩ := H
  replace H : ((slices_Equal_int_int.f k t293 l0_2).bind fun t300 => (if t300 = true then ((slices_Equal_int_int.f k t296 l0_3).bind fun t301 => (some t301)) else (some false))) = some r := H
  have A4 := am_ A40
  clear A40
  replace H := Option.bind_eq_some_iff.mp H
  obtain ⟨t300, A50, H⟩ := H
  replace H : (if t300 = true then ((slices_Equal_int_int.f k t296 l0_3).bind fun t301 => (some t301)) else (some false)) = some r := H
  have A5 := am_ A50
  clear A50
  by_cases c6 : t300 = true
  ·subst c6
   have H1 : ((slices_Equal_int_int.f k t296 l0_3).bind fun t301 => (some t301)) = some r := by rw [if_pos rfl] at H; exact H
   clear H
   have H := H1
   clear H1
   replace H := Option.bind_eq_some_iff.mp H
   obtain ⟨t301, A70, H⟩ := H
   replace H : (some t301) = some r := H
   have A7 := am_ A70
   clear A70
   obtain rfl := Option.some.inj H
   go_enter Try.func55, Try.ntmps55
   go_wp2_with (first | ((with_reducible refine gate_dst (N := 1) rfl ?_); refine bev_ 1 #[.int .i64 a0_0, .slice A0_1 l0_1.length c0_1, .slice A0_2 l0_2.length c0_2, .slice A0_3 l0_3.length c0_3] 48 rfl rfl ?_; intro gb287 hg w8 hbox hb; have BK287 := am_ (hbox); have GW287 := am_ ((by rw [hg]; exact (below_size (lw_ HB)) : w.heap.size ≤ gb287)); have GE287 := am_ ((by rw [hg]; exact (below_size (lw_ HB)) : w.heap.size ≤ gb287)); replace HB := am_ (below_step (lw_ HB) hb); clear hb hbox hg; obtain ⟨hcz9_0, hcz9_1, hcz9_2, hcz9_3, hfz9_0, hfz9_1, hfz9_2, hfz9_3⟩ := bx4_ BK287.out) | ((with_reducible refine gate_callee (f := 73) rfl ?_); refine goesL_ (some 6) rfl rfl Try.func73 (by kernel_rfl) rfl #[.agg #[.int .i64 a0_0, .slice A0_1 l0_1.length c0_1]] rfl lm_ ?_; (with_reducible refine (impl_IsBits.calls k a0_0 _ _ l0_1 true _ ?side1 ?side2 A2.out).mono ?_); (case side1 => exact lc_ (Kd.C_below HR0_1.out HB.out)); (case side2 => exact HC0_1.out); rintro e w10 ⟨rfl, hb⟩; refine ⟨_, rfl, ?_⟩; replace BK287 := am_ (blk_below (g := gb287) (lb_ BK287) hb); replace HB := am_ (below_step (lw_ HB) hb); (try clear hb); (try clear hb2); (try clear hk); (try clear hi); obtain ⟨hcz11_0, hcz11_1, hcz11_2, hcz11_3, hfz11_0, hfz11_1, hfz11_2, hfz11_3⟩ := bx4_ BK287.out) | ((with_reducible refine gate_callee (f := 96) rfl ?_); refine goesL_ (some 10) rfl rfl Try.func96 (by kernel_rfl) rfl #[.agg #[.int .i64 a0_0, .slice A0_1 l0_1.length c0_1]] rfl lm_ ?_; (with_reducible refine (impl_ranked.calls k a0_0 _ _ l0_1 t289 t290 t293 t296 _ ?side1 ?side2 A4.out).mono ?_); (case side1 => exact lc_ (Kd.C_below HR0_1.out HB.out)); (case side2 => exact HC0_1.out); rintro e w12 ⟨v291, v294, v297, rfl, ho0, ho1, ho2, hb⟩; refine ⟨_, rfl, ?_⟩; have HO292 := am_ (Kd.R_lower ho0 (below_size (lw_ HB))); have HO295 := am_ (Kd.R_lower ho1 (below_size (lw_ HB))); have HO298 := am_ (Kd.R_lower ho2 (below_size (lw_ HB))); replace BK287 := am_ (blk_below (g := gb287) (lb_ BK287) hb); replace HB := am_ (below_step (lw_ HB) hb); (try clear hb); (try clear hb2); (try clear hk); (try clear hi); (try clear ho0); (try clear ho1); (try clear ho2)) | ((with_reducible refine gate_dst (N := 3) rfl ?_); refine bev_ 3 #[.int .i64 0, .slice none 0 0, .slice none 0 0, .slice none 0 0] 48 rfl rfl ?_; intro gb299 hg w13 hbox hb; have BK299 := am_ (hbox); have GW299 := am_ ((by rw [hg]; exact (below_size (lw_ HB)) : w.heap.size ≤ gb299)); have GE299 := am_ ((by rw [hg]; exact (below_size (lw_ HB)) : w.heap.size ≤ gb299)); have NB287_299 := am_ ((by rw [hg]; exact Nat.ne_of_lt (blk_lt (g := gb287) (lb_ BK287)) : gb287 ≠ gb299)); have NB299_287 := am_ ((by rw [hg]; exact Nat.ne_of_gt (blk_lt (g := gb287) (lb_ BK287)) : gb299 ≠ gb287)); replace HO292 := am_ (Kd.R_below (lf_ HO292) hb); replace HO295 := am_ (Kd.R_below (lf_ HO295) hb); replace HO298 := am_ (Kd.R_below (lf_ HO298) hb); replace BK287 := am_ (blk_below (g := gb287) (lb_ BK287) hb); replace HB := am_ (below_step (lw_ HB) hb); clear hb hbox hg; have hnb14 := NB299_287.out; have hnc14 := NB287_299.out; obtain ⟨hcz15_0, hcz15_1, hcz15_2, hcz15_3, hfz15_0, hfz15_1, hfz15_2, hfz15_3⟩ := bx4_ BK299.out; obtain ⟨Ao16, co16, eo16⟩ := Kd.R_slice HO292.out; subst eo16; obtain ⟨Ao17, co17, eo17⟩ := Kd.R_slice HO295.out; subst eo17; obtain ⟨Ao18, co18, eo18⟩ := Kd.R_slice HO298.out; subst eo18; obtain ⟨hcz19_0, hcz19_1, hcz19_2, hcz19_3, hfz19_0, hfz19_1, hfz19_2, hfz19_3⟩ := bx4_ BK287.out) | ((with_reducible refine gate_callee (f := 109) rfl ?_); refine goesL_ (some 15) rfl rfl Try.func109 (by kernel_rfl) rfl #[.slice Ao17 t293.length co17, .slice A0_2 l0_2.length c0_2] rfl lm_ ?_; (with_reducible refine (slices_Equal_int_int.calls k _ _ t293 _ _ l0_2 true _ ?side1 ?side2 ?side3 ?side4 A5.out).mono ?_); (case side1 => refine (Kd.R_reads' (e := 3) (base := w.heap.size) (ok := fun k_ => (ns_ k_ Ao16 t290 co16 ∧ ns_ k_ Ao18 t296 co18)) (n := t293.length) (c := co17) ?_).2.2; exact (lt_ ((m1_ (fr4_ HO295.out BK299.out (.int .i64 t289) (.slice Ao16 t290.length co16) (.slice Ao17 t293.length co17) (.slice Ao18 t296.length co18)))))); (case side2 => exact (Kd.R_reads' HO295.out).2.1); (case side3 => exact Kd.C_below HR0_2.out (lw_ HB)); (case side4 => exact HC0_2.out); rintro e w' ⟨rfl, ⟨nd, rfl⟩⟩; refine ⟨_, rfl, ?_⟩) | (go_at_call 109; (with_reducible refine (slices_Equal_int_int.calls k _ _ t296 _ _ l0_3 t301 _ ?side1 ?side2 ?side3 ?side4 A7.out).mono ?_); (case side1 => refine (Kd.R_reads' (e := 3) (base := w.heap.size) (ok := fun k_ => (ns_ k_ Ao16 t290 co16 ∧ ns_ k_ Ao17 t293 co17)) (n := t296.length) (c := co18) ?_).2.2; exact (lt_ ((m1_ (fr4_ HO298.out BK299.out (.int .i64 t289) (.slice Ao16 t290.length co16) (.slice Ao17 t293.length co17) (.slice Ao18 t296.length co18)))))); (case side2 => exact (Kd.R_reads' HO298.out).2.1); (case side3 => exact Kd.C_below HR0_3.out (lw_ HB)); (case side4 => exact HC0_3.out); rintro e w' ⟨rfl, ⟨nd, rfl⟩⟩))
   go_ret
   exact ⟨er_, lw_ HB⟩
  ·replace c6 := Bool.eq_false_iff.mpr c6
   subst c6
   have H1 : (some false) = some r := by rw [if_neg (show ¬ (false = true) by decide)] at H; exact H
   clear H
   have H := H1
   clear H1
   obtain rfl := Option.some.inj H
   go_enter Try.func55, Try.ntmps55
   go_wp2_with (first | ((with_reducible refine gate_dst (N := 1) rfl ?_); refine bev_ 1 #[.int .i64 a0_0, .slice A0_1 l0_1.length c0_1, .slice A0_2 l0_2.length c0_2, .slice A0_3 l0_3.length c0_3] 48 rfl rfl ?_; intro gb287 hg w20 hbox hb; have BK287 := am_ (hbox); have GW287 := am_ ((by rw [hg]; exact (below_size (lw_ HB)) : w.heap.size ≤ gb287)); have GE287 := am_ ((by rw [hg]; exact (below_size (lw_ HB)) : w.heap.size ≤ gb287)); replace HB := am_ (below_step (lw_ HB) hb); clear hb hbox hg; obtain ⟨hcz21_0, hcz21_1, hcz21_2, hcz21_3, hfz21_0, hfz21_1, hfz21_2, hfz21_3⟩ := bx4_ BK287.out) | ((with_reducible refine gate_callee (f := 73) rfl ?_); refine goesL_ (some 6) rfl rfl Try.func73 (by kernel_rfl) rfl #[.agg #[.int .i64 a0_0, .slice A0_1 l0_1.length c0_1]] rfl lm_ ?_; (with_reducible refine (impl_IsBits.calls k a0_0 _ _ l0_1 true _ ?side1 ?side2 A2.out).mono ?_); (case side1 => exact lc_ (Kd.C_below HR0_1.out HB.out)); (case side2 => exact HC0_1.out); rintro e w22 ⟨rfl, hb⟩; refine ⟨_, rfl, ?_⟩; replace BK287 := am_ (blk_below (g := gb287) (lb_ BK287) hb); replace HB := am_ (below_step (lw_ HB) hb); (try clear hb); (try clear hb2); (try clear hk); (try clear hi); obtain ⟨hcz23_0, hcz23_1, hcz23_2, hcz23_3, hfz23_0, hfz23_1, hfz23_2, hfz23_3⟩ := bx4_ BK287.out) | ((with_reducible refine gate_callee (f := 96) rfl ?_); refine goesL_ (some 10) rfl rfl Try.func96 (by kernel_rfl) rfl #[.agg #[.int .i64 a0_0, .slice A0_1 l0_1.length c0_1]] rfl lm_ ?_; (with_reducible refine (impl_ranked.calls k a0_0 _ _ l0_1 t289 t290 t293 t296 _ ?side1 ?side2 A4.out).mono ?_); (case side1 => exact lc_ (Kd.C_below HR0_1.out HB.out)); (case side2 => exact HC0_1.out); rintro e w24 ⟨v291, v294, v297, rfl, ho0, ho1, ho2, hb⟩; refine ⟨_, rfl, ?_⟩; have HO292 := am_ (Kd.R_lower ho0 (below_size (lw_ HB))); have HO295 := am_ (Kd.R_lower ho1 (below_size (lw_ HB))); have HO298 := am_ (Kd.R_lower ho2 (below_size (lw_ HB))); replace BK287 := am_ (blk_below (g := gb287) (lb_ BK287) hb); replace HB := am_ (below_step (lw_ HB) hb); (try clear hb); (try clear hb2); (try clear hk); (try clear hi); (try clear ho0); (try clear ho1); (try clear ho2)) | ((with_reducible refine gate_dst (N := 3) rfl ?_); refine bev_ 3 #[.int .i64 0, .slice none 0 0, .slice none 0 0, .slice none 0 0] 48 rfl rfl ?_; intro gb299 hg w25 hbox hb; have BK299 := am_ (hbox); have GW299 := am_ ((by rw [hg]; exact (below_size (lw_ HB)) : w.heap.size ≤ gb299)); have GE299 := am_ ((by rw [hg]; exact (below_size (lw_ HB)) : w.heap.size ≤ gb299)); have NB287_299 := am_ ((by rw [hg]; exact Nat.ne_of_lt (blk_lt (g := gb287) (lb_ BK287)) : gb287 ≠ gb299)); have NB299_287 := am_ ((by rw [hg]; exact Nat.ne_of_gt (blk_lt (g := gb287) (lb_ BK287)) : gb299 ≠ gb287)); replace HO292 := am_ (Kd.R_below (lf_ HO292) hb); replace HO295 := am_ (Kd.R_below (lf_ HO295) hb); replace HO298 := am_ (Kd.R_below (lf_ HO298) hb); replace BK287 := am_ (blk_below (g := gb287) (lb_ BK287) hb); replace HB := am_ (below_step (lw_ HB) hb); clear hb hbox hg; have hnb26 := NB299_287.out; have hnc26 := NB287_299.out; obtain ⟨hcz27_0, hcz27_1, hcz27_2, hcz27_3, hfz27_0, hfz27_1, hfz27_2, hfz27_3⟩ := bx4_ BK299.out; obtain ⟨Ao28, co28, eo28⟩ := Kd.R_slice HO292.out; subst eo28; obtain ⟨Ao29, co29, eo29⟩ := Kd.R_slice HO295.out; subst eo29; obtain ⟨Ao30, co30, eo30⟩ := Kd.R_slice HO298.out; subst eo30; obtain ⟨hcz31_0, hcz31_1, hcz31_2, hcz31_3, hfz31_0, hfz31_1, hfz31_2, hfz31_3⟩ := bx4_ BK287.out) | ((with_reducible refine gate_callee (f := 109) rfl ?_); refine goesL_ (some 15) rfl rfl Try.func109 (by kernel_rfl) rfl #[.slice Ao29 t293.length co29, .slice A0_2 l0_2.length c0_2] rfl lm_ ?_; (with_reducible refine (slices_Equal_int_int.calls k _ _ t293 _ _ l0_2 false _ ?side1 ?side2 ?side3 ?side4 A5.out).mono ?_); (case side1 => refine (Kd.R_reads' (e := 3) (base := w.heap.size) (ok := fun k_ => (ns_ k_ Ao28 t290 co28 ∧ ns_ k_ Ao30 t296 co30)) (n := t293.length) (c := co29) ?_).2.2; exact (lt_ ((m1_ (fr4_ HO295.out BK299.out (.int .i64 t289) (.slice Ao28 t290.length co28) (.slice Ao29 t293.length co29) (.slice Ao30 t296.length co30)))))); (case side2 => exact (Kd.R_reads' HO295.out).2.1); (case side3 => exact Kd.C_below HR0_2.out (lw_ HB)); (case side4 => exact HC0_2.out); rintro e w' ⟨rfl, ⟨nd, rfl⟩⟩; refine ⟨_, rfl, ?_⟩))
   go_ret
   exact ⟨er_, lw_ HB⟩
 ·replace c3 := Bool.eq_false_iff.mpr c3
  subst c3
  have H1 : (some false) = some r := by rw [if_neg (show ¬ (false = true) by decide)] at H; exact H
  clear H
  have H := H1
  clear H1
  obtain rfl := Option.some.inj H
  go_enter Try.func55, Try.ntmps55
  go_wp2_with (first | ((with_reducible refine gate_dst (N := 1) rfl ?_); refine bev_ 1 #[.int .i64 a0_0, .slice A0_1 l0_1.length c0_1, .slice A0_2 l0_2.length c0_2, .slice A0_3 l0_3.length c0_3] 48 rfl rfl ?_; intro gb287 hg w32 hbox hb; have BK287 := am_ (hbox); have GW287 := am_ ((by rw [hg]; exact (below_size (lw_ HB)) : w.heap.size ≤ gb287)); have GE287 := am_ ((by rw [hg]; exact (below_size (lw_ HB)) : w.heap.size ≤ gb287)); replace HB := am_ (below_step (lw_ HB) hb); clear hb hbox hg; obtain ⟨hcz33_0, hcz33_1, hcz33_2, hcz33_3, hfz33_0, hfz33_1, hfz33_2, hfz33_3⟩ := bx4_ BK287.out) | ((with_reducible refine gate_callee (f := 73) rfl ?_); refine goesL_ (some 6) rfl rfl Try.func73 (by kernel_rfl) rfl #[.agg #[.int .i64 a0_0, .slice A0_1 l0_1.length c0_1]] rfl lm_ ?_; (with_reducible refine (impl_IsBits.calls k a0_0 _ _ l0_1 false _ ?side1 ?side2 A2.out).mono ?_); (case side1 => exact lc_ (Kd.C_below HR0_1.out HB.out)); (case side2 => exact HC0_1.out); rintro e w34 ⟨rfl, hb⟩; refine ⟨_, rfl, ?_⟩; replace BK287 := am_ (blk_below (g := gb287) (lb_ BK287) hb); replace HB := am_ (below_step (lw_ HB) hb); (try clear hb); (try clear hb2); (try clear hk); (try clear hi)))
  go_ret
  exact ⟨er_, lw_ HB⟩

end Go.Proofs.Ytkmhjgejficclaa.PFnExactJoinRanked
