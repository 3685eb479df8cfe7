-- Laid by a program of this session: the print of the kit with additions of ours (wip/tools/patchprint.py). Nothing of it is trusted: Lean checks it.
import Derived.Test.YtkmhjgejficclaaPFnExactJoinRankedx0
import Derived.Test.YtkmhjgejficclaaPFnExactJoinRankedx1
import Derived.Test.YtkmhjgejficclaaPFnExactJoinRankedx4
import Derived.Test.YtkmhjgejficclaaPFnExactJoinRankedx5
import Derived.Test.YtkmhjgejficclaaPFnExactJoinRankedx8
import Derived.Test.YtkmhjgejficclaaPFnExactJoinRankedx9
import Derived.Test.YtkmhjgejficclaaPFnExactJoinRankedx10
namespace Go.Proofs.Ytkmhjgejficclaa.PFnExactJoinRanked
open Go.RowKit Go.Proofs.YtkmhjgejficclaaW.PrintWords Go.Proofs.YtkmhjgejficclaaW.PrintLast Go.Proofs.YtkmhjgejficclaaW.PrintMore
attribute [local go_sem] max2_int min2_int max_two min_two max_three min_three max_four min_four   -- for this text's walks alone
set_option linter.unusedVariables false
set_option linter.unusedSimpArgs false

set_option maxHeartbeats 8000000 in
set_option maxRecDepth 100000 in
theorem laws_FnExactJoinRanked.calls (k : Nat) (a0_0 : Int) (A0_1 : Option Addr) (c0_1 : Nat) (l0_1 : List Int) (A0_2 : Option Addr) (c0_2 : Nat) (l0_2 : List Int) (A0_3 : Option Addr) (c0_3 : Nat) (l0_3 : List Int) (a1_0 : Int) (A1_1 : Option Addr) (c1_1 : Nat) (l1_1 : List Int) (A1_2 : Option Addr) (c1_2 : Nat) (l1_2 : List Int) (A1_3 : Option Addr) (c1_3 : Nat) (l1_3 : List Int) (r : Bool) (w : World) (hr0_1 : Kd.C (Kd.int .i64) w A0_1 l0_1.length l0_1) (hc0_1 : l0_1.length ≤ c0_1) (hr0_2 : Kd.C (Kd.int .i64) w A0_2 l0_2.length l0_2) (hc0_2 : l0_2.length ≤ c0_2) (hr0_3 : Kd.C (Kd.int .i64) w A0_3 l0_3.length l0_3) (hc0_3 : l0_3.length ≤ c0_3) (hr1_1 : Kd.C (Kd.int .i64) w A1_1 l1_1.length l1_1) (hc1_1 : l1_1.length ≤ c1_1) (hr1_2 : Kd.C (Kd.int .i64) w A1_2 l1_2.length l1_2) (hc1_2 : l1_2.length ≤ c1_2) (hr1_3 : Kd.C (Kd.int .i64) w A1_3 l1_3.length l1_3) (hc1_3 : l1_3.length ≤ c1_3) (h : laws_FnExactJoinRanked.f k a0_0 l0_1 l0_2 l0_3 a1_0 l1_1 l1_2 l1_3 = some r) :
  Calls Try.prog 8 #[.agg #[.int .i64 a0_0, .slice A0_1 l0_1.length c0_1, .slice A0_2 l0_2.length c0_2, .slice A0_3 l0_3.length c0_3], .agg #[.int .i64 a1_0, .slice A1_1 l1_1.length c1_1, .slice A1_2 l1_2.length c1_2, .slice A1_3 l1_3.length c1_3]] w fun e w' => e = .returned (.bool r) ∧ Below w.heap.size w w' := by
 have hu45 := Try.underlying45
 have hu48 := Try.underlying48
 have HR0_1 := am_ hr0_1
 have HC0_1 := am_ hc0_1
 clear hr0_1 hc0_1
 have HR0_2 := am_ hr0_2
 have HC0_2 := am_ hc0_2
 clear hr0_2 hc0_2
 have HR0_3 := am_ hr0_3
 have HC0_3 := am_ hc0_3
 clear hr0_3 hc0_3
 have HR1_1 := am_ hr1_1
 have HC1_1 := am_ hc1_1
 clear hr1_1 hc1_1
 have HR1_2 := am_ hr1_2
 have HC1_2 := am_ hc1_2
 clear hr1_2 hc1_2
 have HR1_3 := am_ hr1_3
 have HC1_3 := am_ hc1_3
 clear hr1_3 hc1_3
 have HB := am_ (Below.refl w.heap.size w)
 have H : ((laws_szRanked.f a0_0 l0_1 l0_2 l0_3 1048576).bind fun t353 => (if t353 < 0 then (some true) else ((laws_szRanked.f a1_0 l1_1 l1_2 l1_3 t353).bind fun t354 => (if t354 < 0 then (some true) else ((laws_toRanked.f k a0_0 l0_1 l0_2 l0_3).bind fun bt355 => ((laws_toRanked.f k a1_0 l1_1 l1_2 l1_3).bind fun bt365 => ((spec_JoinRanked.f k bt355.1 bt355.2.1 bt355.2.2.1 bt355.2.2.2 bt365.1 bt365.2.1 bt365.2.2.1 bt365.2.2.2).bind fun bt375 => ((laws_toRanked.f k a0_0 l0_1 l0_2 l0_3).bind fun bt387 => ((laws_toRanked.f k a1_0 l1_1 l1_2 l1_3).bind fun bt398 => ((impl_JoinRanked.f k bt387.1 bt387.2.1 bt387.2.2.1 bt387.2.2.2 bt398.1 bt398.2.1 bt398.2.2.1 bt398.2.2.2).bind fun bt409 => ((laws_eqRanked.f k bt409.1 bt409.2.1 bt409.2.2.1 bt409.2.2.2.1 bt375.1 bt375.2.1 bt375.2.2.1 bt375.2.2.2.1).bind fun t421 => (if t421 = true then (laws_FnExactJoinRanked.j0 k bt375.2.2.2.2 bt409.2.2.2.2 (bt409.2.2.2.2 != bt375.2.2.2.2) a0_0 l0_1 l0_2 l0_3 a1_0 l1_1 l1_2 l1_3 bt375.1 bt375.2.1 bt375.2.2.1 bt375.2.2.2.1 bt387.1 bt387.2.1 bt387.2.2.1 bt387.2.2.2 bt398.1 bt398.2.1 bt398.2.2.1 bt398.2.2.2 bt409.1 bt409.2.1 bt409.2.2.1 bt409.2.2.2.1) else (none))))))))))))) = some r := h
 clear h
 replace H := Option.bind_eq_some_iff.mp H
 obtain ⟨t353, A30, H⟩ := H
 replace H : (if t353 < 0 then (some true) else ((laws_szRanked.f a1_0 l1_1 l1_2 l1_3 t353).bind fun t354 => (if t354 < 0 then (some true) else ((laws_toRanked.f k a0_0 l0_1 l0_2 l0_3).bind fun bt355 => ((laws_toRanked.f k a1_0 l1_1 l1_2 l1_3).bind fun bt365 => ((spec_JoinRanked.f k bt355.1 bt355.2.1 bt355.2.2.1 bt355.2.2.2 bt365.1 bt365.2.1 bt365.2.2.1 bt365.2.2.2).bind fun bt375 => ((laws_toRanked.f k a0_0 l0_1 l0_2 l0_3).bind fun bt387 => ((laws_toRanked.f k a1_0 l1_1 l1_2 l1_3).bind fun bt398 => ((impl_JoinRanked.f k bt387.1 bt387.2.1 bt387.2.2.1 bt387.2.2.2 bt398.1 bt398.2.1 bt398.2.2.1 bt398.2.2.2).bind fun bt409 => ((laws_eqRanked.f k bt409.1 bt409.2.1 bt409.2.2.1 bt409.2.2.2.1 bt375.1 bt375.2.1 bt375.2.2.1 bt375.2.2.2.1).bind fun t421 => (if t421 = true then (laws_FnExactJoinRanked.j0 k bt375.2.2.2.2 bt409.2.2.2.2 (bt409.2.2.2.2 != bt375.2.2.2.2) a0_0 l0_1 l0_2 l0_3 a1_0 l1_1 l1_2 l1_3 bt375.1 bt375.2.1 bt375.2.2.1 bt375.2.2.2.1 bt387.1 bt387.2.1 bt387.2.2.1 bt387.2.2.2 bt398.1 bt398.2.1 bt398.2.2.1 bt398.2.2.2 bt409.1 bt409.2.1 bt409.2.2.1 bt409.2.2.2.1) else (none)))))))))))) = some r := H
 have A3 := am_ A30
 clear A30
 by_cases c4 : t353 < 0
 ·rw [if_pos c4] at H
  have c4b0 : decide (t353 < 0) = true := decide_eq_true c4
  clear c4
  obtain rfl := Option.some.inj H
  go_enter Try.func8, Try.ntmps8
  go_wp2_with (first | ((with_reducible refine gate_dst (N := 2) rfl ?_); refine bev_ 2 #[.int .i64 a0_0, .slice A0_1 l0_1.length c0_1, .slice A0_2 l0_2.length c0_2, .slice A0_3 l0_3.length c0_3] 45 rfl rfl ?_; intro gb351 hg w5 hbox hb; have BK351 := am_ (hbox); have GW351 := am_ ((by rw [hg]; exact (below_size (lw_ HB)) : w.heap.size ≤ gb351)); have GE351 := am_ ((by rw [hg]; exact (below_size (lw_ HB)) : w.heap.size ≤ gb351)); replace HB := am_ (below_step (lw_ HB) hb); clear hb hbox hg) | ((with_reducible refine gate_dst (N := 3) rfl ?_); refine bev_ 3 #[.int .i64 a1_0, .slice A1_1 l1_1.length c1_1, .slice A1_2 l1_2.length c1_2, .slice A1_3 l1_3.length c1_3] 45 rfl rfl ?_; intro gb352 hg w6 hbox hb; have BK352 := am_ (hbox); have GW352 := am_ ((by rw [hg]; exact (below_size (lw_ HB)) : w.heap.size ≤ gb352)); have GE352 := am_ ((by rw [hg]; exact (below_size (lw_ HB)) : w.heap.size ≤ gb352)); have NB351_352 := am_ ((by rw [hg]; exact Nat.ne_of_lt (blk_lt (g := gb351) (lb_ BK351)) : gb351 ≠ gb352)); have NB352_351 := am_ ((by rw [hg]; exact Nat.ne_of_gt (blk_lt (g := gb351) (lb_ BK351)) : gb352 ≠ gb351)); replace BK351 := am_ (blk_below (g := gb351) (lb_ BK351) hb); replace HB := am_ (below_step (lw_ HB) hb); clear hb hbox hg; have hnb7 := NB351_352.out; have hnc7 := NB352_351.out; obtain ⟨hcz8_0, hcz8_1, hcz8_2, hcz8_3, hfz8_0, hfz8_1, hfz8_2, hfz8_3⟩ := bx4_ BK351.out) | ((with_reducible refine gate_callee (f := 34) rfl ?_); refine goesL_ (some 19) rfl rfl Try.func34 (by kernel_rfl) rfl #[.agg #[.int .i64 a0_0, .slice A0_1 l0_1.length c0_1, .slice A0_2 l0_2.length c0_2, .slice A0_3 l0_3.length c0_3], .int .i64 1048576] rfl lm_ ?_; (with_reducible refine (laws_szRanked.calls a0_0 _ _ l0_1 _ _ l0_2 _ _ l0_3 1048576 t353 _ ?side1 ?side2 ?side3 ?side4 ?side5 ?side6 A3.out).mono ?_); (case side1 => exact lc_ (Kd.C_below HR0_1.out HB.out)); (case side2 => exact HC0_1.out); (case side3 => exact lc_ (Kd.C_below HR0_2.out HB.out)); (case side4 => exact HC0_2.out); (case side5 => exact lc_ (Kd.C_below HR0_3.out HB.out)); (case side6 => exact HC0_3.out); rintro e w9 ⟨rfl, hb⟩; refine ⟨_, rfl, ?_⟩; replace BK351 := am_ (blk_below (g := gb351) (lb_ BK351) hb); replace BK352 := am_ (blk_below (g := gb352) (lb_ BK352) hb); replace HB := am_ (below_step (lw_ HB) hb); (try clear hb); (try clear hb2); (try clear hk); (try clear hi)))
  go_ret
  exact ⟨er_, lw_ HB⟩
 ·rw [if_neg c4] at H
  have c4b0 : decide (t353 < 0) = false := decide_eq_false c4
  clear c4
  replace H := Option.bind_eq_some_iff.mp H
  obtain ⟨t354, A100, H⟩ := H
  replace H : (if t354 < 0 then (some true) else ((laws_toRanked.f k a0_0 l0_1 l0_2 l0_3).bind fun bt355 => ((laws_toRanked.f k a1_0 l1_1 l1_2 l1_3).bind fun bt365 => ((spec_JoinRanked.f k bt355.1 bt355.2.1 bt355.2.2.1 bt355.2.2.2 bt365.1 bt365.2.1 bt365.2.2.1 bt365.2.2.2).bind fun bt375 => ((laws_toRanked.f k a0_0 l0_1 l0_2 l0_3).bind fun bt387 => ((laws_toRanked.f k a1_0 l1_1 l1_2 l1_3).bind fun bt398 => ((impl_JoinRanked.f k bt387.1 bt387.2.1 bt387.2.2.1 bt387.2.2.2 bt398.1 bt398.2.1 bt398.2.2.1 bt398.2.2.2).bind fun bt409 => ((laws_eqRanked.f k bt409.1 bt409.2.1 bt409.2.2.1 bt409.2.2.2.1 bt375.1 bt375.2.1 bt375.2.2.1 bt375.2.2.2.1).bind fun t421 => (if t421 = true then (laws_FnExactJoinRanked.j0 k bt375.2.2.2.2 bt409.2.2.2.2 (bt409.2.2.2.2 != bt375.2.2.2.2) a0_0 l0_1 l0_2 l0_3 a1_0 l1_1 l1_2 l1_3 bt375.1 bt375.2.1 bt375.2.2.1 bt375.2.2.2.1 bt387.1 bt387.2.1 bt387.2.2.1 bt387.2.2.2 bt398.1 bt398.2.1 bt398.2.2.1 bt398.2.2.2 bt409.1 bt409.2.1 bt409.2.2.1 bt409.2.2.2.1) else (none)))))))))) = some r := H
  have A10 := am_ A100
  clear A100
  by_cases c11 : t354 < 0
  ·rw [if_pos c11] at H
   have c11b0 : decide (t354 < 0) = true := decide_eq_true c11
   clear c11
   obtain rfl := Option.some.inj H
   go_enter Try.func8, Try.ntmps8
   go_wp2_with (first | ((with_reducible refine gate_dst (N := 2) rfl ?_); refine bev_ 2 #[.int .i64 a0_0, .slice A0_1 l0_1.length c0_1, .slice A0_2 l0_2.length c0_2, .slice A0_3 l0_3.length c0_3] 45 rfl rfl ?_; intro gb351 hg w12 hbox hb; have BK351 := am_ (hbox); have GW351 := am_ ((by rw [hg]; exact (below_size (lw_ HB)) : w.heap.size ≤ gb351)); have GE351 := am_ ((by rw [hg]; exact (below_size (lw_ HB)) : w.heap.size ≤ gb351)); replace HB := am_ (below_step (lw_ HB) hb); clear hb hbox hg) | ((with_reducible refine gate_dst (N := 3) rfl ?_); refine bev_ 3 #[.int .i64 a1_0, .slice A1_1 l1_1.length c1_1, .slice A1_2 l1_2.length c1_2, .slice A1_3 l1_3.length c1_3] 45 rfl rfl ?_; intro gb352 hg w13 hbox hb; have BK352 := am_ (hbox); have GW352 := am_ ((by rw [hg]; exact (below_size (lw_ HB)) : w.heap.size ≤ gb352)); have GE352 := am_ ((by rw [hg]; exact (below_size (lw_ HB)) : w.heap.size ≤ gb352)); have NB351_352 := am_ ((by rw [hg]; exact Nat.ne_of_lt (blk_lt (g := gb351) (lb_ BK351)) : gb351 ≠ gb352)); have NB352_351 := am_ ((by rw [hg]; exact Nat.ne_of_gt (blk_lt (g := gb351) (lb_ BK351)) : gb352 ≠ gb351)); replace BK351 := am_ (blk_below (g := gb351) (lb_ BK351) hb); replace HB := am_ (below_step (lw_ HB) hb); clear hb hbox hg; have hnb14 := NB351_352.out; have hnc14 := NB352_351.out; obtain ⟨hcz15_0, hcz15_1, hcz15_2, hcz15_3, hfz15_0, hfz15_1, hfz15_2, hfz15_3⟩ := bx4_ BK351.out) | ((with_reducible refine gate_callee (f := 34) rfl ?_); refine goesL_ (some 19) rfl rfl Try.func34 (by kernel_rfl) rfl #[.agg #[.int .i64 a0_0, .slice A0_1 l0_1.length c0_1, .slice A0_2 l0_2.length c0_2, .slice A0_3 l0_3.length c0_3], .int .i64 1048576] rfl lm_ ?_; (with_reducible refine (laws_szRanked.calls a0_0 _ _ l0_1 _ _ l0_2 _ _ l0_3 1048576 t353 _ ?side1 ?side2 ?side3 ?side4 ?side5 ?side6 A3.out).mono ?_); (case side1 => exact lc_ (Kd.C_below HR0_1.out HB.out)); (case side2 => exact HC0_1.out); (case side3 => exact lc_ (Kd.C_below HR0_2.out HB.out)); (case side4 => exact HC0_2.out); (case side5 => exact lc_ (Kd.C_below HR0_3.out HB.out)); (case side6 => exact HC0_3.out); rintro e w16 ⟨rfl, hb⟩; refine ⟨_, rfl, ?_⟩; replace BK351 := am_ (blk_below (g := gb351) (lb_ BK351) hb); replace BK352 := am_ (blk_below (g := gb352) (lb_ BK352) hb); replace HB := am_ (below_step (lw_ HB) hb); (try clear hb); (try clear hb2); (try clear hk); (try clear hi); obtain ⟨hcz17_0, hcz17_1, hcz17_2, hcz17_3, hfz17_0, hfz17_1, hfz17_2, hfz17_3⟩ := bx4_ BK352.out) | ((with_reducible refine gate_callee (f := 34) rfl ?_); refine goesL_ (some 24) rfl rfl Try.func34 (by kernel_rfl) rfl #[.agg #[.int .i64 a1_0, .slice A1_1 l1_1.length c1_1, .slice A1_2 l1_2.length c1_2, .slice A1_3 l1_3.length c1_3], .int .i64 t353] rfl lm_ ?_; (with_reducible refine (laws_szRanked.calls a1_0 _ _ l1_1 _ _ l1_2 _ _ l1_3 t353 t354 _ ?side1 ?side2 ?side3 ?side4 ?side5 ?side6 A10.out).mono ?_); (case side1 => exact lc_ (Kd.C_below HR1_1.out HB.out)); (case side2 => exact HC1_1.out); (case side3 => exact lc_ (Kd.C_below HR1_2.out HB.out)); (case side4 => exact HC1_2.out); (case side5 => exact lc_ (Kd.C_below HR1_3.out HB.out)); (case side6 => exact HC1_3.out); rintro e w18 ⟨rfl, hb⟩; refine ⟨_, rfl, ?_⟩; replace BK351 := am_ (blk_below (g := gb351) (lb_ BK351) hb); replace BK352 := am_ (blk_below (g := gb352) (lb_ BK352) hb); replace HB := am_ (below_step (lw_ HB) hb); (try clear hb); (try clear hb2); (try clear hk); (try clear hi)))
   go_ret
   exact ⟨er_, lw_ HB⟩
  ·rw [if_neg c11] at H
   have c11b0 : decide (t354 < 0) = false := decide_eq_false c11
   clear c11
   replace H := Option.bind_eq_some_iff.mp H
   obtain ⟨⟨t355, t356, t359, t362⟩, A190, H⟩ := H
   replace H : ((laws_toRanked.f k a1_0 l1_1 l1_2 l1_3).bind fun bt365 => ((spec_JoinRanked.f k t355 t356 t359 t362 bt365.1 bt365.2.1 bt365.2.2.1 bt365.2.2.2).bind fun bt375 => ((laws_toRanked.f k a0_0 l0_1 l0_2 l0_3).bind fun bt387 => ((laws_toRanked.f k a1_0 l1_1 l1_2 l1_3).bind fun bt398 => ((impl_JoinRanked.f k bt387.1 bt387.2.1 bt387.2.2.1 bt387.2.2.2 bt398.1 bt398.2.1 bt398.2.2.1 bt398.2.2.2).bind fun bt409 => ((laws_eqRanked.f k bt409.1 bt409.2.1 bt409.2.2.1 bt409.2.2.2.1 bt375.1 bt375.2.1 bt375.2.2.1 bt375.2.2.2.1).bind fun t421 => (if t421 = true then (laws_FnExactJoinRanked.j0 k bt375.2.2.2.2 bt409.2.2.2.2 (bt409.2.2.2.2 != bt375.2.2.2.2) a0_0 l0_1 l0_2 l0_3 a1_0 l1_1 l1_2 l1_3 bt375.1 bt375.2.1 bt375.2.2.1 bt375.2.2.2.1 bt387.1 bt387.2.1 bt387.2.2.1 bt387.2.2.2 bt398.1 bt398.2.1 bt398.2.2.1 bt398.2.2.2 bt409.1 bt409.2.1 bt409.2.2.1 bt409.2.2.2.1) else (none)))))))) = some r := H
   have A19 := am_ A190
   clear A190
   replace H := Option.bind_eq_some_iff.mp H
   obtain ⟨⟨t365, t366, t369, t372⟩, A200, H⟩ := H
   replace H : ((spec_JoinRanked.f k t355 t356 t359 t362 t365 t366 t369 t372).bind fun bt375 => ((laws_toRanked.f k a0_0 l0_1 l0_2 l0_3).bind fun bt387 => ((laws_toRanked.f k a1_0 l1_1 l1_2 l1_3).bind fun bt398 => ((impl_JoinRanked.f k bt387.1 bt387.2.1 bt387.2.2.1 bt387.2.2.2 bt398.1 bt398.2.1 bt398.2.2.1 bt398.2.2.2).bind fun bt409 => ((laws_eqRanked.f k bt409.1 bt409.2.1 bt409.2.2.1 bt409.2.2.2.1 bt375.1 bt375.2.1 bt375.2.2.1 bt375.2.2.2.1).bind fun t421 => (if t421 = true then (laws_FnExactJoinRanked.j0 k bt375.2.2.2.2 bt409.2.2.2.2 (bt409.2.2.2.2 != bt375.2.2.2.2) a0_0 l0_1 l0_2 l0_3 a1_0 l1_1 l1_2 l1_3 bt375.1 bt375.2.1 bt375.2.2.1 bt375.2.2.2.1 bt387.1 bt387.2.1 bt387.2.2.1 bt387.2.2.2 bt398.1 bt398.2.1 bt398.2.2.1 bt398.2.2.2 bt409.1 bt409.2.1 bt409.2.2.1 bt409.2.2.2.1) else (none))))))) = some r := H
   have A20 := am_ A200
   clear A200
   replace H := Option.bind_eq_some_iff.mp H
   obtain ⟨⟨t375, t376, t379, t382, t385⟩, A210, H⟩ := H
   replace H : ((laws_toRanked.f k a0_0 l0_1 l0_2 l0_3).bind fun bt387 => ((laws_toRanked.f k a1_0 l1_1 l1_2 l1_3).bind fun bt398 => ((impl_JoinRanked.f k bt387.1 bt387.2.1 bt387.2.2.1 bt387.2.2.2 bt398.1 bt398.2.1 bt398.2.2.1 bt398.2.2.2).bind fun bt409 => ((laws_eqRanked.f k bt409.1 bt409.2.1 bt409.2.2.1 bt409.2.2.2.1 t375 t376 t379 t382).bind fun t421 => (if t421 = true then (laws_FnExactJoinRanked.j0 k t385 bt409.2.2.2.2 (bt409.2.2.2.2 != t385) a0_0 l0_1 l0_2 l0_3 a1_0 l1_1 l1_2 l1_3 t375 t376 t379 t382 bt387.1 bt387.2.1 bt387.2.2.1 bt387.2.2.2 bt398.1 bt398.2.1 bt398.2.2.1 bt398.2.2.2 bt409.1 bt409.2.1 bt409.2.2.1 bt409.2.2.2.1) else (none)))))) = some r := H
   have A21 := am_ A210
   clear A210
   replace H := Option.bind_eq_some_iff.mp H
   obtain ⟨⟨t387, t388, t391, t394⟩, A220, H⟩ := H
   replace H : ((laws_toRanked.f k a1_0 l1_1 l1_2 l1_3).bind fun bt398 => ((impl_JoinRanked.f k t387 t388 t391 t394 bt398.1 bt398.2.1 bt398.2.2.1 bt398.2.2.2).bind fun bt409 => ((laws_eqRanked.f k bt409.1 bt409.2.1 bt409.2.2.1 bt409.2.2.2.1 t375 t376 t379 t382).bind fun t421 => (if t421 = true then (laws_FnExactJoinRanked.j0 k t385 bt409.2.2.2.2 (bt409.2.2.2.2 != t385) a0_0 l0_1 l0_2 l0_3 a1_0 l1_1 l1_2 l1_3 t375 t376 t379 t382 t387 t388 t391 t394 bt398.1 bt398.2.1 bt398.2.2.1 bt398.2.2.2 bt409.1 bt409.2.1 bt409.2.2.1 bt409.2.2.2.1) else (none))))) = some r := H
   have A22 := am_ A220
   clear A220
   replace H := Option.bind_eq_some_iff.mp H
   obtain ⟨⟨t398, t399, t402, t405⟩, A230, H⟩ := H
   replace H : ((impl_JoinRanked.f k t387 t388 t391 t394 t398 t399 t402 t405).bind fun bt409 => ((laws_eqRanked.f k bt409.1 bt409.2.1 bt409.2.2.1 bt409.2.2.2.1 t375 t376 t379 t382).bind fun t421 => (if t421 = true then (laws_FnExactJoinRanked.j0 k t385 bt409.2.2.2.2 (bt409.2.2.2.2 != t385) a0_0 l0_1 l0_2 l0_3 a1_0 l1_1 l1_2 l1_3 t375 t376 t379 t382 t387 t388 t391 t394 t398 t399 t402 t405 bt409.1 bt409.2.1 bt409.2.2.1 bt409.2.2.2.1) else (none)))) = some r := H
   have A23 := am_ A230
   clear A230
   replace H := Option.bind_eq_some_iff.mp H
   obtain ⟨⟨t409, t410, t413, t416, t419⟩, A240, H⟩ := H
   replace H : ((laws_eqRanked.f k t409 t410 t413 t416 t375 t376 t379 t382).bind fun t421 => (if t421 = true then (laws_FnExactJoinRanked.j0 k t385 t419 (t419 != t385) a0_0 l0_1 l0_2 l0_3 a1_0 l1_1 l1_2 l1_3 t375 t376 t379 t382 t387 t388 t391 t394 t398 t399 t402 t405 t409 t410 t413 t416) else (none))) = some r := H
   have A24 := am_ A240
   clear A240
   have HC25 := am_ H
   clear H
   go_enter Try.func8, Try.ntmps8
   try go_wp2_with (first | ((with_reducible refine gate_dst (N := 2) rfl ?_); refine bev_ 2 #[.int .i64 a0_0, .slice A0_1 l0_1.length c0_1, .slice A0_2 l0_2.length c0_2, .slice A0_3 l0_3.length c0_3] 45 rfl rfl ?_; intro gb351 hg w26 hbox hb; have BK351 := am_ (hbox); have GW351 := am_ ((by rw [hg]; exact (below_size (lw_ HB)) : w.heap.size ≤ gb351)); have GE351 := am_ ((by rw [hg]; exact (below_size (lw_ HB)) : w.heap.size ≤ gb351)); replace HB := am_ (below_step (lw_ HB) hb); clear hb hbox hg) | ((with_reducible refine gate_dst (N := 3) rfl ?_); refine bev_ 3 #[.int .i64 a1_0, .slice A1_1 l1_1.length c1_1, .slice A1_2 l1_2.length c1_2, .slice A1_3 l1_3.length c1_3] 45 rfl rfl ?_; intro gb352 hg w27 hbox hb; have BK352 := am_ (hbox); have GW352 := am_ ((by rw [hg]; exact (below_size (lw_ HB)) : w.heap.size ≤ gb352)); have GE352 := am_ ((by rw [hg]; exact (below_size (lw_ HB)) : w.heap.size ≤ gb352)); have NB351_352 := am_ ((by rw [hg]; exact Nat.ne_of_lt (blk_lt (g := gb351) (lb_ BK351)) : gb351 ≠ gb352)); have NB352_351 := am_ ((by rw [hg]; exact Nat.ne_of_gt (blk_lt (g := gb351) (lb_ BK351)) : gb352 ≠ gb351)); replace BK351 := am_ (blk_below (g := gb351) (lb_ BK351) hb); replace HB := am_ (below_step (lw_ HB) hb); clear hb hbox hg; have hnb28 := NB351_352.out; have hnc28 := NB352_351.out; obtain ⟨hcz29_0, hcz29_1, hcz29_2, hcz29_3, hfz29_0, hfz29_1, hfz29_2, hfz29_3⟩ := bx4_ BK351.out) | ((with_reducible refine gate_callee (f := 34) rfl ?_); refine goesL_ (some 19) rfl rfl Try.func34 (by kernel_rfl) rfl #[.agg #[.int .i64 a0_0, .slice A0_1 l0_1.length c0_1, .slice A0_2 l0_2.length c0_2, .slice A0_3 l0_3.length c0_3], .int .i64 1048576] rfl lm_ ?_; (with_reducible refine (laws_szRanked.calls a0_0 _ _ l0_1 _ _ l0_2 _ _ l0_3 1048576 t353 _ ?side1 ?side2 ?side3 ?side4 ?side5 ?side6 A3.out).mono ?_); (case side1 => exact lc_ (Kd.C_below HR0_1.out HB.out)); (case side2 => exact HC0_1.out); (case side3 => exact lc_ (Kd.C_below HR0_2.out HB.out)); (case side4 => exact HC0_2.out); (case side5 => exact lc_ (Kd.C_below HR0_3.out HB.out)); (case side6 => exact HC0_3.out); rintro e w30 ⟨rfl, hb⟩; refine ⟨_, rfl, ?_⟩; replace BK351 := am_ (blk_below (g := gb351) (lb_ BK351) hb); replace BK352 := am_ (blk_below (g := gb352) (lb_ BK352) hb); replace HB := am_ (below_step (lw_ HB) hb); (try clear hb); (try clear hb2); (try clear hk); (try clear hi); obtain ⟨hcz31_0, hcz31_1, hcz31_2, hcz31_3, hfz31_0, hfz31_1, hfz31_2, hfz31_3⟩ := bx4_ BK352.out) | ((with_reducible refine gate_callee (f := 34) rfl ?_); refine goesL_ (some 24) rfl rfl Try.func34 (by kernel_rfl) rfl #[.agg #[.int .i64 a1_0, .slice A1_1 l1_1.length c1_1, .slice A1_2 l1_2.length c1_2, .slice A1_3 l1_3.length c1_3], .int .i64 t353] rfl lm_ ?_; (with_reducible refine (laws_szRanked.calls a1_0 _ _ l1_1 _ _ l1_2 _ _ l1_3 t353 t354 _ ?side1 ?side2 ?side3 ?side4 ?side5 ?side6 A10.out).mono ?_); (case side1 => exact lc_ (Kd.C_below HR1_1.out HB.out)); (case side2 => exact HC1_1.out); (case side3 => exact lc_ (Kd.C_below HR1_2.out HB.out)); (case side4 => exact HC1_2.out); (case side5 => exact lc_ (Kd.C_below HR1_3.out HB.out)); (case side6 => exact HC1_3.out); rintro e w32 ⟨rfl, hb⟩; refine ⟨_, rfl, ?_⟩; replace BK351 := am_ (blk_below (g := gb351) (lb_ BK351) hb); replace BK352 := am_ (blk_below (g := gb352) (lb_ BK352) hb); replace HB := am_ (below_step (lw_ HB) hb); (try clear hb); (try clear hb2); (try clear hk); (try clear hi)))
   replace BK351 := am_ (blk_drew BK351.out); replace BK352 := am_ (blk_drew BK352.out); replace HB := am_ (below_drew1 HB.out)
   refine start_ (n := 11) (S := fun w' => w'.cell? ⟨gb351, 0, none⟩ = some (.int .i64 a0_0) ∧ w'.cell? ⟨gb351, 1, none⟩ = some (.slice A0_1 l0_1.length c0_1) ∧ w'.cell? ⟨gb351, 2, none⟩ = some (.slice A0_2 l0_2.length c0_2) ∧ w'.cell? ⟨gb351, 3, none⟩ = some (.slice A0_3 l0_3.length c0_3) ∧ w'.cell? ⟨gb352, 0, none⟩ = some (.int .i64 a1_0) ∧ w'.cell? ⟨gb352, 1, none⟩ = some (.slice A1_1 l1_1.length c1_1) ∧ w'.cell? ⟨gb352, 2, none⟩ = some (.slice A1_2 l1_2.length c1_2) ∧ w'.cell? ⟨gb352, 3, none⟩ = some (.slice A1_3 l1_3.length c1_3)) (ds := []) #[false, false, false, false, false, false, false, false, false, false, false] (by kernel_rfl) rfl rfl ⟨(blk_cell BK351.out 0).trans rfl, (blk_cell BK351.out 1).trans rfl, (blk_cell BK351.out 2).trans rfl, (blk_cell BK351.out 3).trans rfl, (blk_cell BK352.out 0).trans rfl, (blk_cell BK352.out 1).trans rfl, (blk_cell BK352.out 2).trans rfl, (blk_cell BK352.out 3).trans rfl⟩ (fun hHeld => ?_); refine with_tabW laws_FnExactJoinRanked.tab8 laws_FnExactJoinRanked.bits8 (fun HT_ HW_ => ?_)
   generalize w32.drew = w33 at BK351 BK352 HB hHeld ⊢
   refine take_ (i := 0) (N := some 28) (v := ?_) (a' := ?_) #[true, false, false, false, false, false, false, false, false, false, false] rfl rfl (take_ofW HT_.out HW_.out (by kernel_rfl)) (fun _ _ _ h => h) (Or.inl ⟨by rfl, ?_⟩) hHeld ?_ ?_
   rotate_left
   ·rintro w' ⟨s0, s1, s2, s3, s4, s5, s6, s7⟩
    go_simp
    with_reducible rfl
   rotate_left
   ·simp only [Act.put, List.setIfInBounds_toArray, List.set_cons_zero, List.set_cons_succ, i64_w, i32_w]
    rfl
   refine take_ (i := 2) (N := some 30) (v := ?_) (a' := ?_) #[true, false, true, false, false, false, false, false, false, false, false] rfl rfl (take_ofW HT_.out HW_.out (by kernel_rfl)) (fun _ _ _ h => h) (Or.inl ⟨by rfl, ?_⟩) hHeld ?_ ?_
   rotate_left
   ·rintro w' ⟨s0, s1, s2, s3, s4, s5, s6, s7⟩
    go_simp
    with_reducible rfl
   rotate_left
   ·simp only [Act.put, List.setIfInBounds_toArray, List.set_cons_zero, List.set_cons_succ, i64_w, i32_w]
    rfl
   refine join_ (σ := Value × Value × Value × Value × Value × Value × Value × Value × Value × Nat) 2 #[true, true, true, true, true, true, true, true, true, false, false] (fun s_ => [(29, .agg #[.int .i64 t355, s_.1, s_.2.1, s_.2.2.1]), (31, .agg #[.int .i64 t365, s_.2.2.2.1, s_.2.2.2.2.1, s_.2.2.2.2.2.1]), (32, .tuple #[.agg #[.int .i64 t375, s_.2.2.2.2.2.2.1, s_.2.2.2.2.2.2.2.1, s_.2.2.2.2.2.2.2.2.1], .bool t385]), (6, .pointer (some ⟨s_.2.2.2.2.2.2.2.2.2, 0, none⟩)), (27, .tuple #[.agg #[.int .i64 t375, s_.2.2.2.2.2.2.1, s_.2.2.2.2.2.2.2.1, s_.2.2.2.2.2.2.2.2.1], .bool t385]), (33, .agg #[.int .i64 t375, s_.2.2.2.2.2.2.1, s_.2.2.2.2.2.2.2.1, s_.2.2.2.2.2.2.2.2.1]), (34, .bool t385)]) (fun s_ w' => (w'.cell? ⟨gb351, 0, none⟩ = some (.int .i64 a0_0) ∧ w'.cell? ⟨gb351, 1, none⟩ = some (.slice A0_1 l0_1.length c0_1) ∧ w'.cell? ⟨gb351, 2, none⟩ = some (.slice A0_2 l0_2.length c0_2) ∧ w'.cell? ⟨gb351, 3, none⟩ = some (.slice A0_3 l0_3.length c0_3) ∧ w'.cell? ⟨gb352, 0, none⟩ = some (.int .i64 a1_0) ∧ w'.cell? ⟨gb352, 1, none⟩ = some (.slice A1_1 l1_1.length c1_1) ∧ w'.cell? ⟨gb352, 2, none⟩ = some (.slice A1_2 l1_2.length c1_2) ∧ w'.cell? ⟨gb352, 3, none⟩ = some (.slice A1_3 l1_3.length c1_3)) ∧ (Kd.R (Kd.int .i64) 3 w' w.heap.size (fun k_ => some k_ ≠ (s_.2.1 : Value).ownBlock ∧ some k_ ≠ (s_.2.2.1 : Value).ownBlock ∧ some k_ ≠ (s_.2.2.2.1 : Value).ownBlock ∧ some k_ ≠ (s_.2.2.2.2.1 : Value).ownBlock ∧ some k_ ≠ (s_.2.2.2.2.2.1 : Value).ownBlock ∧ some k_ ≠ (s_.2.2.2.2.2.2.1 : Value).ownBlock ∧ some k_ ≠ (s_.2.2.2.2.2.2.2.1 : Value).ownBlock ∧ some k_ ≠ (s_.2.2.2.2.2.2.2.2.1 : Value).ownBlock) s_.1 t356) ∧ (Kd.R (Kd.int .i64) 3 w' w.heap.size (fun k_ => some k_ ≠ (s_.1 : Value).ownBlock ∧ some k_ ≠ (s_.2.2.1 : Value).ownBlock ∧ some k_ ≠ (s_.2.2.2.1 : Value).ownBlock ∧ some k_ ≠ (s_.2.2.2.2.1 : Value).ownBlock ∧ some k_ ≠ (s_.2.2.2.2.2.1 : Value).ownBlock ∧ some k_ ≠ (s_.2.2.2.2.2.2.1 : Value).ownBlock ∧ some k_ ≠ (s_.2.2.2.2.2.2.2.1 : Value).ownBlock ∧ some k_ ≠ (s_.2.2.2.2.2.2.2.2.1 : Value).ownBlock) s_.2.1 t359) ∧ (Kd.R (Kd.int .i64) 3 w' w.heap.size (fun k_ => some k_ ≠ (s_.1 : Value).ownBlock ∧ some k_ ≠ (s_.2.1 : Value).ownBlock ∧ some k_ ≠ (s_.2.2.2.1 : Value).ownBlock ∧ some k_ ≠ (s_.2.2.2.2.1 : Value).ownBlock ∧ some k_ ≠ (s_.2.2.2.2.2.1 : Value).ownBlock ∧ some k_ ≠ (s_.2.2.2.2.2.2.1 : Value).ownBlock ∧ some k_ ≠ (s_.2.2.2.2.2.2.2.1 : Value).ownBlock ∧ some k_ ≠ (s_.2.2.2.2.2.2.2.2.1 : Value).ownBlock) s_.2.2.1 t362) ∧ (Kd.R (Kd.int .i64) 3 w' w.heap.size (fun k_ => some k_ ≠ (s_.1 : Value).ownBlock ∧ some k_ ≠ (s_.2.1 : Value).ownBlock ∧ some k_ ≠ (s_.2.2.1 : Value).ownBlock ∧ some k_ ≠ (s_.2.2.2.2.1 : Value).ownBlock ∧ some k_ ≠ (s_.2.2.2.2.2.1 : Value).ownBlock ∧ some k_ ≠ (s_.2.2.2.2.2.2.1 : Value).ownBlock ∧ some k_ ≠ (s_.2.2.2.2.2.2.2.1 : Value).ownBlock ∧ some k_ ≠ (s_.2.2.2.2.2.2.2.2.1 : Value).ownBlock) s_.2.2.2.1 t366) ∧ (Kd.R (Kd.int .i64) 3 w' w.heap.size (fun k_ => some k_ ≠ (s_.1 : Value).ownBlock ∧ some k_ ≠ (s_.2.1 : Value).ownBlock ∧ some k_ ≠ (s_.2.2.1 : Value).ownBlock ∧ some k_ ≠ (s_.2.2.2.1 : Value).ownBlock ∧ some k_ ≠ (s_.2.2.2.2.2.1 : Value).ownBlock ∧ some k_ ≠ (s_.2.2.2.2.2.2.1 : Value).ownBlock ∧ some k_ ≠ (s_.2.2.2.2.2.2.2.1 : Value).ownBlock ∧ some k_ ≠ (s_.2.2.2.2.2.2.2.2.1 : Value).ownBlock) s_.2.2.2.2.1 t369) ∧ (Kd.R (Kd.int .i64) 3 w' w.heap.size (fun k_ => some k_ ≠ (s_.1 : Value).ownBlock ∧ some k_ ≠ (s_.2.1 : Value).ownBlock ∧ some k_ ≠ (s_.2.2.1 : Value).ownBlock ∧ some k_ ≠ (s_.2.2.2.1 : Value).ownBlock ∧ some k_ ≠ (s_.2.2.2.2.1 : Value).ownBlock ∧ some k_ ≠ (s_.2.2.2.2.2.2.1 : Value).ownBlock ∧ some k_ ≠ (s_.2.2.2.2.2.2.2.1 : Value).ownBlock ∧ some k_ ≠ (s_.2.2.2.2.2.2.2.2.1 : Value).ownBlock) s_.2.2.2.2.2.1 t372) ∧ (Kd.R (Kd.int .i64) 3 w' w.heap.size (fun k_ => some k_ ≠ (s_.1 : Value).ownBlock ∧ some k_ ≠ (s_.2.1 : Value).ownBlock ∧ some k_ ≠ (s_.2.2.1 : Value).ownBlock ∧ some k_ ≠ (s_.2.2.2.1 : Value).ownBlock ∧ some k_ ≠ (s_.2.2.2.2.1 : Value).ownBlock ∧ some k_ ≠ (s_.2.2.2.2.2.1 : Value).ownBlock ∧ some k_ ≠ (s_.2.2.2.2.2.2.2.1 : Value).ownBlock ∧ some k_ ≠ (s_.2.2.2.2.2.2.2.2.1 : Value).ownBlock) s_.2.2.2.2.2.2.1 t376) ∧ (Kd.R (Kd.int .i64) 3 w' w.heap.size (fun k_ => some k_ ≠ (s_.1 : Value).ownBlock ∧ some k_ ≠ (s_.2.1 : Value).ownBlock ∧ some k_ ≠ (s_.2.2.1 : Value).ownBlock ∧ some k_ ≠ (s_.2.2.2.1 : Value).ownBlock ∧ some k_ ≠ (s_.2.2.2.2.1 : Value).ownBlock ∧ some k_ ≠ (s_.2.2.2.2.2.1 : Value).ownBlock ∧ some k_ ≠ (s_.2.2.2.2.2.2.1 : Value).ownBlock ∧ some k_ ≠ (s_.2.2.2.2.2.2.2.2.1 : Value).ownBlock) s_.2.2.2.2.2.2.2.1 t379) ∧ (Kd.R (Kd.int .i64) 3 w' w.heap.size (fun k_ => some k_ ≠ (s_.1 : Value).ownBlock ∧ some k_ ≠ (s_.2.1 : Value).ownBlock ∧ some k_ ≠ (s_.2.2.1 : Value).ownBlock ∧ some k_ ≠ (s_.2.2.2.1 : Value).ownBlock ∧ some k_ ≠ (s_.2.2.2.2.1 : Value).ownBlock ∧ some k_ ≠ (s_.2.2.2.2.2.1 : Value).ownBlock ∧ some k_ ≠ (s_.2.2.2.2.2.2.1 : Value).ownBlock ∧ some k_ ≠ (s_.2.2.2.2.2.2.2.1 : Value).ownBlock) s_.2.2.2.2.2.2.2.2.1 t382) ∧ (w'.heap[gb351]? = some (.cells #[.int .i64 a0_0, .slice A0_1 l0_1.length c0_1, .slice A0_2 l0_2.length c0_2, .slice A0_3 l0_3.length c0_3] 45 (0, 0))) ∧ (w'.heap[gb352]? = some (.cells #[.int .i64 a1_0, .slice A1_1 l1_1.length c1_1, .slice A1_2 l1_2.length c1_2, .slice A1_3 l1_3.length c1_3] 45 (0, 0))) ∧ (w'.heap[s_.2.2.2.2.2.2.2.2.2]? = some (.cells #[.int .i64 0, .slice none 0 0, .slice none 0 0, .slice none 0 0] 48 (0, 0))) ∧ (w.heap.size ≤ s_.2.2.2.2.2.2.2.2.2) ∧ (w.heap.size ≤ s_.2.2.2.2.2.2.2.2.2) ∧ (gb351 ≠ s_.2.2.2.2.2.2.2.2.2) ∧ (s_.2.2.2.2.2.2.2.2.2 ≠ gb351) ∧ (gb352 ≠ s_.2.2.2.2.2.2.2.2.2) ∧ (s_.2.2.2.2.2.2.2.2.2 ≠ gb352) ∧ (Below w.heap.size w w')) ?_ ?_
   rotate_left
   ·intro hCont
    refine two_ (i := 1) (j := 8) (Ni := some 29) (Nj := some 6) #[true, true, true, false, false, false, false, false, false, false, false] #[true, false, true, false, false, false, false, false, true, false, false] rfl rfl rfl rfl (two_of HT_.out (by kernel_rfl)) (by decide) (by decide) (fun K hK => ?_) (fun K hK => ?_)
    ·skip
     refine goes_ Try.func36 (by kernel_rfl) rfl #[.agg #[.int .i64 a0_0, .slice A0_1 l0_1.length c0_1, .slice A0_2 l0_2.length c0_2, .slice A0_3 l0_3.length c0_3]] (by rfl) rfl rfl lm_ ?_
     with_reducible refine (laws_toRanked.calls k a0_0 _ _ l0_1 _ _ l0_2 _ _ l0_3 t355 t356 t359 t362 _ ?side1 ?side2 ?side3 ?side4 ?side5 ?side6 A19.out).mono ?_
     (case side1 => exact lc_ (Kd.C_below HR0_1.out HB.out))
     (case side2 => exact HC0_1.out)
     (case side3 => exact lc_ (Kd.C_below HR0_2.out HB.out))
     (case side4 => exact HC0_2.out)
     (case side5 => exact lc_ (Kd.C_below HR0_3.out HB.out))
     (case side6 => exact HC0_3.out)
     rintro e w34 ⟨v357, v360, v363, rfl, ho0, ho1, ho2, hb⟩
     refine ⟨_, rfl, ?_⟩
     have HO358 := am_ (Kd.R_lower ho0 (below_size (lw_ HB))); have HO361 := am_ (Kd.R_lower ho1 (below_size (lw_ HB))); have HO364 := am_ (Kd.R_lower ho2 (below_size (lw_ HB))); replace BK351 := am_ (blk_below (g := gb351) (lb_ BK351) hb); replace BK352 := am_ (blk_below (g := gb352) (lb_ BK352) hb); replace HB := am_ (below_step (lw_ HB) hb)
     (try clear hb)
     (try clear hb2)
     (try clear hk)
     (try clear hi)
     (try clear ho0)
     (try clear ho1)
     (try clear ho2)
     refine hK.out _ _ ⟨(blk_cell BK351.out 0).trans rfl, (blk_cell BK351.out 1).trans rfl, (blk_cell BK351.out 2).trans rfl, (blk_cell BK351.out 3).trans rfl, (blk_cell BK352.out 0).trans rfl, (blk_cell BK352.out 1).trans rfl, (blk_cell BK352.out 2).trans rfl, (blk_cell BK352.out 3).trans rfl⟩ (fun hHeld => ?_)
     clear hK K
     refine norm_ (a' := ?_) ?_ ?_
     rotate_left
     ·show Act.put _ (some 29) _ = _
      simp only [Act.put, List.setIfInBounds_toArray, List.set_cons_zero, List.set_cons_succ, i64_w, i32_w]
      rfl
     refine two_ (i := 3) (j := 8) (Ni := some 31) (Nj := some 6) #[true, true, true, true, false, false, false, false, false, false, false] #[true, true, true, false, false, false, false, false, true, false, false] rfl rfl rfl rfl (two_of HT_.out (by kernel_rfl)) (by decide) (by decide) (fun K hK => ?_) (fun K hK => ?_)
     ·skip
      refine goes_ Try.func36 (by kernel_rfl) rfl #[.agg #[.int .i64 a1_0, .slice A1_1 l1_1.length c1_1, .slice A1_2 l1_2.length c1_2, .slice A1_3 l1_3.length c1_3]] (by rfl) rfl rfl lm_ ?_
      with_reducible refine (laws_toRanked.calls k a1_0 _ _ l1_1 _ _ l1_2 _ _ l1_3 t365 t366 t369 t372 _ ?side1 ?side2 ?side3 ?side4 ?side5 ?side6 A20.out).mono ?_
      (case side1 => exact lc_ (Kd.C_below HR1_1.out HB.out))
      (case side2 => exact HC1_1.out)
      (case side3 => exact lc_ (Kd.C_below HR1_2.out HB.out))
      (case side4 => exact HC1_2.out)
      (case side5 => exact lc_ (Kd.C_below HR1_3.out HB.out))
      (case side6 => exact HC1_3.out)
      rintro e w35 ⟨v367, v370, v373, rfl, ho0, ho1, ho2, hb⟩
      refine ⟨_, rfl, ?_⟩
      have HO368 := am_ (Kd.R_lower (nw_ (nw_ (nw_ ho0 HO358) HO361) HO364) (below_size (lw_ HB))); have HO371 := am_ (Kd.R_lower (nw_ (nw_ (nw_ ho1 HO358) HO361) HO364) (below_size (lw_ HB))); have HO374 := am_ (Kd.R_lower (nw_ (nw_ (nw_ ho2 HO358) HO361) HO364) (below_size (lw_ HB))); replace HO358 := am_ (m1_ (td_ (td_ (td_ (Kd.R_old (lf_ HO358) hb) ho0) ho1) ho2)); replace HO361 := am_ (m1_ (td_ (td_ (td_ (Kd.R_old (lf_ HO361) hb) ho0) ho1) ho2)); replace HO364 := am_ (m1_ (td_ (td_ (td_ (Kd.R_old (lf_ HO364) hb) ho0) ho1) ho2)); replace BK351 := am_ (blk_below (g := gb351) (lb_ BK351) hb); replace BK352 := am_ (blk_below (g := gb352) (lb_ BK352) hb); replace HB := am_ (below_step (lw_ HB) hb)
      (try clear hb)
      (try clear hb2)
      (try clear hk)
      (try clear hi)
      (try clear ho0)
      (try clear ho1)
      (try clear ho2)
      obtain ⟨Ao36, co36, eo36⟩ := Kd.R_slice HO358.out
      (first | subst eo36 | (injection eo36 with f1_ f2_ f3_; have f4_ := f1_.symm; have f5_ := f3_.symm; clear f1_ f2_ f3_; subst f4_; subst f5_))
      obtain ⟨Ao37, co37, eo37⟩ := Kd.R_slice HO361.out
      (first | subst eo37 | (injection eo37 with f1_ f2_ f3_; have f4_ := f1_.symm; have f5_ := f3_.symm; clear f1_ f2_ f3_; subst f4_; subst f5_))
      obtain ⟨Ao38, co38, eo38⟩ := Kd.R_slice HO364.out
      (first | subst eo38 | (injection eo38 with f1_ f2_ f3_; have f4_ := f1_.symm; have f5_ := f3_.symm; clear f1_ f2_ f3_; subst f4_; subst f5_))
      obtain ⟨Ao39, co39, eo39⟩ := Kd.R_slice HO368.out
      (first | subst eo39 | (injection eo39 with f1_ f2_ f3_; have f4_ := f1_.symm; have f5_ := f3_.symm; clear f1_ f2_ f3_; subst f4_; subst f5_))
      obtain ⟨Ao40, co40, eo40⟩ := Kd.R_slice HO371.out
      (first | subst eo40 | (injection eo40 with f1_ f2_ f3_; have f4_ := f1_.symm; have f5_ := f3_.symm; clear f1_ f2_ f3_; subst f4_; subst f5_))
      obtain ⟨Ao41, co41, eo41⟩ := Kd.R_slice HO374.out
      (first | subst eo41 | (injection eo41 with f1_ f2_ f3_; have f4_ := f1_.symm; have f5_ := f3_.symm; clear f1_ f2_ f3_; subst f4_; subst f5_))
      refine hK.out _ _ ⟨(blk_cell BK351.out 0).trans rfl, (blk_cell BK351.out 1).trans rfl, (blk_cell BK351.out 2).trans rfl, (blk_cell BK351.out 3).trans rfl, (blk_cell BK352.out 0).trans rfl, (blk_cell BK352.out 1).trans rfl, (blk_cell BK352.out 2).trans rfl, (blk_cell BK352.out 3).trans rfl⟩ (fun hHeld => ?_)
      clear hK K
      refine norm_ (a' := ?_) ?_ ?_
      rotate_left
      ·show Act.put _ (some 31) _ = _
       simp only [Act.put, List.setIfInBounds_toArray, List.set_cons_zero, List.set_cons_succ, i64_w, i32_w]
       rfl
      refine two_ (i := 4) (j := 8) (Ni := some 32) (Nj := some 6) #[true, true, true, true, true, false, false, false, false, false, false] #[true, true, true, true, false, false, false, false, true, false, false] rfl rfl rfl rfl (two_of HT_.out (by kernel_rfl)) (by decide) (by decide) (fun K hK => ?_) (fun K hK => ?_)
      ·skip
       refine goes_ Try.func35 (by kernel_rfl) rfl #[.agg #[.int .i64 t355, .slice Ao36 t356.length co36, .slice Ao37 t359.length co37, .slice Ao38 t362.length co38], .agg #[.int .i64 t365, .slice Ao39 t366.length co39, .slice Ao40 t369.length co40, .slice Ao41 t372.length co41]] (by rfl) rfl rfl lm_ ?_
       with_reducible refine (spec_JoinRanked.calls k t355 _ _ t356 _ _ t359 _ _ t362 t365 _ _ t366 _ _ t369 _ _ t372 t375 t376 t379 t382 t385 _ ?side1 ?side2 ?side3 ?side4 ?side5 ?side6 ?side7 ?side8 ?side9 ?side10 ?side11 ?side12 A21.out).mono ?_
       (case side1 => exact lc_ (Kd.R_reads' HO358.out).2.2)
       (case side2 => exact (Kd.R_reads' HO358.out).2.1)
       (case side3 => exact lc_ (Kd.R_reads' HO361.out).2.2)
       (case side4 => exact (Kd.R_reads' HO361.out).2.1)
       (case side5 => exact lc_ (Kd.R_reads' HO364.out).2.2)
       (case side6 => exact (Kd.R_reads' HO364.out).2.1)
       (case side7 => exact lc_ (Kd.R_reads' HO368.out).2.2)
       (case side8 => exact (Kd.R_reads' HO368.out).2.1)
       (case side9 => exact lc_ (Kd.R_reads' HO371.out).2.2)
       (case side10 => exact (Kd.R_reads' HO371.out).2.1)
       (case side11 => exact lc_ (Kd.R_reads' HO374.out).2.2)
       (case side12 => exact (Kd.R_reads' HO374.out).2.1)
       rintro e w42 ⟨v377, v380, v383, rfl, ho0, ho1, ho2, hb⟩
       refine ⟨_, rfl, ?_⟩
       have HO378 := am_ (Kd.R_lower (nw_ (nw_ (nw_ (nw_ (nw_ (nw_ ho0 HO358) HO361) HO364) HO368) HO371) HO374) (below_size (lw_ HB))); have HO381 := am_ (Kd.R_lower (nw_ (nw_ (nw_ (nw_ (nw_ (nw_ ho1 HO358) HO361) HO364) HO368) HO371) HO374) (below_size (lw_ HB))); have HO384 := am_ (Kd.R_lower (nw_ (nw_ (nw_ (nw_ (nw_ (nw_ ho2 HO358) HO361) HO364) HO368) HO371) HO374) (below_size (lw_ HB))); replace HO358 := am_ (m1_ (td_ (td_ (td_ (Kd.R_old (lf_ HO358) hb) ho0) ho1) ho2)); replace HO361 := am_ (m1_ (td_ (td_ (td_ (Kd.R_old (lf_ HO361) hb) ho0) ho1) ho2)); replace HO364 := am_ (m1_ (td_ (td_ (td_ (Kd.R_old (lf_ HO364) hb) ho0) ho1) ho2)); replace HO368 := am_ (m1_ (td_ (td_ (td_ (Kd.R_old (lf_ HO368) hb) ho0) ho1) ho2)); replace HO371 := am_ (m1_ (td_ (td_ (td_ (Kd.R_old (lf_ HO371) hb) ho0) ho1) ho2)); replace HO374 := am_ (m1_ (td_ (td_ (td_ (Kd.R_old (lf_ HO374) hb) ho0) ho1) ho2)); replace BK351 := am_ (blk_below (g := gb351) (lb_ BK351) hb); replace BK352 := am_ (blk_below (g := gb352) (lb_ BK352) hb); replace HB := am_ (below_step (lw_ HB) hb)
       (try clear hb)
       (try clear hb2)
       (try clear hk)
       (try clear hi)
       (try clear ho0)
       (try clear ho1)
       (try clear ho2)
       refine hK.out _ _ ⟨(blk_cell BK351.out 0).trans rfl, (blk_cell BK351.out 1).trans rfl, (blk_cell BK351.out 2).trans rfl, (blk_cell BK351.out 3).trans rfl, (blk_cell BK352.out 0).trans rfl, (blk_cell BK352.out 1).trans rfl, (blk_cell BK352.out 2).trans rfl, (blk_cell BK352.out 3).trans rfl⟩ (fun hHeld => ?_)
       clear hK K
       refine norm_ (a' := ?_) ?_ ?_
       rotate_left
       ·show Act.put _ (some 32) _ = _
        simp only [Act.put, List.setIfInBounds_toArray, List.set_cons_zero, List.set_cons_succ, i64_w, i32_w]
        rfl
       refine pure_ (i := 5) (N := some 27) (v := ?_) (a' := ?_) #[true, true, true, true, true, true, false, false, false, false, false] rfl rfl (any_of HT_.out (by kernel_rfl)) (fun _ _ _ h => h) (Or.inl ⟨by rfl, ?_⟩) ?_ ?_
       rotate_left
       ·intro w'
        go_simp
        with_reducible rfl
       rotate_left
       ·simp only [Act.put, List.setIfInBounds_toArray, List.set_cons_zero, List.set_cons_succ, i64_w, i32_w]
        rfl
       refine pure_ (i := 6) (N := some 33) (v := ?_) (a' := ?_) #[true, true, true, true, true, true, true, false, false, false, false] rfl rfl (any_of HT_.out (by kernel_rfl)) (fun _ _ _ h => h) (Or.inl ⟨by rfl, ?_⟩) ?_ ?_
       rotate_left
       ·intro w'
        go_simp
        with_reducible rfl
       rotate_left
       ·simp only [Act.put, List.setIfInBounds_toArray, List.set_cons_zero, List.set_cons_succ, i64_w, i32_w]
        rfl
       refine pure_ (i := 7) (N := some 34) (v := ?_) (a' := ?_) #[true, true, true, true, true, true, true, true, false, false, false] rfl rfl (any_of HT_.out (by kernel_rfl)) (fun _ _ _ h => h) (Or.inl ⟨by rfl, ?_⟩) ?_ ?_
       rotate_left
       ·intro w'
        go_simp
        with_reducible rfl
       rotate_left
       ·simp only [Act.put, List.setIfInBounds_toArray, List.set_cons_zero, List.set_cons_succ, i64_w, i32_w]
        rfl
       refine one_ (i := 8) (N := some 6) #[true, true, true, true, true, true, true, true, true, false, false] rfl rfl (one_of HT_.out (by kernel_rfl)) (by decide) (fun K hK => ?_)
       refine box_step ?hg (N := 6) ?hd (cs := #[.int .i64 0, .slice none 0 0, .slice none 0 0, .slice none 0 0]) (t := 48) ?hr ?_; (case hd => rfl); (case hg => rfl); (case hr => first | (go_simp; done) | (go_simp; rfl))
       intro gb386 hg w43 hbox hb
       have BK386 := am_ (hbox); have GW386 := am_ ((by rw [hg]; exact (below_size (lw_ HB)) : w.heap.size ≤ gb386)); have GE386 := am_ ((by rw [hg]; exact (below_size (lw_ HB)) : w.heap.size ≤ gb386)); have NB351_386 := am_ ((by rw [hg]; exact Nat.ne_of_lt (blk_lt (g := gb351) (lb_ BK351)) : gb351 ≠ gb386)); have NB386_351 := am_ ((by rw [hg]; exact Nat.ne_of_gt (blk_lt (g := gb351) (lb_ BK351)) : gb386 ≠ gb351)); have NB352_386 := am_ ((by rw [hg]; exact Nat.ne_of_lt (blk_lt (g := gb352) (lb_ BK352)) : gb352 ≠ gb386)); have NB386_352 := am_ ((by rw [hg]; exact Nat.ne_of_gt (blk_lt (g := gb352) (lb_ BK352)) : gb386 ≠ gb352)); replace HO358 := am_ (Kd.R_below (lf_ HO358) hb); replace HO361 := am_ (Kd.R_below (lf_ HO361) hb); replace HO364 := am_ (Kd.R_below (lf_ HO364) hb); replace HO368 := am_ (Kd.R_below (lf_ HO368) hb); replace HO371 := am_ (Kd.R_below (lf_ HO371) hb); replace HO374 := am_ (Kd.R_below (lf_ HO374) hb); replace HO378 := am_ (Kd.R_below (lf_ HO378) hb); replace HO381 := am_ (Kd.R_below (lf_ HO381) hb); replace HO384 := am_ (Kd.R_below (lf_ HO384) hb); replace BK351 := am_ (blk_below (g := gb351) (lb_ BK351) hb); replace BK352 := am_ (blk_below (g := gb352) (lb_ BK352) hb); replace HB := am_ (below_step (lw_ HB) hb)
       clear hb hbox hg
       refine hK.out _ _ ⟨(blk_cell BK351.out 0).trans rfl, (blk_cell BK351.out 1).trans rfl, (blk_cell BK351.out 2).trans rfl, (blk_cell BK351.out 3).trans rfl, (blk_cell BK352.out 0).trans rfl, (blk_cell BK352.out 1).trans rfl, (blk_cell BK352.out 2).trans rfl, (blk_cell BK352.out 3).trans rfl⟩ (fun hHeld => ?_)
       clear hK K
       refine norm_ (a' := ?_) ?_ ?_
       rotate_left
       ·show Act.put _ (some 6) _ = _
        simp only [Act.put, List.setIfInBounds_toArray, List.set_cons_zero, List.set_cons_succ, i64_w, i32_w]
        rfl
       exact norm_ (by simp only [putAll, Act.put, List.setIfInBounds_toArray, List.set_cons_zero, List.set_cons_succ]) (hCont (.slice Ao36 t356.length co36, .slice Ao37 t359.length co37, .slice Ao38 t362.length co38, .slice Ao39 t366.length co39, .slice Ao40 t369.length co40, .slice Ao41 t372.length co41, v377, v380, v383, gb386) _ ⟨hHeld, (lo_ HO358), (lo_ HO361), (lo_ HO364), (lo_ HO368), (lo_ HO371), (lo_ HO374), (lo_ HO378), (lo_ HO381), (lo_ HO384), (lb_ BK351), (lb_ BK352), (lb_ BK386), GW386.out, GE386.out, NB351_386.out, NB386_351.out, NB352_386.out, NB386_352.out, (lw_ HB)⟩)
      ·skip
       refine box_step ?hg (N := 6) ?hd (cs := #[.int .i64 0, .slice none 0 0, .slice none 0 0, .slice none 0 0]) (t := 48) ?hr ?_; (case hd => rfl); (case hg => rfl); (case hr => first | (go_simp; done) | (go_simp; rfl))
       intro gb386 hg w36 hbox hb
       have BK386 := am_ (hbox); have GW386 := am_ ((by rw [hg]; exact (below_size (lw_ HB)) : w.heap.size ≤ gb386)); have GE386 := am_ ((by rw [hg]; exact (below_size (lw_ HB)) : w.heap.size ≤ gb386)); have NB351_386 := am_ ((by rw [hg]; exact Nat.ne_of_lt (blk_lt (g := gb351) (lb_ BK351)) : gb351 ≠ gb386)); have NB386_351 := am_ ((by rw [hg]; exact Nat.ne_of_gt (blk_lt (g := gb351) (lb_ BK351)) : gb386 ≠ gb351)); have NB352_386 := am_ ((by rw [hg]; exact Nat.ne_of_lt (blk_lt (g := gb352) (lb_ BK352)) : gb352 ≠ gb386)); have NB386_352 := am_ ((by rw [hg]; exact Nat.ne_of_gt (blk_lt (g := gb352) (lb_ BK352)) : gb386 ≠ gb352)); replace HO358 := am_ (Kd.R_below (lf_ HO358) hb); replace HO361 := am_ (Kd.R_below (lf_ HO361) hb); replace HO364 := am_ (Kd.R_below (lf_ HO364) hb); replace HO368 := am_ (Kd.R_below (lf_ HO368) hb); replace HO371 := am_ (Kd.R_below (lf_ HO371) hb); replace HO374 := am_ (Kd.R_below (lf_ HO374) hb); replace BK351 := am_ (blk_below (g := gb351) (lb_ BK351) hb); replace BK352 := am_ (blk_below (g := gb352) (lb_ BK352) hb); replace HB := am_ (below_step (lw_ HB) hb)
       clear hb hbox hg
       obtain ⟨Ao37, co37, eo37⟩ := Kd.R_slice HO358.out
       (first | subst eo37 | (injection eo37 with f1_ f2_ f3_; have f4_ := f1_.symm; have f5_ := f3_.symm; clear f1_ f2_ f3_; subst f4_; subst f5_))
       obtain ⟨Ao38, co38, eo38⟩ := Kd.R_slice HO361.out
       (first | subst eo38 | (injection eo38 with f1_ f2_ f3_; have f4_ := f1_.symm; have f5_ := f3_.symm; clear f1_ f2_ f3_; subst f4_; subst f5_))
       obtain ⟨Ao39, co39, eo39⟩ := Kd.R_slice HO364.out
       (first | subst eo39 | (injection eo39 with f1_ f2_ f3_; have f4_ := f1_.symm; have f5_ := f3_.symm; clear f1_ f2_ f3_; subst f4_; subst f5_))
       obtain ⟨Ao40, co40, eo40⟩ := Kd.R_slice HO368.out
       (first | subst eo40 | (injection eo40 with f1_ f2_ f3_; have f4_ := f1_.symm; have f5_ := f3_.symm; clear f1_ f2_ f3_; subst f4_; subst f5_))
       obtain ⟨Ao41, co41, eo41⟩ := Kd.R_slice HO371.out
       (first | subst eo41 | (injection eo41 with f1_ f2_ f3_; have f4_ := f1_.symm; have f5_ := f3_.symm; clear f1_ f2_ f3_; subst f4_; subst f5_))
       obtain ⟨Ao42, co42, eo42⟩ := Kd.R_slice HO374.out
       (first | subst eo42 | (injection eo42 with f1_ f2_ f3_; have f4_ := f1_.symm; have f5_ := f3_.symm; clear f1_ f2_ f3_; subst f4_; subst f5_))
       refine hK.out _ _ ⟨(blk_cell BK351.out 0).trans rfl, (blk_cell BK351.out 1).trans rfl, (blk_cell BK351.out 2).trans rfl, (blk_cell BK351.out 3).trans rfl, (blk_cell BK352.out 0).trans rfl, (blk_cell BK352.out 1).trans rfl, (blk_cell BK352.out 2).trans rfl, (blk_cell BK352.out 3).trans rfl⟩ (fun hHeld => ?_)
       clear hK K
       refine norm_ (a' := ?_) ?_ ?_
       rotate_left
       ·show Act.put _ (some 6) _ = _
        simp only [Act.put, List.setIfInBounds_toArray, List.set_cons_zero, List.set_cons_succ, i64_w, i32_w]
        rfl
       refine one_ (i := 4) (N := some 32) #[true, true, true, true, true, false, false, false, true, false, false] rfl rfl (one_of HT_.out (by kernel_rfl)) (by decide) (fun K hK => ?_)
       refine goes_ Try.func35 (by kernel_rfl) rfl #[.agg #[.int .i64 t355, .slice Ao37 t356.length co37, .slice Ao38 t359.length co38, .slice Ao39 t362.length co39], .agg #[.int .i64 t365, .slice Ao40 t366.length co40, .slice Ao41 t369.length co41, .slice Ao42 t372.length co42]] (by rfl) rfl rfl lm_ ?_
       with_reducible refine (spec_JoinRanked.calls k t355 _ _ t356 _ _ t359 _ _ t362 t365 _ _ t366 _ _ t369 _ _ t372 t375 t376 t379 t382 t385 _ ?side1 ?side2 ?side3 ?side4 ?side5 ?side6 ?side7 ?side8 ?side9 ?side10 ?side11 ?side12 A21.out).mono ?_
       (case side1 => exact lc_ (Kd.R_reads' HO358.out).2.2)
       (case side2 => exact (Kd.R_reads' HO358.out).2.1)
       (case side3 => exact lc_ (Kd.R_reads' HO361.out).2.2)
       (case side4 => exact (Kd.R_reads' HO361.out).2.1)
       (case side5 => exact lc_ (Kd.R_reads' HO364.out).2.2)
       (case side6 => exact (Kd.R_reads' HO364.out).2.1)
       (case side7 => exact lc_ (Kd.R_reads' HO368.out).2.2)
       (case side8 => exact (Kd.R_reads' HO368.out).2.1)
       (case side9 => exact lc_ (Kd.R_reads' HO371.out).2.2)
       (case side10 => exact (Kd.R_reads' HO371.out).2.1)
       (case side11 => exact lc_ (Kd.R_reads' HO374.out).2.2)
       (case side12 => exact (Kd.R_reads' HO374.out).2.1)
       rintro e w43 ⟨v377, v380, v383, rfl, ho0, ho1, ho2, hb⟩
       refine ⟨_, rfl, ?_⟩
       have HO378 := am_ (Kd.R_lower (nw_ (nw_ (nw_ (nw_ (nw_ (nw_ ho0 HO358) HO361) HO364) HO368) HO371) HO374) (below_size (lw_ HB))); have HO381 := am_ (Kd.R_lower (nw_ (nw_ (nw_ (nw_ (nw_ (nw_ ho1 HO358) HO361) HO364) HO368) HO371) HO374) (below_size (lw_ HB))); have HO384 := am_ (Kd.R_lower (nw_ (nw_ (nw_ (nw_ (nw_ (nw_ ho2 HO358) HO361) HO364) HO368) HO371) HO374) (below_size (lw_ HB))); replace HO358 := am_ (m1_ (td_ (td_ (td_ (Kd.R_old (lf_ HO358) hb) ho0) ho1) ho2)); replace HO361 := am_ (m1_ (td_ (td_ (td_ (Kd.R_old (lf_ HO361) hb) ho0) ho1) ho2)); replace HO364 := am_ (m1_ (td_ (td_ (td_ (Kd.R_old (lf_ HO364) hb) ho0) ho1) ho2)); replace HO368 := am_ (m1_ (td_ (td_ (td_ (Kd.R_old (lf_ HO368) hb) ho0) ho1) ho2)); replace HO371 := am_ (m1_ (td_ (td_ (td_ (Kd.R_old (lf_ HO371) hb) ho0) ho1) ho2)); replace HO374 := am_ (m1_ (td_ (td_ (td_ (Kd.R_old (lf_ HO374) hb) ho0) ho1) ho2)); replace BK351 := am_ (blk_below (g := gb351) (lb_ BK351) hb); replace BK352 := am_ (blk_below (g := gb352) (lb_ BK352) hb); replace BK386 := am_ (blk_below (g := gb386) (lb_ BK386) hb); replace HB := am_ (below_step (lw_ HB) hb)
       (try clear hb)
       (try clear hb2)
       (try clear hk)
       (try clear hi)
       (try clear ho0)
       (try clear ho1)
       (try clear ho2)
       refine hK.out _ _ ⟨(blk_cell BK351.out 0).trans rfl, (blk_cell BK351.out 1).trans rfl, (blk_cell BK351.out 2).trans rfl, (blk_cell BK351.out 3).trans rfl, (blk_cell BK352.out 0).trans rfl, (blk_cell BK352.out 1).trans rfl, (blk_cell BK352.out 2).trans rfl, (blk_cell BK352.out 3).trans rfl⟩ (fun hHeld => ?_)
       clear hK K
       refine norm_ (a' := ?_) ?_ ?_
       rotate_left
       ·show Act.put _ (some 32) _ = _
        simp only [Act.put, List.setIfInBounds_toArray, List.set_cons_zero, List.set_cons_succ, i64_w, i32_w]
        rfl
       refine pure_ (i := 5) (N := some 27) (v := ?_) (a' := ?_) #[true, true, true, true, true, true, false, false, true, false, false] rfl rfl (any_of HT_.out (by kernel_rfl)) (fun _ _ _ h => h) (Or.inl ⟨by rfl, ?_⟩) ?_ ?_
       rotate_left
       ·intro w'
        go_simp
        with_reducible rfl
       rotate_left
       ·simp only [Act.put, List.setIfInBounds_toArray, List.set_cons_zero, List.set_cons_succ, i64_w, i32_w]
        rfl
       refine pure_ (i := 6) (N := some 33) (v := ?_) (a' := ?_) #[true, true, true, true, true, true, true, false, true, false, false] rfl rfl (any_of HT_.out (by kernel_rfl)) (fun _ _ _ h => h) (Or.inl ⟨by rfl, ?_⟩) ?_ ?_
       rotate_left
       ·intro w'
        go_simp
        with_reducible rfl
       rotate_left
       ·simp only [Act.put, List.setIfInBounds_toArray, List.set_cons_zero, List.set_cons_succ, i64_w, i32_w]
        rfl
       refine pure_ (i := 7) (N := some 34) (v := ?_) (a' := ?_) #[true, true, true, true, true, true, true, true, true, false, false] rfl rfl (any_of HT_.out (by kernel_rfl)) (fun _ _ _ h => h) (Or.inl ⟨by rfl, ?_⟩) ?_ ?_
       rotate_left
       ·intro w'
        go_simp
        with_reducible rfl
       rotate_left
       ·simp only [Act.put, List.setIfInBounds_toArray, List.set_cons_zero, List.set_cons_succ, i64_w, i32_w]
        rfl
       exact norm_ (by simp only [putAll, Act.put, List.setIfInBounds_toArray, List.set_cons_zero, List.set_cons_succ]) (hCont (.slice Ao37 t356.length co37, .slice Ao38 t359.length co38, .slice Ao39 t362.length co39, .slice Ao40 t366.length co40, .slice Ao41 t369.length co41, .slice Ao42 t372.length co42, v377, v380, v383, gb386) _ ⟨hHeld, (lo_ HO358), (lo_ HO361), (lo_ HO364), (lo_ HO368), (lo_ HO371), (lo_ HO374), (lo_ HO378), (lo_ HO381), (lo_ HO384), (lb_ BK351), (lb_ BK352), (lb_ BK386), GW386.out, GE386.out, NB351_386.out, NB386_351.out, NB352_386.out, NB386_352.out, (lw_ HB)⟩)
     ·skip
      refine box_step ?hg (N := 6) ?hd (cs := #[.int .i64 0, .slice none 0 0, .slice none 0 0, .slice none 0 0]) (t := 48) ?hr ?_; (case hd => rfl); (case hg => rfl); (case hr => first | (go_simp; done) | (go_simp; rfl))
      intro gb386 hg w35 hbox hb
      have BK386 := am_ (hbox); have GW386 := am_ ((by rw [hg]; exact (below_size (lw_ HB)) : w.heap.size ≤ gb386)); have GE386 := am_ ((by rw [hg]; exact (below_size (lw_ HB)) : w.heap.size ≤ gb386)); have NB351_386 := am_ ((by rw [hg]; exact Nat.ne_of_lt (blk_lt (g := gb351) (lb_ BK351)) : gb351 ≠ gb386)); have NB386_351 := am_ ((by rw [hg]; exact Nat.ne_of_gt (blk_lt (g := gb351) (lb_ BK351)) : gb386 ≠ gb351)); have NB352_386 := am_ ((by rw [hg]; exact Nat.ne_of_lt (blk_lt (g := gb352) (lb_ BK352)) : gb352 ≠ gb386)); have NB386_352 := am_ ((by rw [hg]; exact Nat.ne_of_gt (blk_lt (g := gb352) (lb_ BK352)) : gb386 ≠ gb352)); replace HO358 := am_ (Kd.R_below (lf_ HO358) hb); replace HO361 := am_ (Kd.R_below (lf_ HO361) hb); replace HO364 := am_ (Kd.R_below (lf_ HO364) hb); replace BK351 := am_ (blk_below (g := gb351) (lb_ BK351) hb); replace BK352 := am_ (blk_below (g := gb352) (lb_ BK352) hb); replace HB := am_ (below_step (lw_ HB) hb)
      clear hb hbox hg
      refine hK.out _ _ ⟨(blk_cell BK351.out 0).trans rfl, (blk_cell BK351.out 1).trans rfl, (blk_cell BK351.out 2).trans rfl, (blk_cell BK351.out 3).trans rfl, (blk_cell BK352.out 0).trans rfl, (blk_cell BK352.out 1).trans rfl, (blk_cell BK352.out 2).trans rfl, (blk_cell BK352.out 3).trans rfl⟩ (fun hHeld => ?_)
      clear hK K
      refine norm_ (a' := ?_) ?_ ?_
      rotate_left
      ·show Act.put _ (some 6) _ = _
       simp only [Act.put, List.setIfInBounds_toArray, List.set_cons_zero, List.set_cons_succ, i64_w, i32_w]
       rfl
      refine one_ (i := 3) (N := some 31) #[true, true, true, true, false, false, false, false, true, false, false] rfl rfl (one_of HT_.out (by kernel_rfl)) (by decide) (fun K hK => ?_)
      refine goes_ Try.func36 (by kernel_rfl) rfl #[.agg #[.int .i64 a1_0, .slice A1_1 l1_1.length c1_1, .slice A1_2 l1_2.length c1_2, .slice A1_3 l1_3.length c1_3]] (by rfl) rfl rfl lm_ ?_
      with_reducible refine (laws_toRanked.calls k a1_0 _ _ l1_1 _ _ l1_2 _ _ l1_3 t365 t366 t369 t372 _ ?side1 ?side2 ?side3 ?side4 ?side5 ?side6 A20.out).mono ?_
      (case side1 => exact lc_ (Kd.C_below HR1_1.out HB.out))
      (case side2 => exact HC1_1.out)
      (case side3 => exact lc_ (Kd.C_below HR1_2.out HB.out))
      (case side4 => exact HC1_2.out)
      (case side5 => exact lc_ (Kd.C_below HR1_3.out HB.out))
      (case side6 => exact HC1_3.out)
      rintro e w36 ⟨v367, v370, v373, rfl, ho0, ho1, ho2, hb⟩
      refine ⟨_, rfl, ?_⟩
      have HO368 := am_ (Kd.R_lower (nw_ (nw_ (nw_ ho0 HO358) HO361) HO364) (below_size (lw_ HB))); have HO371 := am_ (Kd.R_lower (nw_ (nw_ (nw_ ho1 HO358) HO361) HO364) (below_size (lw_ HB))); have HO374 := am_ (Kd.R_lower (nw_ (nw_ (nw_ ho2 HO358) HO361) HO364) (below_size (lw_ HB))); replace HO358 := am_ (m1_ (td_ (td_ (td_ (Kd.R_old (lf_ HO358) hb) ho0) ho1) ho2)); replace HO361 := am_ (m1_ (td_ (td_ (td_ (Kd.R_old (lf_ HO361) hb) ho0) ho1) ho2)); replace HO364 := am_ (m1_ (td_ (td_ (td_ (Kd.R_old (lf_ HO364) hb) ho0) ho1) ho2)); replace BK351 := am_ (blk_below (g := gb351) (lb_ BK351) hb); replace BK352 := am_ (blk_below (g := gb352) (lb_ BK352) hb); replace BK386 := am_ (blk_below (g := gb386) (lb_ BK386) hb); replace HB := am_ (below_step (lw_ HB) hb)
      (try clear hb)
      (try clear hb2)
      (try clear hk)
      (try clear hi)
      (try clear ho0)
      (try clear ho1)
      (try clear ho2)
      obtain ⟨Ao37, co37, eo37⟩ := Kd.R_slice HO358.out
      (first | subst eo37 | (injection eo37 with f1_ f2_ f3_; have f4_ := f1_.symm; have f5_ := f3_.symm; clear f1_ f2_ f3_; subst f4_; subst f5_))
      obtain ⟨Ao38, co38, eo38⟩ := Kd.R_slice HO361.out
      (first | subst eo38 | (injection eo38 with f1_ f2_ f3_; have f4_ := f1_.symm; have f5_ := f3_.symm; clear f1_ f2_ f3_; subst f4_; subst f5_))
      obtain ⟨Ao39, co39, eo39⟩ := Kd.R_slice HO364.out
      (first | subst eo39 | (injection eo39 with f1_ f2_ f3_; have f4_ := f1_.symm; have f5_ := f3_.symm; clear f1_ f2_ f3_; subst f4_; subst f5_))
      obtain ⟨Ao40, co40, eo40⟩ := Kd.R_slice HO368.out
      (first | subst eo40 | (injection eo40 with f1_ f2_ f3_; have f4_ := f1_.symm; have f5_ := f3_.symm; clear f1_ f2_ f3_; subst f4_; subst f5_))
      obtain ⟨Ao41, co41, eo41⟩ := Kd.R_slice HO371.out
      (first | subst eo41 | (injection eo41 with f1_ f2_ f3_; have f4_ := f1_.symm; have f5_ := f3_.symm; clear f1_ f2_ f3_; subst f4_; subst f5_))
      obtain ⟨Ao42, co42, eo42⟩ := Kd.R_slice HO374.out
      (first | subst eo42 | (injection eo42 with f1_ f2_ f3_; have f4_ := f1_.symm; have f5_ := f3_.symm; clear f1_ f2_ f3_; subst f4_; subst f5_))
      refine hK.out _ _ ⟨(blk_cell BK351.out 0).trans rfl, (blk_cell BK351.out 1).trans rfl, (blk_cell BK351.out 2).trans rfl, (blk_cell BK351.out 3).trans rfl, (blk_cell BK352.out 0).trans rfl, (blk_cell BK352.out 1).trans rfl, (blk_cell BK352.out 2).trans rfl, (blk_cell BK352.out 3).trans rfl⟩ (fun hHeld => ?_)
      clear hK K
      refine norm_ (a' := ?_) ?_ ?_
      rotate_left
      ·show Act.put _ (some 31) _ = _
       simp only [Act.put, List.setIfInBounds_toArray, List.set_cons_zero, List.set_cons_succ, i64_w, i32_w]
       rfl
      refine one_ (i := 4) (N := some 32) #[true, true, true, true, true, false, false, false, true, false, false] rfl rfl (one_of HT_.out (by kernel_rfl)) (by decide) (fun K hK => ?_)
      refine goes_ Try.func35 (by kernel_rfl) rfl #[.agg #[.int .i64 t355, .slice Ao37 t356.length co37, .slice Ao38 t359.length co38, .slice Ao39 t362.length co39], .agg #[.int .i64 t365, .slice Ao40 t366.length co40, .slice Ao41 t369.length co41, .slice Ao42 t372.length co42]] (by rfl) rfl rfl lm_ ?_
      with_reducible refine (spec_JoinRanked.calls k t355 _ _ t356 _ _ t359 _ _ t362 t365 _ _ t366 _ _ t369 _ _ t372 t375 t376 t379 t382 t385 _ ?side1 ?side2 ?side3 ?side4 ?side5 ?side6 ?side7 ?side8 ?side9 ?side10 ?side11 ?side12 A21.out).mono ?_
      (case side1 => exact lc_ (Kd.R_reads' HO358.out).2.2)
      (case side2 => exact (Kd.R_reads' HO358.out).2.1)
      (case side3 => exact lc_ (Kd.R_reads' HO361.out).2.2)
      (case side4 => exact (Kd.R_reads' HO361.out).2.1)
      (case side5 => exact lc_ (Kd.R_reads' HO364.out).2.2)
      (case side6 => exact (Kd.R_reads' HO364.out).2.1)
      (case side7 => exact lc_ (Kd.R_reads' HO368.out).2.2)
      (case side8 => exact (Kd.R_reads' HO368.out).2.1)
      (case side9 => exact lc_ (Kd.R_reads' HO371.out).2.2)
      (case side10 => exact (Kd.R_reads' HO371.out).2.1)
      (case side11 => exact lc_ (Kd.R_reads' HO374.out).2.2)
      (case side12 => exact (Kd.R_reads' HO374.out).2.1)
      rintro e w43 ⟨v377, v380, v383, rfl, ho0, ho1, ho2, hb⟩
      refine ⟨_, rfl, ?_⟩
      have HO378 := am_ (Kd.R_lower (nw_ (nw_ (nw_ (nw_ (nw_ (nw_ ho0 HO358) HO361) HO364) HO368) HO371) HO374) (below_size (lw_ HB))); have HO381 := am_ (Kd.R_lower (nw_ (nw_ (nw_ (nw_ (nw_ (nw_ ho1 HO358) HO361) HO364) HO368) HO371) HO374) (below_size (lw_ HB))); have HO384 := am_ (Kd.R_lower (nw_ (nw_ (nw_ (nw_ (nw_ (nw_ ho2 HO358) HO361) HO364) HO368) HO371) HO374) (below_size (lw_ HB))); replace HO358 := am_ (m1_ (td_ (td_ (td_ (Kd.R_old (lf_ HO358) hb) ho0) ho1) ho2)); replace HO361 := am_ (m1_ (td_ (td_ (td_ (Kd.R_old (lf_ HO361) hb) ho0) ho1) ho2)); replace HO364 := am_ (m1_ (td_ (td_ (td_ (Kd.R_old (lf_ HO364) hb) ho0) ho1) ho2)); replace HO368 := am_ (m1_ (td_ (td_ (td_ (Kd.R_old (lf_ HO368) hb) ho0) ho1) ho2)); replace HO371 := am_ (m1_ (td_ (td_ (td_ (Kd.R_old (lf_ HO371) hb) ho0) ho1) ho2)); replace HO374 := am_ (m1_ (td_ (td_ (td_ (Kd.R_old (lf_ HO374) hb) ho0) ho1) ho2)); replace BK351 := am_ (blk_below (g := gb351) (lb_ BK351) hb); replace BK352 := am_ (blk_below (g := gb352) (lb_ BK352) hb); replace BK386 := am_ (blk_below (g := gb386) (lb_ BK386) hb); replace HB := am_ (below_step (lw_ HB) hb)
      (try clear hb)
      (try clear hb2)
      (try clear hk)
      (try clear hi)
      (try clear ho0)
      (try clear ho1)
      (try clear ho2)
      refine hK.out _ _ ⟨(blk_cell BK351.out 0).trans rfl, (blk_cell BK351.out 1).trans rfl, (blk_cell BK351.out 2).trans rfl, (blk_cell BK351.out 3).trans rfl, (blk_cell BK352.out 0).trans rfl, (blk_cell BK352.out 1).trans rfl, (blk_cell BK352.out 2).trans rfl, (blk_cell BK352.out 3).trans rfl⟩ (fun hHeld => ?_)
      clear hK K
      refine norm_ (a' := ?_) ?_ ?_
      rotate_left
      ·show Act.put _ (some 32) _ = _
       simp only [Act.put, List.setIfInBounds_toArray, List.set_cons_zero, List.set_cons_succ, i64_w, i32_w]
       rfl
      refine pure_ (i := 5) (N := some 27) (v := ?_) (a' := ?_) #[true, true, true, true, true, true, false, false, true, false, false] rfl rfl (any_of HT_.out (by kernel_rfl)) (fun _ _ _ h => h) (Or.inl ⟨by rfl, ?_⟩) ?_ ?_
      rotate_left
      ·intro w'
       go_simp
       with_reducible rfl
      rotate_left
      ·simp only [Act.put, List.setIfInBounds_toArray, List.set_cons_zero, List.set_cons_succ, i64_w, i32_w]
       rfl
      refine pure_ (i := 6) (N := some 33) (v := ?_) (a' := ?_) #[true, true, true, true, true, true, true, false, true, false, false] rfl rfl (any_of HT_.out (by kernel_rfl)) (fun _ _ _ h => h) (Or.inl ⟨by rfl, ?_⟩) ?_ ?_
      rotate_left
      ·intro w'
       go_simp
       with_reducible rfl
      rotate_left
      ·simp only [Act.put, List.setIfInBounds_toArray, List.set_cons_zero, List.set_cons_succ, i64_w, i32_w]
       rfl
      refine pure_ (i := 7) (N := some 34) (v := ?_) (a' := ?_) #[true, true, true, true, true, true, true, true, true, false, false] rfl rfl (any_of HT_.out (by kernel_rfl)) (fun _ _ _ h => h) (Or.inl ⟨by rfl, ?_⟩) ?_ ?_
      rotate_left
      ·intro w'
       go_simp
       with_reducible rfl
      rotate_left
      ·simp only [Act.put, List.setIfInBounds_toArray, List.set_cons_zero, List.set_cons_succ, i64_w, i32_w]
       rfl
      exact norm_ (by simp only [putAll, Act.put, List.setIfInBounds_toArray, List.set_cons_zero, List.set_cons_succ]) (hCont (.slice Ao37 t356.length co37, .slice Ao38 t359.length co38, .slice Ao39 t362.length co39, .slice Ao40 t366.length co40, .slice Ao41 t369.length co41, .slice Ao42 t372.length co42, v377, v380, v383, gb386) _ ⟨hHeld, (lo_ HO358), (lo_ HO361), (lo_ HO364), (lo_ HO368), (lo_ HO371), (lo_ HO374), (lo_ HO378), (lo_ HO381), (lo_ HO384), (lb_ BK351), (lb_ BK352), (lb_ BK386), GW386.out, GE386.out, NB351_386.out, NB386_351.out, NB352_386.out, NB386_352.out, (lw_ HB)⟩)
    ·skip
     refine box_step ?hg (N := 6) ?hd (cs := #[.int .i64 0, .slice none 0 0, .slice none 0 0, .slice none 0 0]) (t := 48) ?hr ?_; (case hd => rfl); (case hg => rfl); (case hr => first | (go_simp; done) | (go_simp; rfl))
     intro gb386 hg w34 hbox hb
     have BK386 := am_ (hbox); have GW386 := am_ ((by rw [hg]; exact (below_size (lw_ HB)) : w.heap.size ≤ gb386)); have GE386 := am_ ((by rw [hg]; exact (below_size (lw_ HB)) : w.heap.size ≤ gb386)); have NB351_386 := am_ ((by rw [hg]; exact Nat.ne_of_lt (blk_lt (g := gb351) (lb_ BK351)) : gb351 ≠ gb386)); have NB386_351 := am_ ((by rw [hg]; exact Nat.ne_of_gt (blk_lt (g := gb351) (lb_ BK351)) : gb386 ≠ gb351)); have NB352_386 := am_ ((by rw [hg]; exact Nat.ne_of_lt (blk_lt (g := gb352) (lb_ BK352)) : gb352 ≠ gb386)); have NB386_352 := am_ ((by rw [hg]; exact Nat.ne_of_gt (blk_lt (g := gb352) (lb_ BK352)) : gb386 ≠ gb352)); replace BK351 := am_ (blk_below (g := gb351) (lb_ BK351) hb); replace BK352 := am_ (blk_below (g := gb352) (lb_ BK352) hb); replace HB := am_ (below_step (lw_ HB) hb)
     clear hb hbox hg
     refine hK.out _ _ ⟨(blk_cell BK351.out 0).trans rfl, (blk_cell BK351.out 1).trans rfl, (blk_cell BK351.out 2).trans rfl, (blk_cell BK351.out 3).trans rfl, (blk_cell BK352.out 0).trans rfl, (blk_cell BK352.out 1).trans rfl, (blk_cell BK352.out 2).trans rfl, (blk_cell BK352.out 3).trans rfl⟩ (fun hHeld => ?_)
     clear hK K
     refine norm_ (a' := ?_) ?_ ?_
     rotate_left
     ·show Act.put _ (some 6) _ = _
      simp only [Act.put, List.setIfInBounds_toArray, List.set_cons_zero, List.set_cons_succ, i64_w, i32_w]
      rfl
     refine one_ (i := 1) (N := some 29) #[true, true, true, false, false, false, false, false, true, false, false] rfl rfl (one_of HT_.out (by kernel_rfl)) (by decide) (fun K hK => ?_)
     refine goes_ Try.func36 (by kernel_rfl) rfl #[.agg #[.int .i64 a0_0, .slice A0_1 l0_1.length c0_1, .slice A0_2 l0_2.length c0_2, .slice A0_3 l0_3.length c0_3]] (by rfl) rfl rfl lm_ ?_
     with_reducible refine (laws_toRanked.calls k a0_0 _ _ l0_1 _ _ l0_2 _ _ l0_3 t355 t356 t359 t362 _ ?side1 ?side2 ?side3 ?side4 ?side5 ?side6 A19.out).mono ?_
     (case side1 => exact lc_ (Kd.C_below HR0_1.out HB.out))
     (case side2 => exact HC0_1.out)
     (case side3 => exact lc_ (Kd.C_below HR0_2.out HB.out))
     (case side4 => exact HC0_2.out)
     (case side5 => exact lc_ (Kd.C_below HR0_3.out HB.out))
     (case side6 => exact HC0_3.out)
     rintro e w35 ⟨v357, v360, v363, rfl, ho0, ho1, ho2, hb⟩
     refine ⟨_, rfl, ?_⟩
     have HO358 := am_ (Kd.R_lower ho0 (below_size (lw_ HB))); have HO361 := am_ (Kd.R_lower ho1 (below_size (lw_ HB))); have HO364 := am_ (Kd.R_lower ho2 (below_size (lw_ HB))); replace BK351 := am_ (blk_below (g := gb351) (lb_ BK351) hb); replace BK352 := am_ (blk_below (g := gb352) (lb_ BK352) hb); replace BK386 := am_ (blk_below (g := gb386) (lb_ BK386) hb); replace HB := am_ (below_step (lw_ HB) hb)
     (try clear hb)
     (try clear hb2)
     (try clear hk)
     (try clear hi)
     (try clear ho0)
     (try clear ho1)
     (try clear ho2)
     refine hK.out _ _ ⟨(blk_cell BK351.out 0).trans rfl, (blk_cell BK351.out 1).trans rfl, (blk_cell BK351.out 2).trans rfl, (blk_cell BK351.out 3).trans rfl, (blk_cell BK352.out 0).trans rfl, (blk_cell BK352.out 1).trans rfl, (blk_cell BK352.out 2).trans rfl, (blk_cell BK352.out 3).trans rfl⟩ (fun hHeld => ?_)
     clear hK K
     refine norm_ (a' := ?_) ?_ ?_
     rotate_left
     ·show Act.put _ (some 29) _ = _
      simp only [Act.put, List.setIfInBounds_toArray, List.set_cons_zero, List.set_cons_succ, i64_w, i32_w]
      rfl
     refine one_ (i := 3) (N := some 31) #[true, true, true, true, false, false, false, false, true, false, false] rfl rfl (one_of HT_.out (by kernel_rfl)) (by decide) (fun K hK => ?_)
     refine goes_ Try.func36 (by kernel_rfl) rfl #[.agg #[.int .i64 a1_0, .slice A1_1 l1_1.length c1_1, .slice A1_2 l1_2.length c1_2, .slice A1_3 l1_3.length c1_3]] (by rfl) rfl rfl lm_ ?_
     with_reducible refine (laws_toRanked.calls k a1_0 _ _ l1_1 _ _ l1_2 _ _ l1_3 t365 t366 t369 t372 _ ?side1 ?side2 ?side3 ?side4 ?side5 ?side6 A20.out).mono ?_
     (case side1 => exact lc_ (Kd.C_below HR1_1.out HB.out))
     (case side2 => exact HC1_1.out)
     (case side3 => exact lc_ (Kd.C_below HR1_2.out HB.out))
     (case side4 => exact HC1_2.out)
     (case side5 => exact lc_ (Kd.C_below HR1_3.out HB.out))
     (case side6 => exact HC1_3.out)
     rintro e w36 ⟨v367, v370, v373, rfl, ho0, ho1, ho2, hb⟩
     refine ⟨_, rfl, ?_⟩
     have HO368 := am_ (Kd.R_lower (nw_ (nw_ (nw_ ho0 HO358) HO361) HO364) (below_size (lw_ HB))); have HO371 := am_ (Kd.R_lower (nw_ (nw_ (nw_ ho1 HO358) HO361) HO364) (below_size (lw_ HB))); have HO374 := am_ (Kd.R_lower (nw_ (nw_ (nw_ ho2 HO358) HO361) HO364) (below_size (lw_ HB))); replace HO358 := am_ (m1_ (td_ (td_ (td_ (Kd.R_old (lf_ HO358) hb) ho0) ho1) ho2)); replace HO361 := am_ (m1_ (td_ (td_ (td_ (Kd.R_old (lf_ HO361) hb) ho0) ho1) ho2)); replace HO364 := am_ (m1_ (td_ (td_ (td_ (Kd.R_old (lf_ HO364) hb) ho0) ho1) ho2)); replace BK351 := am_ (blk_below (g := gb351) (lb_ BK351) hb); replace BK352 := am_ (blk_below (g := gb352) (lb_ BK352) hb); replace BK386 := am_ (blk_below (g := gb386) (lb_ BK386) hb); replace HB := am_ (below_step (lw_ HB) hb)
     (try clear hb)
     (try clear hb2)
     (try clear hk)
     (try clear hi)
     (try clear ho0)
     (try clear ho1)
     (try clear ho2)
     obtain ⟨Ao37, co37, eo37⟩ := Kd.R_slice HO358.out
     (first | subst eo37 | (injection eo37 with f1_ f2_ f3_; have f4_ := f1_.symm; have f5_ := f3_.symm; clear f1_ f2_ f3_; subst f4_; subst f5_))
     obtain ⟨Ao38, co38, eo38⟩ := Kd.R_slice HO361.out
     (first | subst eo38 | (injection eo38 with f1_ f2_ f3_; have f4_ := f1_.symm; have f5_ := f3_.symm; clear f1_ f2_ f3_; subst f4_; subst f5_))
     obtain ⟨Ao39, co39, eo39⟩ := Kd.R_slice HO364.out
     (first | subst eo39 | (injection eo39 with f1_ f2_ f3_; have f4_ := f1_.symm; have f5_ := f3_.symm; clear f1_ f2_ f3_; subst f4_; subst f5_))
     obtain ⟨Ao40, co40, eo40⟩ := Kd.R_slice HO368.out
     (first | subst eo40 | (injection eo40 with f1_ f2_ f3_; have f4_ := f1_.symm; have f5_ := f3_.symm; clear f1_ f2_ f3_; subst f4_; subst f5_))
     obtain ⟨Ao41, co41, eo41⟩ := Kd.R_slice HO371.out
     (first | subst eo41 | (injection eo41 with f1_ f2_ f3_; have f4_ := f1_.symm; have f5_ := f3_.symm; clear f1_ f2_ f3_; subst f4_; subst f5_))
     obtain ⟨Ao42, co42, eo42⟩ := Kd.R_slice HO374.out
     (first | subst eo42 | (injection eo42 with f1_ f2_ f3_; have f4_ := f1_.symm; have f5_ := f3_.symm; clear f1_ f2_ f3_; subst f4_; subst f5_))
     refine hK.out _ _ ⟨(blk_cell BK351.out 0).trans rfl, (blk_cell BK351.out 1).trans rfl, (blk_cell BK351.out 2).trans rfl, (blk_cell BK351.out 3).trans rfl, (blk_cell BK352.out 0).trans rfl, (blk_cell BK352.out 1).trans rfl, (blk_cell BK352.out 2).trans rfl, (blk_cell BK352.out 3).trans rfl⟩ (fun hHeld => ?_)
     clear hK K
     refine norm_ (a' := ?_) ?_ ?_
     rotate_left
     ·show Act.put _ (some 31) _ = _
      simp only [Act.put, List.setIfInBounds_toArray, List.set_cons_zero, List.set_cons_succ, i64_w, i32_w]
      rfl
     refine one_ (i := 4) (N := some 32) #[true, true, true, true, true, false, false, false, true, false, false] rfl rfl (one_of HT_.out (by kernel_rfl)) (by decide) (fun K hK => ?_)
     refine goes_ Try.func35 (by kernel_rfl) rfl #[.agg #[.int .i64 t355, .slice Ao37 t356.length co37, .slice Ao38 t359.length co38, .slice Ao39 t362.length co39], .agg #[.int .i64 t365, .slice Ao40 t366.length co40, .slice Ao41 t369.length co41, .slice Ao42 t372.length co42]] (by rfl) rfl rfl lm_ ?_
     with_reducible refine (spec_JoinRanked.calls k t355 _ _ t356 _ _ t359 _ _ t362 t365 _ _ t366 _ _ t369 _ _ t372 t375 t376 t379 t382 t385 _ ?side1 ?side2 ?side3 ?side4 ?side5 ?side6 ?side7 ?side8 ?side9 ?side10 ?side11 ?side12 A21.out).mono ?_
     (case side1 => exact lc_ (Kd.R_reads' HO358.out).2.2)
     (case side2 => exact (Kd.R_reads' HO358.out).2.1)
     (case side3 => exact lc_ (Kd.R_reads' HO361.out).2.2)
     (case side4 => exact (Kd.R_reads' HO361.out).2.1)
     (case side5 => exact lc_ (Kd.R_reads' HO364.out).2.2)
     (case side6 => exact (Kd.R_reads' HO364.out).2.1)
     (case side7 => exact lc_ (Kd.R_reads' HO368.out).2.2)
     (case side8 => exact (Kd.R_reads' HO368.out).2.1)
     (case side9 => exact lc_ (Kd.R_reads' HO371.out).2.2)
     (case side10 => exact (Kd.R_reads' HO371.out).2.1)
     (case side11 => exact lc_ (Kd.R_reads' HO374.out).2.2)
     (case side12 => exact (Kd.R_reads' HO374.out).2.1)
     rintro e w43 ⟨v377, v380, v383, rfl, ho0, ho1, ho2, hb⟩
     refine ⟨_, rfl, ?_⟩
     have HO378 := am_ (Kd.R_lower (nw_ (nw_ (nw_ (nw_ (nw_ (nw_ ho0 HO358) HO361) HO364) HO368) HO371) HO374) (below_size (lw_ HB))); have HO381 := am_ (Kd.R_lower (nw_ (nw_ (nw_ (nw_ (nw_ (nw_ ho1 HO358) HO361) HO364) HO368) HO371) HO374) (below_size (lw_ HB))); have HO384 := am_ (Kd.R_lower (nw_ (nw_ (nw_ (nw_ (nw_ (nw_ ho2 HO358) HO361) HO364) HO368) HO371) HO374) (below_size (lw_ HB))); replace HO358 := am_ (m1_ (td_ (td_ (td_ (Kd.R_old (lf_ HO358) hb) ho0) ho1) ho2)); replace HO361 := am_ (m1_ (td_ (td_ (td_ (Kd.R_old (lf_ HO361) hb) ho0) ho1) ho2)); replace HO364 := am_ (m1_ (td_ (td_ (td_ (Kd.R_old (lf_ HO364) hb) ho0) ho1) ho2)); replace HO368 := am_ (m1_ (td_ (td_ (td_ (Kd.R_old (lf_ HO368) hb) ho0) ho1) ho2)); replace HO371 := am_ (m1_ (td_ (td_ (td_ (Kd.R_old (lf_ HO371) hb) ho0) ho1) ho2)); replace HO374 := am_ (m1_ (td_ (td_ (td_ (Kd.R_old (lf_ HO374) hb) ho0) ho1) ho2)); replace BK351 := am_ (blk_below (g := gb351) (lb_ BK351) hb); replace BK352 := am_ (blk_below (g := gb352) (lb_ BK352) hb); replace BK386 := am_ (blk_below (g := gb386) (lb_ BK386) hb); replace HB := am_ (below_step (lw_ HB) hb)
     (try clear hb)
     (try clear hb2)
     (try clear hk)
     (try clear hi)
     (try clear ho0)
     (try clear ho1)
     (try clear ho2)
     refine hK.out _ _ ⟨(blk_cell BK351.out 0).trans rfl, (blk_cell BK351.out 1).trans rfl, (blk_cell BK351.out 2).trans rfl, (blk_cell BK351.out 3).trans rfl, (blk_cell BK352.out 0).trans rfl, (blk_cell BK352.out 1).trans rfl, (blk_cell BK352.out 2).trans rfl, (blk_cell BK352.out 3).trans rfl⟩ (fun hHeld => ?_)
     clear hK K
     refine norm_ (a' := ?_) ?_ ?_
     rotate_left
     ·show Act.put _ (some 32) _ = _
      simp only [Act.put, List.setIfInBounds_toArray, List.set_cons_zero, List.set_cons_succ, i64_w, i32_w]
      rfl
     refine pure_ (i := 5) (N := some 27) (v := ?_) (a' := ?_) #[true, true, true, true, true, true, false, false, true, false, false] rfl rfl (any_of HT_.out (by kernel_rfl)) (fun _ _ _ h => h) (Or.inl ⟨by rfl, ?_⟩) ?_ ?_
     rotate_left
     ·intro w'
      go_simp
      with_reducible rfl
     rotate_left
     ·simp only [Act.put, List.setIfInBounds_toArray, List.set_cons_zero, List.set_cons_succ, i64_w, i32_w]
      rfl
     refine pure_ (i := 6) (N := some 33) (v := ?_) (a' := ?_) #[true, true, true, true, true, true, true, false, true, false, false] rfl rfl (any_of HT_.out (by kernel_rfl)) (fun _ _ _ h => h) (Or.inl ⟨by rfl, ?_⟩) ?_ ?_
     rotate_left
     ·intro w'
      go_simp
      with_reducible rfl
     rotate_left
     ·simp only [Act.put, List.setIfInBounds_toArray, List.set_cons_zero, List.set_cons_succ, i64_w, i32_w]
      rfl
     refine pure_ (i := 7) (N := some 34) (v := ?_) (a' := ?_) #[true, true, true, true, true, true, true, true, true, false, false] rfl rfl (any_of HT_.out (by kernel_rfl)) (fun _ _ _ h => h) (Or.inl ⟨by rfl, ?_⟩) ?_ ?_
     rotate_left
     ·intro w'
      go_simp
      with_reducible rfl
     rotate_left
     ·simp only [Act.put, List.setIfInBounds_toArray, List.set_cons_zero, List.set_cons_succ, i64_w, i32_w]
      rfl
     exact norm_ (by simp only [putAll, Act.put, List.setIfInBounds_toArray, List.set_cons_zero, List.set_cons_succ]) (hCont (.slice Ao37 t356.length co37, .slice Ao38 t359.length co38, .slice Ao39 t362.length co39, .slice Ao40 t366.length co40, .slice Ao41 t369.length co41, .slice Ao42 t372.length co42, v377, v380, v383, gb386) _ ⟨hHeld, (lo_ HO358), (lo_ HO361), (lo_ HO364), (lo_ HO368), (lo_ HO371), (lo_ HO374), (lo_ HO378), (lo_ HO381), (lo_ HO384), (lb_ BK351), (lb_ BK352), (lb_ BK386), GW386.out, GE386.out, NB351_386.out, NB386_351.out, NB352_386.out, NB386_352.out, (lw_ HB)⟩)
   rintro ⟨v357, v360, v363, v367, v370, v373, v377, v380, v383, gb386⟩ w44 ⟨hS_, h0_, h1_, h2_, h3_, h4_, h5_, h6_, h7_, h8_, h9_, h10_, h11_, h12_, h13_, h14_, h15_, h16_, h17_, h18_⟩
   have n0_ : Aside0 (Kd.R (Kd.int .i64) 3 w44 w.heap.size (fun k_ => nb_ k_ v360 ∧ nb_ k_ v363 ∧ nb_ k_ v367 ∧ nb_ k_ v370 ∧ nb_ k_ v373 ∧ nb_ k_ v377 ∧ nb_ k_ v380 ∧ nb_ k_ v383) v357 t356) := ⟨h0_⟩; have n1_ : Aside0 (Kd.R (Kd.int .i64) 3 w44 w.heap.size (fun k_ => nb_ k_ v357 ∧ nb_ k_ v363 ∧ nb_ k_ v367 ∧ nb_ k_ v370 ∧ nb_ k_ v373 ∧ nb_ k_ v377 ∧ nb_ k_ v380 ∧ nb_ k_ v383) v360 t359) := ⟨h1_⟩; have n2_ : Aside0 (Kd.R (Kd.int .i64) 3 w44 w.heap.size (fun k_ => nb_ k_ v357 ∧ nb_ k_ v360 ∧ nb_ k_ v367 ∧ nb_ k_ v370 ∧ nb_ k_ v373 ∧ nb_ k_ v377 ∧ nb_ k_ v380 ∧ nb_ k_ v383) v363 t362) := ⟨h2_⟩; have n3_ : Aside0 (Kd.R (Kd.int .i64) 3 w44 w.heap.size (fun k_ => nb_ k_ v357 ∧ nb_ k_ v360 ∧ nb_ k_ v363 ∧ nb_ k_ v370 ∧ nb_ k_ v373 ∧ nb_ k_ v377 ∧ nb_ k_ v380 ∧ nb_ k_ v383) v367 t366) := ⟨h3_⟩; have n4_ : Aside0 (Kd.R (Kd.int .i64) 3 w44 w.heap.size (fun k_ => nb_ k_ v357 ∧ nb_ k_ v360 ∧ nb_ k_ v363 ∧ nb_ k_ v367 ∧ nb_ k_ v373 ∧ nb_ k_ v377 ∧ nb_ k_ v380 ∧ nb_ k_ v383) v370 t369) := ⟨h4_⟩; have n5_ : Aside0 (Kd.R (Kd.int .i64) 3 w44 w.heap.size (fun k_ => nb_ k_ v357 ∧ nb_ k_ v360 ∧ nb_ k_ v363 ∧ nb_ k_ v367 ∧ nb_ k_ v370 ∧ nb_ k_ v377 ∧ nb_ k_ v380 ∧ nb_ k_ v383) v373 t372) := ⟨h5_⟩; have n6_ : Aside0 (Kd.R (Kd.int .i64) 3 w44 w.heap.size (fun k_ => nb_ k_ v357 ∧ nb_ k_ v360 ∧ nb_ k_ v363 ∧ nb_ k_ v367 ∧ nb_ k_ v370 ∧ nb_ k_ v373 ∧ nb_ k_ v380 ∧ nb_ k_ v383) v377 t376) := ⟨h6_⟩; have n7_ : Aside0 (Kd.R (Kd.int .i64) 3 w44 w.heap.size (fun k_ => nb_ k_ v357 ∧ nb_ k_ v360 ∧ nb_ k_ v363 ∧ nb_ k_ v367 ∧ nb_ k_ v370 ∧ nb_ k_ v373 ∧ nb_ k_ v377 ∧ nb_ k_ v383) v380 t379) := ⟨h7_⟩; have n8_ : Aside0 (Kd.R (Kd.int .i64) 3 w44 w.heap.size (fun k_ => nb_ k_ v357 ∧ nb_ k_ v360 ∧ nb_ k_ v363 ∧ nb_ k_ v367 ∧ nb_ k_ v370 ∧ nb_ k_ v373 ∧ nb_ k_ v377 ∧ nb_ k_ v380) v383 t382) := ⟨h8_⟩; have n9_ : Aside0 (w44.heap[gb351]? = some (.cells #[.int .i64 a0_0, .slice A0_1 l0_1.length c0_1, .slice A0_2 l0_2.length c0_2, .slice A0_3 l0_3.length c0_3] 45 (0, 0))) := ⟨h9_⟩; have n10_ : Aside0 (w44.heap[gb352]? = some (.cells #[.int .i64 a1_0, .slice A1_1 l1_1.length c1_1, .slice A1_2 l1_2.length c1_2, .slice A1_3 l1_3.length c1_3] 45 (0, 0))) := ⟨h10_⟩; have n11_ : Aside0 (w44.heap[gb386]? = some (.cells #[.int .i64 0, .slice none 0 0, .slice none 0 0, .slice none 0 0] 48 (0, 0))) := ⟨h11_⟩; have n12_ : Aside0 (w.heap.size ≤ gb386) := ⟨h12_⟩; have n13_ : Aside0 (w.heap.size ≤ gb386) := ⟨h13_⟩; have n14_ : Aside0 (gb351 ≠ gb386) := ⟨h14_⟩; have n15_ : Aside0 (gb386 ≠ gb351) := ⟨h15_⟩; have n16_ : Aside0 (gb352 ≠ gb386) := ⟨h16_⟩; have n17_ : Aside0 (gb386 ≠ gb352) := ⟨h17_⟩; have n18_ : Aside0 (Below w.heap.size w w44) := ⟨h18_⟩; clear BK351; clear BK352; clear HB
   clear h0_ h1_ h2_ h3_ h4_ h5_ h6_ h7_ h8_ h9_ h10_ h11_ h12_ h13_ h14_ h15_ h16_ h17_ h18_
   have HO358 := n0_
   have HO361 := n1_
   have HO364 := n2_
   have HO368 := n3_
   have HO371 := n4_
   have HO374 := n5_
   have HO378 := n6_
   have HO381 := n7_
   have HO384 := n8_
   have BK351 := n9_
   have BK352 := n10_
   have BK386 := n11_
   have GW386 := n12_
   have GE386 := n13_
   have NB351_386 := n14_
   have NB386_351 := n15_
   have NB352_386 := n16_
   have NB386_352 := n17_
   have HB := n18_
   clear n0_ n1_ n2_ n3_ n4_ n5_ n6_ n7_ n8_ n9_ n10_ n11_ n12_ n13_ n14_ n15_ n16_ n17_ n18_
   have hHeld : w44.cell? ⟨gb351, 0, none⟩ = some (.int .i64 a0_0) ∧ w44.cell? ⟨gb351, 1, none⟩ = some (.slice A0_1 l0_1.length c0_1) ∧ w44.cell? ⟨gb351, 2, none⟩ = some (.slice A0_2 l0_2.length c0_2) ∧ w44.cell? ⟨gb351, 3, none⟩ = some (.slice A0_3 l0_3.length c0_3) ∧ w44.cell? ⟨gb352, 0, none⟩ = some (.int .i64 a1_0) ∧ w44.cell? ⟨gb352, 1, none⟩ = some (.slice A1_1 l1_1.length c1_1) ∧ w44.cell? ⟨gb352, 2, none⟩ = some (.slice A1_2 l1_2.length c1_2) ∧ w44.cell? ⟨gb352, 3, none⟩ = some (.slice A1_3 l1_3.length c1_3) := hS_
   obtain ⟨Ao46, co46, eo46⟩ := Kd.R_slice HO378.out
   (first | subst eo46 | (injection eo46 with f1_ f2_ f3_; have f4_ := f1_.symm; have f5_ := f3_.symm; clear f1_ f2_ f3_; subst f4_; subst f5_))
   obtain ⟨Ao48, co48, eo48⟩ := Kd.R_slice HO381.out
   (first | subst eo48 | (injection eo48 with f1_ f2_ f3_; have f4_ := f1_.symm; have f5_ := f3_.symm; clear f1_ f2_ f3_; subst f4_; subst f5_))
   obtain ⟨Ao50, co50, eo50⟩ := Kd.R_slice HO384.out
   (first | subst eo50 | (injection eo50 with f1_ f2_ f3_; have f4_ := f1_.symm; have f5_ := f3_.symm; clear f1_ f2_ f3_; subst f4_; subst f5_))
   refine norm_ (a' := ?_) ?_ ?_
   rotate_left
   ·simp only [putAll, Act.put, List.setIfInBounds_toArray, List.set_cons_zero, List.set_cons_succ]
    rfl
   refine one_ (i := 9) (N := none) #[true, true, true, true, true, true, true, true, true, true, false] rfl rfl (one_of HT_.out (by kernel_rfl)) (by decide) (fun K hK => ?_)
   have hs45 : w44.cell? ⟨gb386, 0, none⟩ = some (.int .i64 0) := (blk_cell BK386.out 0).trans rfl
   have hfs45 := blk_frozen BK386.out 0
   have hns45_0 := NB351_386.out
   have hns45_1 := NB352_386.out
   have hms45_0 := NB386_351.out
   have hms45_1 := NB386_352.out
   have hs47 : w44.cell? ⟨gb386, 1, none⟩ = some (.slice none 0 0) := (blk_cell BK386.out 1).trans rfl
   have hfs47 := blk_frozen BK386.out 1
   have hns47_0 := NB351_386.out
   have hns47_1 := NB352_386.out
   have hms47_0 := NB386_351.out
   have hms47_1 := NB386_352.out
   have hs49 : w44.cell? ⟨gb386, 2, none⟩ = some (.slice none 0 0) := (blk_cell BK386.out 2).trans rfl
   have hfs49 := blk_frozen BK386.out 2
   have hns49_0 := NB351_386.out
   have hns49_1 := NB352_386.out
   have hms49_0 := NB386_351.out
   have hms49_1 := NB386_352.out
   have hs51 : w44.cell? ⟨gb386, 3, none⟩ = some (.slice none 0 0) := (blk_cell BK386.out 3).trans rfl
   have hfs51 := blk_frozen BK386.out 3
   have hns51_0 := NB351_386.out
   have hns51_1 := NB352_386.out
   have hms51_0 := NB386_351.out
   have hms51_1 := NB386_352.out
   refine skip_ (w1 := ?_) (by rfl) rfl ?_ ?_
   rotate_left
   ·go_simp
    rfl
   refine hK.out _ _ ⟨((cell_far (p := ⟨gb386, _, none⟩) NB351_386.out _).trans (((cell_far (p := ⟨gb386, _, none⟩) NB351_386.out _).trans (((cell_far (p := ⟨gb386, _, none⟩) NB351_386.out _).trans (((cell_far (p := ⟨gb386, _, none⟩) NB351_386.out _).trans (hHeld.1)))))))), ((cell_far (p := ⟨gb386, _, none⟩) NB351_386.out _).trans (((cell_far (p := ⟨gb386, _, none⟩) NB351_386.out _).trans (((cell_far (p := ⟨gb386, _, none⟩) NB351_386.out _).trans (((cell_far (p := ⟨gb386, _, none⟩) NB351_386.out _).trans (hHeld.2.1)))))))), ((cell_far (p := ⟨gb386, _, none⟩) NB351_386.out _).trans (((cell_far (p := ⟨gb386, _, none⟩) NB351_386.out _).trans (((cell_far (p := ⟨gb386, _, none⟩) NB351_386.out _).trans (((cell_far (p := ⟨gb386, _, none⟩) NB351_386.out _).trans (hHeld.2.2.1)))))))), ((cell_far (p := ⟨gb386, _, none⟩) NB351_386.out _).trans (((cell_far (p := ⟨gb386, _, none⟩) NB351_386.out _).trans (((cell_far (p := ⟨gb386, _, none⟩) NB351_386.out _).trans (((cell_far (p := ⟨gb386, _, none⟩) NB351_386.out _).trans (hHeld.2.2.2.1)))))))), ((cell_far (p := ⟨gb386, _, none⟩) NB352_386.out _).trans (((cell_far (p := ⟨gb386, _, none⟩) NB352_386.out _).trans (((cell_far (p := ⟨gb386, _, none⟩) NB352_386.out _).trans (((cell_far (p := ⟨gb386, _, none⟩) NB352_386.out _).trans (hHeld.2.2.2.2.1)))))))), ((cell_far (p := ⟨gb386, _, none⟩) NB352_386.out _).trans (((cell_far (p := ⟨gb386, _, none⟩) NB352_386.out _).trans (((cell_far (p := ⟨gb386, _, none⟩) NB352_386.out _).trans (((cell_far (p := ⟨gb386, _, none⟩) NB352_386.out _).trans (hHeld.2.2.2.2.2.1)))))))), ((cell_far (p := ⟨gb386, _, none⟩) NB352_386.out _).trans (((cell_far (p := ⟨gb386, _, none⟩) NB352_386.out _).trans (((cell_far (p := ⟨gb386, _, none⟩) NB352_386.out _).trans (((cell_far (p := ⟨gb386, _, none⟩) NB352_386.out _).trans (hHeld.2.2.2.2.2.2.1)))))))), ((cell_far (p := ⟨gb386, _, none⟩) NB352_386.out _).trans (((cell_far (p := ⟨gb386, _, none⟩) NB352_386.out _).trans (((cell_far (p := ⟨gb386, _, none⟩) NB352_386.out _).trans (((cell_far (p := ⟨gb386, _, none⟩) NB352_386.out _).trans (hHeld.2.2.2.2.2.2.2))))))))⟩ (fun hHeld => ?_)
   clear hK K
   refine pure_ (i := 10) (N := some 7) (v := ?_) (a' := ?_) #[true, true, true, true, true, true, true, true, true, true, true] rfl rfl (any_of HT_.out (by kernel_rfl)) (fun _ _ _ h => h) (Or.inl ⟨by rfl, ?_⟩) ?_ ?_
   rotate_left
   ·intro w'
    go_simp
    with_reducible rfl
   rotate_left
   ·simp only [Act.put, List.setIfInBounds_toArray, List.set_cons_zero, List.set_cons_succ, i64_w, i32_w]
    rfl
   refine done_ (done_of HT_.out (by kernel_rfl)) ?_
   have hnb52 := NB351_386.out
   have hnc52 := NB386_351.out
   obtain ⟨hcz53_0, hcz53_1, hcz53_2, hcz53_3, hfz53_0, hfz53_1, hfz53_2, hfz53_3⟩ := bx4_ BK351.out
   go_upto_region 12 with (first | ((with_reducible refine gate_callee (f := 36) rfl ?_); refine goesL_ (some 36) rfl rfl Try.func36 (by kernel_rfl) rfl #[.agg #[.int .i64 a0_0, .slice A0_1 l0_1.length c0_1, .slice A0_2 l0_2.length c0_2, .slice A0_3 l0_3.length c0_3]] rfl lm_ ?_; (with_reducible refine (laws_toRanked.calls k a0_0 _ _ l0_1 _ _ l0_2 _ _ l0_3 t387 t388 t391 t394 _ ?side1 ?side2 ?side3 ?side4 ?side5 ?side6 A22.out).mono ?_); (case side1 => exact Kd.C_below HR0_1.out (lw_ HB)); (case side2 => exact HC0_1.out); (case side3 => exact Kd.C_below HR0_2.out (lw_ HB)); (case side4 => exact HC0_2.out); (case side5 => exact Kd.C_below HR0_3.out (lw_ HB)); (case side6 => exact HC0_3.out); rintro e w54 ⟨v389, v392, v395, rfl, ho0, ho1, ho2, hb⟩; refine ⟨_, rfl, ?_⟩; have HO390 := am_ (Kd.R_lower (Kd.R_new' (Kd.R_new' (Kd.R_new' (Kd.R_new' (Kd.R_new' (Kd.R_new' (Kd.R_new' (Kd.R_new' (Kd.R_new' ho0 (Kd.R_lt (lt_ ((m1_ (fr4_ HO358.out BK386.out (.int .i64 t375) (.slice Ao46 t376.length co46) (.slice Ao48 t379.length co48) (.slice Ao50 t382.length co50))))))) (Kd.R_lt (lt_ ((m1_ (fr4_ HO361.out BK386.out (.int .i64 t375) (.slice Ao46 t376.length co46) (.slice Ao48 t379.length co48) (.slice Ao50 t382.length co50))))))) (Kd.R_lt (lt_ ((m1_ (fr4_ HO364.out BK386.out (.int .i64 t375) (.slice Ao46 t376.length co46) (.slice Ao48 t379.length co48) (.slice Ao50 t382.length co50))))))) (Kd.R_lt (lt_ ((m1_ (fr4_ HO368.out BK386.out (.int .i64 t375) (.slice Ao46 t376.length co46) (.slice Ao48 t379.length co48) (.slice Ao50 t382.length co50))))))) (Kd.R_lt (lt_ ((m1_ (fr4_ HO371.out BK386.out (.int .i64 t375) (.slice Ao46 t376.length co46) (.slice Ao48 t379.length co48) (.slice Ao50 t382.length co50))))))) (Kd.R_lt (lt_ ((m1_ (fr4_ HO374.out BK386.out (.int .i64 t375) (.slice Ao46 t376.length co46) (.slice Ao48 t379.length co48) (.slice Ao50 t382.length co50))))))) (Kd.R_lt (lt_ ((m1_ (fr4_ HO378.out BK386.out (.int .i64 t375) (.slice Ao46 t376.length co46) (.slice Ao48 t379.length co48) (.slice Ao50 t382.length co50))))))) (Kd.R_lt (lt_ ((m1_ (fr4_ HO381.out BK386.out (.int .i64 t375) (.slice Ao46 t376.length co46) (.slice Ao48 t379.length co48) (.slice Ao50 t382.length co50))))))) (Kd.R_lt (lt_ ((m1_ (fr4_ HO384.out BK386.out (.int .i64 t375) (.slice Ao46 t376.length co46) (.slice Ao48 t379.length co48) (.slice Ao50 t382.length co50))))))) (below_size (lw_ HB))); have HO393 := am_ (Kd.R_lower (Kd.R_new' (Kd.R_new' (Kd.R_new' (Kd.R_new' (Kd.R_new' (Kd.R_new' (Kd.R_new' (Kd.R_new' (Kd.R_new' ho1 (Kd.R_lt (lt_ ((m1_ (fr4_ HO358.out BK386.out (.int .i64 t375) (.slice Ao46 t376.length co46) (.slice Ao48 t379.length co48) (.slice Ao50 t382.length co50))))))) (Kd.R_lt (lt_ ((m1_ (fr4_ HO361.out BK386.out (.int .i64 t375) (.slice Ao46 t376.length co46) (.slice Ao48 t379.length co48) (.slice Ao50 t382.length co50))))))) (Kd.R_lt (lt_ ((m1_ (fr4_ HO364.out BK386.out (.int .i64 t375) (.slice Ao46 t376.length co46) (.slice Ao48 t379.length co48) (.slice Ao50 t382.length co50))))))) (Kd.R_lt (lt_ ((m1_ (fr4_ HO368.out BK386.out (.int .i64 t375) (.slice Ao46 t376.length co46) (.slice Ao48 t379.length co48) (.slice Ao50 t382.length co50))))))) (Kd.R_lt (lt_ ((m1_ (fr4_ HO371.out BK386.out (.int .i64 t375) (.slice Ao46 t376.length co46) (.slice Ao48 t379.length co48) (.slice Ao50 t382.length co50))))))) (Kd.R_lt (lt_ ((m1_ (fr4_ HO374.out BK386.out (.int .i64 t375) (.slice Ao46 t376.length co46) (.slice Ao48 t379.length co48) (.slice Ao50 t382.length co50))))))) (Kd.R_lt (lt_ ((m1_ (fr4_ HO378.out BK386.out (.int .i64 t375) (.slice Ao46 t376.length co46) (.slice Ao48 t379.length co48) (.slice Ao50 t382.length co50))))))) (Kd.R_lt (lt_ ((m1_ (fr4_ HO381.out BK386.out (.int .i64 t375) (.slice Ao46 t376.length co46) (.slice Ao48 t379.length co48) (.slice Ao50 t382.length co50))))))) (Kd.R_lt (lt_ ((m1_ (fr4_ HO384.out BK386.out (.int .i64 t375) (.slice Ao46 t376.length co46) (.slice Ao48 t379.length co48) (.slice Ao50 t382.length co50))))))) (below_size (lw_ HB))); have HO396 := am_ (Kd.R_lower (Kd.R_new' (Kd.R_new' (Kd.R_new' (Kd.R_new' (Kd.R_new' (Kd.R_new' (Kd.R_new' (Kd.R_new' (Kd.R_new' ho2 (Kd.R_lt (lt_ ((m1_ (fr4_ HO358.out BK386.out (.int .i64 t375) (.slice Ao46 t376.length co46) (.slice Ao48 t379.length co48) (.slice Ao50 t382.length co50))))))) (Kd.R_lt (lt_ ((m1_ (fr4_ HO361.out BK386.out (.int .i64 t375) (.slice Ao46 t376.length co46) (.slice Ao48 t379.length co48) (.slice Ao50 t382.length co50))))))) (Kd.R_lt (lt_ ((m1_ (fr4_ HO364.out BK386.out (.int .i64 t375) (.slice Ao46 t376.length co46) (.slice Ao48 t379.length co48) (.slice Ao50 t382.length co50))))))) (Kd.R_lt (lt_ ((m1_ (fr4_ HO368.out BK386.out (.int .i64 t375) (.slice Ao46 t376.length co46) (.slice Ao48 t379.length co48) (.slice Ao50 t382.length co50))))))) (Kd.R_lt (lt_ ((m1_ (fr4_ HO371.out BK386.out (.int .i64 t375) (.slice Ao46 t376.length co46) (.slice Ao48 t379.length co48) (.slice Ao50 t382.length co50))))))) (Kd.R_lt (lt_ ((m1_ (fr4_ HO374.out BK386.out (.int .i64 t375) (.slice Ao46 t376.length co46) (.slice Ao48 t379.length co48) (.slice Ao50 t382.length co50))))))) (Kd.R_lt (lt_ ((m1_ (fr4_ HO378.out BK386.out (.int .i64 t375) (.slice Ao46 t376.length co46) (.slice Ao48 t379.length co48) (.slice Ao50 t382.length co50))))))) (Kd.R_lt (lt_ ((m1_ (fr4_ HO381.out BK386.out (.int .i64 t375) (.slice Ao46 t376.length co46) (.slice Ao48 t379.length co48) (.slice Ao50 t382.length co50))))))) (Kd.R_lt (lt_ ((m1_ (fr4_ HO384.out BK386.out (.int .i64 t375) (.slice Ao46 t376.length co46) (.slice Ao48 t379.length co48) (.slice Ao50 t382.length co50))))))) (below_size (lw_ HB))); replace HO358 := am_ (m1_ (td_ (td_ (td_ (Kd.R_old (lt_ ((m1_ (fr4_ HO358.out BK386.out (.int .i64 t375) (.slice Ao46 t376.length co46) (.slice Ao48 t379.length co48) (.slice Ao50 t382.length co50))))) hb) ho0) ho1) ho2)); replace HO361 := am_ (m1_ (td_ (td_ (td_ (Kd.R_old (lt_ ((m1_ (fr4_ HO361.out BK386.out (.int .i64 t375) (.slice Ao46 t376.length co46) (.slice Ao48 t379.length co48) (.slice Ao50 t382.length co50))))) hb) ho0) ho1) ho2)); replace HO364 := am_ (m1_ (td_ (td_ (td_ (Kd.R_old (lt_ ((m1_ (fr4_ HO364.out BK386.out (.int .i64 t375) (.slice Ao46 t376.length co46) (.slice Ao48 t379.length co48) (.slice Ao50 t382.length co50))))) hb) ho0) ho1) ho2)); replace HO368 := am_ (m1_ (td_ (td_ (td_ (Kd.R_old (lt_ ((m1_ (fr4_ HO368.out BK386.out (.int .i64 t375) (.slice Ao46 t376.length co46) (.slice Ao48 t379.length co48) (.slice Ao50 t382.length co50))))) hb) ho0) ho1) ho2)); replace HO371 := am_ (m1_ (td_ (td_ (td_ (Kd.R_old (lt_ ((m1_ (fr4_ HO371.out BK386.out (.int .i64 t375) (.slice Ao46 t376.length co46) (.slice Ao48 t379.length co48) (.slice Ao50 t382.length co50))))) hb) ho0) ho1) ho2)); replace HO374 := am_ (m1_ (td_ (td_ (td_ (Kd.R_old (lt_ ((m1_ (fr4_ HO374.out BK386.out (.int .i64 t375) (.slice Ao46 t376.length co46) (.slice Ao48 t379.length co48) (.slice Ao50 t382.length co50))))) hb) ho0) ho1) ho2)); replace HO378 := am_ (m1_ (td_ (td_ (td_ (Kd.R_old (lt_ ((m1_ (fr4_ HO378.out BK386.out (.int .i64 t375) (.slice Ao46 t376.length co46) (.slice Ao48 t379.length co48) (.slice Ao50 t382.length co50))))) hb) ho0) ho1) ho2)); replace HO381 := am_ (m1_ (td_ (td_ (td_ (Kd.R_old (lt_ ((m1_ (fr4_ HO381.out BK386.out (.int .i64 t375) (.slice Ao46 t376.length co46) (.slice Ao48 t379.length co48) (.slice Ao50 t382.length co50))))) hb) ho0) ho1) ho2)); replace HO384 := am_ (m1_ (td_ (td_ (td_ (Kd.R_old (lt_ ((m1_ (fr4_ HO384.out BK386.out (.int .i64 t375) (.slice Ao46 t376.length co46) (.slice Ao48 t379.length co48) (.slice Ao50 t382.length co50))))) hb) ho0) ho1) ho2)); replace BK351 := am_ (blk_below (g := gb351) (lg_ BK351) hb); replace BK352 := am_ (blk_below (g := gb352) (lg_ BK352) hb); replace BK386 := am_ (blk_below (g := gb386) (o := .cells #[.int .i64 t375, .slice Ao46 t376.length co46, .slice Ao48 t379.length co48, .slice Ao50 t382.length co50] 48 (0, 0)) (lq_ BK386) hb); replace HB := am_ (below_step (lw_ HB) hb); (try clear hb); (try clear hb2); (try clear hk); (try clear hi); (try clear ho0); (try clear ho1); (try clear ho2)) | ((with_reducible refine gate_dst (N := 8) rfl ?_); refine bev_ 8 #[.int .i64 0, .slice none 0 0, .slice none 0 0, .slice none 0 0] 48 rfl rfl ?_; intro gb397 hg w55 hbox hb; have BK397 := am_ (hbox); have GW397 := am_ ((by rw [hg]; exact (below_size (lw_ HB)) : w.heap.size ≤ gb397)); have GE397 := am_ ((by rw [hg]; exact (below_size (lw_ HB)) : w.heap.size ≤ gb397)); have NB351_397 := am_ ((by rw [hg]; exact Nat.ne_of_lt (blk_lt (g := gb351) (lb_ BK351)) : gb351 ≠ gb397)); have NB397_351 := am_ ((by rw [hg]; exact Nat.ne_of_gt (blk_lt (g := gb351) (lb_ BK351)) : gb397 ≠ gb351)); have NB352_397 := am_ ((by rw [hg]; exact Nat.ne_of_lt (blk_lt (g := gb352) (lb_ BK352)) : gb352 ≠ gb397)); have NB397_352 := am_ ((by rw [hg]; exact Nat.ne_of_gt (blk_lt (g := gb352) (lb_ BK352)) : gb397 ≠ gb352)); have NB386_397 := am_ ((by rw [hg]; exact Nat.ne_of_lt (blk_lt (g := gb386) (lb_ BK386)) : gb386 ≠ gb397)); have NB397_386 := am_ ((by rw [hg]; exact Nat.ne_of_gt (blk_lt (g := gb386) (lb_ BK386)) : gb397 ≠ gb386)); replace HO358 := am_ (Kd.R_below (lf_ HO358) hb); replace HO361 := am_ (Kd.R_below (lf_ HO361) hb); replace HO364 := am_ (Kd.R_below (lf_ HO364) hb); replace HO368 := am_ (Kd.R_below (lf_ HO368) hb); replace HO371 := am_ (Kd.R_below (lf_ HO371) hb); replace HO374 := am_ (Kd.R_below (lf_ HO374) hb); replace HO378 := am_ (Kd.R_below (lf_ HO378) hb); replace HO381 := am_ (Kd.R_below (lf_ HO381) hb); replace HO384 := am_ (Kd.R_below (lf_ HO384) hb); replace HO390 := am_ (Kd.R_below (lf_ HO390) hb); replace HO393 := am_ (Kd.R_below (lf_ HO393) hb); replace HO396 := am_ (Kd.R_below (lf_ HO396) hb); replace BK351 := am_ (blk_below (g := gb351) (lb_ BK351) hb); replace BK352 := am_ (blk_below (g := gb352) (lb_ BK352) hb); replace BK386 := am_ (blk_below (g := gb386) (lb_ BK386) hb); replace HB := am_ (below_step (lw_ HB) hb); clear hb hbox hg; have hnb56 := NB397_351.out; have hnc56 := NB351_397.out; have hnb57 := NB397_352.out; have hnc57 := NB352_397.out; have hnb58 := NB397_386.out; have hnc58 := NB386_397.out; obtain ⟨hcz59_0, hcz59_1, hcz59_2, hcz59_3, hfz59_0, hfz59_1, hfz59_2, hfz59_3⟩ := bx4_ BK397.out; obtain ⟨Ao60, co60, eo60⟩ := Kd.R_slice HO390.out; subst eo60; obtain ⟨Ao61, co61, eo61⟩ := Kd.R_slice HO393.out; subst eo61; obtain ⟨Ao62, co62, eo62⟩ := Kd.R_slice HO396.out; subst eo62; have hnb63 := NB352_386.out; have hnc63 := NB386_352.out; obtain ⟨hcz64_0, hcz64_1, hcz64_2, hcz64_3, hfz64_0, hfz64_1, hfz64_2, hfz64_3⟩ := bx4_ BK352.out) | ((with_reducible refine gate_callee (f := 36) rfl ?_); refine goesL_ (some 38) rfl rfl Try.func36 (by kernel_rfl) rfl #[.agg #[.int .i64 a1_0, .slice A1_1 l1_1.length c1_1, .slice A1_2 l1_2.length c1_2, .slice A1_3 l1_3.length c1_3]] rfl lm_ ?_; (with_reducible refine (laws_toRanked.calls k a1_0 _ _ l1_1 _ _ l1_2 _ _ l1_3 t398 t399 t402 t405 _ ?side1 ?side2 ?side3 ?side4 ?side5 ?side6 A23.out).mono ?_); (case side1 => exact Kd.C_below HR1_1.out (lw_ HB)); (case side2 => exact HC1_1.out); (case side3 => exact Kd.C_below HR1_2.out (lw_ HB)); (case side4 => exact HC1_2.out); (case side5 => exact Kd.C_below HR1_3.out (lw_ HB)); (case side6 => exact HC1_3.out); rintro e w65 ⟨v400, v403, v406, rfl, ho0, ho1, ho2, hb⟩; refine ⟨_, rfl, ?_⟩; have HO401 := am_ (Kd.R_lower (Kd.R_new' (Kd.R_new' (Kd.R_new' (Kd.R_new' (Kd.R_new' (Kd.R_new' (Kd.R_new' (Kd.R_new' (Kd.R_new' (Kd.R_new' (Kd.R_new' (Kd.R_new' ho0 (Kd.R_lt (lt_ ((m1_ (fr4_ HO358.out BK397.out (.int .i64 t387) (.slice Ao60 t388.length co60) (.slice Ao61 t391.length co61) (.slice Ao62 t394.length co62))))))) (Kd.R_lt (lt_ ((m1_ (fr4_ HO361.out BK397.out (.int .i64 t387) (.slice Ao60 t388.length co60) (.slice Ao61 t391.length co61) (.slice Ao62 t394.length co62))))))) (Kd.R_lt (lt_ ((m1_ (fr4_ HO364.out BK397.out (.int .i64 t387) (.slice Ao60 t388.length co60) (.slice Ao61 t391.length co61) (.slice Ao62 t394.length co62))))))) (Kd.R_lt (lt_ ((m1_ (fr4_ HO368.out BK397.out (.int .i64 t387) (.slice Ao60 t388.length co60) (.slice Ao61 t391.length co61) (.slice Ao62 t394.length co62))))))) (Kd.R_lt (lt_ ((m1_ (fr4_ HO371.out BK397.out (.int .i64 t387) (.slice Ao60 t388.length co60) (.slice Ao61 t391.length co61) (.slice Ao62 t394.length co62))))))) (Kd.R_lt (lt_ ((m1_ (fr4_ HO374.out BK397.out (.int .i64 t387) (.slice Ao60 t388.length co60) (.slice Ao61 t391.length co61) (.slice Ao62 t394.length co62))))))) (Kd.R_lt (lt_ ((m1_ (fr4_ HO378.out BK397.out (.int .i64 t387) (.slice Ao60 t388.length co60) (.slice Ao61 t391.length co61) (.slice Ao62 t394.length co62))))))) (Kd.R_lt (lt_ ((m1_ (fr4_ HO381.out BK397.out (.int .i64 t387) (.slice Ao60 t388.length co60) (.slice Ao61 t391.length co61) (.slice Ao62 t394.length co62))))))) (Kd.R_lt (lt_ ((m1_ (fr4_ HO384.out BK397.out (.int .i64 t387) (.slice Ao60 t388.length co60) (.slice Ao61 t391.length co61) (.slice Ao62 t394.length co62))))))) (Kd.R_lt (lt_ ((m1_ (fr4_ HO390.out BK397.out (.int .i64 t387) (.slice Ao60 t388.length co60) (.slice Ao61 t391.length co61) (.slice Ao62 t394.length co62))))))) (Kd.R_lt (lt_ ((m1_ (fr4_ HO393.out BK397.out (.int .i64 t387) (.slice Ao60 t388.length co60) (.slice Ao61 t391.length co61) (.slice Ao62 t394.length co62))))))) (Kd.R_lt (lt_ ((m1_ (fr4_ HO396.out BK397.out (.int .i64 t387) (.slice Ao60 t388.length co60) (.slice Ao61 t391.length co61) (.slice Ao62 t394.length co62))))))) (below_size (lw_ HB))); have HO404 := am_ (Kd.R_lower (Kd.R_new' (Kd.R_new' (Kd.R_new' (Kd.R_new' (Kd.R_new' (Kd.R_new' (Kd.R_new' (Kd.R_new' (Kd.R_new' (Kd.R_new' (Kd.R_new' (Kd.R_new' ho1 (Kd.R_lt (lt_ ((m1_ (fr4_ HO358.out BK397.out (.int .i64 t387) (.slice Ao60 t388.length co60) (.slice Ao61 t391.length co61) (.slice Ao62 t394.length co62))))))) (Kd.R_lt (lt_ ((m1_ (fr4_ HO361.out BK397.out (.int .i64 t387) (.slice Ao60 t388.length co60) (.slice Ao61 t391.length co61) (.slice Ao62 t394.length co62))))))) (Kd.R_lt (lt_ ((m1_ (fr4_ HO364.out BK397.out (.int .i64 t387) (.slice Ao60 t388.length co60) (.slice Ao61 t391.length co61) (.slice Ao62 t394.length co62))))))) (Kd.R_lt (lt_ ((m1_ (fr4_ HO368.out BK397.out (.int .i64 t387) (.slice Ao60 t388.length co60) (.slice Ao61 t391.length co61) (.slice Ao62 t394.length co62))))))) (Kd.R_lt (lt_ ((m1_ (fr4_ HO371.out BK397.out (.int .i64 t387) (.slice Ao60 t388.length co60) (.slice Ao61 t391.length co61) (.slice Ao62 t394.length co62))))))) (Kd.R_lt (lt_ ((m1_ (fr4_ HO374.out BK397.out (.int .i64 t387) (.slice Ao60 t388.length co60) (.slice Ao61 t391.length co61) (.slice Ao62 t394.length co62))))))) (Kd.R_lt (lt_ ((m1_ (fr4_ HO378.out BK397.out (.int .i64 t387) (.slice Ao60 t388.length co60) (.slice Ao61 t391.length co61) (.slice Ao62 t394.length co62))))))) (Kd.R_lt (lt_ ((m1_ (fr4_ HO381.out BK397.out (.int .i64 t387) (.slice Ao60 t388.length co60) (.slice Ao61 t391.length co61) (.slice Ao62 t394.length co62))))))) (Kd.R_lt (lt_ ((m1_ (fr4_ HO384.out BK397.out (.int .i64 t387) (.slice Ao60 t388.length co60) (.slice Ao61 t391.length co61) (.slice Ao62 t394.length co62))))))) (Kd.R_lt (lt_ ((m1_ (fr4_ HO390.out BK397.out (.int .i64 t387) (.slice Ao60 t388.length co60) (.slice Ao61 t391.length co61) (.slice Ao62 t394.length co62))))))) (Kd.R_lt (lt_ ((m1_ (fr4_ HO393.out BK397.out (.int .i64 t387) (.slice Ao60 t388.length co60) (.slice Ao61 t391.length co61) (.slice Ao62 t394.length co62))))))) (Kd.R_lt (lt_ ((m1_ (fr4_ HO396.out BK397.out (.int .i64 t387) (.slice Ao60 t388.length co60) (.slice Ao61 t391.length co61) (.slice Ao62 t394.length co62))))))) (below_size (lw_ HB))); have HO407 := am_ (Kd.R_lower (Kd.R_new' (Kd.R_new' (Kd.R_new' (Kd.R_new' (Kd.R_new' (Kd.R_new' (Kd.R_new' (Kd.R_new' (Kd.R_new' (Kd.R_new' (Kd.R_new' (Kd.R_new' ho2 (Kd.R_lt (lt_ ((m1_ (fr4_ HO358.out BK397.out (.int .i64 t387) (.slice Ao60 t388.length co60) (.slice Ao61 t391.length co61) (.slice Ao62 t394.length co62))))))) (Kd.R_lt (lt_ ((m1_ (fr4_ HO361.out BK397.out (.int .i64 t387) (.slice Ao60 t388.length co60) (.slice Ao61 t391.length co61) (.slice Ao62 t394.length co62))))))) (Kd.R_lt (lt_ ((m1_ (fr4_ HO364.out BK397.out (.int .i64 t387) (.slice Ao60 t388.length co60) (.slice Ao61 t391.length co61) (.slice Ao62 t394.length co62))))))) (Kd.R_lt (lt_ ((m1_ (fr4_ HO368.out BK397.out (.int .i64 t387) (.slice Ao60 t388.length co60) (.slice Ao61 t391.length co61) (.slice Ao62 t394.length co62))))))) (Kd.R_lt (lt_ ((m1_ (fr4_ HO371.out BK397.out (.int .i64 t387) (.slice Ao60 t388.length co60) (.slice Ao61 t391.length co61) (.slice Ao62 t394.length co62))))))) (Kd.R_lt (lt_ ((m1_ (fr4_ HO374.out BK397.out (.int .i64 t387) (.slice Ao60 t388.length co60) (.slice Ao61 t391.length co61) (.slice Ao62 t394.length co62))))))) (Kd.R_lt (lt_ ((m1_ (fr4_ HO378.out BK397.out (.int .i64 t387) (.slice Ao60 t388.length co60) (.slice Ao61 t391.length co61) (.slice Ao62 t394.length co62))))))) (Kd.R_lt (lt_ ((m1_ (fr4_ HO381.out BK397.out (.int .i64 t387) (.slice Ao60 t388.length co60) (.slice Ao61 t391.length co61) (.slice Ao62 t394.length co62))))))) (Kd.R_lt (lt_ ((m1_ (fr4_ HO384.out BK397.out (.int .i64 t387) (.slice Ao60 t388.length co60) (.slice Ao61 t391.length co61) (.slice Ao62 t394.length co62))))))) (Kd.R_lt (lt_ ((m1_ (fr4_ HO390.out BK397.out (.int .i64 t387) (.slice Ao60 t388.length co60) (.slice Ao61 t391.length co61) (.slice Ao62 t394.length co62))))))) (Kd.R_lt (lt_ ((m1_ (fr4_ HO393.out BK397.out (.int .i64 t387) (.slice Ao60 t388.length co60) (.slice Ao61 t391.length co61) (.slice Ao62 t394.length co62))))))) (Kd.R_lt (lt_ ((m1_ (fr4_ HO396.out BK397.out (.int .i64 t387) (.slice Ao60 t388.length co60) (.slice Ao61 t391.length co61) (.slice Ao62 t394.length co62))))))) (below_size (lw_ HB))); replace HO358 := am_ (m1_ (td_ (td_ (td_ (Kd.R_old (lt_ ((m1_ (fr4_ HO358.out BK397.out (.int .i64 t387) (.slice Ao60 t388.length co60) (.slice Ao61 t391.length co61) (.slice Ao62 t394.length co62))))) hb) ho0) ho1) ho2)); replace HO361 := am_ (m1_ (td_ (td_ (td_ (Kd.R_old (lt_ ((m1_ (fr4_ HO361.out BK397.out (.int .i64 t387) (.slice Ao60 t388.length co60) (.slice Ao61 t391.length co61) (.slice Ao62 t394.length co62))))) hb) ho0) ho1) ho2)); replace HO364 := am_ (m1_ (td_ (td_ (td_ (Kd.R_old (lt_ ((m1_ (fr4_ HO364.out BK397.out (.int .i64 t387) (.slice Ao60 t388.length co60) (.slice Ao61 t391.length co61) (.slice Ao62 t394.length co62))))) hb) ho0) ho1) ho2)); replace HO368 := am_ (m1_ (td_ (td_ (td_ (Kd.R_old (lt_ ((m1_ (fr4_ HO368.out BK397.out (.int .i64 t387) (.slice Ao60 t388.length co60) (.slice Ao61 t391.length co61) (.slice Ao62 t394.length co62))))) hb) ho0) ho1) ho2)); replace HO371 := am_ (m1_ (td_ (td_ (td_ (Kd.R_old (lt_ ((m1_ (fr4_ HO371.out BK397.out (.int .i64 t387) (.slice Ao60 t388.length co60) (.slice Ao61 t391.length co61) (.slice Ao62 t394.length co62))))) hb) ho0) ho1) ho2)); replace HO374 := am_ (m1_ (td_ (td_ (td_ (Kd.R_old (lt_ ((m1_ (fr4_ HO374.out BK397.out (.int .i64 t387) (.slice Ao60 t388.length co60) (.slice Ao61 t391.length co61) (.slice Ao62 t394.length co62))))) hb) ho0) ho1) ho2)); replace HO378 := am_ (m1_ (td_ (td_ (td_ (Kd.R_old (lt_ ((m1_ (fr4_ HO378.out BK397.out (.int .i64 t387) (.slice Ao60 t388.length co60) (.slice Ao61 t391.length co61) (.slice Ao62 t394.length co62))))) hb) ho0) ho1) ho2)); replace HO381 := am_ (m1_ (td_ (td_ (td_ (Kd.R_old (lt_ ((m1_ (fr4_ HO381.out BK397.out (.int .i64 t387) (.slice Ao60 t388.length co60) (.slice Ao61 t391.length co61) (.slice Ao62 t394.length co62))))) hb) ho0) ho1) ho2)); replace HO384 := am_ (m1_ (td_ (td_ (td_ (Kd.R_old (lt_ ((m1_ (fr4_ HO384.out BK397.out (.int .i64 t387) (.slice Ao60 t388.length co60) (.slice Ao61 t391.length co61) (.slice Ao62 t394.length co62))))) hb) ho0) ho1) ho2)); replace HO390 := am_ (m1_ (td_ (td_ (td_ (Kd.R_old (lt_ ((m1_ (fr4_ HO390.out BK397.out (.int .i64 t387) (.slice Ao60 t388.length co60) (.slice Ao61 t391.length co61) (.slice Ao62 t394.length co62))))) hb) ho0) ho1) ho2)); replace HO393 := am_ (m1_ (td_ (td_ (td_ (Kd.R_old (lt_ ((m1_ (fr4_ HO393.out BK397.out (.int .i64 t387) (.slice Ao60 t388.length co60) (.slice Ao61 t391.length co61) (.slice Ao62 t394.length co62))))) hb) ho0) ho1) ho2)); replace HO396 := am_ (m1_ (td_ (td_ (td_ (Kd.R_old (lt_ ((m1_ (fr4_ HO396.out BK397.out (.int .i64 t387) (.slice Ao60 t388.length co60) (.slice Ao61 t391.length co61) (.slice Ao62 t394.length co62))))) hb) ho0) ho1) ho2)); replace BK351 := am_ (blk_below (g := gb351) (lg_ BK351) hb); replace BK352 := am_ (blk_below (g := gb352) (lg_ BK352) hb); replace BK386 := am_ (blk_below (g := gb386) (lg_ BK386) hb); replace BK397 := am_ (blk_below (g := gb397) (o := .cells #[.int .i64 t387, .slice Ao60 t388.length co60, .slice Ao61 t391.length co61, .slice Ao62 t394.length co62] 48 (0, 0)) (lq_ BK397) hb); replace HB := am_ (below_step (lw_ HB) hb); (try clear hb); (try clear hb2); (try clear hk); (try clear hi); (try clear ho0); (try clear ho1); (try clear ho2)) | ((with_reducible refine gate_dst (N := 9) rfl ?_); refine bev_ 9 #[.int .i64 0, .slice none 0 0, .slice none 0 0, .slice none 0 0] 48 rfl rfl ?_; intro gb408 hg w66 hbox hb; have BK408 := am_ (hbox); have GW408 := am_ ((by rw [hg]; exact (below_size (lw_ HB)) : w.heap.size ≤ gb408)); have GE408 := am_ ((by rw [hg]; exact (below_size (lw_ HB)) : w.heap.size ≤ gb408)); have NB351_408 := am_ ((by rw [hg]; exact Nat.ne_of_lt (blk_lt (g := gb351) (lb_ BK351)) : gb351 ≠ gb408)); have NB408_351 := am_ ((by rw [hg]; exact Nat.ne_of_gt (blk_lt (g := gb351) (lb_ BK351)) : gb408 ≠ gb351)); have NB352_408 := am_ ((by rw [hg]; exact Nat.ne_of_lt (blk_lt (g := gb352) (lb_ BK352)) : gb352 ≠ gb408)); have NB408_352 := am_ ((by rw [hg]; exact Nat.ne_of_gt (blk_lt (g := gb352) (lb_ BK352)) : gb408 ≠ gb352)); have NB386_408 := am_ ((by rw [hg]; exact Nat.ne_of_lt (blk_lt (g := gb386) (lb_ BK386)) : gb386 ≠ gb408)); have NB408_386 := am_ ((by rw [hg]; exact Nat.ne_of_gt (blk_lt (g := gb386) (lb_ BK386)) : gb408 ≠ gb386)); have NB397_408 := am_ ((by rw [hg]; exact Nat.ne_of_lt (blk_lt (g := gb397) (lb_ BK397)) : gb397 ≠ gb408)); have NB408_397 := am_ ((by rw [hg]; exact Nat.ne_of_gt (blk_lt (g := gb397) (lb_ BK397)) : gb408 ≠ gb397)); replace HO358 := am_ (Kd.R_below (lf_ HO358) hb); replace HO361 := am_ (Kd.R_below (lf_ HO361) hb); replace HO364 := am_ (Kd.R_below (lf_ HO364) hb); replace HO368 := am_ (Kd.R_below (lf_ HO368) hb); replace HO371 := am_ (Kd.R_below (lf_ HO371) hb); replace HO374 := am_ (Kd.R_below (lf_ HO374) hb); replace HO378 := am_ (Kd.R_below (lf_ HO378) hb); replace HO381 := am_ (Kd.R_below (lf_ HO381) hb); replace HO384 := am_ (Kd.R_below (lf_ HO384) hb); replace HO390 := am_ (Kd.R_below (lf_ HO390) hb); replace HO393 := am_ (Kd.R_below (lf_ HO393) hb); replace HO396 := am_ (Kd.R_below (lf_ HO396) hb); replace HO401 := am_ (Kd.R_below (lf_ HO401) hb); replace HO404 := am_ (Kd.R_below (lf_ HO404) hb); replace HO407 := am_ (Kd.R_below (lf_ HO407) hb); replace BK351 := am_ (blk_below (g := gb351) (lb_ BK351) hb); replace BK352 := am_ (blk_below (g := gb352) (lb_ BK352) hb); replace BK386 := am_ (blk_below (g := gb386) (lb_ BK386) hb); replace BK397 := am_ (blk_below (g := gb397) (lb_ BK397) hb); replace HB := am_ (below_step (lw_ HB) hb); clear hb hbox hg; have hnb67 := NB408_351.out; have hnc67 := NB351_408.out; have hnb68 := NB408_352.out; have hnc68 := NB352_408.out; have hnb69 := NB408_386.out; have hnc69 := NB386_408.out; have hnb70 := NB408_397.out; have hnc70 := NB397_408.out; obtain ⟨hcz71_0, hcz71_1, hcz71_2, hcz71_3, hfz71_0, hfz71_1, hfz71_2, hfz71_3⟩ := bx4_ BK408.out; obtain ⟨Ao72, co72, eo72⟩ := Kd.R_slice HO401.out; subst eo72; obtain ⟨Ao73, co73, eo73⟩ := Kd.R_slice HO404.out; subst eo73; obtain ⟨Ao74, co74, eo74⟩ := Kd.R_slice HO407.out; subst eo74; obtain ⟨hcz75_0, hcz75_1, hcz75_2, hcz75_3, hfz75_0, hfz75_1, hfz75_2, hfz75_3⟩ := bx4_ BK397.out) | ((with_reducible refine gate_callee (f := 37) rfl ?_); refine goesL_ (some 42) rfl rfl Try.func37 (by kernel_rfl) rfl #[.agg #[.int .i64 t387, .slice Ao60 t388.length co60, .slice Ao61 t391.length co61, .slice Ao62 t394.length co62], .agg #[.int .i64 t398, .slice Ao72 t399.length co72, .slice Ao73 t402.length co73, .slice Ao74 t405.length co74]] rfl lm_ ?_; (with_reducible refine (impl_JoinRanked.calls k t387 _ _ t388 _ _ t391 _ _ t394 t398 _ _ t399 _ _ t402 _ _ t405 t409 t410 t413 t416 t419 _ ?side1 ?side2 ?side3 ?side4 ?side5 ?side6 ?side7 ?side8 ?side9 ?side10 ?side11 ?side12 A24.out).mono ?_); (case side1 => refine (Kd.R_reads' (e := 3) (base := w.heap.size) (ok := fun k_ => (((((((((((((ns_ k_ Ao61 t391 co61 ∧ ns_ k_ Ao62 t394 co62) ∧ nb_ k_ v357) ∧ nb_ k_ v360) ∧ nb_ k_ v363) ∧ nb_ k_ v367) ∧ nb_ k_ v370) ∧ nb_ k_ v373) ∧ ns_ k_ Ao46 t376 co46) ∧ ns_ k_ Ao48 t379 co48) ∧ ns_ k_ Ao50 t382 co50) ∧ ns_ k_ Ao72 t399 co72) ∧ ns_ k_ Ao73 t402 co73) ∧ ns_ k_ Ao74 t405 co74)) (n := t388.length) (c := co60) ?_).2.2; exact (lt_ ((m1_ (fr4_ HO390.out BK408.out (.int .i64 t398) (.slice Ao72 t399.length co72) (.slice Ao73 t402.length co73) (.slice Ao74 t405.length co74)))))); (case side2 => exact (Kd.R_reads' HO390.out).2.1); (case side3 => refine (Kd.R_reads' (e := 3) (base := w.heap.size) (ok := fun k_ => (((((((((((((ns_ k_ Ao60 t388 co60 ∧ ns_ k_ Ao62 t394 co62) ∧ nb_ k_ v357) ∧ nb_ k_ v360) ∧ nb_ k_ v363) ∧ nb_ k_ v367) ∧ nb_ k_ v370) ∧ nb_ k_ v373) ∧ ns_ k_ Ao46 t376 co46) ∧ ns_ k_ Ao48 t379 co48) ∧ ns_ k_ Ao50 t382 co50) ∧ ns_ k_ Ao72 t399 co72) ∧ ns_ k_ Ao73 t402 co73) ∧ ns_ k_ Ao74 t405 co74)) (n := t391.length) (c := co61) ?_).2.2; exact (lt_ ((m1_ (fr4_ HO393.out BK408.out (.int .i64 t398) (.slice Ao72 t399.length co72) (.slice Ao73 t402.length co73) (.slice Ao74 t405.length co74)))))); (case side4 => exact (Kd.R_reads' HO393.out).2.1); (case side5 => refine (Kd.R_reads' (e := 3) (base := w.heap.size) (ok := fun k_ => (((((((((((((ns_ k_ Ao60 t388 co60 ∧ ns_ k_ Ao61 t391 co61) ∧ nb_ k_ v357) ∧ nb_ k_ v360) ∧ nb_ k_ v363) ∧ nb_ k_ v367) ∧ nb_ k_ v370) ∧ nb_ k_ v373) ∧ ns_ k_ Ao46 t376 co46) ∧ ns_ k_ Ao48 t379 co48) ∧ ns_ k_ Ao50 t382 co50) ∧ ns_ k_ Ao72 t399 co72) ∧ ns_ k_ Ao73 t402 co73) ∧ ns_ k_ Ao74 t405 co74)) (n := t394.length) (c := co62) ?_).2.2; exact (lt_ ((m1_ (fr4_ HO396.out BK408.out (.int .i64 t398) (.slice Ao72 t399.length co72) (.slice Ao73 t402.length co73) (.slice Ao74 t405.length co74)))))); (case side6 => exact (Kd.R_reads' HO396.out).2.1); (case side7 => refine (Kd.R_reads' (e := 3) (base := w.heap.size) (ok := fun k_ => (((((((((((((ns_ k_ Ao73 t402 co73 ∧ ns_ k_ Ao74 t405 co74) ∧ nb_ k_ v357) ∧ nb_ k_ v360) ∧ nb_ k_ v363) ∧ nb_ k_ v367) ∧ nb_ k_ v370) ∧ nb_ k_ v373) ∧ ns_ k_ Ao46 t376 co46) ∧ ns_ k_ Ao48 t379 co48) ∧ ns_ k_ Ao50 t382 co50) ∧ ns_ k_ Ao60 t388 co60) ∧ ns_ k_ Ao61 t391 co61) ∧ ns_ k_ Ao62 t394 co62)) (n := t399.length) (c := co72) ?_).2.2; exact (lt_ ((m1_ (fr4_ HO401.out BK408.out (.int .i64 t398) (.slice Ao72 t399.length co72) (.slice Ao73 t402.length co73) (.slice Ao74 t405.length co74)))))); (case side8 => exact (Kd.R_reads' HO401.out).2.1); (case side9 => refine (Kd.R_reads' (e := 3) (base := w.heap.size) (ok := fun k_ => (((((((((((((ns_ k_ Ao72 t399 co72 ∧ ns_ k_ Ao74 t405 co74) ∧ nb_ k_ v357) ∧ nb_ k_ v360) ∧ nb_ k_ v363) ∧ nb_ k_ v367) ∧ nb_ k_ v370) ∧ nb_ k_ v373) ∧ ns_ k_ Ao46 t376 co46) ∧ ns_ k_ Ao48 t379 co48) ∧ ns_ k_ Ao50 t382 co50) ∧ ns_ k_ Ao60 t388 co60) ∧ ns_ k_ Ao61 t391 co61) ∧ ns_ k_ Ao62 t394 co62)) (n := t402.length) (c := co73) ?_).2.2; exact (lt_ ((m1_ (fr4_ HO404.out BK408.out (.int .i64 t398) (.slice Ao72 t399.length co72) (.slice Ao73 t402.length co73) (.slice Ao74 t405.length co74)))))); (case side10 => exact (Kd.R_reads' HO404.out).2.1); (case side11 => refine (Kd.R_reads' (e := 3) (base := w.heap.size) (ok := fun k_ => (((((((((((((ns_ k_ Ao72 t399 co72 ∧ ns_ k_ Ao73 t402 co73) ∧ nb_ k_ v357) ∧ nb_ k_ v360) ∧ nb_ k_ v363) ∧ nb_ k_ v367) ∧ nb_ k_ v370) ∧ nb_ k_ v373) ∧ ns_ k_ Ao46 t376 co46) ∧ ns_ k_ Ao48 t379 co48) ∧ ns_ k_ Ao50 t382 co50) ∧ ns_ k_ Ao60 t388 co60) ∧ ns_ k_ Ao61 t391 co61) ∧ ns_ k_ Ao62 t394 co62)) (n := t405.length) (c := co74) ?_).2.2; exact (lt_ ((m1_ (fr4_ HO407.out BK408.out (.int .i64 t398) (.slice Ao72 t399.length co72) (.slice Ao73 t402.length co73) (.slice Ao74 t405.length co74)))))); (case side12 => exact (Kd.R_reads' HO407.out).2.1); rintro e w76 ⟨v411, v414, v417, rfl, ho0, ho1, ho2, hb⟩; refine ⟨_, rfl, ?_⟩; have HO412 := am_ (Kd.R_lower (Kd.R_new' (Kd.R_new' (Kd.R_new' (Kd.R_new' (Kd.R_new' (Kd.R_new' (Kd.R_new' (Kd.R_new' (Kd.R_new' (Kd.R_new' (Kd.R_new' (Kd.R_new' (Kd.R_new' (Kd.R_new' (Kd.R_new' ho0 (Kd.R_lt (lt_ ((m1_ (fr4_ HO358.out BK408.out (.int .i64 t398) (.slice Ao72 t399.length co72) (.slice Ao73 t402.length co73) (.slice Ao74 t405.length co74))))))) (Kd.R_lt (lt_ ((m1_ (fr4_ HO361.out BK408.out (.int .i64 t398) (.slice Ao72 t399.length co72) (.slice Ao73 t402.length co73) (.slice Ao74 t405.length co74))))))) (Kd.R_lt (lt_ ((m1_ (fr4_ HO364.out BK408.out (.int .i64 t398) (.slice Ao72 t399.length co72) (.slice Ao73 t402.length co73) (.slice Ao74 t405.length co74))))))) (Kd.R_lt (lt_ ((m1_ (fr4_ HO368.out BK408.out (.int .i64 t398) (.slice Ao72 t399.length co72) (.slice Ao73 t402.length co73) (.slice Ao74 t405.length co74))))))) (Kd.R_lt (lt_ ((m1_ (fr4_ HO371.out BK408.out (.int .i64 t398) (.slice Ao72 t399.length co72) (.slice Ao73 t402.length co73) (.slice Ao74 t405.length co74))))))) (Kd.R_lt (lt_ ((m1_ (fr4_ HO374.out BK408.out (.int .i64 t398) (.slice Ao72 t399.length co72) (.slice Ao73 t402.length co73) (.slice Ao74 t405.length co74))))))) (Kd.R_lt (lt_ ((m1_ (fr4_ HO378.out BK408.out (.int .i64 t398) (.slice Ao72 t399.length co72) (.slice Ao73 t402.length co73) (.slice Ao74 t405.length co74))))))) (Kd.R_lt (lt_ ((m1_ (fr4_ HO381.out BK408.out (.int .i64 t398) (.slice Ao72 t399.length co72) (.slice Ao73 t402.length co73) (.slice Ao74 t405.length co74))))))) (Kd.R_lt (lt_ ((m1_ (fr4_ HO384.out BK408.out (.int .i64 t398) (.slice Ao72 t399.length co72) (.slice Ao73 t402.length co73) (.slice Ao74 t405.length co74))))))) (Kd.R_lt (lt_ ((m1_ (fr4_ HO390.out BK408.out (.int .i64 t398) (.slice Ao72 t399.length co72) (.slice Ao73 t402.length co73) (.slice Ao74 t405.length co74))))))) (Kd.R_lt (lt_ ((m1_ (fr4_ HO393.out BK408.out (.int .i64 t398) (.slice Ao72 t399.length co72) (.slice Ao73 t402.length co73) (.slice Ao74 t405.length co74))))))) (Kd.R_lt (lt_ ((m1_ (fr4_ HO396.out BK408.out (.int .i64 t398) (.slice Ao72 t399.length co72) (.slice Ao73 t402.length co73) (.slice Ao74 t405.length co74))))))) (Kd.R_lt (lt_ ((m1_ (fr4_ HO401.out BK408.out (.int .i64 t398) (.slice Ao72 t399.length co72) (.slice Ao73 t402.length co73) (.slice Ao74 t405.length co74))))))) (Kd.R_lt (lt_ ((m1_ (fr4_ HO404.out BK408.out (.int .i64 t398) (.slice Ao72 t399.length co72) (.slice Ao73 t402.length co73) (.slice Ao74 t405.length co74))))))) (Kd.R_lt (lt_ ((m1_ (fr4_ HO407.out BK408.out (.int .i64 t398) (.slice Ao72 t399.length co72) (.slice Ao73 t402.length co73) (.slice Ao74 t405.length co74))))))) (below_size (lw_ HB))); have HO415 := am_ (Kd.R_lower (Kd.R_new' (Kd.R_new' (Kd.R_new' (Kd.R_new' (Kd.R_new' (Kd.R_new' (Kd.R_new' (Kd.R_new' (Kd.R_new' (Kd.R_new' (Kd.R_new' (Kd.R_new' (Kd.R_new' (Kd.R_new' (Kd.R_new' ho1 (Kd.R_lt (lt_ ((m1_ (fr4_ HO358.out BK408.out (.int .i64 t398) (.slice Ao72 t399.length co72) (.slice Ao73 t402.length co73) (.slice Ao74 t405.length co74))))))) (Kd.R_lt (lt_ ((m1_ (fr4_ HO361.out BK408.out (.int .i64 t398) (.slice Ao72 t399.length co72) (.slice Ao73 t402.length co73) (.slice Ao74 t405.length co74))))))) (Kd.R_lt (lt_ ((m1_ (fr4_ HO364.out BK408.out (.int .i64 t398) (.slice Ao72 t399.length co72) (.slice Ao73 t402.length co73) (.slice Ao74 t405.length co74))))))) (Kd.R_lt (lt_ ((m1_ (fr4_ HO368.out BK408.out (.int .i64 t398) (.slice Ao72 t399.length co72) (.slice Ao73 t402.length co73) (.slice Ao74 t405.length co74))))))) (Kd.R_lt (lt_ ((m1_ (fr4_ HO371.out BK408.out (.int .i64 t398) (.slice Ao72 t399.length co72) (.slice Ao73 t402.length co73) (.slice Ao74 t405.length co74))))))) (Kd.R_lt (lt_ ((m1_ (fr4_ HO374.out BK408.out (.int .i64 t398) (.slice Ao72 t399.length co72) (.slice Ao73 t402.length co73) (.slice Ao74 t405.length co74))))))) (Kd.R_lt (lt_ ((m1_ (fr4_ HO378.out BK408.out (.int .i64 t398) (.slice Ao72 t399.length co72) (.slice Ao73 t402.length co73) (.slice Ao74 t405.length co74))))))) (Kd.R_lt (lt_ ((m1_ (fr4_ HO381.out BK408.out (.int .i64 t398) (.slice Ao72 t399.length co72) (.slice Ao73 t402.length co73) (.slice Ao74 t405.length co74))))))) (Kd.R_lt (lt_ ((m1_ (fr4_ HO384.out BK408.out (.int .i64 t398) (.slice Ao72 t399.length co72) (.slice Ao73 t402.length co73) (.slice Ao74 t405.length co74))))))) (Kd.R_lt (lt_ ((m1_ (fr4_ HO390.out BK408.out (.int .i64 t398) (.slice Ao72 t399.length co72) (.slice Ao73 t402.length co73) (.slice Ao74 t405.length co74))))))) (Kd.R_lt (lt_ ((m1_ (fr4_ HO393.out BK408.out (.int .i64 t398) (.slice Ao72 t399.length co72) (.slice Ao73 t402.length co73) (.slice Ao74 t405.length co74))))))) (Kd.R_lt (lt_ ((m1_ (fr4_ HO396.out BK408.out (.int .i64 t398) (.slice Ao72 t399.length co72) (.slice Ao73 t402.length co73) (.slice Ao74 t405.length co74))))))) (Kd.R_lt (lt_ ((m1_ (fr4_ HO401.out BK408.out (.int .i64 t398) (.slice Ao72 t399.length co72) (.slice Ao73 t402.length co73) (.slice Ao74 t405.length co74))))))) (Kd.R_lt (lt_ ((m1_ (fr4_ HO404.out BK408.out (.int .i64 t398) (.slice Ao72 t399.length co72) (.slice Ao73 t402.length co73) (.slice Ao74 t405.length co74))))))) (Kd.R_lt (lt_ ((m1_ (fr4_ HO407.out BK408.out (.int .i64 t398) (.slice Ao72 t399.length co72) (.slice Ao73 t402.length co73) (.slice Ao74 t405.length co74))))))) (below_size (lw_ HB))); have HO418 := am_ (Kd.R_lower (Kd.R_new' (Kd.R_new' (Kd.R_new' (Kd.R_new' (Kd.R_new' (Kd.R_new' (Kd.R_new' (Kd.R_new' (Kd.R_new' (Kd.R_new' (Kd.R_new' (Kd.R_new' (Kd.R_new' (Kd.R_new' (Kd.R_new' ho2 (Kd.R_lt (lt_ ((m1_ (fr4_ HO358.out BK408.out (.int .i64 t398) (.slice Ao72 t399.length co72) (.slice Ao73 t402.length co73) (.slice Ao74 t405.length co74))))))) (Kd.R_lt (lt_ ((m1_ (fr4_ HO361.out BK408.out (.int .i64 t398) (.slice Ao72 t399.length co72) (.slice Ao73 t402.length co73) (.slice Ao74 t405.length co74))))))) (Kd.R_lt (lt_ ((m1_ (fr4_ HO364.out BK408.out (.int .i64 t398) (.slice Ao72 t399.length co72) (.slice Ao73 t402.length co73) (.slice Ao74 t405.length co74))))))) (Kd.R_lt (lt_ ((m1_ (fr4_ HO368.out BK408.out (.int .i64 t398) (.slice Ao72 t399.length co72) (.slice Ao73 t402.length co73) (.slice Ao74 t405.length co74))))))) (Kd.R_lt (lt_ ((m1_ (fr4_ HO371.out BK408.out (.int .i64 t398) (.slice Ao72 t399.length co72) (.slice Ao73 t402.length co73) (.slice Ao74 t405.length co74))))))) (Kd.R_lt (lt_ ((m1_ (fr4_ HO374.out BK408.out (.int .i64 t398) (.slice Ao72 t399.length co72) (.slice Ao73 t402.length co73) (.slice Ao74 t405.length co74))))))) (Kd.R_lt (lt_ ((m1_ (fr4_ HO378.out BK408.out (.int .i64 t398) (.slice Ao72 t399.length co72) (.slice Ao73 t402.length co73) (.slice Ao74 t405.length co74))))))) (Kd.R_lt (lt_ ((m1_ (fr4_ HO381.out BK408.out (.int .i64 t398) (.slice Ao72 t399.length co72) (.slice Ao73 t402.length co73) (.slice Ao74 t405.length co74))))))) (Kd.R_lt (lt_ ((m1_ (fr4_ HO384.out BK408.out (.int .i64 t398) (.slice Ao72 t399.length co72) (.slice Ao73 t402.length co73) (.slice Ao74 t405.length co74))))))) (Kd.R_lt (lt_ ((m1_ (fr4_ HO390.out BK408.out (.int .i64 t398) (.slice Ao72 t399.length co72) (.slice Ao73 t402.length co73) (.slice Ao74 t405.length co74))))))) (Kd.R_lt (lt_ ((m1_ (fr4_ HO393.out BK408.out (.int .i64 t398) (.slice Ao72 t399.length co72) (.slice Ao73 t402.length co73) (.slice Ao74 t405.length co74))))))) (Kd.R_lt (lt_ ((m1_ (fr4_ HO396.out BK408.out (.int .i64 t398) (.slice Ao72 t399.length co72) (.slice Ao73 t402.length co73) (.slice Ao74 t405.length co74))))))) (Kd.R_lt (lt_ ((m1_ (fr4_ HO401.out BK408.out (.int .i64 t398) (.slice Ao72 t399.length co72) (.slice Ao73 t402.length co73) (.slice Ao74 t405.length co74))))))) (Kd.R_lt (lt_ ((m1_ (fr4_ HO404.out BK408.out (.int .i64 t398) (.slice Ao72 t399.length co72) (.slice Ao73 t402.length co73) (.slice Ao74 t405.length co74))))))) (Kd.R_lt (lt_ ((m1_ (fr4_ HO407.out BK408.out (.int .i64 t398) (.slice Ao72 t399.length co72) (.slice Ao73 t402.length co73) (.slice Ao74 t405.length co74))))))) (below_size (lw_ HB))); replace HO358 := am_ (m1_ (td_ (td_ (td_ (Kd.R_old (lt_ ((m1_ (fr4_ HO358.out BK408.out (.int .i64 t398) (.slice Ao72 t399.length co72) (.slice Ao73 t402.length co73) (.slice Ao74 t405.length co74))))) hb) ho0) ho1) ho2)); replace HO361 := am_ (m1_ (td_ (td_ (td_ (Kd.R_old (lt_ ((m1_ (fr4_ HO361.out BK408.out (.int .i64 t398) (.slice Ao72 t399.length co72) (.slice Ao73 t402.length co73) (.slice Ao74 t405.length co74))))) hb) ho0) ho1) ho2)); replace HO364 := am_ (m1_ (td_ (td_ (td_ (Kd.R_old (lt_ ((m1_ (fr4_ HO364.out BK408.out (.int .i64 t398) (.slice Ao72 t399.length co72) (.slice Ao73 t402.length co73) (.slice Ao74 t405.length co74))))) hb) ho0) ho1) ho2)); replace HO368 := am_ (m1_ (td_ (td_ (td_ (Kd.R_old (lt_ ((m1_ (fr4_ HO368.out BK408.out (.int .i64 t398) (.slice Ao72 t399.length co72) (.slice Ao73 t402.length co73) (.slice Ao74 t405.length co74))))) hb) ho0) ho1) ho2)); replace HO371 := am_ (m1_ (td_ (td_ (td_ (Kd.R_old (lt_ ((m1_ (fr4_ HO371.out BK408.out (.int .i64 t398) (.slice Ao72 t399.length co72) (.slice Ao73 t402.length co73) (.slice Ao74 t405.length co74))))) hb) ho0) ho1) ho2)); replace HO374 := am_ (m1_ (td_ (td_ (td_ (Kd.R_old (lt_ ((m1_ (fr4_ HO374.out BK408.out (.int .i64 t398) (.slice Ao72 t399.length co72) (.slice Ao73 t402.length co73) (.slice Ao74 t405.length co74))))) hb) ho0) ho1) ho2)); replace HO378 := am_ (m1_ (td_ (td_ (td_ (Kd.R_old (lt_ ((m1_ (fr4_ HO378.out BK408.out (.int .i64 t398) (.slice Ao72 t399.length co72) (.slice Ao73 t402.length co73) (.slice Ao74 t405.length co74))))) hb) ho0) ho1) ho2)); replace HO381 := am_ (m1_ (td_ (td_ (td_ (Kd.R_old (lt_ ((m1_ (fr4_ HO381.out BK408.out (.int .i64 t398) (.slice Ao72 t399.length co72) (.slice Ao73 t402.length co73) (.slice Ao74 t405.length co74))))) hb) ho0) ho1) ho2)); replace HO384 := am_ (m1_ (td_ (td_ (td_ (Kd.R_old (lt_ ((m1_ (fr4_ HO384.out BK408.out (.int .i64 t398) (.slice Ao72 t399.length co72) (.slice Ao73 t402.length co73) (.slice Ao74 t405.length co74))))) hb) ho0) ho1) ho2)); replace HO390 := am_ (m1_ (td_ (td_ (td_ (Kd.R_old (lt_ ((m1_ (fr4_ HO390.out BK408.out (.int .i64 t398) (.slice Ao72 t399.length co72) (.slice Ao73 t402.length co73) (.slice Ao74 t405.length co74))))) hb) ho0) ho1) ho2)); replace HO393 := am_ (m1_ (td_ (td_ (td_ (Kd.R_old (lt_ ((m1_ (fr4_ HO393.out BK408.out (.int .i64 t398) (.slice Ao72 t399.length co72) (.slice Ao73 t402.length co73) (.slice Ao74 t405.length co74))))) hb) ho0) ho1) ho2)); replace HO396 := am_ (m1_ (td_ (td_ (td_ (Kd.R_old (lt_ ((m1_ (fr4_ HO396.out BK408.out (.int .i64 t398) (.slice Ao72 t399.length co72) (.slice Ao73 t402.length co73) (.slice Ao74 t405.length co74))))) hb) ho0) ho1) ho2)); replace HO401 := am_ (m1_ (td_ (td_ (td_ (Kd.R_old (lt_ ((m1_ (fr4_ HO401.out BK408.out (.int .i64 t398) (.slice Ao72 t399.length co72) (.slice Ao73 t402.length co73) (.slice Ao74 t405.length co74))))) hb) ho0) ho1) ho2)); replace HO404 := am_ (m1_ (td_ (td_ (td_ (Kd.R_old (lt_ ((m1_ (fr4_ HO404.out BK408.out (.int .i64 t398) (.slice Ao72 t399.length co72) (.slice Ao73 t402.length co73) (.slice Ao74 t405.length co74))))) hb) ho0) ho1) ho2)); replace HO407 := am_ (m1_ (td_ (td_ (td_ (Kd.R_old (lt_ ((m1_ (fr4_ HO407.out BK408.out (.int .i64 t398) (.slice Ao72 t399.length co72) (.slice Ao73 t402.length co73) (.slice Ao74 t405.length co74))))) hb) ho0) ho1) ho2)); replace BK351 := am_ (blk_below (g := gb351) (lg_ BK351) hb); replace BK352 := am_ (blk_below (g := gb352) (lg_ BK352) hb); replace BK386 := am_ (blk_below (g := gb386) (lg_ BK386) hb); replace BK397 := am_ (blk_below (g := gb397) (lg_ BK397) hb); replace BK408 := am_ (blk_below (g := gb408) (o := .cells #[.int .i64 t398, .slice Ao72 t399.length co72, .slice Ao73 t402.length co73, .slice Ao74 t405.length co74] 48 (0, 0)) (lq_ BK408) hb); replace HB := am_ (below_step (lw_ HB) hb); (try clear hb); (try clear hb2); (try clear hk); (try clear hi); (try clear ho0); (try clear ho1); (try clear ho2)) | ((with_reducible refine gate_dst (N := 10) rfl ?_); refine bev_ 10 #[.int .i64 0, .slice none 0 0, .slice none 0 0, .slice none 0 0] 48 rfl rfl ?_; intro gb420 hg w77 hbox hb; have BK420 := am_ (hbox); have GW420 := am_ ((by rw [hg]; exact (below_size (lw_ HB)) : w.heap.size ≤ gb420)); have GE420 := am_ ((by rw [hg]; exact (below_size (lw_ HB)) : w.heap.size ≤ gb420)); have NB351_420 := am_ ((by rw [hg]; exact Nat.ne_of_lt (blk_lt (g := gb351) (lb_ BK351)) : gb351 ≠ gb420)); have NB420_351 := am_ ((by rw [hg]; exact Nat.ne_of_gt (blk_lt (g := gb351) (lb_ BK351)) : gb420 ≠ gb351)); have NB352_420 := am_ ((by rw [hg]; exact Nat.ne_of_lt (blk_lt (g := gb352) (lb_ BK352)) : gb352 ≠ gb420)); have NB420_352 := am_ ((by rw [hg]; exact Nat.ne_of_gt (blk_lt (g := gb352) (lb_ BK352)) : gb420 ≠ gb352)); have NB386_420 := am_ ((by rw [hg]; exact Nat.ne_of_lt (blk_lt (g := gb386) (lb_ BK386)) : gb386 ≠ gb420)); have NB420_386 := am_ ((by rw [hg]; exact Nat.ne_of_gt (blk_lt (g := gb386) (lb_ BK386)) : gb420 ≠ gb386)); have NB397_420 := am_ ((by rw [hg]; exact Nat.ne_of_lt (blk_lt (g := gb397) (lb_ BK397)) : gb397 ≠ gb420)); have NB420_397 := am_ ((by rw [hg]; exact Nat.ne_of_gt (blk_lt (g := gb397) (lb_ BK397)) : gb420 ≠ gb397)); have NB408_420 := am_ ((by rw [hg]; exact Nat.ne_of_lt (blk_lt (g := gb408) (lb_ BK408)) : gb408 ≠ gb420)); have NB420_408 := am_ ((by rw [hg]; exact Nat.ne_of_gt (blk_lt (g := gb408) (lb_ BK408)) : gb420 ≠ gb408)); replace HO358 := am_ (Kd.R_below (lf_ HO358) hb); replace HO361 := am_ (Kd.R_below (lf_ HO361) hb); replace HO364 := am_ (Kd.R_below (lf_ HO364) hb); replace HO368 := am_ (Kd.R_below (lf_ HO368) hb); replace HO371 := am_ (Kd.R_below (lf_ HO371) hb); replace HO374 := am_ (Kd.R_below (lf_ HO374) hb); replace HO378 := am_ (Kd.R_below (lf_ HO378) hb); replace HO381 := am_ (Kd.R_below (lf_ HO381) hb); replace HO384 := am_ (Kd.R_below (lf_ HO384) hb); replace HO390 := am_ (Kd.R_below (lf_ HO390) hb); replace HO393 := am_ (Kd.R_below (lf_ HO393) hb); replace HO396 := am_ (Kd.R_below (lf_ HO396) hb); replace HO401 := am_ (Kd.R_below (lf_ HO401) hb); replace HO404 := am_ (Kd.R_below (lf_ HO404) hb); replace HO407 := am_ (Kd.R_below (lf_ HO407) hb); replace HO412 := am_ (Kd.R_below (lf_ HO412) hb); replace HO415 := am_ (Kd.R_below (lf_ HO415) hb); replace HO418 := am_ (Kd.R_below (lf_ HO418) hb); replace BK351 := am_ (blk_below (g := gb351) (lb_ BK351) hb); replace BK352 := am_ (blk_below (g := gb352) (lb_ BK352) hb); replace BK386 := am_ (blk_below (g := gb386) (lb_ BK386) hb); replace BK397 := am_ (blk_below (g := gb397) (lb_ BK397) hb); replace BK408 := am_ (blk_below (g := gb408) (lb_ BK408) hb); replace HB := am_ (below_step (lw_ HB) hb); clear hb hbox hg; have hnb78 := NB420_351.out; have hnc78 := NB351_420.out; have hnb79 := NB420_352.out; have hnc79 := NB352_420.out; have hnb80 := NB420_386.out; have hnc80 := NB386_420.out; have hnb81 := NB420_397.out; have hnc81 := NB397_420.out; have hnb82 := NB420_408.out; have hnc82 := NB408_420.out; obtain ⟨hcz83_0, hcz83_1, hcz83_2, hcz83_3, hfz83_0, hfz83_1, hfz83_2, hfz83_3⟩ := bx4_ BK420.out; obtain ⟨Ao84, co84, eo84⟩ := Kd.R_slice HO412.out; subst eo84; obtain ⟨Ao85, co85, eo85⟩ := Kd.R_slice HO415.out; subst eo85; obtain ⟨Ao86, co86, eo86⟩ := Kd.R_slice HO418.out; subst eo86))
   (try simp only [Act.put, List.setIfInBounds_toArray, List.set_cons_zero, List.set_cons_succ])
   go_cut [53] (fun v53 wc => ∃ (kq : Nat) (x53_24 : Bool), v53 = .bool x53_24 ∧ Aside0 (laws_FnExactJoinRanked.j0 kq t385 t419 x53_24 a0_0 l0_1 l0_2 l0_3 a1_0 l1_1 l1_2 l1_3 t375 t376 t379 t382 t387 t388 t391 t394 t398 t399 t402 t405 t409 t410 t413 t416 = some r) ∧ Aside0 (kq ≤ k) ∧ Aside0 (Kd.R (Kd.int .i64) 3 wc w.heap.size (fun k_ => ns_ k_ Ao48 t379 co48 ∧ ns_ k_ Ao50 t382 co50 ∧ ns_ k_ Ao60 t388 co60 ∧ ns_ k_ Ao61 t391 co61 ∧ ns_ k_ Ao62 t394 co62 ∧ ns_ k_ Ao72 t399 co72 ∧ ns_ k_ Ao73 t402 co73 ∧ ns_ k_ Ao74 t405 co74 ∧ ns_ k_ Ao84 t410 co84 ∧ ns_ k_ Ao85 t413 co85 ∧ ns_ k_ Ao86 t416 co86) (.slice Ao46 t376.length co46) t376) ∧ Aside0 (Kd.R (Kd.int .i64) 3 wc w.heap.size (fun k_ => ns_ k_ Ao46 t376 co46 ∧ ns_ k_ Ao50 t382 co50 ∧ ns_ k_ Ao60 t388 co60 ∧ ns_ k_ Ao61 t391 co61 ∧ ns_ k_ Ao62 t394 co62 ∧ ns_ k_ Ao72 t399 co72 ∧ ns_ k_ Ao73 t402 co73 ∧ ns_ k_ Ao74 t405 co74 ∧ ns_ k_ Ao84 t410 co84 ∧ ns_ k_ Ao85 t413 co85 ∧ ns_ k_ Ao86 t416 co86) (.slice Ao48 t379.length co48) t379) ∧ Aside0 (Kd.R (Kd.int .i64) 3 wc w.heap.size (fun k_ => ns_ k_ Ao46 t376 co46 ∧ ns_ k_ Ao48 t379 co48 ∧ ns_ k_ Ao60 t388 co60 ∧ ns_ k_ Ao61 t391 co61 ∧ ns_ k_ Ao62 t394 co62 ∧ ns_ k_ Ao72 t399 co72 ∧ ns_ k_ Ao73 t402 co73 ∧ ns_ k_ Ao74 t405 co74 ∧ ns_ k_ Ao84 t410 co84 ∧ ns_ k_ Ao85 t413 co85 ∧ ns_ k_ Ao86 t416 co86) (.slice Ao50 t382.length co50) t382) ∧ Aside0 (Kd.R (Kd.int .i64) 3 wc w.heap.size (fun k_ => ns_ k_ Ao46 t376 co46 ∧ ns_ k_ Ao48 t379 co48 ∧ ns_ k_ Ao50 t382 co50 ∧ ns_ k_ Ao61 t391 co61 ∧ ns_ k_ Ao62 t394 co62 ∧ ns_ k_ Ao72 t399 co72 ∧ ns_ k_ Ao73 t402 co73 ∧ ns_ k_ Ao74 t405 co74 ∧ ns_ k_ Ao84 t410 co84 ∧ ns_ k_ Ao85 t413 co85 ∧ ns_ k_ Ao86 t416 co86) (.slice Ao60 t388.length co60) t388) ∧ Aside0 (Kd.R (Kd.int .i64) 3 wc w.heap.size (fun k_ => ns_ k_ Ao46 t376 co46 ∧ ns_ k_ Ao48 t379 co48 ∧ ns_ k_ Ao50 t382 co50 ∧ ns_ k_ Ao60 t388 co60 ∧ ns_ k_ Ao62 t394 co62 ∧ ns_ k_ Ao72 t399 co72 ∧ ns_ k_ Ao73 t402 co73 ∧ ns_ k_ Ao74 t405 co74 ∧ ns_ k_ Ao84 t410 co84 ∧ ns_ k_ Ao85 t413 co85 ∧ ns_ k_ Ao86 t416 co86) (.slice Ao61 t391.length co61) t391) ∧ Aside0 (Kd.R (Kd.int .i64) 3 wc w.heap.size (fun k_ => ns_ k_ Ao46 t376 co46 ∧ ns_ k_ Ao48 t379 co48 ∧ ns_ k_ Ao50 t382 co50 ∧ ns_ k_ Ao60 t388 co60 ∧ ns_ k_ Ao61 t391 co61 ∧ ns_ k_ Ao72 t399 co72 ∧ ns_ k_ Ao73 t402 co73 ∧ ns_ k_ Ao74 t405 co74 ∧ ns_ k_ Ao84 t410 co84 ∧ ns_ k_ Ao85 t413 co85 ∧ ns_ k_ Ao86 t416 co86) (.slice Ao62 t394.length co62) t394) ∧ Aside0 (Kd.R (Kd.int .i64) 3 wc w.heap.size (fun k_ => ns_ k_ Ao46 t376 co46 ∧ ns_ k_ Ao48 t379 co48 ∧ ns_ k_ Ao50 t382 co50 ∧ ns_ k_ Ao60 t388 co60 ∧ ns_ k_ Ao61 t391 co61 ∧ ns_ k_ Ao62 t394 co62 ∧ ns_ k_ Ao73 t402 co73 ∧ ns_ k_ Ao74 t405 co74 ∧ ns_ k_ Ao84 t410 co84 ∧ ns_ k_ Ao85 t413 co85 ∧ ns_ k_ Ao86 t416 co86) (.slice Ao72 t399.length co72) t399) ∧ Aside0 (Kd.R (Kd.int .i64) 3 wc w.heap.size (fun k_ => ns_ k_ Ao46 t376 co46 ∧ ns_ k_ Ao48 t379 co48 ∧ ns_ k_ Ao50 t382 co50 ∧ ns_ k_ Ao60 t388 co60 ∧ ns_ k_ Ao61 t391 co61 ∧ ns_ k_ Ao62 t394 co62 ∧ ns_ k_ Ao72 t399 co72 ∧ ns_ k_ Ao74 t405 co74 ∧ ns_ k_ Ao84 t410 co84 ∧ ns_ k_ Ao85 t413 co85 ∧ ns_ k_ Ao86 t416 co86) (.slice Ao73 t402.length co73) t402) ∧ Aside0 (Kd.R (Kd.int .i64) 3 wc w.heap.size (fun k_ => ns_ k_ Ao46 t376 co46 ∧ ns_ k_ Ao48 t379 co48 ∧ ns_ k_ Ao50 t382 co50 ∧ ns_ k_ Ao60 t388 co60 ∧ ns_ k_ Ao61 t391 co61 ∧ ns_ k_ Ao62 t394 co62 ∧ ns_ k_ Ao72 t399 co72 ∧ ns_ k_ Ao73 t402 co73 ∧ ns_ k_ Ao84 t410 co84 ∧ ns_ k_ Ao85 t413 co85 ∧ ns_ k_ Ao86 t416 co86) (.slice Ao74 t405.length co74) t405) ∧ Aside0 (Kd.R (Kd.int .i64) 3 wc w.heap.size (fun k_ => ns_ k_ Ao46 t376 co46 ∧ ns_ k_ Ao48 t379 co48 ∧ ns_ k_ Ao50 t382 co50 ∧ ns_ k_ Ao60 t388 co60 ∧ ns_ k_ Ao61 t391 co61 ∧ ns_ k_ Ao62 t394 co62 ∧ ns_ k_ Ao72 t399 co72 ∧ ns_ k_ Ao73 t402 co73 ∧ ns_ k_ Ao74 t405 co74 ∧ ns_ k_ Ao85 t413 co85 ∧ ns_ k_ Ao86 t416 co86) (.slice Ao84 t410.length co84) t410) ∧ Aside0 (Kd.R (Kd.int .i64) 3 wc w.heap.size (fun k_ => ns_ k_ Ao46 t376 co46 ∧ ns_ k_ Ao48 t379 co48 ∧ ns_ k_ Ao50 t382 co50 ∧ ns_ k_ Ao60 t388 co60 ∧ ns_ k_ Ao61 t391 co61 ∧ ns_ k_ Ao62 t394 co62 ∧ ns_ k_ Ao72 t399 co72 ∧ ns_ k_ Ao73 t402 co73 ∧ ns_ k_ Ao74 t405 co74 ∧ ns_ k_ Ao84 t410 co84 ∧ ns_ k_ Ao86 t416 co86) (.slice Ao85 t413.length co85) t413) ∧ Aside0 (Kd.R (Kd.int .i64) 3 wc w.heap.size (fun k_ => ns_ k_ Ao46 t376 co46 ∧ ns_ k_ Ao48 t379 co48 ∧ ns_ k_ Ao50 t382 co50 ∧ ns_ k_ Ao60 t388 co60 ∧ ns_ k_ Ao61 t391 co61 ∧ ns_ k_ Ao62 t394 co62 ∧ ns_ k_ Ao72 t399 co72 ∧ ns_ k_ Ao73 t402 co73 ∧ ns_ k_ Ao74 t405 co74 ∧ ns_ k_ Ao84 t410 co84 ∧ ns_ k_ Ao85 t413 co85) (.slice Ao86 t416.length co86) t416) ∧ Aside0 (wc.heap[gb351]? = some (.cells #[.int .i64 a0_0, (.slice A0_1 l0_1.length c0_1), (.slice A0_2 l0_2.length c0_2), (.slice A0_3 l0_3.length c0_3)] 45 (0, 0))) ∧ Aside0 (wc.heap[gb352]? = some (.cells #[.int .i64 a1_0, (.slice A1_1 l1_1.length c1_1), (.slice A1_2 l1_2.length c1_2), (.slice A1_3 l1_3.length c1_3)] 45 (0, 0))) ∧ Aside0 (wc.heap[gb386]? = some (.cells #[.int .i64 t375, (.slice Ao46 t376.length co46), (.slice Ao48 t379.length co48), (.slice Ao50 t382.length co50)] 48 (0, 0))) ∧ Aside0 (wc.heap[gb397]? = some (.cells #[.int .i64 t387, (.slice Ao60 t388.length co60), (.slice Ao61 t391.length co61), (.slice Ao62 t394.length co62)] 48 (0, 0))) ∧ Aside0 (wc.heap[gb408]? = some (.cells #[.int .i64 t398, (.slice Ao72 t399.length co72), (.slice Ao73 t402.length co73), (.slice Ao74 t405.length co74)] 48 (0, 0))) ∧ Aside0 (wc.heap[gb420]? = some (.cells #[.int .i64 t409, (.slice Ao84 t410.length co84), (.slice Ao85 t413.length co85), (.slice Ao86 t416.length co86)] 48 (0, 0))) ∧ Aside0 (Below w.heap.size w wc))
   case first =>
    have H := HC25.out
    clear HC25
    replace H := Option.bind_eq_some_iff.mp H
    obtain ⟨t421, A870, H⟩ := H
    replace H : (if t421 = true then (laws_FnExactJoinRanked.j0 k t385 t419 (t419 != t385) a0_0 l0_1 l0_2 l0_3 a1_0 l1_1 l1_2 l1_3 t375 t376 t379 t382 t387 t388 t391 t394 t398 t399 t402 t405 t409 t410 t413 t416) else (none)) = some r := H
    have A87 := am_ A870
    clear A870
    by_cases c88 : t421 = true
    ·subst c88
     have H1 : (laws_FnExactJoinRanked.j0 k t385 t419 (t419 != t385) a0_0 l0_1 l0_2 l0_3 a1_0 l1_1 l1_2 l1_3 t375 t376 t379 t382 t387 t388 t391 t394 t398 t399 t402 t405 t409 t410 t413 t416) = some r := by rw [if_pos rfl] at H; exact H
     clear H
     have H := H1
     clear H1
     have H' := am_ H
     clear H
     have hnb89 := NB420_351.out
     have hnc89 := NB351_420.out
     have hnb90 := NB420_352.out
     have hnc90 := NB352_420.out
     have hnb91 := NB420_386.out
     have hnc91 := NB386_420.out
     have hnb92 := NB420_397.out
     have hnc92 := NB397_420.out
     have hnb93 := NB420_408.out
     have hnc93 := NB408_420.out
     obtain ⟨hcz94_0, hcz94_1, hcz94_2, hcz94_3, hfz94_0, hfz94_1, hfz94_2, hfz94_3⟩ := bx4_ BK420.out
     have hnb95 := NB386_351.out
     have hnc95 := NB351_386.out
     have hnb96 := NB386_352.out
     have hnc96 := NB352_386.out
     have hnb97 := NB386_397.out
     have hnc97 := NB397_386.out
     have hnb98 := NB386_408.out
     have hnc98 := NB408_386.out
     have hcz99_0 : w77.cell? ⟨gb386, 0, none⟩ = some (.int .i64 t375) := (blk_cell BK386.out 0).trans rfl
     have hcz99_1 : w77.cell? ⟨gb386, 1, none⟩ = some (.slice Ao46 t376.length co46) := (blk_cell BK386.out 1).trans rfl
     have hcz99_2 : w77.cell? ⟨gb386, 2, none⟩ = some (.slice Ao48 t379.length co48) := (blk_cell BK386.out 2).trans rfl
     have hcz99_3 : w77.cell? ⟨gb386, 3, none⟩ = some (.slice Ao50 t382.length co50) := (blk_cell BK386.out 3).trans rfl
     have hfz99_0 := blk_frozen BK386.out 0
     have hfz99_1 := blk_frozen BK386.out 1
     have hfz99_2 := blk_frozen BK386.out 2
     have hfz99_3 := blk_frozen BK386.out 3
     go_wp2_with (first | ((with_reducible refine gate_callee (f := 38) rfl ?_); refine goesL_ (some 47) rfl rfl Try.func38 (by kernel_rfl) rfl #[.agg #[.int .i64 t409, .slice Ao84 t410.length co84, .slice Ao85 t413.length co85, .slice Ao86 t416.length co86], .agg #[.int .i64 t375, .slice Ao46 t376.length co46, .slice Ao48 t379.length co48, .slice Ao50 t382.length co50]] rfl lm_ ?_; (with_reducible refine (laws_eqRanked.calls k t409 _ _ t410 _ _ t413 _ _ t416 t375 _ _ t376 _ _ t379 _ _ t382 true _ ?side1 ?side2 ?side3 ?side4 ?side5 ?side6 ?side7 ?side8 ?side9 ?side10 ?side11 ?side12 A87.out).mono ?_); (case side1 => refine (Kd.R_reads' (e := 3) (base := w.heap.size) (ok := fun k_ => ((((((((((((((((ns_ k_ Ao85 t413 co85 ∧ ns_ k_ Ao86 t416 co86) ∧ nb_ k_ v357) ∧ nb_ k_ v360) ∧ nb_ k_ v363) ∧ nb_ k_ v367) ∧ nb_ k_ v370) ∧ nb_ k_ v373) ∧ ns_ k_ Ao46 t376 co46) ∧ ns_ k_ Ao48 t379 co48) ∧ ns_ k_ Ao50 t382 co50) ∧ ns_ k_ Ao60 t388 co60) ∧ ns_ k_ Ao61 t391 co61) ∧ ns_ k_ Ao62 t394 co62) ∧ ns_ k_ Ao72 t399 co72) ∧ ns_ k_ Ao73 t402 co73) ∧ ns_ k_ Ao74 t405 co74)) (n := t410.length) (c := co84) ?_).2.2; exact (lt_ ((m1_ (fr4_ HO412.out BK420.out (.int .i64 t409) (.slice Ao84 t410.length co84) (.slice Ao85 t413.length co85) (.slice Ao86 t416.length co86)))))); (case side2 => exact (Kd.R_reads' HO412.out).2.1); (case side3 => refine (Kd.R_reads' (e := 3) (base := w.heap.size) (ok := fun k_ => ((((((((((((((((ns_ k_ Ao84 t410 co84 ∧ ns_ k_ Ao86 t416 co86) ∧ nb_ k_ v357) ∧ nb_ k_ v360) ∧ nb_ k_ v363) ∧ nb_ k_ v367) ∧ nb_ k_ v370) ∧ nb_ k_ v373) ∧ ns_ k_ Ao46 t376 co46) ∧ ns_ k_ Ao48 t379 co48) ∧ ns_ k_ Ao50 t382 co50) ∧ ns_ k_ Ao60 t388 co60) ∧ ns_ k_ Ao61 t391 co61) ∧ ns_ k_ Ao62 t394 co62) ∧ ns_ k_ Ao72 t399 co72) ∧ ns_ k_ Ao73 t402 co73) ∧ ns_ k_ Ao74 t405 co74)) (n := t413.length) (c := co85) ?_).2.2; exact (lt_ ((m1_ (fr4_ HO415.out BK420.out (.int .i64 t409) (.slice Ao84 t410.length co84) (.slice Ao85 t413.length co85) (.slice Ao86 t416.length co86)))))); (case side4 => exact (Kd.R_reads' HO415.out).2.1); (case side5 => refine (Kd.R_reads' (e := 3) (base := w.heap.size) (ok := fun k_ => ((((((((((((((((ns_ k_ Ao84 t410 co84 ∧ ns_ k_ Ao85 t413 co85) ∧ nb_ k_ v357) ∧ nb_ k_ v360) ∧ nb_ k_ v363) ∧ nb_ k_ v367) ∧ nb_ k_ v370) ∧ nb_ k_ v373) ∧ ns_ k_ Ao46 t376 co46) ∧ ns_ k_ Ao48 t379 co48) ∧ ns_ k_ Ao50 t382 co50) ∧ ns_ k_ Ao60 t388 co60) ∧ ns_ k_ Ao61 t391 co61) ∧ ns_ k_ Ao62 t394 co62) ∧ ns_ k_ Ao72 t399 co72) ∧ ns_ k_ Ao73 t402 co73) ∧ ns_ k_ Ao74 t405 co74)) (n := t416.length) (c := co86) ?_).2.2; exact (lt_ ((m1_ (fr4_ HO418.out BK420.out (.int .i64 t409) (.slice Ao84 t410.length co84) (.slice Ao85 t413.length co85) (.slice Ao86 t416.length co86)))))); (case side6 => exact (Kd.R_reads' HO418.out).2.1); (case side7 => refine (Kd.R_reads' (e := 3) (base := w.heap.size) (ok := fun k_ => ((((((((((nb_ k_ v357 ∧ (nb_ k_ v360 ∧ (nb_ k_ v363 ∧ (nb_ k_ v367 ∧ (nb_ k_ v370 ∧ (nb_ k_ v373 ∧ (ns_ k_ Ao48 t379 co48 ∧ ns_ k_ Ao50 t382 co50))))))) ∧ ns_ k_ Ao60 t388 co60) ∧ ns_ k_ Ao61 t391 co61) ∧ ns_ k_ Ao62 t394 co62) ∧ ns_ k_ Ao72 t399 co72) ∧ ns_ k_ Ao73 t402 co73) ∧ ns_ k_ Ao74 t405 co74) ∧ ns_ k_ Ao84 t410 co84) ∧ ns_ k_ Ao85 t413 co85) ∧ ns_ k_ Ao86 t416 co86)) (n := t376.length) (c := co46) ?_).2.2; exact (lt_ ((m1_ (fr4_ HO378.out BK420.out (.int .i64 t409) (.slice Ao84 t410.length co84) (.slice Ao85 t413.length co85) (.slice Ao86 t416.length co86)))))); (case side8 => exact (Kd.R_reads' HO378.out).2.1); (case side9 => refine (Kd.R_reads' (e := 3) (base := w.heap.size) (ok := fun k_ => ((((((((((nb_ k_ v357 ∧ (nb_ k_ v360 ∧ (nb_ k_ v363 ∧ (nb_ k_ v367 ∧ (nb_ k_ v370 ∧ (nb_ k_ v373 ∧ (ns_ k_ Ao46 t376 co46 ∧ ns_ k_ Ao50 t382 co50))))))) ∧ ns_ k_ Ao60 t388 co60) ∧ ns_ k_ Ao61 t391 co61) ∧ ns_ k_ Ao62 t394 co62) ∧ ns_ k_ Ao72 t399 co72) ∧ ns_ k_ Ao73 t402 co73) ∧ ns_ k_ Ao74 t405 co74) ∧ ns_ k_ Ao84 t410 co84) ∧ ns_ k_ Ao85 t413 co85) ∧ ns_ k_ Ao86 t416 co86)) (n := t379.length) (c := co48) ?_).2.2; exact (lt_ ((m1_ (fr4_ HO381.out BK420.out (.int .i64 t409) (.slice Ao84 t410.length co84) (.slice Ao85 t413.length co85) (.slice Ao86 t416.length co86)))))); (case side10 => exact (Kd.R_reads' HO381.out).2.1); (case side11 => refine (Kd.R_reads' (e := 3) (base := w.heap.size) (ok := fun k_ => ((((((((((nb_ k_ v357 ∧ (nb_ k_ v360 ∧ (nb_ k_ v363 ∧ (nb_ k_ v367 ∧ (nb_ k_ v370 ∧ (nb_ k_ v373 ∧ (ns_ k_ Ao46 t376 co46 ∧ ns_ k_ Ao48 t379 co48))))))) ∧ ns_ k_ Ao60 t388 co60) ∧ ns_ k_ Ao61 t391 co61) ∧ ns_ k_ Ao62 t394 co62) ∧ ns_ k_ Ao72 t399 co72) ∧ ns_ k_ Ao73 t402 co73) ∧ ns_ k_ Ao74 t405 co74) ∧ ns_ k_ Ao84 t410 co84) ∧ ns_ k_ Ao85 t413 co85) ∧ ns_ k_ Ao86 t416 co86)) (n := t382.length) (c := co50) ?_).2.2; exact (lt_ ((m1_ (fr4_ HO384.out BK420.out (.int .i64 t409) (.slice Ao84 t410.length co84) (.slice Ao85 t413.length co85) (.slice Ao86 t416.length co86)))))); (case side12 => exact (Kd.R_reads' HO384.out).2.1); rintro e w100 ⟨rfl, hb⟩; refine ⟨_, rfl, ?_⟩; replace HO358 := am_ (Kd.R_below (lt_ ((m1_ (fr4_ HO358.out BK420.out (.int .i64 t409) (.slice Ao84 t410.length co84) (.slice Ao85 t413.length co85) (.slice Ao86 t416.length co86))))) hb); replace HO361 := am_ (Kd.R_below (lt_ ((m1_ (fr4_ HO361.out BK420.out (.int .i64 t409) (.slice Ao84 t410.length co84) (.slice Ao85 t413.length co85) (.slice Ao86 t416.length co86))))) hb); replace HO364 := am_ (Kd.R_below (lt_ ((m1_ (fr4_ HO364.out BK420.out (.int .i64 t409) (.slice Ao84 t410.length co84) (.slice Ao85 t413.length co85) (.slice Ao86 t416.length co86))))) hb); replace HO368 := am_ (Kd.R_below (lt_ ((m1_ (fr4_ HO368.out BK420.out (.int .i64 t409) (.slice Ao84 t410.length co84) (.slice Ao85 t413.length co85) (.slice Ao86 t416.length co86))))) hb); replace HO371 := am_ (Kd.R_below (lt_ ((m1_ (fr4_ HO371.out BK420.out (.int .i64 t409) (.slice Ao84 t410.length co84) (.slice Ao85 t413.length co85) (.slice Ao86 t416.length co86))))) hb); replace HO374 := am_ (Kd.R_below (lt_ ((m1_ (fr4_ HO374.out BK420.out (.int .i64 t409) (.slice Ao84 t410.length co84) (.slice Ao85 t413.length co85) (.slice Ao86 t416.length co86))))) hb); replace HO378 := am_ (Kd.R_below (lt_ ((m1_ (fr4_ HO378.out BK420.out (.int .i64 t409) (.slice Ao84 t410.length co84) (.slice Ao85 t413.length co85) (.slice Ao86 t416.length co86))))) hb); replace HO381 := am_ (Kd.R_below (lt_ ((m1_ (fr4_ HO381.out BK420.out (.int .i64 t409) (.slice Ao84 t410.length co84) (.slice Ao85 t413.length co85) (.slice Ao86 t416.length co86))))) hb); replace HO384 := am_ (Kd.R_below (lt_ ((m1_ (fr4_ HO384.out BK420.out (.int .i64 t409) (.slice Ao84 t410.length co84) (.slice Ao85 t413.length co85) (.slice Ao86 t416.length co86))))) hb); replace HO390 := am_ (Kd.R_below (lt_ ((m1_ (fr4_ HO390.out BK420.out (.int .i64 t409) (.slice Ao84 t410.length co84) (.slice Ao85 t413.length co85) (.slice Ao86 t416.length co86))))) hb); replace HO393 := am_ (Kd.R_below (lt_ ((m1_ (fr4_ HO393.out BK420.out (.int .i64 t409) (.slice Ao84 t410.length co84) (.slice Ao85 t413.length co85) (.slice Ao86 t416.length co86))))) hb); replace HO396 := am_ (Kd.R_below (lt_ ((m1_ (fr4_ HO396.out BK420.out (.int .i64 t409) (.slice Ao84 t410.length co84) (.slice Ao85 t413.length co85) (.slice Ao86 t416.length co86))))) hb); replace HO401 := am_ (Kd.R_below (lt_ ((m1_ (fr4_ HO401.out BK420.out (.int .i64 t409) (.slice Ao84 t410.length co84) (.slice Ao85 t413.length co85) (.slice Ao86 t416.length co86))))) hb); replace HO404 := am_ (Kd.R_below (lt_ ((m1_ (fr4_ HO404.out BK420.out (.int .i64 t409) (.slice Ao84 t410.length co84) (.slice Ao85 t413.length co85) (.slice Ao86 t416.length co86))))) hb); replace HO407 := am_ (Kd.R_below (lt_ ((m1_ (fr4_ HO407.out BK420.out (.int .i64 t409) (.slice Ao84 t410.length co84) (.slice Ao85 t413.length co85) (.slice Ao86 t416.length co86))))) hb); replace HO412 := am_ (Kd.R_below (lt_ ((m1_ (fr4_ HO412.out BK420.out (.int .i64 t409) (.slice Ao84 t410.length co84) (.slice Ao85 t413.length co85) (.slice Ao86 t416.length co86))))) hb); replace HO415 := am_ (Kd.R_below (lt_ ((m1_ (fr4_ HO415.out BK420.out (.int .i64 t409) (.slice Ao84 t410.length co84) (.slice Ao85 t413.length co85) (.slice Ao86 t416.length co86))))) hb); replace HO418 := am_ (Kd.R_below (lt_ ((m1_ (fr4_ HO418.out BK420.out (.int .i64 t409) (.slice Ao84 t410.length co84) (.slice Ao85 t413.length co85) (.slice Ao86 t416.length co86))))) hb); replace BK351 := am_ (blk_below (g := gb351) (lg_ BK351) hb); replace BK352 := am_ (blk_below (g := gb352) (lg_ BK352) hb); replace BK386 := am_ (blk_below (g := gb386) (lg_ BK386) hb); replace BK397 := am_ (blk_below (g := gb397) (lg_ BK397) hb); replace BK408 := am_ (blk_below (g := gb408) (lg_ BK408) hb); replace BK420 := am_ (blk_below (g := gb420) (o := .cells #[.int .i64 t409, .slice Ao84 t410.length co84, .slice Ao85 t413.length co85, .slice Ao86 t416.length co86] 48 (0, 0)) (lq_ BK420) hb); replace HB := am_ (below_step (lw_ HB) hb); (try clear hb); (try clear hb2); (try clear hk); (try clear hi)))
     go_meet
     case rel => exact ⟨_, ((t419 != t385)), sr_, H', ⟨by first | omega | exact Nat.le_refl _⟩, ⟨lo_ HO378⟩, ⟨lo_ HO381⟩, ⟨lo_ HO384⟩, ⟨lo_ HO390⟩, ⟨lo_ HO393⟩, ⟨lo_ HO396⟩, ⟨lo_ HO401⟩, ⟨lo_ HO404⟩, ⟨lo_ HO407⟩, ⟨lo_ HO412⟩, ⟨lo_ HO415⟩, ⟨lo_ HO418⟩, ⟨lb_ BK351⟩, ⟨lb_ BK352⟩, ⟨lb_ BK386⟩, ⟨lb_ BK397⟩, ⟨lb_ BK408⟩, ⟨lb_ BK420⟩, ⟨lw_ HB⟩⟩
    ·replace c88 := Bool.eq_false_iff.mpr c88
     subst c88
     have H1 : (none) = some r := by rw [if_neg (show ¬ (false = true) by decide)] at H; exact H
     clear H
     have H := H1
     clear H1
     exact absurd H (by simp)
   case rest =>
    clear HC25
    try clear c1
    try clear p2
    try clear c3
    try clear c5
    try clear c6
    try clear c7
    try clear c8
    try clear c9
    try clear c35
    try clear c36
    try clear c37
    try clear c38
    try clear c52
    try clear c56
    try clear c57
    try clear c58
    try clear c63
    try clear c67
    try clear c68
    try clear c69
    try clear c70
    try clear c78
    try clear c79
    try clear c80
    try clear c81
    try clear c82
    try clear c88
    try clear c89
    try clear c90
    try clear c91
    try clear c92
    try clear c93
    try clear c95
    try clear c96
    try clear c97
    try clear c98
    try clear hcz53_0
    try clear hcz53_1
    try clear hcz53_2
    try clear hcz53_3
    try clear hcz59_0
    try clear hcz59_1
    try clear hcz59_2
    try clear hcz59_3
    try clear hcz64_0
    try clear hcz64_1
    try clear hcz64_2
    try clear hcz64_3
    try clear hcz71_0
    try clear hcz71_1
    try clear hcz71_2
    try clear hcz71_3
    try clear hcz75_0
    try clear hcz75_1
    try clear hcz75_2
    try clear hcz75_3
    try clear hcz83_0
    try clear hcz83_1
    try clear hcz83_2
    try clear hcz83_3
    try clear hcz94_0
    try clear hcz94_1
    try clear hcz94_2
    try clear hcz94_3
    try clear hcz99_0
    try clear hcz99_1
    try clear hcz99_2
    try clear hcz99_3
    try clear hfz53_0
    try clear hfz53_1
    try clear hfz53_2
    try clear hfz53_3
    try clear hfz59_0
    try clear hfz59_1
    try clear hfz59_2
    try clear hfz59_3
    try clear hfz64_0
    try clear hfz64_1
    try clear hfz64_2
    try clear hfz64_3
    try clear hfz71_0
    try clear hfz71_1
    try clear hfz71_2
    try clear hfz71_3
    try clear hfz75_0
    try clear hfz75_1
    try clear hfz75_2
    try clear hfz75_3
    try clear hfz83_0
    try clear hfz83_1
    try clear hfz83_2
    try clear hfz83_3
    try clear hfz94_0
    try clear hfz94_1
    try clear hfz94_2
    try clear hfz94_3
    try clear hfz99_0
    try clear hfz99_1
    try clear hfz99_2
    try clear hfz99_3
    obtain ⟨kq, x53_24, rfl, HA, HJ24, HO_387001, HO_387002, HO_387003, HO_398001, HO_398002, HO_398003, HO_409001, HO_409002, HO_409003, HO_421001, HO_421002, HO_421003, BK351, BK352, BK386, BK397, BK408, BK420, HB⟩ := hcut
    cases kq with
    | zero => exact absurd HA.out (by simp [laws_FnExactJoinRanked.j0])
    | succ kj24 =>
     have H := HA.out
     clear HA
     simp only [laws_FnExactJoinRanked.j0] at H
     by_cases c101 : x53_24 = true
     ·subst c101
      have H1 : (none) = some r := by rw [if_pos rfl] at H; exact H
      clear H
      have H := H1
      clear H1
      exact absurd H (by simp)
     ·replace c101 := Bool.eq_false_iff.mpr c101
      subst c101
      have H1 : ((laws_toRanked.f kj24 a0_0 l0_1 l0_2 l0_3).bind fun bt422 => ((laws_eqRanked.f kj24 t387 t388 t391 t394 bt422.1 bt422.2.1 bt422.2.2.1 bt422.2.2.2).bind fun t432 => (if t432 = true then ((laws_toRanked.f kj24 a1_0 l1_1 l1_2 l1_3).bind fun bt433 => ((laws_eqRanked.f kj24 t398 t399 t402 t405 bt433.1 bt433.2.1 bt433.2.2.1 bt433.2.2.2).bind fun t443 => (if t443 = true then ((laws_markRanked.f kj24 t387 t388 t391 t394 1).bind fun bt444 => ((laws_markRanked.f kj24 t398 t399 t402 t405 bt444.1).bind fun bt448 => (if bt448.1 < 0 then (none) else ((laws_eqRanked.f kj24 t409 t410 t413 t416 t375 t376 t379 t382).bind fun t452 => (if t452 = true then (laws_FnExactJoinRanked.j1 kj24 t385 (t419 != t385) a0_0 l0_1 l0_2 l0_3 a1_0 l1_1 l1_2 l1_3 t375 t376 t379 t382 t409 t410 t413 t416) else (none)))))) else (none)))) else (none)))) = some r := by rw [if_neg (show ¬ (false = true) by decide)] at H; exact H
      clear H
      have H := H1
      clear H1
      replace H := Option.bind_eq_some_iff.mp H
      obtain ⟨⟨t422, t423, t426, t429⟩, A1020, H⟩ := H
      replace H : ((laws_eqRanked.f kj24 t387 t388 t391 t394 t422 t423 t426 t429).bind fun t432 => (if t432 = true then ((laws_toRanked.f kj24 a1_0 l1_1 l1_2 l1_3).bind fun bt433 => ((laws_eqRanked.f kj24 t398 t399 t402 t405 bt433.1 bt433.2.1 bt433.2.2.1 bt433.2.2.2).bind fun t443 => (if t443 = true then ((laws_markRanked.f kj24 t387 t388 t391 t394 1).bind fun bt444 => ((laws_markRanked.f kj24 t398 t399 t402 t405 bt444.1).bind fun bt448 => (if bt448.1 < 0 then (none) else ((laws_eqRanked.f kj24 t409 t410 t413 t416 t375 t376 t379 t382).bind fun t452 => (if t452 = true then (laws_FnExactJoinRanked.j1 kj24 t385 (t419 != t385) a0_0 l0_1 l0_2 l0_3 a1_0 l1_1 l1_2 l1_3 t375 t376 t379 t382 t409 t410 t413 t416) else (none)))))) else (none)))) else (none))) = some r := H
      have A102 := am_ A1020
      clear A1020
      replace H := Option.bind_eq_some_iff.mp H
      obtain ⟨t432, A1030, H⟩ := H
      replace H : (if t432 = true then ((laws_toRanked.f kj24 a1_0 l1_1 l1_2 l1_3).bind fun bt433 => ((laws_eqRanked.f kj24 t398 t399 t402 t405 bt433.1 bt433.2.1 bt433.2.2.1 bt433.2.2.2).bind fun t443 => (if t443 = true then ((laws_markRanked.f kj24 t387 t388 t391 t394 1).bind fun bt444 => ((laws_markRanked.f kj24 t398 t399 t402 t405 bt444.1).bind fun bt448 => (if bt448.1 < 0 then (none) else ((laws_eqRanked.f kj24 t409 t410 t413 t416 t375 t376 t379 t382).bind fun t452 => (if t452 = true then (laws_FnExactJoinRanked.j1 kj24 t385 (t419 != t385) a0_0 l0_1 l0_2 l0_3 a1_0 l1_1 l1_2 l1_3 t375 t376 t379 t382 t409 t410 t413 t416) else (none)))))) else (none)))) else (none)) = some r := H
      have A103 := am_ A1030
      clear A1030
      by_cases c104 : t432 = true
      ·subst c104
       have H1 : ((laws_toRanked.f kj24 a1_0 l1_1 l1_2 l1_3).bind fun bt433 => ((laws_eqRanked.f kj24 t398 t399 t402 t405 bt433.1 bt433.2.1 bt433.2.2.1 bt433.2.2.2).bind fun t443 => (if t443 = true then ((laws_markRanked.f kj24 t387 t388 t391 t394 1).bind fun bt444 => ((laws_markRanked.f kj24 t398 t399 t402 t405 bt444.1).bind fun bt448 => (if bt448.1 < 0 then (none) else ((laws_eqRanked.f kj24 t409 t410 t413 t416 t375 t376 t379 t382).bind fun t452 => (if t452 = true then (laws_FnExactJoinRanked.j1 kj24 t385 (t419 != t385) a0_0 l0_1 l0_2 l0_3 a1_0 l1_1 l1_2 l1_3 t375 t376 t379 t382 t409 t410 t413 t416) else (none)))))) else (none)))) = some r := by rw [if_pos rfl] at H; exact H
       clear H
       have H := H1
       clear H1
       replace H := Option.bind_eq_some_iff.mp H
       obtain ⟨⟨t433, t434, t437, t440⟩, A1050, H⟩ := H
       replace H : ((laws_eqRanked.f kj24 t398 t399 t402 t405 t433 t434 t437 t440).bind fun t443 => (if t443 = true then ((laws_markRanked.f kj24 t387 t388 t391 t394 1).bind fun bt444 => ((laws_markRanked.f kj24 t398 t399 t402 t405 bt444.1).bind fun bt448 => (if bt448.1 < 0 then (none) else ((laws_eqRanked.f kj24 t409 t410 t413 t416 t375 t376 t379 t382).bind fun t452 => (if t452 = true then (laws_FnExactJoinRanked.j1 kj24 t385 (t419 != t385) a0_0 l0_1 l0_2 l0_3 a1_0 l1_1 l1_2 l1_3 t375 t376 t379 t382 t409 t410 t413 t416) else (none)))))) else (none))) = some r := H
       have A105 := am_ A1050
       clear A1050
       replace H := Option.bind_eq_some_iff.mp H
       obtain ⟨t443, A1060, H⟩ := H
       replace H : (if t443 = true then ((laws_markRanked.f kj24 t387 t388 t391 t394 1).bind fun bt444 => ((laws_markRanked.f kj24 t398 t399 t402 t405 bt444.1).bind fun bt448 => (if bt448.1 < 0 then (none) else ((laws_eqRanked.f kj24 t409 t410 t413 t416 t375 t376 t379 t382).bind fun t452 => (if t452 = true then (laws_FnExactJoinRanked.j1 kj24 t385 (t419 != t385) a0_0 l0_1 l0_2 l0_3 a1_0 l1_1 l1_2 l1_3 t375 t376 t379 t382 t409 t410 t413 t416) else (none)))))) else (none)) = some r := H
       have A106 := am_ A1060
       clear A1060
       by_cases c107 : t443 = true
       ·subst c107
        have H1 : ((laws_markRanked.f kj24 t387 t388 t391 t394 1).bind fun bt444 => ((laws_markRanked.f kj24 t398 t399 t402 t405 bt444.1).bind fun bt448 => (if bt448.1 < 0 then (none) else ((laws_eqRanked.f kj24 t409 t410 t413 t416 t375 t376 t379 t382).bind fun t452 => (if t452 = true then (laws_FnExactJoinRanked.j1 kj24 t385 (t419 != t385) a0_0 l0_1 l0_2 l0_3 a1_0 l1_1 l1_2 l1_3 t375 t376 t379 t382 t409 t410 t413 t416) else (none)))))) = some r := by rw [if_pos rfl] at H; exact H
        clear H
        have H := H1
        clear H1
        replace H := Option.bind_eq_some_iff.mp H
        obtain ⟨⟨t444, t445, t446, t447⟩, A1080, H⟩ := H
        replace H : ((laws_markRanked.f kj24 t398 t399 t402 t405 t444).bind fun bt448 => (if bt448.1 < 0 then (none) else ((laws_eqRanked.f kj24 t409 t410 t413 t416 t375 t376 t379 t382).bind fun t452 => (if t452 = true then (laws_FnExactJoinRanked.j1 kj24 t385 (t419 != t385) a0_0 l0_1 l0_2 l0_3 a1_0 l1_1 l1_2 l1_3 t375 t376 t379 t382 t409 t410 t413 t416) else (none))))) = some r := H
        have A108 := am_ A1080
        clear A1080
        replace H := Option.bind_eq_some_iff.mp H
        obtain ⟨⟨t448, t449, t450, t451⟩, A1090, H⟩ := H
        replace H : (if t448 < 0 then (none) else ((laws_eqRanked.f kj24 t409 t410 t413 t416 t375 t376 t379 t382).bind fun t452 => (if t452 = true then (laws_FnExactJoinRanked.j1 kj24 t385 (t419 != t385) a0_0 l0_1 l0_2 l0_3 a1_0 l1_1 l1_2 l1_3 t375 t376 t379 t382 t409 t410 t413 t416) else (none)))) = some r := H
        have A109 := am_ A1090
        clear A1090
        have HC110 := am_ H
        clear H
        try go_wp2
        replace HO_387001 := am_ (Kd.R_drew HO_387001.out); replace HO_387002 := am_ (Kd.R_drew HO_387002.out); replace HO_387003 := am_ (Kd.R_drew HO_387003.out); replace HO_398001 := am_ (Kd.R_drew HO_398001.out); replace HO_398002 := am_ (Kd.R_drew HO_398002.out); replace HO_398003 := am_ (Kd.R_drew HO_398003.out); replace HO_409001 := am_ (Kd.R_drew HO_409001.out); replace HO_409002 := am_ (Kd.R_drew HO_409002.out); replace HO_409003 := am_ (Kd.R_drew HO_409003.out); replace HO_421001 := am_ (Kd.R_drew HO_421001.out); replace HO_421002 := am_ (Kd.R_drew HO_421002.out); replace HO_421003 := am_ (Kd.R_drew HO_421003.out); replace BK351 := am_ (blk_drew BK351.out); replace BK352 := am_ (blk_drew BK352.out); replace BK386 := am_ (blk_drew BK386.out); replace BK397 := am_ (blk_drew BK397.out); replace BK408 := am_ (blk_drew BK408.out); replace BK420 := am_ (blk_drew BK420.out); replace HB := am_ (below_drew1 HB.out)
        refine start_ (n := 5) (S := fun w' => w'.cell? ⟨gb397, 0, none⟩ = some (.int .i64 t387) ∧ w'.cell? ⟨gb397, 1, none⟩ = some (.slice Ao60 t388.length co60) ∧ w'.cell? ⟨gb397, 2, none⟩ = some (.slice Ao61 t391.length co61) ∧ w'.cell? ⟨gb397, 3, none⟩ = some (.slice Ao62 t394.length co62) ∧ w'.cell? ⟨gb351, 0, none⟩ = some (.int .i64 a0_0) ∧ w'.cell? ⟨gb351, 1, none⟩ = some (.slice A0_1 l0_1.length c0_1) ∧ w'.cell? ⟨gb351, 2, none⟩ = some (.slice A0_2 l0_2.length c0_2) ∧ w'.cell? ⟨gb351, 3, none⟩ = some (.slice A0_3 l0_3.length c0_3)) (ds := []) #[false, false, false, false, false] (by kernel_rfl) rfl rfl ⟨(blk_cell BK397.out 0).trans rfl, (blk_cell BK397.out 1).trans rfl, (blk_cell BK397.out 2).trans rfl, (blk_cell BK397.out 3).trans rfl, (blk_cell BK351.out 0).trans rfl, (blk_cell BK351.out 1).trans rfl, (blk_cell BK351.out 2).trans rfl, (blk_cell BK351.out 3).trans rfl⟩ (fun hHeld => ?_)
        generalize wc.drew = w111 at HO_387001 HO_387002 HO_387003 HO_398001 HO_398002 HO_398003 HO_409001 HO_409002 HO_409003 HO_421001 HO_421002 HO_421003 BK351 BK352 BK386 BK397 BK408 BK420 HB hHeld ⊢
        refine take_ (i := 0) (N := some 54) (v := ?_) (a' := ?_) #[true, false, false, false, false] rfl rfl (by kernel_rfl) (fun _ _ _ h => h) (Or.inl ⟨by rfl, ?_⟩) hHeld ?_ ?_
        rotate_left
        ·rintro w' ⟨s0, s1, s2, s3, s4, s5, s6, s7⟩
         go_simp
         with_reducible rfl
        rotate_left
        ·simp only [Act.put, List.setIfInBounds_toArray, List.set_cons_zero, List.set_cons_succ, i64_w, i32_w]
         rfl
        refine take_ (i := 1) (N := some 55) (v := ?_) (a' := ?_) #[true, true, false, false, false] rfl rfl (by kernel_rfl) (fun _ _ _ h => h) (Or.inl ⟨by rfl, ?_⟩) hHeld ?_ ?_
        rotate_left
        ·rintro w' ⟨s0, s1, s2, s3, s4, s5, s6, s7⟩
         go_simp
         with_reducible rfl
        rotate_left
        ·simp only [Act.put, List.setIfInBounds_toArray, List.set_cons_zero, List.set_cons_succ, i64_w, i32_w]
         rfl
        refine one_ (i := 2) (N := some 56) #[true, true, true, false, false] rfl rfl (by kernel_rfl) (by decide) (fun K hK => ?_)
        refine goes_ Try.func36 (by kernel_rfl) rfl #[.agg #[.int .i64 a0_0, .slice A0_1 l0_1.length c0_1, .slice A0_2 l0_2.length c0_2, .slice A0_3 l0_3.length c0_3]] (by rfl) rfl rfl lm_ ?_
        with_reducible refine (laws_toRanked.calls kj24 a0_0 _ _ l0_1 _ _ l0_2 _ _ l0_3 t422 t423 t426 t429 _ ?side1 ?side2 ?side3 ?side4 ?side5 ?side6 A102.out).mono ?_
        (case side1 => exact lc_ (Kd.C_below HR0_1.out HB.out))
        (case side2 => exact HC0_1.out)
        (case side3 => exact lc_ (Kd.C_below HR0_2.out HB.out))
        (case side4 => exact HC0_2.out)
        (case side5 => exact lc_ (Kd.C_below HR0_3.out HB.out))
        (case side6 => exact HC0_3.out)
        rintro e w112 ⟨v424, v427, v430, rfl, ho0, ho1, ho2, hb⟩
        refine ⟨_, rfl, ?_⟩
        have HO425 := am_ (Kd.R_lower (nw_ (nw_ (nw_ (nw_ (nw_ (nw_ (nw_ (nw_ (nw_ (nw_ (nw_ (nw_ ho0 HO_387001) HO_387002) HO_387003) HO_398001) HO_398002) HO_398003) HO_409001) HO_409002) HO_409003) HO_421001) HO_421002) HO_421003) (below_size (lw_ HB))); have HO428 := am_ (Kd.R_lower (nw_ (nw_ (nw_ (nw_ (nw_ (nw_ (nw_ (nw_ (nw_ (nw_ (nw_ (nw_ ho1 HO_387001) HO_387002) HO_387003) HO_398001) HO_398002) HO_398003) HO_409001) HO_409002) HO_409003) HO_421001) HO_421002) HO_421003) (below_size (lw_ HB))); have HO431 := am_ (Kd.R_lower (nw_ (nw_ (nw_ (nw_ (nw_ (nw_ (nw_ (nw_ (nw_ (nw_ (nw_ (nw_ ho2 HO_387001) HO_387002) HO_387003) HO_398001) HO_398002) HO_398003) HO_409001) HO_409002) HO_409003) HO_421001) HO_421002) HO_421003) (below_size (lw_ HB))); replace HO_387001 := am_ (m1_ (td_ (td_ (td_ (Kd.R_old (lf_ HO_387001) hb) ho0) ho1) ho2)); replace HO_387002 := am_ (m1_ (td_ (td_ (td_ (Kd.R_old (lf_ HO_387002) hb) ho0) ho1) ho2)); replace HO_387003 := am_ (m1_ (td_ (td_ (td_ (Kd.R_old (lf_ HO_387003) hb) ho0) ho1) ho2)); replace HO_398001 := am_ (m1_ (td_ (td_ (td_ (Kd.R_old (lf_ HO_398001) hb) ho0) ho1) ho2)); replace HO_398002 := am_ (m1_ (td_ (td_ (td_ (Kd.R_old (lf_ HO_398002) hb) ho0) ho1) ho2)); replace HO_398003 := am_ (m1_ (td_ (td_ (td_ (Kd.R_old (lf_ HO_398003) hb) ho0) ho1) ho2)); replace HO_409001 := am_ (m1_ (td_ (td_ (td_ (Kd.R_old (lf_ HO_409001) hb) ho0) ho1) ho2)); replace HO_409002 := am_ (m1_ (td_ (td_ (td_ (Kd.R_old (lf_ HO_409002) hb) ho0) ho1) ho2)); replace HO_409003 := am_ (m1_ (td_ (td_ (td_ (Kd.R_old (lf_ HO_409003) hb) ho0) ho1) ho2)); replace HO_421001 := am_ (m1_ (td_ (td_ (td_ (Kd.R_old (lf_ HO_421001) hb) ho0) ho1) ho2)); replace HO_421002 := am_ (m1_ (td_ (td_ (td_ (Kd.R_old (lf_ HO_421002) hb) ho0) ho1) ho2)); replace HO_421003 := am_ (m1_ (td_ (td_ (td_ (Kd.R_old (lf_ HO_421003) hb) ho0) ho1) ho2)); replace BK351 := am_ (blk_below (g := gb351) (lb_ BK351) hb); replace BK352 := am_ (blk_below (g := gb352) (lb_ BK352) hb); replace BK386 := am_ (blk_below (g := gb386) (lb_ BK386) hb); replace BK397 := am_ (blk_below (g := gb397) (lb_ BK397) hb); replace BK408 := am_ (blk_below (g := gb408) (lb_ BK408) hb); replace BK420 := am_ (blk_below (g := gb420) (lb_ BK420) hb); replace HB := am_ (below_step (lw_ HB) hb)
        (try clear hb)
        (try clear hb2)
        (try clear hk)
        (try clear hi)
        (try clear ho0)
        (try clear ho1)
        (try clear ho2)
        obtain ⟨Ao113, co113, eo113⟩ := Kd.R_slice HO425.out
        (first | subst eo113 | (injection eo113 with f1_ f2_ f3_; have f4_ := f1_.symm; have f5_ := f3_.symm; clear f1_ f2_ f3_; subst f4_; subst f5_))
        obtain ⟨Ao114, co114, eo114⟩ := Kd.R_slice HO428.out
        (first | subst eo114 | (injection eo114 with f1_ f2_ f3_; have f4_ := f1_.symm; have f5_ := f3_.symm; clear f1_ f2_ f3_; subst f4_; subst f5_))
        obtain ⟨Ao115, co115, eo115⟩ := Kd.R_slice HO431.out
        (first | subst eo115 | (injection eo115 with f1_ f2_ f3_; have f4_ := f1_.symm; have f5_ := f3_.symm; clear f1_ f2_ f3_; subst f4_; subst f5_))
        refine hK.out _ _ ⟨(blk_cell BK397.out 0).trans rfl, (blk_cell BK397.out 1).trans rfl, (blk_cell BK397.out 2).trans rfl, (blk_cell BK397.out 3).trans rfl, (blk_cell BK351.out 0).trans rfl, (blk_cell BK351.out 1).trans rfl, (blk_cell BK351.out 2).trans rfl, (blk_cell BK351.out 3).trans rfl⟩ (fun hHeld => ?_)
        clear hK K
        refine norm_ (a' := ?_) ?_ ?_
        rotate_left
        ·show Act.put _ (some 56) _ = _
         simp only [Act.put, List.setIfInBounds_toArray, List.set_cons_zero, List.set_cons_succ, i64_w, i32_w]
         rfl
        refine one_ (i := 3) (N := some 57) #[true, true, true, true, false] rfl rfl (by kernel_rfl) (by decide) (fun K hK => ?_)
        refine goes_ Try.func38 (by kernel_rfl) rfl #[.agg #[.int .i64 t387, .slice Ao60 t388.length co60, .slice Ao61 t391.length co61, .slice Ao62 t394.length co62], .agg #[.int .i64 t422, .slice Ao113 t423.length co113, .slice Ao114 t426.length co114, .slice Ao115 t429.length co115]] (by rfl) rfl rfl lm_ ?_
        with_reducible refine (laws_eqRanked.calls kj24 t387 _ _ t388 _ _ t391 _ _ t394 t422 _ _ t423 _ _ t426 _ _ t429 true _ ?side1 ?side2 ?side3 ?side4 ?side5 ?side6 ?side7 ?side8 ?side9 ?side10 ?side11 ?side12 A103.out).mono ?_
        (case side1 => exact lc_ (Kd.R_reads' HO_398001.out).2.2)
        (case side2 => exact (Kd.R_reads' HO_398001.out).2.1)
        (case side3 => exact lc_ (Kd.R_reads' HO_398002.out).2.2)
        (case side4 => exact (Kd.R_reads' HO_398002.out).2.1)
        (case side5 => exact lc_ (Kd.R_reads' HO_398003.out).2.2)
        (case side6 => exact (Kd.R_reads' HO_398003.out).2.1)
        (case side7 => exact lc_ (Kd.R_reads' HO425.out).2.2)
        (case side8 => exact (Kd.R_reads' HO425.out).2.1)
        (case side9 => exact lc_ (Kd.R_reads' HO428.out).2.2)
        (case side10 => exact (Kd.R_reads' HO428.out).2.1)
        (case side11 => exact lc_ (Kd.R_reads' HO431.out).2.2)
        (case side12 => exact (Kd.R_reads' HO431.out).2.1)
        rintro e w116 ⟨rfl, hb⟩
        refine ⟨_, rfl, ?_⟩
        replace HO_387001 := am_ (Kd.R_below (lf_ HO_387001) hb); replace HO_387002 := am_ (Kd.R_below (lf_ HO_387002) hb); replace HO_387003 := am_ (Kd.R_below (lf_ HO_387003) hb); replace HO_398001 := am_ (Kd.R_below (lf_ HO_398001) hb); replace HO_398002 := am_ (Kd.R_below (lf_ HO_398002) hb); replace HO_398003 := am_ (Kd.R_below (lf_ HO_398003) hb); replace HO_409001 := am_ (Kd.R_below (lf_ HO_409001) hb); replace HO_409002 := am_ (Kd.R_below (lf_ HO_409002) hb); replace HO_409003 := am_ (Kd.R_below (lf_ HO_409003) hb); replace HO_421001 := am_ (Kd.R_below (lf_ HO_421001) hb); replace HO_421002 := am_ (Kd.R_below (lf_ HO_421002) hb); replace HO_421003 := am_ (Kd.R_below (lf_ HO_421003) hb); replace HO425 := am_ (Kd.R_below (lf_ HO425) hb); replace HO428 := am_ (Kd.R_below (lf_ HO428) hb); replace HO431 := am_ (Kd.R_below (lf_ HO431) hb); replace BK351 := am_ (blk_below (g := gb351) (lb_ BK351) hb); replace BK352 := am_ (blk_below (g := gb352) (lb_ BK352) hb); replace BK386 := am_ (blk_below (g := gb386) (lb_ BK386) hb); replace BK397 := am_ (blk_below (g := gb397) (lb_ BK397) hb); replace BK408 := am_ (blk_below (g := gb408) (lb_ BK408) hb); replace BK420 := am_ (blk_below (g := gb420) (lb_ BK420) hb); replace HB := am_ (below_step (lw_ HB) hb)
        (try clear hb)
        (try clear hb2)
        (try clear hk)
        (try clear hi)
        refine hK.out _ _ ⟨(blk_cell BK397.out 0).trans rfl, (blk_cell BK397.out 1).trans rfl, (blk_cell BK397.out 2).trans rfl, (blk_cell BK397.out 3).trans rfl, (blk_cell BK351.out 0).trans rfl, (blk_cell BK351.out 1).trans rfl, (blk_cell BK351.out 2).trans rfl, (blk_cell BK351.out 3).trans rfl⟩ (fun hHeld => ?_)
        clear hK K
        refine norm_ (a' := ?_) ?_ ?_
        rotate_left
        ·show Act.put _ (some 57) _ = _
         simp only [Act.put, List.setIfInBounds_toArray, List.set_cons_zero, List.set_cons_succ, i64_w, i32_w]
         rfl
        refine pure_ (i := 4) (N := some 58) (v := ?_) (a' := ?_) #[true, true, true, true, true] rfl rfl (by kernel_rfl) (fun _ _ _ h => h) (Or.inl ⟨by rfl, ?_⟩) ?_ ?_
        rotate_left
        ·intro w'
         go_simp
         with_reducible rfl
        rotate_left
        ·simp only [Act.put, List.setIfInBounds_toArray, List.set_cons_zero, List.set_cons_succ, i64_w, i32_w]
         rfl
        refine done_ (by kernel_rfl) ?_
        try go_wp2
        replace HO_387001 := am_ (Kd.R_drew HO_387001.out); replace HO_387002 := am_ (Kd.R_drew HO_387002.out); replace HO_387003 := am_ (Kd.R_drew HO_387003.out); replace HO_398001 := am_ (Kd.R_drew HO_398001.out); replace HO_398002 := am_ (Kd.R_drew HO_398002.out); replace HO_398003 := am_ (Kd.R_drew HO_398003.out); replace HO_409001 := am_ (Kd.R_drew HO_409001.out); replace HO_409002 := am_ (Kd.R_drew HO_409002.out); replace HO_409003 := am_ (Kd.R_drew HO_409003.out); replace HO_421001 := am_ (Kd.R_drew HO_421001.out); replace HO_421002 := am_ (Kd.R_drew HO_421002.out); replace HO_421003 := am_ (Kd.R_drew HO_421003.out); replace HO425 := am_ (Kd.R_drew HO425.out); replace HO428 := am_ (Kd.R_drew HO428.out); replace HO431 := am_ (Kd.R_drew HO431.out); replace BK351 := am_ (blk_drew BK351.out); replace BK352 := am_ (blk_drew BK352.out); replace BK386 := am_ (blk_drew BK386.out); replace BK397 := am_ (blk_drew BK397.out); replace BK408 := am_ (blk_drew BK408.out); replace BK420 := am_ (blk_drew BK420.out); replace HB := am_ (below_drew1 HB.out)
        refine start_ (n := 5) (S := fun w' => w'.cell? ⟨gb408, 0, none⟩ = some (.int .i64 t398) ∧ w'.cell? ⟨gb408, 1, none⟩ = some (.slice Ao72 t399.length co72) ∧ w'.cell? ⟨gb408, 2, none⟩ = some (.slice Ao73 t402.length co73) ∧ w'.cell? ⟨gb408, 3, none⟩ = some (.slice Ao74 t405.length co74) ∧ w'.cell? ⟨gb352, 0, none⟩ = some (.int .i64 a1_0) ∧ w'.cell? ⟨gb352, 1, none⟩ = some (.slice A1_1 l1_1.length c1_1) ∧ w'.cell? ⟨gb352, 2, none⟩ = some (.slice A1_2 l1_2.length c1_2) ∧ w'.cell? ⟨gb352, 3, none⟩ = some (.slice A1_3 l1_3.length c1_3)) (ds := []) #[false, false, false, false, false] (by kernel_rfl) rfl rfl ⟨(blk_cell BK408.out 0).trans rfl, (blk_cell BK408.out 1).trans rfl, (blk_cell BK408.out 2).trans rfl, (blk_cell BK408.out 3).trans rfl, (blk_cell BK352.out 0).trans rfl, (blk_cell BK352.out 1).trans rfl, (blk_cell BK352.out 2).trans rfl, (blk_cell BK352.out 3).trans rfl⟩ (fun hHeld => ?_)
        generalize w116.drew = w117 at HO_387001 HO_387002 HO_387003 HO_398001 HO_398002 HO_398003 HO_409001 HO_409002 HO_409003 HO_421001 HO_421002 HO_421003 HO425 HO428 HO431 BK351 BK352 BK386 BK397 BK408 BK420 HB hHeld ⊢
        refine take_ (i := 0) (N := some 59) (v := ?_) (a' := ?_) #[true, false, false, false, false] rfl rfl (by kernel_rfl) (fun _ _ _ h => h) (Or.inl ⟨by rfl, ?_⟩) hHeld ?_ ?_
        rotate_left
        ·rintro w' ⟨s0, s1, s2, s3, s4, s5, s6, s7⟩
         go_simp
         with_reducible rfl
        rotate_left
        ·simp only [Act.put, List.setIfInBounds_toArray, List.set_cons_zero, List.set_cons_succ, i64_w, i32_w]
         rfl
        refine take_ (i := 1) (N := some 60) (v := ?_) (a' := ?_) #[true, true, false, false, false] rfl rfl (by kernel_rfl) (fun _ _ _ h => h) (Or.inl ⟨by rfl, ?_⟩) hHeld ?_ ?_
        rotate_left
        ·rintro w' ⟨s0, s1, s2, s3, s4, s5, s6, s7⟩
         go_simp
         with_reducible rfl
        rotate_left
        ·simp only [Act.put, List.setIfInBounds_toArray, List.set_cons_zero, List.set_cons_succ, i64_w, i32_w]
         rfl
        refine one_ (i := 2) (N := some 61) #[true, true, true, false, false] rfl rfl (by kernel_rfl) (by decide) (fun K hK => ?_)
        refine goes_ Try.func36 (by kernel_rfl) rfl #[.agg #[.int .i64 a1_0, .slice A1_1 l1_1.length c1_1, .slice A1_2 l1_2.length c1_2, .slice A1_3 l1_3.length c1_3]] (by rfl) rfl rfl lm_ ?_
        with_reducible refine (laws_toRanked.calls kj24 a1_0 _ _ l1_1 _ _ l1_2 _ _ l1_3 t433 t434 t437 t440 _ ?side1 ?side2 ?side3 ?side4 ?side5 ?side6 A105.out).mono ?_
        (case side1 => exact lc_ (Kd.C_below HR1_1.out HB.out))
        (case side2 => exact HC1_1.out)
        (case side3 => exact lc_ (Kd.C_below HR1_2.out HB.out))
        (case side4 => exact HC1_2.out)
        (case side5 => exact lc_ (Kd.C_below HR1_3.out HB.out))
        (case side6 => exact HC1_3.out)
        rintro e w118 ⟨v435, v438, v441, rfl, ho0, ho1, ho2, hb⟩
        refine ⟨_, rfl, ?_⟩
        have HO436 := am_ (Kd.R_lower (nw_ (nw_ (nw_ (nw_ (nw_ (nw_ (nw_ (nw_ (nw_ (nw_ (nw_ (nw_ (nw_ (nw_ (nw_ ho0 HO_387001) HO_387002) HO_387003) HO_398001) HO_398002) HO_398003) HO_409001) HO_409002) HO_409003) HO_421001) HO_421002) HO_421003) HO425) HO428) HO431) (below_size (lw_ HB))); have HO439 := am_ (Kd.R_lower (nw_ (nw_ (nw_ (nw_ (nw_ (nw_ (nw_ (nw_ (nw_ (nw_ (nw_ (nw_ (nw_ (nw_ (nw_ ho1 HO_387001) HO_387002) HO_387003) HO_398001) HO_398002) HO_398003) HO_409001) HO_409002) HO_409003) HO_421001) HO_421002) HO_421003) HO425) HO428) HO431) (below_size (lw_ HB))); have HO442 := am_ (Kd.R_lower (nw_ (nw_ (nw_ (nw_ (nw_ (nw_ (nw_ (nw_ (nw_ (nw_ (nw_ (nw_ (nw_ (nw_ (nw_ ho2 HO_387001) HO_387002) HO_387003) HO_398001) HO_398002) HO_398003) HO_409001) HO_409002) HO_409003) HO_421001) HO_421002) HO_421003) HO425) HO428) HO431) (below_size (lw_ HB))); replace HO_387001 := am_ (m1_ (td_ (td_ (td_ (Kd.R_old (lf_ HO_387001) hb) ho0) ho1) ho2)); replace HO_387002 := am_ (m1_ (td_ (td_ (td_ (Kd.R_old (lf_ HO_387002) hb) ho0) ho1) ho2)); replace HO_387003 := am_ (m1_ (td_ (td_ (td_ (Kd.R_old (lf_ HO_387003) hb) ho0) ho1) ho2)); replace HO_398001 := am_ (m1_ (td_ (td_ (td_ (Kd.R_old (lf_ HO_398001) hb) ho0) ho1) ho2)); replace HO_398002 := am_ (m1_ (td_ (td_ (td_ (Kd.R_old (lf_ HO_398002) hb) ho0) ho1) ho2)); replace HO_398003 := am_ (m1_ (td_ (td_ (td_ (Kd.R_old (lf_ HO_398003) hb) ho0) ho1) ho2)); replace HO_409001 := am_ (m1_ (td_ (td_ (td_ (Kd.R_old (lf_ HO_409001) hb) ho0) ho1) ho2)); replace HO_409002 := am_ (m1_ (td_ (td_ (td_ (Kd.R_old (lf_ HO_409002) hb) ho0) ho1) ho2)); replace HO_409003 := am_ (m1_ (td_ (td_ (td_ (Kd.R_old (lf_ HO_409003) hb) ho0) ho1) ho2)); replace HO_421001 := am_ (m1_ (td_ (td_ (td_ (Kd.R_old (lf_ HO_421001) hb) ho0) ho1) ho2)); replace HO_421002 := am_ (m1_ (td_ (td_ (td_ (Kd.R_old (lf_ HO_421002) hb) ho0) ho1) ho2)); replace HO_421003 := am_ (m1_ (td_ (td_ (td_ (Kd.R_old (lf_ HO_421003) hb) ho0) ho1) ho2)); replace HO425 := am_ (m1_ (td_ (td_ (td_ (Kd.R_old (lf_ HO425) hb) ho0) ho1) ho2)); replace HO428 := am_ (m1_ (td_ (td_ (td_ (Kd.R_old (lf_ HO428) hb) ho0) ho1) ho2)); replace HO431 := am_ (m1_ (td_ (td_ (td_ (Kd.R_old (lf_ HO431) hb) ho0) ho1) ho2)); replace BK351 := am_ (blk_below (g := gb351) (lb_ BK351) hb); replace BK352 := am_ (blk_below (g := gb352) (lb_ BK352) hb); replace BK386 := am_ (blk_below (g := gb386) (lb_ BK386) hb); replace BK397 := am_ (blk_below (g := gb397) (lb_ BK397) hb); replace BK408 := am_ (blk_below (g := gb408) (lb_ BK408) hb); replace BK420 := am_ (blk_below (g := gb420) (lb_ BK420) hb); replace HB := am_ (below_step (lw_ HB) hb)
        (try clear hb)
        (try clear hb2)
        (try clear hk)
        (try clear hi)
        (try clear ho0)
        (try clear ho1)
        (try clear ho2)
        obtain ⟨Ao119, co119, eo119⟩ := Kd.R_slice HO436.out
        (first | subst eo119 | (injection eo119 with f1_ f2_ f3_; have f4_ := f1_.symm; have f5_ := f3_.symm; clear f1_ f2_ f3_; subst f4_; subst f5_))
        obtain ⟨Ao120, co120, eo120⟩ := Kd.R_slice HO439.out
        (first | subst eo120 | (injection eo120 with f1_ f2_ f3_; have f4_ := f1_.symm; have f5_ := f3_.symm; clear f1_ f2_ f3_; subst f4_; subst f5_))
        obtain ⟨Ao121, co121, eo121⟩ := Kd.R_slice HO442.out
        (first | subst eo121 | (injection eo121 with f1_ f2_ f3_; have f4_ := f1_.symm; have f5_ := f3_.symm; clear f1_ f2_ f3_; subst f4_; subst f5_))
        refine hK.out _ _ ⟨(blk_cell BK408.out 0).trans rfl, (blk_cell BK408.out 1).trans rfl, (blk_cell BK408.out 2).trans rfl, (blk_cell BK408.out 3).trans rfl, (blk_cell BK352.out 0).trans rfl, (blk_cell BK352.out 1).trans rfl, (blk_cell BK352.out 2).trans rfl, (blk_cell BK352.out 3).trans rfl⟩ (fun hHeld => ?_)
        clear hK K
        refine norm_ (a' := ?_) ?_ ?_
        rotate_left
        ·show Act.put _ (some 61) _ = _
         simp only [Act.put, List.setIfInBounds_toArray, List.set_cons_zero, List.set_cons_succ, i64_w, i32_w]
         rfl
        refine one_ (i := 3) (N := some 62) #[true, true, true, true, false] rfl rfl (by kernel_rfl) (by decide) (fun K hK => ?_)
        refine goes_ Try.func38 (by kernel_rfl) rfl #[.agg #[.int .i64 t398, .slice Ao72 t399.length co72, .slice Ao73 t402.length co73, .slice Ao74 t405.length co74], .agg #[.int .i64 t433, .slice Ao119 t434.length co119, .slice Ao120 t437.length co120, .slice Ao121 t440.length co121]] (by rfl) rfl rfl lm_ ?_
        with_reducible refine (laws_eqRanked.calls kj24 t398 _ _ t399 _ _ t402 _ _ t405 t433 _ _ t434 _ _ t437 _ _ t440 true _ ?side1 ?side2 ?side3 ?side4 ?side5 ?side6 ?side7 ?side8 ?side9 ?side10 ?side11 ?side12 A106.out).mono ?_
        (case side1 => exact lc_ (Kd.R_reads' HO_409001.out).2.2)
        (case side2 => exact (Kd.R_reads' HO_409001.out).2.1)
        (case side3 => exact lc_ (Kd.R_reads' HO_409002.out).2.2)
        (case side4 => exact (Kd.R_reads' HO_409002.out).2.1)
        (case side5 => exact lc_ (Kd.R_reads' HO_409003.out).2.2)
        (case side6 => exact (Kd.R_reads' HO_409003.out).2.1)
        (case side7 => exact lc_ (Kd.R_reads' HO436.out).2.2)
        (case side8 => exact (Kd.R_reads' HO436.out).2.1)
        (case side9 => exact lc_ (Kd.R_reads' HO439.out).2.2)
        (case side10 => exact (Kd.R_reads' HO439.out).2.1)
        (case side11 => exact lc_ (Kd.R_reads' HO442.out).2.2)
        (case side12 => exact (Kd.R_reads' HO442.out).2.1)
        rintro e w122 ⟨rfl, hb⟩
        refine ⟨_, rfl, ?_⟩
        replace HO_387001 := am_ (Kd.R_below (lf_ HO_387001) hb); replace HO_387002 := am_ (Kd.R_below (lf_ HO_387002) hb); replace HO_387003 := am_ (Kd.R_below (lf_ HO_387003) hb); replace HO_398001 := am_ (Kd.R_below (lf_ HO_398001) hb); replace HO_398002 := am_ (Kd.R_below (lf_ HO_398002) hb); replace HO_398003 := am_ (Kd.R_below (lf_ HO_398003) hb); replace HO_409001 := am_ (Kd.R_below (lf_ HO_409001) hb); replace HO_409002 := am_ (Kd.R_below (lf_ HO_409002) hb); replace HO_409003 := am_ (Kd.R_below (lf_ HO_409003) hb); replace HO_421001 := am_ (Kd.R_below (lf_ HO_421001) hb); replace HO_421002 := am_ (Kd.R_below (lf_ HO_421002) hb); replace HO_421003 := am_ (Kd.R_below (lf_ HO_421003) hb); replace HO425 := am_ (Kd.R_below (lf_ HO425) hb); replace HO428 := am_ (Kd.R_below (lf_ HO428) hb); replace HO431 := am_ (Kd.R_below (lf_ HO431) hb); replace HO436 := am_ (Kd.R_below (lf_ HO436) hb); replace HO439 := am_ (Kd.R_below (lf_ HO439) hb); replace HO442 := am_ (Kd.R_below (lf_ HO442) hb); replace BK351 := am_ (blk_below (g := gb351) (lb_ BK351) hb); replace BK352 := am_ (blk_below (g := gb352) (lb_ BK352) hb); replace BK386 := am_ (blk_below (g := gb386) (lb_ BK386) hb); replace BK397 := am_ (blk_below (g := gb397) (lb_ BK397) hb); replace BK408 := am_ (blk_below (g := gb408) (lb_ BK408) hb); replace BK420 := am_ (blk_below (g := gb420) (lb_ BK420) hb); replace HB := am_ (below_step (lw_ HB) hb)
        (try clear hb)
        (try clear hb2)
        (try clear hk)
        (try clear hi)
        refine hK.out _ _ ⟨(blk_cell BK408.out 0).trans rfl, (blk_cell BK408.out 1).trans rfl, (blk_cell BK408.out 2).trans rfl, (blk_cell BK408.out 3).trans rfl, (blk_cell BK352.out 0).trans rfl, (blk_cell BK352.out 1).trans rfl, (blk_cell BK352.out 2).trans rfl, (blk_cell BK352.out 3).trans rfl⟩ (fun hHeld => ?_)
        clear hK K
        refine norm_ (a' := ?_) ?_ ?_
        rotate_left
        ·show Act.put _ (some 62) _ = _
         simp only [Act.put, List.setIfInBounds_toArray, List.set_cons_zero, List.set_cons_succ, i64_w, i32_w]
         rfl
        refine pure_ (i := 4) (N := some 63) (v := ?_) (a' := ?_) #[true, true, true, true, true] rfl rfl (by kernel_rfl) (fun _ _ _ h => h) (Or.inl ⟨by rfl, ?_⟩) ?_ ?_
        rotate_left
        ·intro w'
         go_simp
         with_reducible rfl
        rotate_left
        ·simp only [Act.put, List.setIfInBounds_toArray, List.set_cons_zero, List.set_cons_succ, i64_w, i32_w]
         rfl
        refine done_ (by kernel_rfl) ?_
        have hnb123 := NB397_351.out
        have hnc123 := NB351_397.out
        have hnb124 := NB397_352.out
        have hnc124 := NB352_397.out
        have hnb125 := NB397_386.out
        have hnc125 := NB386_397.out
        have hnb126 := NB397_408.out
        have hnc126 := NB408_397.out
        have hnb127 := NB397_420.out
        have hnc127 := NB420_397.out
        obtain ⟨hcz128_0, hcz128_1, hcz128_2, hcz128_3, hfz128_0, hfz128_1, hfz128_2, hfz128_3⟩ := bx4_ BK397.out
        go_upto_region 21 with (first | ((with_reducible refine gate_callee (f := 39) rfl ?_); refine goesL_ (some 66) rfl rfl Try.func39 (by kernel_rfl) rfl #[.agg #[.int .i64 t387, .slice Ao60 t388.length co60, .slice Ao61 t391.length co61, .slice Ao62 t394.length co62], .int .i64 1] rfl lm_ ?_; (with_reducible refine (laws_markRanked.calls kj24 t387 (fun k_ => some k_ = (.slice Ao60 t388.length co60 : Value).ownBlock) (.slice Ao60 t388.length co60) t388 (fun k_ => some k_ = (.slice Ao61 t391.length co61 : Value).ownBlock) (.slice Ao61 t391.length co61) t391 (fun k_ => some k_ = (.slice Ao62 t394.length co62 : Value).ownBlock) (.slice Ao62 t394.length co62) t394 1 t444 t445 t446 t447 w _ ?side1 ?side2 ?side3 ?side4 ?side5 ?side6 ?side7 ?side8 ?side9 ?side10 A108.out).mono ?_); (case side1 => exact lw_ HB); (case side2 => exact Kd.R_tight rfl HO_398001.out); (case side3 => exact fun k_ e_ => (HO_398001.out.1 k_ e_.symm).1.1.1.1.1.1.2.2.2.1); (case side4 => exact fun k_ e_ => (HO_398001.out.1 k_ e_.symm).1.1.1.1.1.1.2.2.2.2.1); (case side5 => exact Kd.R_tight rfl HO_398002.out); (case side6 => exact fun k_ e_ => (HO_398002.out.1 k_ e_.symm).1.1.1.1.1.1.2.2.2.1); (case side7 => exact fun k_ e_ => (HO_398002.out.1 k_ e_.symm).1.1.1.1.1.1.2.2.2.2.1); (case side8 => exact Kd.R_tight rfl HO_398003.out); (case side9 => exact fun k_ e_ => (HO_398003.out.1 k_ e_.symm).1.1.1.1.1.1.2.2.2.1); (case side10 => exact fun k_ e_ => (HO_398003.out.1 k_ e_.symm).1.1.1.1.1.1.2.2.2.2.1); rintro e w129 ⟨rfl, hy0, hy1, hy2, hb, hkp⟩; refine ⟨_, rfl, ?_⟩; replace HO_387001 := am_ (lj_ (ok' := fun k_ => ns_ k_ Ao48 t379 co48 ∧ ns_ k_ Ao50 t382 co50 ∧ ns_ k_ Ao60 t388 co60 ∧ ns_ k_ Ao61 t391 co61 ∧ ns_ k_ Ao62 t394 co62 ∧ ns_ k_ Ao72 t399 co72 ∧ ns_ k_ Ao73 t402 co73 ∧ ns_ k_ Ao74 t405 co74 ∧ ns_ k_ Ao84 t410 co84 ∧ ns_ k_ Ao85 t413 co85 ∧ ns_ k_ Ao86 t416 co86 ∧ ns_ k_ Ao113 t423 co113 ∧ ns_ k_ Ao114 t426 co114 ∧ ns_ k_ Ao115 t429 co115 ∧ ns_ k_ Ao119 t434 co119 ∧ ns_ k_ Ao120 t437 co120 ∧ ns_ k_ Ao121 t440 co121) (Kd.R_keptB (HO_387001.out) hkp (fun k_ hk_ hs_ => Or.elim hs_ (fun e_ => (hk_.1.1.1.1.1.1.2.2.1) e_) (fun e_ => Or.elim e_ (fun e_ => (hk_.1.1.1.1.1.1.2.2.2.1) e_) (fun e_ => (hk_.1.1.1.1.1.1.2.2.2.2.1) e_))))); replace HO_387002 := am_ (lj_ (ok' := fun k_ => ns_ k_ Ao46 t376 co46 ∧ ns_ k_ Ao50 t382 co50 ∧ ns_ k_ Ao60 t388 co60 ∧ ns_ k_ Ao61 t391 co61 ∧ ns_ k_ Ao62 t394 co62 ∧ ns_ k_ Ao72 t399 co72 ∧ ns_ k_ Ao73 t402 co73 ∧ ns_ k_ Ao74 t405 co74 ∧ ns_ k_ Ao84 t410 co84 ∧ ns_ k_ Ao85 t413 co85 ∧ ns_ k_ Ao86 t416 co86 ∧ ns_ k_ Ao113 t423 co113 ∧ ns_ k_ Ao114 t426 co114 ∧ ns_ k_ Ao115 t429 co115 ∧ ns_ k_ Ao119 t434 co119 ∧ ns_ k_ Ao120 t437 co120 ∧ ns_ k_ Ao121 t440 co121) (Kd.R_keptB (HO_387002.out) hkp (fun k_ hk_ hs_ => Or.elim hs_ (fun e_ => (hk_.1.1.1.1.1.1.2.2.1) e_) (fun e_ => Or.elim e_ (fun e_ => (hk_.1.1.1.1.1.1.2.2.2.1) e_) (fun e_ => (hk_.1.1.1.1.1.1.2.2.2.2.1) e_))))); replace HO_387003 := am_ (lj_ (ok' := fun k_ => ns_ k_ Ao46 t376 co46 ∧ ns_ k_ Ao48 t379 co48 ∧ ns_ k_ Ao60 t388 co60 ∧ ns_ k_ Ao61 t391 co61 ∧ ns_ k_ Ao62 t394 co62 ∧ ns_ k_ Ao72 t399 co72 ∧ ns_ k_ Ao73 t402 co73 ∧ ns_ k_ Ao74 t405 co74 ∧ ns_ k_ Ao84 t410 co84 ∧ ns_ k_ Ao85 t413 co85 ∧ ns_ k_ Ao86 t416 co86 ∧ ns_ k_ Ao113 t423 co113 ∧ ns_ k_ Ao114 t426 co114 ∧ ns_ k_ Ao115 t429 co115 ∧ ns_ k_ Ao119 t434 co119 ∧ ns_ k_ Ao120 t437 co120 ∧ ns_ k_ Ao121 t440 co121) (Kd.R_keptB (HO_387003.out) hkp (fun k_ hk_ hs_ => Or.elim hs_ (fun e_ => (hk_.1.1.1.1.1.1.2.2.1) e_) (fun e_ => Or.elim e_ (fun e_ => (hk_.1.1.1.1.1.1.2.2.2.1) e_) (fun e_ => (hk_.1.1.1.1.1.1.2.2.2.2.1) e_))))); replace HO_409001 := am_ (lj_ (ok' := fun k_ => ns_ k_ Ao46 t376 co46 ∧ ns_ k_ Ao48 t379 co48 ∧ ns_ k_ Ao50 t382 co50 ∧ ns_ k_ Ao60 t388 co60 ∧ ns_ k_ Ao61 t391 co61 ∧ ns_ k_ Ao62 t394 co62 ∧ ns_ k_ Ao73 t402 co73 ∧ ns_ k_ Ao74 t405 co74 ∧ ns_ k_ Ao84 t410 co84 ∧ ns_ k_ Ao85 t413 co85 ∧ ns_ k_ Ao86 t416 co86 ∧ ns_ k_ Ao113 t423 co113 ∧ ns_ k_ Ao114 t426 co114 ∧ ns_ k_ Ao115 t429 co115 ∧ ns_ k_ Ao119 t434 co119 ∧ ns_ k_ Ao120 t437 co120 ∧ ns_ k_ Ao121 t440 co121) (Kd.R_keptB (HO_409001.out) hkp (fun k_ hk_ hs_ => Or.elim hs_ (fun e_ => (hk_.1.1.1.1.1.1.2.2.2.1) e_) (fun e_ => Or.elim e_ (fun e_ => (hk_.1.1.1.1.1.1.2.2.2.2.1) e_) (fun e_ => (hk_.1.1.1.1.1.1.2.2.2.2.2.1) e_))))); replace HO_409002 := am_ (lj_ (ok' := fun k_ => ns_ k_ Ao46 t376 co46 ∧ ns_ k_ Ao48 t379 co48 ∧ ns_ k_ Ao50 t382 co50 ∧ ns_ k_ Ao60 t388 co60 ∧ ns_ k_ Ao61 t391 co61 ∧ ns_ k_ Ao62 t394 co62 ∧ ns_ k_ Ao72 t399 co72 ∧ ns_ k_ Ao74 t405 co74 ∧ ns_ k_ Ao84 t410 co84 ∧ ns_ k_ Ao85 t413 co85 ∧ ns_ k_ Ao86 t416 co86 ∧ ns_ k_ Ao113 t423 co113 ∧ ns_ k_ Ao114 t426 co114 ∧ ns_ k_ Ao115 t429 co115 ∧ ns_ k_ Ao119 t434 co119 ∧ ns_ k_ Ao120 t437 co120 ∧ ns_ k_ Ao121 t440 co121) (Kd.R_keptB (HO_409002.out) hkp (fun k_ hk_ hs_ => Or.elim hs_ (fun e_ => (hk_.1.1.1.1.1.1.2.2.2.1) e_) (fun e_ => Or.elim e_ (fun e_ => (hk_.1.1.1.1.1.1.2.2.2.2.1) e_) (fun e_ => (hk_.1.1.1.1.1.1.2.2.2.2.2.1) e_))))); replace HO_409003 := am_ (lj_ (ok' := fun k_ => ns_ k_ Ao46 t376 co46 ∧ ns_ k_ Ao48 t379 co48 ∧ ns_ k_ Ao50 t382 co50 ∧ ns_ k_ Ao60 t388 co60 ∧ ns_ k_ Ao61 t391 co61 ∧ ns_ k_ Ao62 t394 co62 ∧ ns_ k_ Ao72 t399 co72 ∧ ns_ k_ Ao73 t402 co73 ∧ ns_ k_ Ao84 t410 co84 ∧ ns_ k_ Ao85 t413 co85 ∧ ns_ k_ Ao86 t416 co86 ∧ ns_ k_ Ao113 t423 co113 ∧ ns_ k_ Ao114 t426 co114 ∧ ns_ k_ Ao115 t429 co115 ∧ ns_ k_ Ao119 t434 co119 ∧ ns_ k_ Ao120 t437 co120 ∧ ns_ k_ Ao121 t440 co121) (Kd.R_keptB (HO_409003.out) hkp (fun k_ hk_ hs_ => Or.elim hs_ (fun e_ => (hk_.1.1.1.1.1.1.2.2.2.1) e_) (fun e_ => Or.elim e_ (fun e_ => (hk_.1.1.1.1.1.1.2.2.2.2.1) e_) (fun e_ => (hk_.1.1.1.1.1.1.2.2.2.2.2.1) e_))))); replace HO_421001 := am_ (lj_ (ok' := fun k_ => ns_ k_ Ao46 t376 co46 ∧ ns_ k_ Ao48 t379 co48 ∧ ns_ k_ Ao50 t382 co50 ∧ ns_ k_ Ao60 t388 co60 ∧ ns_ k_ Ao61 t391 co61 ∧ ns_ k_ Ao62 t394 co62 ∧ ns_ k_ Ao72 t399 co72 ∧ ns_ k_ Ao73 t402 co73 ∧ ns_ k_ Ao74 t405 co74 ∧ ns_ k_ Ao85 t413 co85 ∧ ns_ k_ Ao86 t416 co86 ∧ ns_ k_ Ao113 t423 co113 ∧ ns_ k_ Ao114 t426 co114 ∧ ns_ k_ Ao115 t429 co115 ∧ ns_ k_ Ao119 t434 co119 ∧ ns_ k_ Ao120 t437 co120 ∧ ns_ k_ Ao121 t440 co121) (Kd.R_keptB (HO_421001.out) hkp (fun k_ hk_ hs_ => Or.elim hs_ (fun e_ => (hk_.1.1.1.1.1.1.2.2.2.1) e_) (fun e_ => Or.elim e_ (fun e_ => (hk_.1.1.1.1.1.1.2.2.2.2.1) e_) (fun e_ => (hk_.1.1.1.1.1.1.2.2.2.2.2.1) e_))))); replace HO_421002 := am_ (lj_ (ok' := fun k_ => ns_ k_ Ao46 t376 co46 ∧ ns_ k_ Ao48 t379 co48 ∧ ns_ k_ Ao50 t382 co50 ∧ ns_ k_ Ao60 t388 co60 ∧ ns_ k_ Ao61 t391 co61 ∧ ns_ k_ Ao62 t394 co62 ∧ ns_ k_ Ao72 t399 co72 ∧ ns_ k_ Ao73 t402 co73 ∧ ns_ k_ Ao74 t405 co74 ∧ ns_ k_ Ao84 t410 co84 ∧ ns_ k_ Ao86 t416 co86 ∧ ns_ k_ Ao113 t423 co113 ∧ ns_ k_ Ao114 t426 co114 ∧ ns_ k_ Ao115 t429 co115 ∧ ns_ k_ Ao119 t434 co119 ∧ ns_ k_ Ao120 t437 co120 ∧ ns_ k_ Ao121 t440 co121) (Kd.R_keptB (HO_421002.out) hkp (fun k_ hk_ hs_ => Or.elim hs_ (fun e_ => (hk_.1.1.1.1.1.1.2.2.2.1) e_) (fun e_ => Or.elim e_ (fun e_ => (hk_.1.1.1.1.1.1.2.2.2.2.1) e_) (fun e_ => (hk_.1.1.1.1.1.1.2.2.2.2.2.1) e_))))); replace HO_421003 := am_ (lj_ (ok' := fun k_ => ns_ k_ Ao46 t376 co46 ∧ ns_ k_ Ao48 t379 co48 ∧ ns_ k_ Ao50 t382 co50 ∧ ns_ k_ Ao60 t388 co60 ∧ ns_ k_ Ao61 t391 co61 ∧ ns_ k_ Ao62 t394 co62 ∧ ns_ k_ Ao72 t399 co72 ∧ ns_ k_ Ao73 t402 co73 ∧ ns_ k_ Ao74 t405 co74 ∧ ns_ k_ Ao84 t410 co84 ∧ ns_ k_ Ao85 t413 co85 ∧ ns_ k_ Ao113 t423 co113 ∧ ns_ k_ Ao114 t426 co114 ∧ ns_ k_ Ao115 t429 co115 ∧ ns_ k_ Ao119 t434 co119 ∧ ns_ k_ Ao120 t437 co120 ∧ ns_ k_ Ao121 t440 co121) (Kd.R_keptB (HO_421003.out) hkp (fun k_ hk_ hs_ => Or.elim hs_ (fun e_ => (hk_.1.1.1.1.1.1.2.2.2.1) e_) (fun e_ => Or.elim e_ (fun e_ => (hk_.1.1.1.1.1.1.2.2.2.2.1) e_) (fun e_ => (hk_.1.1.1.1.1.1.2.2.2.2.2.1) e_))))); replace BK351 := am_ (blk_kept (lb_ BK351) hkp (fun hs_ => Or.elim hs_ (fun e_ => (fun e_ => (Kd.R_ne HO_398001.out BK351.out (by decide)) e_) e_) (fun e_ => Or.elim e_ (fun e_ => (fun e_ => (Kd.R_ne HO_398002.out BK351.out (by decide)) e_) e_) (fun e_ => (fun e_ => (Kd.R_ne HO_398003.out BK351.out (by decide)) e_) e_)))); replace BK352 := am_ (blk_kept (lb_ BK352) hkp (fun hs_ => Or.elim hs_ (fun e_ => (fun e_ => (Kd.R_ne HO_398001.out BK352.out (by decide)) e_) e_) (fun e_ => Or.elim e_ (fun e_ => (fun e_ => (Kd.R_ne HO_398002.out BK352.out (by decide)) e_) e_) (fun e_ => (fun e_ => (Kd.R_ne HO_398003.out BK352.out (by decide)) e_) e_)))); replace BK386 := am_ (blk_kept (lb_ BK386) hkp (fun hs_ => Or.elim hs_ (fun e_ => (fun e_ => (Kd.R_ne HO_398001.out BK386.out (by decide)) e_) e_) (fun e_ => Or.elim e_ (fun e_ => (fun e_ => (Kd.R_ne HO_398002.out BK386.out (by decide)) e_) e_) (fun e_ => (fun e_ => (Kd.R_ne HO_398003.out BK386.out (by decide)) e_) e_)))); replace BK397 := am_ (blk_kept (lb_ BK397) hkp (fun hs_ => Or.elim hs_ (fun e_ => (fun e_ => (Kd.R_ne HO_398001.out BK397.out (by decide)) e_) e_) (fun e_ => Or.elim e_ (fun e_ => (fun e_ => (Kd.R_ne HO_398002.out BK397.out (by decide)) e_) e_) (fun e_ => (fun e_ => (Kd.R_ne HO_398003.out BK397.out (by decide)) e_) e_)))); replace BK408 := am_ (blk_kept (lb_ BK408) hkp (fun hs_ => Or.elim hs_ (fun e_ => (fun e_ => (Kd.R_ne HO_398001.out BK408.out (by decide)) e_) e_) (fun e_ => Or.elim e_ (fun e_ => (fun e_ => (Kd.R_ne HO_398002.out BK408.out (by decide)) e_) e_) (fun e_ => (fun e_ => (Kd.R_ne HO_398003.out BK408.out (by decide)) e_) e_)))); replace BK420 := am_ (blk_kept (lb_ BK420) hkp (fun hs_ => Or.elim hs_ (fun e_ => (fun e_ => (Kd.R_ne HO_398001.out BK420.out (by decide)) e_) e_) (fun e_ => Or.elim e_ (fun e_ => (fun e_ => (Kd.R_ne HO_398002.out BK420.out (by decide)) e_) e_) (fun e_ => (fun e_ => (Kd.R_ne HO_398003.out BK420.out (by decide)) e_) e_)))); replace HO_398001 := am_ (Kd.R_reok rfl hy0 (fun k_ e_ => HO_398001.out.1 k_ e_)); replace HO_398002 := am_ (Kd.R_reok rfl hy1 (fun k_ e_ => HO_398002.out.1 k_ e_)); replace HO_398003 := am_ (Kd.R_reok rfl hy2 (fun k_ e_ => HO_398003.out.1 k_ e_)); replace HO425 := am_ (lj_ (ok' := fun k_ => ns_ k_ Ao46 t376 co46 ∧ ns_ k_ Ao48 t379 co48 ∧ ns_ k_ Ao50 t382 co50 ∧ ns_ k_ Ao60 t388 co60 ∧ ns_ k_ Ao61 t391 co61 ∧ ns_ k_ Ao62 t394 co62 ∧ ns_ k_ Ao72 t399 co72 ∧ ns_ k_ Ao73 t402 co73 ∧ ns_ k_ Ao74 t405 co74 ∧ ns_ k_ Ao84 t410 co84 ∧ ns_ k_ Ao85 t413 co85 ∧ ns_ k_ Ao86 t416 co86 ∧ ns_ k_ Ao114 t426 co114 ∧ ns_ k_ Ao115 t429 co115 ∧ ns_ k_ Ao119 t434 co119 ∧ ns_ k_ Ao120 t437 co120 ∧ ns_ k_ Ao121 t440 co121) (Kd.R_keptB (HO425.out) hkp (fun k_ hk_ hs_ => Or.elim hs_ (fun e_ => (hk_.1.1.1.1.1.1.1.1.1.1.1.2) e_) (fun e_ => Or.elim e_ (fun e_ => (hk_.1.1.1.1.1.1.1.1.1.1.2) e_) (fun e_ => (hk_.1.1.1.1.1.1.1.1.1.2) e_))))); replace HO428 := am_ (lj_ (ok' := fun k_ => ns_ k_ Ao46 t376 co46 ∧ ns_ k_ Ao48 t379 co48 ∧ ns_ k_ Ao50 t382 co50 ∧ ns_ k_ Ao60 t388 co60 ∧ ns_ k_ Ao61 t391 co61 ∧ ns_ k_ Ao62 t394 co62 ∧ ns_ k_ Ao72 t399 co72 ∧ ns_ k_ Ao73 t402 co73 ∧ ns_ k_ Ao74 t405 co74 ∧ ns_ k_ Ao84 t410 co84 ∧ ns_ k_ Ao85 t413 co85 ∧ ns_ k_ Ao86 t416 co86 ∧ ns_ k_ Ao113 t423 co113 ∧ ns_ k_ Ao115 t429 co115 ∧ ns_ k_ Ao119 t434 co119 ∧ ns_ k_ Ao120 t437 co120 ∧ ns_ k_ Ao121 t440 co121) (Kd.R_keptB (HO428.out) hkp (fun k_ hk_ hs_ => Or.elim hs_ (fun e_ => (hk_.1.1.1.1.1.1.1.1.1.1.1.2) e_) (fun e_ => Or.elim e_ (fun e_ => (hk_.1.1.1.1.1.1.1.1.1.1.2) e_) (fun e_ => (hk_.1.1.1.1.1.1.1.1.1.2) e_))))); replace HO431 := am_ (lj_ (ok' := fun k_ => ns_ k_ Ao46 t376 co46 ∧ ns_ k_ Ao48 t379 co48 ∧ ns_ k_ Ao50 t382 co50 ∧ ns_ k_ Ao60 t388 co60 ∧ ns_ k_ Ao61 t391 co61 ∧ ns_ k_ Ao62 t394 co62 ∧ ns_ k_ Ao72 t399 co72 ∧ ns_ k_ Ao73 t402 co73 ∧ ns_ k_ Ao74 t405 co74 ∧ ns_ k_ Ao84 t410 co84 ∧ ns_ k_ Ao85 t413 co85 ∧ ns_ k_ Ao86 t416 co86 ∧ ns_ k_ Ao113 t423 co113 ∧ ns_ k_ Ao114 t426 co114 ∧ ns_ k_ Ao119 t434 co119 ∧ ns_ k_ Ao120 t437 co120 ∧ ns_ k_ Ao121 t440 co121) (Kd.R_keptB (HO431.out) hkp (fun k_ hk_ hs_ => Or.elim hs_ (fun e_ => (hk_.1.1.1.1.1.1.1.1.1.1.1.2) e_) (fun e_ => Or.elim e_ (fun e_ => (hk_.1.1.1.1.1.1.1.1.1.1.2) e_) (fun e_ => (hk_.1.1.1.1.1.1.1.1.1.2) e_))))); replace HO436 := am_ (lj_ (ok' := fun k_ => ns_ k_ Ao46 t376 co46 ∧ ns_ k_ Ao48 t379 co48 ∧ ns_ k_ Ao50 t382 co50 ∧ ns_ k_ Ao60 t388 co60 ∧ ns_ k_ Ao61 t391 co61 ∧ ns_ k_ Ao62 t394 co62 ∧ ns_ k_ Ao72 t399 co72 ∧ ns_ k_ Ao73 t402 co73 ∧ ns_ k_ Ao74 t405 co74 ∧ ns_ k_ Ao84 t410 co84 ∧ ns_ k_ Ao85 t413 co85 ∧ ns_ k_ Ao86 t416 co86 ∧ ns_ k_ Ao113 t423 co113 ∧ ns_ k_ Ao114 t426 co114 ∧ ns_ k_ Ao115 t429 co115 ∧ ns_ k_ Ao120 t437 co120 ∧ ns_ k_ Ao121 t440 co121) (Kd.R_keptB (HO436.out) hkp (fun k_ hk_ hs_ => Or.elim hs_ (fun e_ => (hk_.1.1.1.1.1.1.1.1.1.1.1.2) e_) (fun e_ => Or.elim e_ (fun e_ => (hk_.1.1.1.1.1.1.1.1.1.1.2) e_) (fun e_ => (hk_.1.1.1.1.1.1.1.1.1.2) e_))))); replace HO439 := am_ (lj_ (ok' := fun k_ => ns_ k_ Ao46 t376 co46 ∧ ns_ k_ Ao48 t379 co48 ∧ ns_ k_ Ao50 t382 co50 ∧ ns_ k_ Ao60 t388 co60 ∧ ns_ k_ Ao61 t391 co61 ∧ ns_ k_ Ao62 t394 co62 ∧ ns_ k_ Ao72 t399 co72 ∧ ns_ k_ Ao73 t402 co73 ∧ ns_ k_ Ao74 t405 co74 ∧ ns_ k_ Ao84 t410 co84 ∧ ns_ k_ Ao85 t413 co85 ∧ ns_ k_ Ao86 t416 co86 ∧ ns_ k_ Ao113 t423 co113 ∧ ns_ k_ Ao114 t426 co114 ∧ ns_ k_ Ao115 t429 co115 ∧ ns_ k_ Ao119 t434 co119 ∧ ns_ k_ Ao121 t440 co121) (Kd.R_keptB (HO439.out) hkp (fun k_ hk_ hs_ => Or.elim hs_ (fun e_ => (hk_.1.1.1.1.1.1.1.1.1.1.1.2) e_) (fun e_ => Or.elim e_ (fun e_ => (hk_.1.1.1.1.1.1.1.1.1.1.2) e_) (fun e_ => (hk_.1.1.1.1.1.1.1.1.1.2) e_))))); replace HO442 := am_ (lj_ (ok' := fun k_ => ns_ k_ Ao46 t376 co46 ∧ ns_ k_ Ao48 t379 co48 ∧ ns_ k_ Ao50 t382 co50 ∧ ns_ k_ Ao60 t388 co60 ∧ ns_ k_ Ao61 t391 co61 ∧ ns_ k_ Ao62 t394 co62 ∧ ns_ k_ Ao72 t399 co72 ∧ ns_ k_ Ao73 t402 co73 ∧ ns_ k_ Ao74 t405 co74 ∧ ns_ k_ Ao84 t410 co84 ∧ ns_ k_ Ao85 t413 co85 ∧ ns_ k_ Ao86 t416 co86 ∧ ns_ k_ Ao113 t423 co113 ∧ ns_ k_ Ao114 t426 co114 ∧ ns_ k_ Ao115 t429 co115 ∧ ns_ k_ Ao119 t434 co119 ∧ ns_ k_ Ao120 t437 co120) (Kd.R_keptB (HO442.out) hkp (fun k_ hk_ hs_ => Or.elim hs_ (fun e_ => (hk_.1.1.1.1.1.1.1.1.1.1.1.2) e_) (fun e_ => Or.elim e_ (fun e_ => (hk_.1.1.1.1.1.1.1.1.1.1.2) e_) (fun e_ => (hk_.1.1.1.1.1.1.1.1.1.2) e_))))); replace HB := am_ (hb); (try clear hb); (try clear hkp); (try clear hy0); (try clear hy1); (try clear hy2); have hnb130 := NB408_351.out; have hnc130 := NB351_408.out; have hnb131 := NB408_352.out; have hnc131 := NB352_408.out; have hnb132 := NB408_386.out; have hnc132 := NB386_408.out; have hnb133 := NB408_420.out; have hnc133 := NB420_408.out; obtain ⟨hcz134_0, hcz134_1, hcz134_2, hcz134_3, hfz134_0, hfz134_1, hfz134_2, hfz134_3⟩ := bx4_ BK408.out) | ((with_reducible refine gate_callee (f := 39) rfl ?_); refine goesL_ (some 69) rfl rfl Try.func39 (by kernel_rfl) rfl #[.agg #[.int .i64 t398, .slice Ao72 t399.length co72, .slice Ao73 t402.length co73, .slice Ao74 t405.length co74], .int .i64 t444] rfl lm_ ?_; (with_reducible refine (laws_markRanked.calls kj24 t398 (fun k_ => some k_ = (.slice Ao72 t399.length co72 : Value).ownBlock) (.slice Ao72 t399.length co72) t399 (fun k_ => some k_ = (.slice Ao73 t402.length co73 : Value).ownBlock) (.slice Ao73 t402.length co73) t402 (fun k_ => some k_ = (.slice Ao74 t405.length co74 : Value).ownBlock) (.slice Ao74 t405.length co74) t405 t444 t448 t449 t450 t451 w _ ?side1 ?side2 ?side3 ?side4 ?side5 ?side6 ?side7 ?side8 ?side9 ?side10 A109.out).mono ?_); (case side1 => exact lw_ HB); (case side2 => exact Kd.R_tight rfl HO_409001.out); (case side3 => exact fun k_ e_ => (HO_409001.out.1 k_ e_.symm).2.2.2.2.2.2.1); (case side4 => exact fun k_ e_ => (HO_409001.out.1 k_ e_.symm).2.2.2.2.2.2.2.1); (case side5 => exact Kd.R_tight rfl HO_409002.out); (case side6 => exact fun k_ e_ => (HO_409002.out.1 k_ e_.symm).2.2.2.2.2.2.1); (case side7 => exact fun k_ e_ => (HO_409002.out.1 k_ e_.symm).2.2.2.2.2.2.2.1); (case side8 => exact Kd.R_tight rfl HO_409003.out); (case side9 => exact fun k_ e_ => (HO_409003.out.1 k_ e_.symm).2.2.2.2.2.2.1); (case side10 => exact fun k_ e_ => (HO_409003.out.1 k_ e_.symm).2.2.2.2.2.2.2.1); rintro e w135 ⟨rfl, hy0, hy1, hy2, hb, hkp⟩; refine ⟨_, rfl, ?_⟩; replace HO_387001 := am_ (lj_ (ok' := fun k_ => ns_ k_ Ao48 t379 co48 ∧ ns_ k_ Ao50 t382 co50 ∧ ns_ k_ Ao60 t388 co60 ∧ ns_ k_ Ao61 t391 co61 ∧ ns_ k_ Ao62 t394 co62 ∧ ns_ k_ Ao72 t399 co72 ∧ ns_ k_ Ao73 t402 co73 ∧ ns_ k_ Ao74 t405 co74 ∧ ns_ k_ Ao84 t410 co84 ∧ ns_ k_ Ao85 t413 co85 ∧ ns_ k_ Ao86 t416 co86 ∧ ns_ k_ Ao113 t423 co113 ∧ ns_ k_ Ao114 t426 co114 ∧ ns_ k_ Ao115 t429 co115 ∧ ns_ k_ Ao119 t434 co119 ∧ ns_ k_ Ao120 t437 co120 ∧ ns_ k_ Ao121 t440 co121) (Kd.R_keptB (HO_387001.out) hkp (fun k_ hk_ hs_ => Or.elim hs_ (fun e_ => (hk_.2.2.2.2.2.1) e_) (fun e_ => Or.elim e_ (fun e_ => (hk_.2.2.2.2.2.2.1) e_) (fun e_ => (hk_.2.2.2.2.2.2.2.1) e_))))); replace HO_387002 := am_ (lj_ (ok' := fun k_ => ns_ k_ Ao46 t376 co46 ∧ ns_ k_ Ao50 t382 co50 ∧ ns_ k_ Ao60 t388 co60 ∧ ns_ k_ Ao61 t391 co61 ∧ ns_ k_ Ao62 t394 co62 ∧ ns_ k_ Ao72 t399 co72 ∧ ns_ k_ Ao73 t402 co73 ∧ ns_ k_ Ao74 t405 co74 ∧ ns_ k_ Ao84 t410 co84 ∧ ns_ k_ Ao85 t413 co85 ∧ ns_ k_ Ao86 t416 co86 ∧ ns_ k_ Ao113 t423 co113 ∧ ns_ k_ Ao114 t426 co114 ∧ ns_ k_ Ao115 t429 co115 ∧ ns_ k_ Ao119 t434 co119 ∧ ns_ k_ Ao120 t437 co120 ∧ ns_ k_ Ao121 t440 co121) (Kd.R_keptB (HO_387002.out) hkp (fun k_ hk_ hs_ => Or.elim hs_ (fun e_ => (hk_.2.2.2.2.2.1) e_) (fun e_ => Or.elim e_ (fun e_ => (hk_.2.2.2.2.2.2.1) e_) (fun e_ => (hk_.2.2.2.2.2.2.2.1) e_))))); replace HO_387003 := am_ (lj_ (ok' := fun k_ => ns_ k_ Ao46 t376 co46 ∧ ns_ k_ Ao48 t379 co48 ∧ ns_ k_ Ao60 t388 co60 ∧ ns_ k_ Ao61 t391 co61 ∧ ns_ k_ Ao62 t394 co62 ∧ ns_ k_ Ao72 t399 co72 ∧ ns_ k_ Ao73 t402 co73 ∧ ns_ k_ Ao74 t405 co74 ∧ ns_ k_ Ao84 t410 co84 ∧ ns_ k_ Ao85 t413 co85 ∧ ns_ k_ Ao86 t416 co86 ∧ ns_ k_ Ao113 t423 co113 ∧ ns_ k_ Ao114 t426 co114 ∧ ns_ k_ Ao115 t429 co115 ∧ ns_ k_ Ao119 t434 co119 ∧ ns_ k_ Ao120 t437 co120 ∧ ns_ k_ Ao121 t440 co121) (Kd.R_keptB (HO_387003.out) hkp (fun k_ hk_ hs_ => Or.elim hs_ (fun e_ => (hk_.2.2.2.2.2.1) e_) (fun e_ => Or.elim e_ (fun e_ => (hk_.2.2.2.2.2.2.1) e_) (fun e_ => (hk_.2.2.2.2.2.2.2.1) e_))))); replace HO_398001 := am_ (lj_ (ok' := fun k_ => ns_ k_ Ao46 t376 co46 ∧ ns_ k_ Ao48 t379 co48 ∧ ns_ k_ Ao50 t382 co50 ∧ ns_ k_ Ao61 t391 co61 ∧ ns_ k_ Ao62 t394 co62 ∧ ns_ k_ Ao72 t399 co72 ∧ ns_ k_ Ao73 t402 co73 ∧ ns_ k_ Ao74 t405 co74 ∧ ns_ k_ Ao84 t410 co84 ∧ ns_ k_ Ao85 t413 co85 ∧ ns_ k_ Ao86 t416 co86 ∧ ns_ k_ Ao113 t423 co113 ∧ ns_ k_ Ao114 t426 co114 ∧ ns_ k_ Ao115 t429 co115 ∧ ns_ k_ Ao119 t434 co119 ∧ ns_ k_ Ao120 t437 co120 ∧ ns_ k_ Ao121 t440 co121) (Kd.R_keptB (HO_398001.out) hkp (fun k_ hk_ hs_ => Or.elim hs_ (fun e_ => (hk_.1.1.1.1.1.1.2.2.2.2.2.1) e_) (fun e_ => Or.elim e_ (fun e_ => (hk_.1.1.1.1.1.1.2.2.2.2.2.2.1) e_) (fun e_ => (hk_.1.1.1.1.1.1.2.2.2.2.2.2.2.1) e_))))); replace HO_398002 := am_ (lj_ (ok' := fun k_ => ns_ k_ Ao46 t376 co46 ∧ ns_ k_ Ao48 t379 co48 ∧ ns_ k_ Ao50 t382 co50 ∧ ns_ k_ Ao60 t388 co60 ∧ ns_ k_ Ao62 t394 co62 ∧ ns_ k_ Ao72 t399 co72 ∧ ns_ k_ Ao73 t402 co73 ∧ ns_ k_ Ao74 t405 co74 ∧ ns_ k_ Ao84 t410 co84 ∧ ns_ k_ Ao85 t413 co85 ∧ ns_ k_ Ao86 t416 co86 ∧ ns_ k_ Ao113 t423 co113 ∧ ns_ k_ Ao114 t426 co114 ∧ ns_ k_ Ao115 t429 co115 ∧ ns_ k_ Ao119 t434 co119 ∧ ns_ k_ Ao120 t437 co120 ∧ ns_ k_ Ao121 t440 co121) (Kd.R_keptB (HO_398002.out) hkp (fun k_ hk_ hs_ => Or.elim hs_ (fun e_ => (hk_.1.1.1.1.1.1.2.2.2.2.2.1) e_) (fun e_ => Or.elim e_ (fun e_ => (hk_.1.1.1.1.1.1.2.2.2.2.2.2.1) e_) (fun e_ => (hk_.1.1.1.1.1.1.2.2.2.2.2.2.2.1) e_))))); replace HO_398003 := am_ (lj_ (ok' := fun k_ => ns_ k_ Ao46 t376 co46 ∧ ns_ k_ Ao48 t379 co48 ∧ ns_ k_ Ao50 t382 co50 ∧ ns_ k_ Ao60 t388 co60 ∧ ns_ k_ Ao61 t391 co61 ∧ ns_ k_ Ao72 t399 co72 ∧ ns_ k_ Ao73 t402 co73 ∧ ns_ k_ Ao74 t405 co74 ∧ ns_ k_ Ao84 t410 co84 ∧ ns_ k_ Ao85 t413 co85 ∧ ns_ k_ Ao86 t416 co86 ∧ ns_ k_ Ao113 t423 co113 ∧ ns_ k_ Ao114 t426 co114 ∧ ns_ k_ Ao115 t429 co115 ∧ ns_ k_ Ao119 t434 co119 ∧ ns_ k_ Ao120 t437 co120 ∧ ns_ k_ Ao121 t440 co121) (Kd.R_keptB (HO_398003.out) hkp (fun k_ hk_ hs_ => Or.elim hs_ (fun e_ => (hk_.1.1.1.1.1.1.2.2.2.2.2.1) e_) (fun e_ => Or.elim e_ (fun e_ => (hk_.1.1.1.1.1.1.2.2.2.2.2.2.1) e_) (fun e_ => (hk_.1.1.1.1.1.1.2.2.2.2.2.2.2.1) e_))))); replace HO_421001 := am_ (lj_ (ok' := fun k_ => ns_ k_ Ao46 t376 co46 ∧ ns_ k_ Ao48 t379 co48 ∧ ns_ k_ Ao50 t382 co50 ∧ ns_ k_ Ao60 t388 co60 ∧ ns_ k_ Ao61 t391 co61 ∧ ns_ k_ Ao62 t394 co62 ∧ ns_ k_ Ao72 t399 co72 ∧ ns_ k_ Ao73 t402 co73 ∧ ns_ k_ Ao74 t405 co74 ∧ ns_ k_ Ao85 t413 co85 ∧ ns_ k_ Ao86 t416 co86 ∧ ns_ k_ Ao113 t423 co113 ∧ ns_ k_ Ao114 t426 co114 ∧ ns_ k_ Ao115 t429 co115 ∧ ns_ k_ Ao119 t434 co119 ∧ ns_ k_ Ao120 t437 co120 ∧ ns_ k_ Ao121 t440 co121) (Kd.R_keptB (HO_421001.out) hkp (fun k_ hk_ hs_ => Or.elim hs_ (fun e_ => (hk_.2.2.2.2.2.2.1) e_) (fun e_ => Or.elim e_ (fun e_ => (hk_.2.2.2.2.2.2.2.1) e_) (fun e_ => (hk_.2.2.2.2.2.2.2.2.1) e_))))); replace HO_421002 := am_ (lj_ (ok' := fun k_ => ns_ k_ Ao46 t376 co46 ∧ ns_ k_ Ao48 t379 co48 ∧ ns_ k_ Ao50 t382 co50 ∧ ns_ k_ Ao60 t388 co60 ∧ ns_ k_ Ao61 t391 co61 ∧ ns_ k_ Ao62 t394 co62 ∧ ns_ k_ Ao72 t399 co72 ∧ ns_ k_ Ao73 t402 co73 ∧ ns_ k_ Ao74 t405 co74 ∧ ns_ k_ Ao84 t410 co84 ∧ ns_ k_ Ao86 t416 co86 ∧ ns_ k_ Ao113 t423 co113 ∧ ns_ k_ Ao114 t426 co114 ∧ ns_ k_ Ao115 t429 co115 ∧ ns_ k_ Ao119 t434 co119 ∧ ns_ k_ Ao120 t437 co120 ∧ ns_ k_ Ao121 t440 co121) (Kd.R_keptB (HO_421002.out) hkp (fun k_ hk_ hs_ => Or.elim hs_ (fun e_ => (hk_.2.2.2.2.2.2.1) e_) (fun e_ => Or.elim e_ (fun e_ => (hk_.2.2.2.2.2.2.2.1) e_) (fun e_ => (hk_.2.2.2.2.2.2.2.2.1) e_))))); replace HO_421003 := am_ (lj_ (ok' := fun k_ => ns_ k_ Ao46 t376 co46 ∧ ns_ k_ Ao48 t379 co48 ∧ ns_ k_ Ao50 t382 co50 ∧ ns_ k_ Ao60 t388 co60 ∧ ns_ k_ Ao61 t391 co61 ∧ ns_ k_ Ao62 t394 co62 ∧ ns_ k_ Ao72 t399 co72 ∧ ns_ k_ Ao73 t402 co73 ∧ ns_ k_ Ao74 t405 co74 ∧ ns_ k_ Ao84 t410 co84 ∧ ns_ k_ Ao85 t413 co85 ∧ ns_ k_ Ao113 t423 co113 ∧ ns_ k_ Ao114 t426 co114 ∧ ns_ k_ Ao115 t429 co115 ∧ ns_ k_ Ao119 t434 co119 ∧ ns_ k_ Ao120 t437 co120 ∧ ns_ k_ Ao121 t440 co121) (Kd.R_keptB (HO_421003.out) hkp (fun k_ hk_ hs_ => Or.elim hs_ (fun e_ => (hk_.2.2.2.2.2.2.1) e_) (fun e_ => Or.elim e_ (fun e_ => (hk_.2.2.2.2.2.2.2.1) e_) (fun e_ => (hk_.2.2.2.2.2.2.2.2.1) e_))))); replace BK351 := am_ (blk_kept (lb_ BK351) hkp (fun hs_ => Or.elim hs_ (fun e_ => (fun e_ => (Kd.R_ne HO_409001.out BK351.out (by decide)) e_) e_) (fun e_ => Or.elim e_ (fun e_ => (fun e_ => (Kd.R_ne HO_409002.out BK351.out (by decide)) e_) e_) (fun e_ => (fun e_ => (Kd.R_ne HO_409003.out BK351.out (by decide)) e_) e_)))); replace BK352 := am_ (blk_kept (lb_ BK352) hkp (fun hs_ => Or.elim hs_ (fun e_ => (fun e_ => (Kd.R_ne HO_409001.out BK352.out (by decide)) e_) e_) (fun e_ => Or.elim e_ (fun e_ => (fun e_ => (Kd.R_ne HO_409002.out BK352.out (by decide)) e_) e_) (fun e_ => (fun e_ => (Kd.R_ne HO_409003.out BK352.out (by decide)) e_) e_)))); replace BK386 := am_ (blk_kept (lb_ BK386) hkp (fun hs_ => Or.elim hs_ (fun e_ => (fun e_ => (Kd.R_ne HO_409001.out BK386.out (by decide)) e_) e_) (fun e_ => Or.elim e_ (fun e_ => (fun e_ => (Kd.R_ne HO_409002.out BK386.out (by decide)) e_) e_) (fun e_ => (fun e_ => (Kd.R_ne HO_409003.out BK386.out (by decide)) e_) e_)))); replace BK397 := am_ (blk_kept (lb_ BK397) hkp (fun hs_ => Or.elim hs_ (fun e_ => (fun e_ => (Kd.R_ne HO_409001.out BK397.out (by decide)) e_) e_) (fun e_ => Or.elim e_ (fun e_ => (fun e_ => (Kd.R_ne HO_409002.out BK397.out (by decide)) e_) e_) (fun e_ => (fun e_ => (Kd.R_ne HO_409003.out BK397.out (by decide)) e_) e_)))); replace BK408 := am_ (blk_kept (lb_ BK408) hkp (fun hs_ => Or.elim hs_ (fun e_ => (fun e_ => (Kd.R_ne HO_409001.out BK408.out (by decide)) e_) e_) (fun e_ => Or.elim e_ (fun e_ => (fun e_ => (Kd.R_ne HO_409002.out BK408.out (by decide)) e_) e_) (fun e_ => (fun e_ => (Kd.R_ne HO_409003.out BK408.out (by decide)) e_) e_)))); replace BK420 := am_ (blk_kept (lb_ BK420) hkp (fun hs_ => Or.elim hs_ (fun e_ => (fun e_ => (Kd.R_ne HO_409001.out BK420.out (by decide)) e_) e_) (fun e_ => Or.elim e_ (fun e_ => (fun e_ => (Kd.R_ne HO_409002.out BK420.out (by decide)) e_) e_) (fun e_ => (fun e_ => (Kd.R_ne HO_409003.out BK420.out (by decide)) e_) e_)))); replace HO_409001 := am_ (Kd.R_reok rfl hy0 (fun k_ e_ => HO_409001.out.1 k_ e_)); replace HO_409002 := am_ (Kd.R_reok rfl hy1 (fun k_ e_ => HO_409002.out.1 k_ e_)); replace HO_409003 := am_ (Kd.R_reok rfl hy2 (fun k_ e_ => HO_409003.out.1 k_ e_)); replace HO425 := am_ (lj_ (ok' := fun k_ => ns_ k_ Ao46 t376 co46 ∧ ns_ k_ Ao48 t379 co48 ∧ ns_ k_ Ao50 t382 co50 ∧ ns_ k_ Ao60 t388 co60 ∧ ns_ k_ Ao61 t391 co61 ∧ ns_ k_ Ao62 t394 co62 ∧ ns_ k_ Ao72 t399 co72 ∧ ns_ k_ Ao73 t402 co73 ∧ ns_ k_ Ao74 t405 co74 ∧ ns_ k_ Ao84 t410 co84 ∧ ns_ k_ Ao85 t413 co85 ∧ ns_ k_ Ao86 t416 co86 ∧ ns_ k_ Ao114 t426 co114 ∧ ns_ k_ Ao115 t429 co115 ∧ ns_ k_ Ao119 t434 co119 ∧ ns_ k_ Ao120 t437 co120 ∧ ns_ k_ Ao121 t440 co121) (Kd.R_keptB (HO425.out) hkp (fun k_ hk_ hs_ => Or.elim hs_ (fun e_ => (hk_.2.2.2.2.2.2.1) e_) (fun e_ => Or.elim e_ (fun e_ => (hk_.2.2.2.2.2.2.2.1) e_) (fun e_ => (hk_.2.2.2.2.2.2.2.2.1) e_))))); replace HO428 := am_ (lj_ (ok' := fun k_ => ns_ k_ Ao46 t376 co46 ∧ ns_ k_ Ao48 t379 co48 ∧ ns_ k_ Ao50 t382 co50 ∧ ns_ k_ Ao60 t388 co60 ∧ ns_ k_ Ao61 t391 co61 ∧ ns_ k_ Ao62 t394 co62 ∧ ns_ k_ Ao72 t399 co72 ∧ ns_ k_ Ao73 t402 co73 ∧ ns_ k_ Ao74 t405 co74 ∧ ns_ k_ Ao84 t410 co84 ∧ ns_ k_ Ao85 t413 co85 ∧ ns_ k_ Ao86 t416 co86 ∧ ns_ k_ Ao113 t423 co113 ∧ ns_ k_ Ao115 t429 co115 ∧ ns_ k_ Ao119 t434 co119 ∧ ns_ k_ Ao120 t437 co120 ∧ ns_ k_ Ao121 t440 co121) (Kd.R_keptB (HO428.out) hkp (fun k_ hk_ hs_ => Or.elim hs_ (fun e_ => (hk_.2.2.2.2.2.2.1) e_) (fun e_ => Or.elim e_ (fun e_ => (hk_.2.2.2.2.2.2.2.1) e_) (fun e_ => (hk_.2.2.2.2.2.2.2.2.1) e_))))); replace HO431 := am_ (lj_ (ok' := fun k_ => ns_ k_ Ao46 t376 co46 ∧ ns_ k_ Ao48 t379 co48 ∧ ns_ k_ Ao50 t382 co50 ∧ ns_ k_ Ao60 t388 co60 ∧ ns_ k_ Ao61 t391 co61 ∧ ns_ k_ Ao62 t394 co62 ∧ ns_ k_ Ao72 t399 co72 ∧ ns_ k_ Ao73 t402 co73 ∧ ns_ k_ Ao74 t405 co74 ∧ ns_ k_ Ao84 t410 co84 ∧ ns_ k_ Ao85 t413 co85 ∧ ns_ k_ Ao86 t416 co86 ∧ ns_ k_ Ao113 t423 co113 ∧ ns_ k_ Ao114 t426 co114 ∧ ns_ k_ Ao119 t434 co119 ∧ ns_ k_ Ao120 t437 co120 ∧ ns_ k_ Ao121 t440 co121) (Kd.R_keptB (HO431.out) hkp (fun k_ hk_ hs_ => Or.elim hs_ (fun e_ => (hk_.2.2.2.2.2.2.1) e_) (fun e_ => Or.elim e_ (fun e_ => (hk_.2.2.2.2.2.2.2.1) e_) (fun e_ => (hk_.2.2.2.2.2.2.2.2.1) e_))))); replace HO436 := am_ (lj_ (ok' := fun k_ => ns_ k_ Ao46 t376 co46 ∧ ns_ k_ Ao48 t379 co48 ∧ ns_ k_ Ao50 t382 co50 ∧ ns_ k_ Ao60 t388 co60 ∧ ns_ k_ Ao61 t391 co61 ∧ ns_ k_ Ao62 t394 co62 ∧ ns_ k_ Ao72 t399 co72 ∧ ns_ k_ Ao73 t402 co73 ∧ ns_ k_ Ao74 t405 co74 ∧ ns_ k_ Ao84 t410 co84 ∧ ns_ k_ Ao85 t413 co85 ∧ ns_ k_ Ao86 t416 co86 ∧ ns_ k_ Ao113 t423 co113 ∧ ns_ k_ Ao114 t426 co114 ∧ ns_ k_ Ao115 t429 co115 ∧ ns_ k_ Ao120 t437 co120 ∧ ns_ k_ Ao121 t440 co121) (Kd.R_keptB (HO436.out) hkp (fun k_ hk_ hs_ => Or.elim hs_ (fun e_ => (hk_.2.2.2.2.2.2.1) e_) (fun e_ => Or.elim e_ (fun e_ => (hk_.2.2.2.2.2.2.2.1) e_) (fun e_ => (hk_.2.2.2.2.2.2.2.2.1) e_))))); replace HO439 := am_ (lj_ (ok' := fun k_ => ns_ k_ Ao46 t376 co46 ∧ ns_ k_ Ao48 t379 co48 ∧ ns_ k_ Ao50 t382 co50 ∧ ns_ k_ Ao60 t388 co60 ∧ ns_ k_ Ao61 t391 co61 ∧ ns_ k_ Ao62 t394 co62 ∧ ns_ k_ Ao72 t399 co72 ∧ ns_ k_ Ao73 t402 co73 ∧ ns_ k_ Ao74 t405 co74 ∧ ns_ k_ Ao84 t410 co84 ∧ ns_ k_ Ao85 t413 co85 ∧ ns_ k_ Ao86 t416 co86 ∧ ns_ k_ Ao113 t423 co113 ∧ ns_ k_ Ao114 t426 co114 ∧ ns_ k_ Ao115 t429 co115 ∧ ns_ k_ Ao119 t434 co119 ∧ ns_ k_ Ao121 t440 co121) (Kd.R_keptB (HO439.out) hkp (fun k_ hk_ hs_ => Or.elim hs_ (fun e_ => (hk_.2.2.2.2.2.2.1) e_) (fun e_ => Or.elim e_ (fun e_ => (hk_.2.2.2.2.2.2.2.1) e_) (fun e_ => (hk_.2.2.2.2.2.2.2.2.1) e_))))); replace HO442 := am_ (lj_ (ok' := fun k_ => ns_ k_ Ao46 t376 co46 ∧ ns_ k_ Ao48 t379 co48 ∧ ns_ k_ Ao50 t382 co50 ∧ ns_ k_ Ao60 t388 co60 ∧ ns_ k_ Ao61 t391 co61 ∧ ns_ k_ Ao62 t394 co62 ∧ ns_ k_ Ao72 t399 co72 ∧ ns_ k_ Ao73 t402 co73 ∧ ns_ k_ Ao74 t405 co74 ∧ ns_ k_ Ao84 t410 co84 ∧ ns_ k_ Ao85 t413 co85 ∧ ns_ k_ Ao86 t416 co86 ∧ ns_ k_ Ao113 t423 co113 ∧ ns_ k_ Ao114 t426 co114 ∧ ns_ k_ Ao115 t429 co115 ∧ ns_ k_ Ao119 t434 co119 ∧ ns_ k_ Ao120 t437 co120) (Kd.R_keptB (HO442.out) hkp (fun k_ hk_ hs_ => Or.elim hs_ (fun e_ => (hk_.2.2.2.2.2.2.1) e_) (fun e_ => Or.elim e_ (fun e_ => (hk_.2.2.2.2.2.2.2.1) e_) (fun e_ => (hk_.2.2.2.2.2.2.2.2.1) e_))))); replace HB := am_ (hb); (try clear hb); (try clear hkp); (try clear hy0); (try clear hy1); (try clear hy2)))
        (try simp only [Act.put, List.setIfInBounds_toArray, List.set_cons_zero, List.set_cons_succ])
        go_cut [82] (fun v82 wc => ∃ (kq : Nat) (x82_109 : Bool), v82 = .bool x82_109 ∧ Aside0 (laws_FnExactJoinRanked.j1 kq t385 x82_109 a0_0 l0_1 l0_2 l0_3 a1_0 l1_1 l1_2 l1_3 t375 t376 t379 t382 t409 t410 t413 t416 = some r) ∧ Aside0 (kq ≤ kj24) ∧ Aside0 (Kd.R (Kd.int .i64) 3 wc w.heap.size (fun k_ => ns_ k_ Ao48 t379 co48 ∧ ns_ k_ Ao50 t382 co50 ∧ ns_ k_ Ao60 t388 co60 ∧ ns_ k_ Ao61 t391 co61 ∧ ns_ k_ Ao62 t394 co62 ∧ ns_ k_ Ao72 t399 co72 ∧ ns_ k_ Ao73 t402 co73 ∧ ns_ k_ Ao74 t405 co74 ∧ ns_ k_ Ao84 t410 co84 ∧ ns_ k_ Ao85 t413 co85 ∧ ns_ k_ Ao86 t416 co86) (.slice Ao46 t376.length co46) t376) ∧ Aside0 (Kd.R (Kd.int .i64) 3 wc w.heap.size (fun k_ => ns_ k_ Ao46 t376 co46 ∧ ns_ k_ Ao50 t382 co50 ∧ ns_ k_ Ao60 t388 co60 ∧ ns_ k_ Ao61 t391 co61 ∧ ns_ k_ Ao62 t394 co62 ∧ ns_ k_ Ao72 t399 co72 ∧ ns_ k_ Ao73 t402 co73 ∧ ns_ k_ Ao74 t405 co74 ∧ ns_ k_ Ao84 t410 co84 ∧ ns_ k_ Ao85 t413 co85 ∧ ns_ k_ Ao86 t416 co86) (.slice Ao48 t379.length co48) t379) ∧ Aside0 (Kd.R (Kd.int .i64) 3 wc w.heap.size (fun k_ => ns_ k_ Ao46 t376 co46 ∧ ns_ k_ Ao48 t379 co48 ∧ ns_ k_ Ao60 t388 co60 ∧ ns_ k_ Ao61 t391 co61 ∧ ns_ k_ Ao62 t394 co62 ∧ ns_ k_ Ao72 t399 co72 ∧ ns_ k_ Ao73 t402 co73 ∧ ns_ k_ Ao74 t405 co74 ∧ ns_ k_ Ao84 t410 co84 ∧ ns_ k_ Ao85 t413 co85 ∧ ns_ k_ Ao86 t416 co86) (.slice Ao50 t382.length co50) t382) ∧ Aside0 (Kd.R (Kd.int .i64) 3 wc w.heap.size (fun k_ => ns_ k_ Ao46 t376 co46 ∧ ns_ k_ Ao48 t379 co48 ∧ ns_ k_ Ao50 t382 co50 ∧ ns_ k_ Ao61 t391 co61 ∧ ns_ k_ Ao62 t394 co62 ∧ ns_ k_ Ao72 t399 co72 ∧ ns_ k_ Ao73 t402 co73 ∧ ns_ k_ Ao74 t405 co74 ∧ ns_ k_ Ao84 t410 co84 ∧ ns_ k_ Ao85 t413 co85 ∧ ns_ k_ Ao86 t416 co86) (.slice Ao60 t388.length co60) t445) ∧ Aside0 (Kd.R (Kd.int .i64) 3 wc w.heap.size (fun k_ => ns_ k_ Ao46 t376 co46 ∧ ns_ k_ Ao48 t379 co48 ∧ ns_ k_ Ao50 t382 co50 ∧ ns_ k_ Ao60 t388 co60 ∧ ns_ k_ Ao62 t394 co62 ∧ ns_ k_ Ao72 t399 co72 ∧ ns_ k_ Ao73 t402 co73 ∧ ns_ k_ Ao74 t405 co74 ∧ ns_ k_ Ao84 t410 co84 ∧ ns_ k_ Ao85 t413 co85 ∧ ns_ k_ Ao86 t416 co86) (.slice Ao61 t391.length co61) t446) ∧ Aside0 (Kd.R (Kd.int .i64) 3 wc w.heap.size (fun k_ => ns_ k_ Ao46 t376 co46 ∧ ns_ k_ Ao48 t379 co48 ∧ ns_ k_ Ao50 t382 co50 ∧ ns_ k_ Ao60 t388 co60 ∧ ns_ k_ Ao61 t391 co61 ∧ ns_ k_ Ao72 t399 co72 ∧ ns_ k_ Ao73 t402 co73 ∧ ns_ k_ Ao74 t405 co74 ∧ ns_ k_ Ao84 t410 co84 ∧ ns_ k_ Ao85 t413 co85 ∧ ns_ k_ Ao86 t416 co86) (.slice Ao62 t394.length co62) t447) ∧ Aside0 (Kd.R (Kd.int .i64) 3 wc w.heap.size (fun k_ => ns_ k_ Ao46 t376 co46 ∧ ns_ k_ Ao48 t379 co48 ∧ ns_ k_ Ao50 t382 co50 ∧ ns_ k_ Ao60 t388 co60 ∧ ns_ k_ Ao61 t391 co61 ∧ ns_ k_ Ao62 t394 co62 ∧ ns_ k_ Ao73 t402 co73 ∧ ns_ k_ Ao74 t405 co74 ∧ ns_ k_ Ao84 t410 co84 ∧ ns_ k_ Ao85 t413 co85 ∧ ns_ k_ Ao86 t416 co86) (.slice Ao72 t399.length co72) t449) ∧ Aside0 (Kd.R (Kd.int .i64) 3 wc w.heap.size (fun k_ => ns_ k_ Ao46 t376 co46 ∧ ns_ k_ Ao48 t379 co48 ∧ ns_ k_ Ao50 t382 co50 ∧ ns_ k_ Ao60 t388 co60 ∧ ns_ k_ Ao61 t391 co61 ∧ ns_ k_ Ao62 t394 co62 ∧ ns_ k_ Ao72 t399 co72 ∧ ns_ k_ Ao74 t405 co74 ∧ ns_ k_ Ao84 t410 co84 ∧ ns_ k_ Ao85 t413 co85 ∧ ns_ k_ Ao86 t416 co86) (.slice Ao73 t402.length co73) t450) ∧ Aside0 (Kd.R (Kd.int .i64) 3 wc w.heap.size (fun k_ => ns_ k_ Ao46 t376 co46 ∧ ns_ k_ Ao48 t379 co48 ∧ ns_ k_ Ao50 t382 co50 ∧ ns_ k_ Ao60 t388 co60 ∧ ns_ k_ Ao61 t391 co61 ∧ ns_ k_ Ao62 t394 co62 ∧ ns_ k_ Ao72 t399 co72 ∧ ns_ k_ Ao73 t402 co73 ∧ ns_ k_ Ao84 t410 co84 ∧ ns_ k_ Ao85 t413 co85 ∧ ns_ k_ Ao86 t416 co86) (.slice Ao74 t405.length co74) t451) ∧ Aside0 (Kd.R (Kd.int .i64) 3 wc w.heap.size (fun k_ => ns_ k_ Ao46 t376 co46 ∧ ns_ k_ Ao48 t379 co48 ∧ ns_ k_ Ao50 t382 co50 ∧ ns_ k_ Ao60 t388 co60 ∧ ns_ k_ Ao61 t391 co61 ∧ ns_ k_ Ao62 t394 co62 ∧ ns_ k_ Ao72 t399 co72 ∧ ns_ k_ Ao73 t402 co73 ∧ ns_ k_ Ao74 t405 co74 ∧ ns_ k_ Ao85 t413 co85 ∧ ns_ k_ Ao86 t416 co86) (.slice Ao84 t410.length co84) t410) ∧ Aside0 (Kd.R (Kd.int .i64) 3 wc w.heap.size (fun k_ => ns_ k_ Ao46 t376 co46 ∧ ns_ k_ Ao48 t379 co48 ∧ ns_ k_ Ao50 t382 co50 ∧ ns_ k_ Ao60 t388 co60 ∧ ns_ k_ Ao61 t391 co61 ∧ ns_ k_ Ao62 t394 co62 ∧ ns_ k_ Ao72 t399 co72 ∧ ns_ k_ Ao73 t402 co73 ∧ ns_ k_ Ao74 t405 co74 ∧ ns_ k_ Ao84 t410 co84 ∧ ns_ k_ Ao86 t416 co86) (.slice Ao85 t413.length co85) t413) ∧ Aside0 (Kd.R (Kd.int .i64) 3 wc w.heap.size (fun k_ => ns_ k_ Ao46 t376 co46 ∧ ns_ k_ Ao48 t379 co48 ∧ ns_ k_ Ao50 t382 co50 ∧ ns_ k_ Ao60 t388 co60 ∧ ns_ k_ Ao61 t391 co61 ∧ ns_ k_ Ao62 t394 co62 ∧ ns_ k_ Ao72 t399 co72 ∧ ns_ k_ Ao73 t402 co73 ∧ ns_ k_ Ao74 t405 co74 ∧ ns_ k_ Ao84 t410 co84 ∧ ns_ k_ Ao85 t413 co85) (.slice Ao86 t416.length co86) t416) ∧ Aside0 (wc.heap[gb351]? = some (.cells #[.int .i64 a0_0, (.slice A0_1 l0_1.length c0_1), (.slice A0_2 l0_2.length c0_2), (.slice A0_3 l0_3.length c0_3)] 45 (0, 0))) ∧ Aside0 (wc.heap[gb352]? = some (.cells #[.int .i64 a1_0, (.slice A1_1 l1_1.length c1_1), (.slice A1_2 l1_2.length c1_2), (.slice A1_3 l1_3.length c1_3)] 45 (0, 0))) ∧ Aside0 (wc.heap[gb386]? = some (.cells #[.int .i64 t375, (.slice Ao46 t376.length co46), (.slice Ao48 t379.length co48), (.slice Ao50 t382.length co50)] 48 (0, 0))) ∧ Aside0 (wc.heap[gb397]? = some (.cells #[.int .i64 t387, (.slice Ao60 t388.length co60), (.slice Ao61 t391.length co61), (.slice Ao62 t394.length co62)] 48 (0, 0))) ∧ Aside0 (wc.heap[gb408]? = some (.cells #[.int .i64 t398, (.slice Ao72 t399.length co72), (.slice Ao73 t402.length co73), (.slice Ao74 t405.length co74)] 48 (0, 0))) ∧ Aside0 (wc.heap[gb420]? = some (.cells #[.int .i64 t409, (.slice Ao84 t410.length co84), (.slice Ao85 t413.length co85), (.slice Ao86 t416.length co86)] 48 (0, 0))) ∧ Aside0 (Below w.heap.size w wc))
        case first =>
         have H := HC110.out
         clear HC110
         by_cases c136 : t448 < 0
         ·rw [if_pos c136] at H
          exact absurd H (by simp)
         ·rw [if_neg c136] at H
          have c136b0 : decide (t448 < 0) = false := decide_eq_false c136
          clear c136
          (first | rw [c136b0] | (simp only [i64_w, i32_w]; rw [c136b0]) | skip)
          replace H := Option.bind_eq_some_iff.mp H
          obtain ⟨t452, A1370, H⟩ := H
          replace H : (if t452 = true then (laws_FnExactJoinRanked.j1 kj24 t385 (t419 != t385) a0_0 l0_1 l0_2 l0_3 a1_0 l1_1 l1_2 l1_3 t375 t376 t379 t382 t409 t410 t413 t416) else (none)) = some r := H
          have A137 := am_ A1370
          clear A1370
          by_cases c138 : t452 = true
          ·subst c138
           have H1 : (laws_FnExactJoinRanked.j1 kj24 t385 (t419 != t385) a0_0 l0_1 l0_2 l0_3 a1_0 l1_1 l1_2 l1_3 t375 t376 t379 t382 t409 t410 t413 t416) = some r := by rw [if_pos rfl] at H; exact H
           clear H
           have H := H1
           clear H1
           have H' := am_ H
           clear H
           have hnb139 := NB420_351.out
           have hnc139 := NB351_420.out
           have hnb140 := NB420_352.out
           have hnc140 := NB352_420.out
           have hnb141 := NB420_386.out
           have hnc141 := NB386_420.out
           have hnb142 := NB420_397.out
           have hnc142 := NB397_420.out
           have hnb143 := NB420_408.out
           have hnc143 := NB408_420.out
           obtain ⟨hcz144_0, hcz144_1, hcz144_2, hcz144_3, hfz144_0, hfz144_1, hfz144_2, hfz144_3⟩ := bx4_ BK420.out
           have hnb145 := NB386_351.out
           have hnc145 := NB351_386.out
           have hnb146 := NB386_352.out
           have hnc146 := NB352_386.out
           have hnb147 := NB386_397.out
           have hnc147 := NB397_386.out
           have hnb148 := NB386_408.out
           have hnc148 := NB408_386.out
           have hcz149_0 : w135.cell? ⟨gb386, 0, none⟩ = some (.int .i64 t375) := (blk_cell BK386.out 0).trans rfl
           have hcz149_1 : w135.cell? ⟨gb386, 1, none⟩ = some (.slice Ao46 t376.length co46) := (blk_cell BK386.out 1).trans rfl
           have hcz149_2 : w135.cell? ⟨gb386, 2, none⟩ = some (.slice Ao48 t379.length co48) := (blk_cell BK386.out 2).trans rfl
           have hcz149_3 : w135.cell? ⟨gb386, 3, none⟩ = some (.slice Ao50 t382.length co50) := (blk_cell BK386.out 3).trans rfl
           have hfz149_0 := blk_frozen BK386.out 0
           have hfz149_1 := blk_frozen BK386.out 1
           have hfz149_2 := blk_frozen BK386.out 2
           have hfz149_3 := blk_frozen BK386.out 3
           go_wp2_with (first | (go_at_call 38; (with_reducible refine (laws_eqRanked.calls kj24 t409 _ _ t410 _ _ t413 _ _ t416 t375 _ _ t376 _ _ t379 _ _ t382 true _ ?side1 ?side2 ?side3 ?side4 ?side5 ?side6 ?side7 ?side8 ?side9 ?side10 ?side11 ?side12 A137.out).mono ?_); (case side1 => exact lc_ (Kd.R_reads' HO_421001.out).2.2); (case side2 => exact (Kd.R_reads' HO_421001.out).2.1); (case side3 => exact lc_ (Kd.R_reads' HO_421002.out).2.2); (case side4 => exact (Kd.R_reads' HO_421002.out).2.1); (case side5 => exact lc_ (Kd.R_reads' HO_421003.out).2.2); (case side6 => exact (Kd.R_reads' HO_421003.out).2.1); (case side7 => exact lc_ (Kd.R_reads' HO_387001.out).2.2); (case side8 => exact (Kd.R_reads' HO_387001.out).2.1); (case side9 => exact lc_ (Kd.R_reads' HO_387002.out).2.2); (case side10 => exact (Kd.R_reads' HO_387002.out).2.1); (case side11 => exact lc_ (Kd.R_reads' HO_387003.out).2.2); (case side12 => exact (Kd.R_reads' HO_387003.out).2.1); rintro e w150 ⟨rfl, hb⟩; replace HO_387001 := am_ (Kd.R_below (lf_ HO_387001) hb); replace HO_387002 := am_ (Kd.R_below (lf_ HO_387002) hb); replace HO_387003 := am_ (Kd.R_below (lf_ HO_387003) hb); replace HO_398001 := am_ (Kd.R_below (lf_ HO_398001) hb); replace HO_398002 := am_ (Kd.R_below (lf_ HO_398002) hb); replace HO_398003 := am_ (Kd.R_below (lf_ HO_398003) hb); replace HO_409001 := am_ (Kd.R_below (lf_ HO_409001) hb); replace HO_409002 := am_ (Kd.R_below (lf_ HO_409002) hb); replace HO_409003 := am_ (Kd.R_below (lf_ HO_409003) hb); replace HO_421001 := am_ (Kd.R_below (lf_ HO_421001) hb); replace HO_421002 := am_ (Kd.R_below (lf_ HO_421002) hb); replace HO_421003 := am_ (Kd.R_below (lf_ HO_421003) hb); replace HO425 := am_ (Kd.R_below (lf_ HO425) hb); replace HO428 := am_ (Kd.R_below (lf_ HO428) hb); replace HO431 := am_ (Kd.R_below (lf_ HO431) hb); replace HO436 := am_ (Kd.R_below (lf_ HO436) hb); replace HO439 := am_ (Kd.R_below (lf_ HO439) hb); replace HO442 := am_ (Kd.R_below (lf_ HO442) hb); replace BK351 := am_ (blk_below (g := gb351) (lb_ BK351) hb); replace BK352 := am_ (blk_below (g := gb352) (lb_ BK352) hb); replace BK386 := am_ (blk_below (g := gb386) (lb_ BK386) hb); replace BK397 := am_ (blk_below (g := gb397) (lb_ BK397) hb); replace BK408 := am_ (blk_below (g := gb408) (lb_ BK408) hb); replace BK420 := am_ (blk_below (g := gb420) (lb_ BK420) hb); replace HB := am_ (below_step (lw_ HB) hb); (try clear hb); (try clear hb2); (try clear hk); (try clear hi)))
           go_meet
           case rel => exact ⟨_, ((t419 != t385)), sr_, H', ⟨by have := HJ24.out; first | omega | exact Nat.le_refl _⟩, ⟨lo_ HO_387001⟩, ⟨lo_ HO_387002⟩, ⟨lo_ HO_387003⟩, ⟨lo_ HO_398001⟩, ⟨lo_ HO_398002⟩, ⟨lo_ HO_398003⟩, ⟨lo_ HO_409001⟩, ⟨lo_ HO_409002⟩, ⟨lo_ HO_409003⟩, ⟨lo_ HO_421001⟩, ⟨lo_ HO_421002⟩, ⟨lo_ HO_421003⟩, ⟨lb_ BK351⟩, ⟨lb_ BK352⟩, ⟨lb_ BK386⟩, ⟨lb_ BK397⟩, ⟨lb_ BK408⟩, ⟨lb_ BK420⟩, ⟨lw_ HB⟩⟩
          ·replace c138 := Bool.eq_false_iff.mpr c138
           subst c138
           have H1 : (none) = some r := by rw [if_neg (show ¬ (false = true) by decide)] at H; exact H
           clear H
           have H := H1
           clear H1
           exact absurd H (by simp)
        case rest =>
         exact laws_FnExactJoinRanked.rest82 k a0_0 A0_1 c0_1 l0_1 A0_2 c0_2 l0_2 A0_3 c0_3 l0_3 a1_0 A1_1 c1_1 l1_1 A1_2 c1_2 l1_2 A1_3 c1_3 l1_3 r w HR0_1 HC0_1 HR0_2 HC0_2 HR0_3 HC0_3 HR1_1 HC1_1 HR1_2 HC1_2 HR1_3 HC1_3 t354 t375 t376 t379 t382 t385 t387 t388 t391 t394 t398 t399 t402 t405 t409 t410 t413 t416 t419 gb351 GW351 GE351 gb352 GW352 GE352 NB351_352 NB352_351 gb386 GW386 GE386 NB351_386 NB386_351 NB352_386 NB386_352 Ao46 co46 Ao48 co48 Ao50 co50 gb397 GW397 GE397 NB351_397 NB397_351 NB352_397 NB397_352 NB386_397 NB397_386 Ao60 co60 Ao61 co61 Ao62 co62 gb408 GW408 GE408 NB351_408 NB408_351 NB352_408 NB408_352 NB386_408 NB408_386 NB397_408 NB408_397 Ao72 co72 Ao73 co73 Ao74 co74 gb420 GW420 GE420 NB351_420 NB420_351 NB352_420 NB420_352 NB386_420 NB420_386 NB397_420 NB420_397 NB408_420 NB420_408 Ao84 co84 Ao85 co85 Ao86 co86 kj24 HJ24 t445 t446 t447 t448 t449 t450 t451 wc u17 u18 u19 u20 u21 u22 u23 u24 u25 u26 u27 u28 u29 u30 u31 u32 u33 u34 u35 u36 u37 u38 u39 u40 u41 u42 u43 u44 u45 u46 u47 u48 u49 u50 u51 u52 u53 u54 u55 u56 u57 u58 u59 u60 u61 u62 u63 u64 u65 u66 u67 u68 u69 u70 u71 u72 u73 u74 u75 u76 u77 u78 u79 u80 u81 u82 u83 u84 u85 u86 u87 u88 u89 u90 u91 u92 u93 u94 u95 u96 u97 u98 u99 u100 u101 u102 u103 u104 u105 u106 u107 u108 u109 u110 u111 u112 u113 u114 u115 u116 u117 u118 _ _ (by assumption) (by assumption) hcut
       ·replace c107 := Bool.eq_false_iff.mpr c107
        subst c107
        have H1 : (none) = some r := by rw [if_neg (show ¬ (false = true) by decide)] at H; exact H
        clear H
        have H := H1
        clear H1
        exact absurd H (by simp)
      ·replace c104 := Bool.eq_false_iff.mpr c104
       subst c104
       have H1 : (none) = some r := by rw [if_neg (show ¬ (false = true) by decide)] at H; exact H
       clear H
       have H := H1
       clear H1
       exact absurd H (by simp)

/-- The plain statement of laws_FnExactJoinRanked. -/
def laws_FnExactJoinRanked.Pure : Prop := ∀ (a0_0 : Int) (l0_1 : List Int) (l0_2 : List Int) (l0_3 : List Int) (a1_0 : Int) (l1_1 : List Int) (l1_2 : List Int) (l1_3 : List Int), (Lit.int .i64 a0_0).wf = true → l0_1.length ≤ maxLen → (∀ x ∈ l0_1, (Lit.int .i64 x).wf = true) → l0_2.length ≤ maxLen → (∀ x ∈ l0_2, (Lit.int .i64 x).wf = true) → l0_3.length ≤ maxLen → (∀ x ∈ l0_3, (Lit.int .i64 x).wf = true) → (Lit.int .i64 a1_0).wf = true → l1_1.length ≤ maxLen → (∀ x ∈ l1_1, (Lit.int .i64 x).wf = true) → l1_2.length ≤ maxLen → (∀ x ∈ l1_2, (Lit.int .i64 x).wf = true) → l1_3.length ≤ maxLen → (∀ x ∈ l1_3, (Lit.int .i64 x).wf = true) → ∃ k, laws_FnExactJoinRanked.f k a0_0 l0_1 l0_2 l0_3 a1_0 l1_1 l1_2 l1_3 = some true

end Go.Proofs.Ytkmhjgejficclaa.PFnExactJoinRanked
