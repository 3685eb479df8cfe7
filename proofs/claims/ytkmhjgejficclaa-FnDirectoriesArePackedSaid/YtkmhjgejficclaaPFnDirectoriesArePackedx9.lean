-- Laid by a program of this session: the print of the kit with additions of ours (wip/tools/patchprint.py). Nothing of it is trusted: Lean checks it.
import Derived.Test.YtkmhjgejficclaaPFnDirectoriesArePackedx0
import Derived.Test.YtkmhjgejficclaaPFnDirectoriesArePackedx1
import Derived.Test.YtkmhjgejficclaaPFnDirectoriesArePackedx3
import Derived.Test.YtkmhjgejficclaaPFnDirectoriesArePackedx6
import Derived.Test.YtkmhjgejficclaaPFnDirectoriesArePackedx8
namespace Go.Proofs.Ytkmhjgejficclaa.PFnDirectoriesArePacked
open Go.RowKit Go.Proofs.YtkmhjgejficclaaW.PrintWords Go.Proofs.YtkmhjgejficclaaW.PrintLast Go.Proofs.YtkmhjgejficclaaW.PrintMore
attribute [local go_sem] max2_int min2_int max_two min_two max_three min_three max_four min_four   -- for this text's walks alone
set_option linter.unusedVariables false
set_option linter.unusedSimpArgs false

/-! ### impl_UnpackDirectory: function 44 -/
def impl_UnpackDirectory.j0 : Nat → Bool → Int → List Int → Int → List Int → Option (Int × List Int × List Int × List Int × Bool)
 | 0, _, _, _, _, _ => none
 | k + 1, x14, x296000, x296001, x297000, x297001 => if x14 = true then (some (0, ([] : List Int), ([] : List Int), ([] : List Int), false)) else ((impl_ranked.f k x296000 x296001).bind fun bt300 => ((impl_directory.f k bt300.1 bt300.2.1 bt300.2.2.1 bt300.2.2.2).bind fun bt311 => ((impl_sameBits.f k bt311.1 bt311.2 x297000 x297001).bind fun t315 => (if t315 = true then (some (bt300.1, bt300.2.1, bt300.2.2.1, bt300.2.2.2, true)) else (some (0, ([] : List Int), ([] : List Int), ([] : List Int), false))))))
def impl_UnpackDirectory.f (k : Nat) (a0_0 : Int) (l0_1 : List Int) (a1_0 : Int) (l1_1 : List Int) : Option (Int × List Int × List Int × List Int × Bool) := (impl_IsBits.f k a0_0 l0_1).bind fun t298 => (if t298 = true then ((impl_IsBits.f k a1_0 l1_1).bind fun t299 => (impl_UnpackDirectory.j0 k (!t299) a0_0 l0_1 a1_0 l1_1)) else (impl_UnpackDirectory.j0 k true a0_0 l0_1 a1_0 l1_1))
theorem impl_UnpackDirectory.mono_l : ∀ k, (∀ y0 y1 y2 y3 y4, LeO (impl_UnpackDirectory.j0 k y0 y1 y2 y3 y4) (impl_UnpackDirectory.j0 (k + 1) y0 y1 y2 y3 y4))
 | 0 => fun _ _ _ _ _ r h => by simp [impl_UnpackDirectory.j0] at h
 | k + 1 => by
  have ih0 := impl_UnpackDirectory.mono_l k
  ·intro y0 y1 y2 y3 y4
   unfold impl_UnpackDirectory.j0
   repeat' first
   | (with_reducible exact ih0 _ _ _ _ _)
   | (with_reducible exact impl_IsBits.mono _ _ _)
   | (with_reducible exact impl_directory.mono _ _ _ _ _)
   | (with_reducible exact impl_ranked.mono _ _ _)
   | (with_reducible exact impl_sameBits.mono _ _ _ _ _)
   | (with_reducible exact LeO.refl _)
   | (with_reducible exact LeO.none _)
   | (with_reducible refine LeO.ite ?_ ?_)
   | (with_reducible refine LeO.bind ?_ (fun _ => ?_))
   | exact ih0 _ _ _ _ _
   | exact impl_IsBits.mono _ _ _
   | exact impl_directory.mono _ _ _ _ _
   | exact impl_ranked.mono _ _ _
   | exact impl_sameBits.mono _ _ _ _ _
   | exact LeO.none _
   | refine LeO.ite ?_ ?_
   | refine LeO.bind ?_ (fun _ => ?_)
theorem impl_UnpackDirectory.mono : ∀ a0 a1 a2 a3 k, LeO (impl_UnpackDirectory.f k a0 a1 a2 a3) (impl_UnpackDirectory.f (k + 1) a0 a1 a2 a3) := by
 intro a0 a1 a2 a3 k
 have ih0 := impl_UnpackDirectory.mono_l k
 unfold impl_UnpackDirectory.f
 repeat' first
   | (with_reducible exact ih0 _ _ _ _ _)
   | (with_reducible exact impl_IsBits.mono _ _ _)
   | (with_reducible exact impl_directory.mono _ _ _ _ _)
   | (with_reducible exact impl_ranked.mono _ _ _)
   | (with_reducible exact impl_sameBits.mono _ _ _ _ _)
   | (with_reducible exact LeO.refl _)
   | (with_reducible exact LeO.none _)
   | (with_reducible refine LeO.ite ?_ ?_)
   | (with_reducible refine LeO.bind ?_ (fun _ => ?_))
   | exact ih0 _ _ _ _ _
   | exact impl_IsBits.mono _ _ _
   | exact impl_directory.mono _ _ _ _ _
   | exact impl_ranked.mono _ _ _
   | exact impl_sameBits.mono _ _ _ _ _
   | exact LeO.none _
   | refine LeO.ite ?_ ?_
   | refine LeO.bind ?_ (fun _ => ?_)
set_option maxHeartbeats 8000000 in
set_option maxRecDepth 100000 in
theorem impl_UnpackDirectory.calls (k : Nat) (a0_0 : Int) (A0_1 : Option Addr) (c0_1 : Nat) (l0_1 : List Int) (a1_0 : Int) (A1_1 : Option Addr) (c1_1 : Nat) (l1_1 : List Int) (r1 : Int) (r2 : List Int) (r3 : List Int) (r4 : List Int) (r5 : Bool) (w : World) (hr0_1 : Kd.C (Kd.int .i64) w A0_1 l0_1.length l0_1) (hc0_1 : l0_1.length ≤ c0_1) (hr1_1 : Kd.C (Kd.int .i64) w A1_1 l1_1.length l1_1) (hc1_1 : l1_1.length ≤ c1_1) (h : impl_UnpackDirectory.f k a0_0 l0_1 a1_0 l1_1 = some (r1, r2, r3, r4, r5)) :
  Calls Try.prog 44 #[.agg #[.int .i64 a0_0, .slice A0_1 l0_1.length c0_1], .agg #[.int .i64 a1_0, .slice A1_1 l1_1.length c1_1]] w fun e w' => ∃ v1_ v2_ v3_ : Value, e = .returned (.tuple #[.agg #[.int .i64 r1, v1_, v2_, v3_], .bool r5]) ∧ Kd.R (Kd.int .i64) 3 w' w.heap.size (fun k_ => nb_ k_ v2_ ∧ nb_ k_ v3_) v1_ r2 ∧ Kd.R (Kd.int .i64) 3 w' w.heap.size (fun k_ => nb_ k_ v1_ ∧ nb_ k_ v3_) v2_ r3 ∧ Kd.R (Kd.int .i64) 3 w' w.heap.size (fun k_ => nb_ k_ v1_ ∧ nb_ k_ v2_) v3_ r4 ∧ Below w.heap.size w w' := by
 have hu26 := Try.underlying26
 have hu48 := Try.underlying48
 have HR0_1 := am_ hr0_1
 have HC0_1 := am_ hc0_1
 clear hr0_1 hc0_1
 have HR1_1 := am_ hr1_1
 have HC1_1 := am_ hc1_1
 clear hr1_1 hc1_1
 have HB := am_ (Below.refl w.heap.size w)
 have H : ((impl_IsBits.f k a0_0 l0_1).bind fun t298 => (if t298 = true then ((impl_IsBits.f k a1_0 l1_1).bind fun t299 => (impl_UnpackDirectory.j0 k (!t299) a0_0 l0_1 a1_0 l1_1)) else (impl_UnpackDirectory.j0 k true a0_0 l0_1 a1_0 l1_1))) = some (r1, r2, r3, r4, r5) := h
 clear h
 have HC3 := am_ H
 clear H
 go_enter Try.func44, Try.ntmps44
 go_upto_region 1 with (first | ((with_reducible refine gate_dst (N := 2) rfl ?_); refine bev_ 2 #[.int .i64 a0_0, .slice A0_1 l0_1.length c0_1] 26 rfl rfl ?_; intro gb295 hg w4 hbox hb; have BK295 := am_ (hbox); have GW295 := am_ ((by rw [hg]; exact (below_size (lw_ HB)) : w.heap.size ≤ gb295)); have GE295 := am_ ((by rw [hg]; exact (below_size (lw_ HB)) : w.heap.size ≤ gb295)); replace HB := am_ (below_step (lw_ HB) hb); clear hb hbox hg) | ((with_reducible refine gate_dst (N := 3) rfl ?_); refine bev_ 3 #[.int .i64 a1_0, .slice A1_1 l1_1.length c1_1] 26 rfl rfl ?_; intro gb296 hg w5 hbox hb; have BK296 := am_ (hbox); have GW296 := am_ ((by rw [hg]; exact (below_size (lw_ HB)) : w.heap.size ≤ gb296)); have GE296 := am_ ((by rw [hg]; exact (below_size (lw_ HB)) : w.heap.size ≤ gb296)); have NB295_296 := am_ ((by rw [hg]; exact Nat.ne_of_lt (blk_lt (g := gb295) (lb_ BK295)) : gb295 ≠ gb296)); have NB296_295 := am_ ((by rw [hg]; exact Nat.ne_of_gt (blk_lt (g := gb295) (lb_ BK295)) : gb296 ≠ gb295)); replace BK295 := am_ (blk_below (g := gb295) (lb_ BK295) hb); replace HB := am_ (below_step (lw_ HB) hb); clear hb hbox hg) | ((with_reducible refine gate_dst (N := 4) rfl ?_); refine bev_ 4 #[.int .i64 0, .slice none 0 0, .slice none 0 0, .slice none 0 0] 48 rfl rfl ?_; intro gb297 hg w6 hbox hb; have BK297 := am_ (hbox); have GW297 := am_ ((by rw [hg]; exact (below_size (lw_ HB)) : w.heap.size ≤ gb297)); have GE297 := am_ ((by rw [hg]; exact (below_size (lw_ HB)) : w.heap.size ≤ gb297)); have NB295_297 := am_ ((by rw [hg]; exact Nat.ne_of_lt (blk_lt (g := gb295) (lb_ BK295)) : gb295 ≠ gb297)); have NB297_295 := am_ ((by rw [hg]; exact Nat.ne_of_gt (blk_lt (g := gb295) (lb_ BK295)) : gb297 ≠ gb295)); have NB296_297 := am_ ((by rw [hg]; exact Nat.ne_of_lt (blk_lt (g := gb296) (lb_ BK296)) : gb296 ≠ gb297)); have NB297_296 := am_ ((by rw [hg]; exact Nat.ne_of_gt (blk_lt (g := gb296) (lb_ BK296)) : gb297 ≠ gb296)); replace BK295 := am_ (blk_below (g := gb295) (lb_ BK295) hb); replace BK296 := am_ (blk_below (g := gb296) (lb_ BK296) hb); replace HB := am_ (below_step (lw_ HB) hb); clear hb hbox hg))
 (try simp only [Act.put, List.setIfInBounds_toArray, List.set_cons_zero, List.set_cons_succ])
 go_cut [14] (fun v14 wc => ∃ (kq : Nat) (x14_2 : Bool), v14 = .bool x14_2 ∧ Aside0 (impl_UnpackDirectory.j0 kq x14_2 a0_0 l0_1 a1_0 l1_1 = some (r1, r2, r3, r4, r5)) ∧ Aside0 (kq ≤ k) ∧ Aside0 (wc.heap[gb295]? = some (.cells #[.int .i64 a0_0, (.slice A0_1 l0_1.length c0_1)] 26 (0, 0))) ∧ Aside0 (wc.heap[gb296]? = some (.cells #[.int .i64 a1_0, (.slice A1_1 l1_1.length c1_1)] 26 (0, 0))) ∧ Aside0 (wc.heap[gb297]? = some (.cells #[.int .i64 0, (.slice none 0 0), (.slice none 0 0), (.slice none 0 0)] 48 (0, 0))) ∧ Aside0 (Below w.heap.size w wc))
 case first =>
  have H := HC3.out
  clear HC3
  replace H := Option.bind_eq_some_iff.mp H
  obtain ⟨t298, A70, H⟩ := H
  replace H : (if t298 = true then ((impl_IsBits.f k a1_0 l1_1).bind fun t299 => (impl_UnpackDirectory.j0 k (!t299) a0_0 l0_1 a1_0 l1_1)) else (impl_UnpackDirectory.j0 k true a0_0 l0_1 a1_0 l1_1)) = some (r1, r2, r3, r4, r5) := H
  have A7 := am_ A70
  clear A70
  by_cases c8 : t298 = true
  ·subst c8
   have H1 : ((impl_IsBits.f k a1_0 l1_1).bind fun t299 => (impl_UnpackDirectory.j0 k (!t299) a0_0 l0_1 a1_0 l1_1)) = some (r1, r2, r3, r4, r5) := by rw [if_pos rfl] at H; exact H
   clear H
   have H := H1
   clear H1
   replace H := Option.bind_eq_some_iff.mp H
   obtain ⟨t299, A90, H⟩ := H
   replace H : (impl_UnpackDirectory.j0 k (!t299) a0_0 l0_1 a1_0 l1_1) = some (r1, r2, r3, r4, r5) := H
   have A9 := am_ A90
   clear A90
   have H' := am_ H
   clear H
   have hnb10 := NB295_296.out
   have hnc10 := NB296_295.out
   have hnb11 := NB295_297.out
   have hnc11 := NB297_295.out
   obtain ⟨hcz12_0, hcz12_1, hfz12_0, hfz12_1⟩ := bx2_ BK295.out
   go_wp2_with (first | ((with_reducible refine gate_callee (f := 73) rfl ?_); refine goesL_ (some 8) rfl rfl Try.func73 (by kernel_rfl) rfl #[.agg #[.int .i64 a0_0, .slice A0_1 l0_1.length c0_1]] rfl lm_ ?_; (with_reducible refine (impl_IsBits.calls k a0_0 _ _ l0_1 true _ ?side1 ?side2 A7.out).mono ?_); (case side1 => exact lc_ (Kd.C_below HR0_1.out HB.out)); (case side2 => exact HC0_1.out); rintro e w13 ⟨rfl, hb⟩; refine ⟨_, rfl, ?_⟩; replace BK295 := am_ (blk_below (g := gb295) (lb_ BK295) hb); replace BK296 := am_ (blk_below (g := gb296) (lb_ BK296) hb); replace BK297 := am_ (blk_below (g := gb297) (lb_ BK297) hb); replace HB := am_ (below_step (lw_ HB) hb); (try clear hb); (try clear hb2); (try clear hk); (try clear hi); have hnb14 := NB296_297.out; have hnc14 := NB297_296.out; obtain ⟨hcz15_0, hcz15_1, hfz15_0, hfz15_1⟩ := bx2_ BK296.out) | (go_at_call 73; (with_reducible refine (impl_IsBits.calls k a1_0 _ _ l1_1 t299 _ ?side1 ?side2 A9.out).mono ?_); (case side1 => exact lc_ (Kd.C_below HR1_1.out HB.out)); (case side2 => exact HC1_1.out); rintro e w16 ⟨rfl, hb⟩; replace BK295 := am_ (blk_below (g := gb295) (lb_ BK295) hb); replace BK296 := am_ (blk_below (g := gb296) (lb_ BK296) hb); replace BK297 := am_ (blk_below (g := gb297) (lb_ BK297) hb); replace HB := am_ (below_step (lw_ HB) hb); (try clear hb); (try clear hb2); (try clear hk); (try clear hi)))
   go_meet
   case rel => exact ⟨_, (!t299), sr_, H', ⟨by first | omega | exact Nat.le_refl _⟩, ⟨lb_ BK295⟩, ⟨lb_ BK296⟩, ⟨lb_ BK297⟩, ⟨lw_ HB⟩⟩
  ·replace c8 := Bool.eq_false_iff.mpr c8
   subst c8
   have H1 : (impl_UnpackDirectory.j0 k true a0_0 l0_1 a1_0 l1_1) = some (r1, r2, r3, r4, r5) := by rw [if_neg (show ¬ (false = true) by decide)] at H; exact H
   clear H
   have H := H1
   clear H1
   have H' := am_ H
   clear H
   have hnb17 := NB295_296.out
   have hnc17 := NB296_295.out
   have hnb18 := NB295_297.out
   have hnc18 := NB297_295.out
   obtain ⟨hcz19_0, hcz19_1, hfz19_0, hfz19_1⟩ := bx2_ BK295.out
   go_wp2_with (first | ((with_reducible refine gate_callee (f := 73) rfl ?_); refine goesL_ (some 8) rfl rfl Try.func73 (by kernel_rfl) rfl #[.agg #[.int .i64 a0_0, .slice A0_1 l0_1.length c0_1]] rfl lm_ ?_; (with_reducible refine (impl_IsBits.calls k a0_0 _ _ l0_1 false _ ?side1 ?side2 A7.out).mono ?_); (case side1 => exact lc_ (Kd.C_below HR0_1.out HB.out)); (case side2 => exact HC0_1.out); rintro e w20 ⟨rfl, hb⟩; refine ⟨_, rfl, ?_⟩; replace BK295 := am_ (blk_below (g := gb295) (lb_ BK295) hb); replace BK296 := am_ (blk_below (g := gb296) (lb_ BK296) hb); replace BK297 := am_ (blk_below (g := gb297) (lb_ BK297) hb); replace HB := am_ (below_step (lw_ HB) hb); (try clear hb); (try clear hb2); (try clear hk); (try clear hi)))
   go_meet
   case rel => exact ⟨_, (true), sr_, H', ⟨by first | omega | exact Nat.le_refl _⟩, ⟨lb_ BK295⟩, ⟨lb_ BK296⟩, ⟨lb_ BK297⟩, ⟨lw_ HB⟩⟩
 case rest =>
  clear HC3
  try clear c1
  try clear p2
  try clear c4
  try clear c7
  try clear c8
  try clear c10
  try clear c11
  try clear c14
  try clear c17
  try clear c18
  try clear hcz12_0
  try clear hcz12_1
  try clear hcz15_0
  try clear hcz15_1
  try clear hcz19_0
  try clear hcz19_1
  try clear hfz12_0
  try clear hfz12_1
  try clear hfz15_0
  try clear hfz15_1
  try clear hfz19_0
  try clear hfz19_1
  obtain ⟨kq, x14_2, rfl, HA, HJ2, BK295, BK296, BK297, HB⟩ := hcut
  cases kq with
  | zero => exact absurd HA.out (by simp [impl_UnpackDirectory.j0])
  | succ kj2 =>
   have H := HA.out
   clear HA
   simp only [impl_UnpackDirectory.j0] at H
   by_cases c21 : x14_2 = true
   ·subst c21
    have H1 : (some (0, ([] : List Int), ([] : List Int), ([] : List Int), false)) = some (r1, r2, r3, r4, r5) := by rw [if_pos rfl] at H; exact H
    clear H
    have H := H1
    clear H1
    simp only [Option.some.injEq, Prod.mk.injEq] at H
    obtain ⟨rfl, rfl, rfl, rfl, rfl⟩ := H
    have hnb22 := NB297_295.out
    have hnc22 := NB295_297.out
    have hnb23 := NB297_296.out
    have hnc23 := NB296_297.out
    obtain ⟨hcz24_0, hcz24_1, hcz24_2, hcz24_3, hfz24_0, hfz24_1, hfz24_2, hfz24_3⟩ := bx4_ BK297.out
    go_wp2
    refine bodyPost_ret (results_ct rfl _ _ gb297 48 #[.int .i64 0, .slice none 0 0, .slice none 0 0, .slice none 0 0] (0, 0) _ rfl (lq_ BK297) Try.underlying48 rfl (by kernel_rfl)) rfl ?_
    exact ⟨_, _, _, er_, by first | exact Kd.R_nil _ _ _ _ _ | exact Kd.N_nil _ _ _ _ _ | exact Kd.V_nil _ _ _ _ _ | exact Kd.Q_nil _ _ _ _ _ | exact Kd.S_nil _ _ _ _ _, by first | exact Kd.R_nil _ _ _ _ _ | exact Kd.N_nil _ _ _ _ _ | exact Kd.V_nil _ _ _ _ _ | exact Kd.Q_nil _ _ _ _ _ | exact Kd.S_nil _ _ _ _ _, by first | exact Kd.R_nil _ _ _ _ _ | exact Kd.N_nil _ _ _ _ _ | exact Kd.V_nil _ _ _ _ _ | exact Kd.Q_nil _ _ _ _ _ | exact Kd.S_nil _ _ _ _ _, lw_ HB⟩
   ·replace c21 := Bool.eq_false_iff.mpr c21
    subst c21
    have H1 : ((impl_ranked.f kj2 a0_0 l0_1).bind fun bt300 => ((impl_directory.f kj2 bt300.1 bt300.2.1 bt300.2.2.1 bt300.2.2.2).bind fun bt311 => ((impl_sameBits.f kj2 bt311.1 bt311.2 a1_0 l1_1).bind fun t315 => (if t315 = true then (some (bt300.1, bt300.2.1, bt300.2.2.1, bt300.2.2.2, true)) else (some (0, ([] : List Int), ([] : List Int), ([] : List Int), false)))))) = some (r1, r2, r3, r4, r5) := by rw [if_neg (show ¬ (false = true) by decide)] at H; exact H
    clear H
    have H := H1
    clear H1
    replace H := Option.bind_eq_some_iff.mp H
    obtain ⟨⟨t300, t301, t304, t307⟩, A250, H⟩ := H
    replace H : ((impl_directory.f kj2 t300 t301 t304 t307).bind fun bt311 => ((impl_sameBits.f kj2 bt311.1 bt311.2 a1_0 l1_1).bind fun t315 => (if t315 = true then (some (t300, t301, t304, t307, true)) else (some (0, ([] : List Int), ([] : List Int), ([] : List Int), false))))) = some (r1, r2, r3, r4, r5) := H
    have A25 := am_ A250
    clear A250
    replace H := Option.bind_eq_some_iff.mp H
    obtain ⟨⟨t311, t312⟩, A260, H⟩ := H
    replace H : ((impl_sameBits.f kj2 t311 t312 a1_0 l1_1).bind fun t315 => (if t315 = true then (some (t300, t301, t304, t307, true)) else (some (0, ([] : List Int), ([] : List Int), ([] : List Int), false)))) = some (r1, r2, r3, r4, r5) := H
    have A26 := am_ A260
    clear A260
    replace H := Option.bind_eq_some_iff.mp H
    obtain ⟨t315, A270, H⟩ := H
    replace H : (if t315 = true then (some (t300, t301, t304, t307, true)) else (some (0, ([] : List Int), ([] : List Int), ([] : List Int), false))) = some (r1, r2, r3, r4, r5) := H
    have A27 := am_ A270
    clear A270
    by_cases c28 : t315 = true
    ·subst c28
     have H1 : (some (t300, t301, t304, t307, true)) = some (r1, r2, r3, r4, r5) := by rw [if_pos rfl] at H; exact H
     clear H
     have H := H1
     clear H1
     simp only [Option.some.injEq, Prod.mk.injEq] at H
     obtain ⟨rfl, rfl, rfl, rfl, rfl⟩ := H
     have hnb29 := NB295_296.out
     have hnc29 := NB296_295.out
     have hnb30 := NB295_297.out
     have hnc30 := NB297_295.out
     obtain ⟨hcz31_0, hcz31_1, hfz31_0, hfz31_1⟩ := bx2_ BK295.out
     try go_wp2_with (first | ((with_reducible refine gate_callee (f := 96) rfl ?_); refine goesL_ (some 17) rfl rfl Try.func96 (by kernel_rfl) rfl #[.agg #[.int .i64 a0_0, .slice A0_1 l0_1.length c0_1]] rfl lm_ ?_; (with_reducible refine (impl_ranked.calls kj2 a0_0 _ _ l0_1 t300 t301 t304 t307 _ ?side1 ?side2 A25.out).mono ?_); (case side1 => exact lc_ (Kd.C_below HR0_1.out HB.out)); (case side2 => exact HC0_1.out); rintro e w32 ⟨v302, v305, v308, rfl, ho0, ho1, ho2, hb⟩; refine ⟨_, rfl, ?_⟩; have HO303 := am_ (Kd.R_lower ho0 (below_size (lw_ HB))); have HO306 := am_ (Kd.R_lower ho1 (below_size (lw_ HB))); have HO309 := am_ (Kd.R_lower ho2 (below_size (lw_ HB))); replace BK295 := am_ (blk_below (g := gb295) (lb_ BK295) hb); replace BK296 := am_ (blk_below (g := gb296) (lb_ BK296) hb); replace BK297 := am_ (blk_below (g := gb297) (lb_ BK297) hb); replace HB := am_ (below_step (lw_ HB) hb); (try clear hb); (try clear hb2); (try clear hk); (try clear hi); (try clear ho0); (try clear ho1); (try clear ho2)) | ((with_reducible refine gate_dst (N := 6) rfl ?_); refine bev_ 6 #[.int .i64 0, .slice none 0 0, .slice none 0 0, .slice none 0 0] 48 rfl rfl ?_; intro gb310 hg w33 hbox hb; have BK310 := am_ (hbox); have GW310 := am_ ((by rw [hg]; exact (below_size (lw_ HB)) : w.heap.size ≤ gb310)); have GE310 := am_ ((by rw [hg]; exact (below_size (lw_ HB)) : w.heap.size ≤ gb310)); have NB295_310 := am_ ((by rw [hg]; exact Nat.ne_of_lt (blk_lt (g := gb295) (lb_ BK295)) : gb295 ≠ gb310)); have NB310_295 := am_ ((by rw [hg]; exact Nat.ne_of_gt (blk_lt (g := gb295) (lb_ BK295)) : gb310 ≠ gb295)); have NB296_310 := am_ ((by rw [hg]; exact Nat.ne_of_lt (blk_lt (g := gb296) (lb_ BK296)) : gb296 ≠ gb310)); have NB310_296 := am_ ((by rw [hg]; exact Nat.ne_of_gt (blk_lt (g := gb296) (lb_ BK296)) : gb310 ≠ gb296)); have NB297_310 := am_ ((by rw [hg]; exact Nat.ne_of_lt (blk_lt (g := gb297) (lb_ BK297)) : gb297 ≠ gb310)); have NB310_297 := am_ ((by rw [hg]; exact Nat.ne_of_gt (blk_lt (g := gb297) (lb_ BK297)) : gb310 ≠ gb297)); replace HO303 := am_ (Kd.R_below (lf_ HO303) hb); replace HO306 := am_ (Kd.R_below (lf_ HO306) hb); replace HO309 := am_ (Kd.R_below (lf_ HO309) hb); replace BK295 := am_ (blk_below (g := gb295) (lb_ BK295) hb); replace BK296 := am_ (blk_below (g := gb296) (lb_ BK296) hb); replace BK297 := am_ (blk_below (g := gb297) (lb_ BK297) hb); replace HB := am_ (below_step (lw_ HB) hb); clear hb hbox hg; have hnb34 := NB310_295.out; have hnc34 := NB295_310.out; have hnb35 := NB310_296.out; have hnc35 := NB296_310.out; have hnb36 := NB310_297.out; have hnc36 := NB297_310.out; obtain ⟨hcz37_0, hcz37_1, hcz37_2, hcz37_3, hfz37_0, hfz37_1, hfz37_2, hfz37_3⟩ := bx4_ BK310.out; obtain ⟨Ao38, co38, eo38⟩ := Kd.R_slice HO303.out; subst eo38; obtain ⟨Ao39, co39, eo39⟩ := Kd.R_slice HO306.out; subst eo39; obtain ⟨Ao40, co40, eo40⟩ := Kd.R_slice HO309.out; subst eo40))
     have n0_ : Aside0 (Kd.R (Kd.int .i64) 3 ((((w33.setCell ⟨gb310, 0, none⟩ (.int .i64 t300)).setCell ⟨gb310, 1, none⟩ (.slice Ao38 t301.length co38)).setCell ⟨gb310, 2, none⟩ (.slice Ao39 t304.length co39)).setCell ⟨gb310, 3, none⟩ (.slice Ao40 t307.length co40)) w.heap.size (fun k_ => ns_ k_ Ao39 t304 co39 ∧ ns_ k_ Ao40 t307 co40) (.slice Ao38 t301.length co38) t301) := ⟨lo2_ (fr4_ HO303.out BK310.out (.int .i64 t300) (.slice Ao38 t301.length co38) (.slice Ao39 t304.length co39) (.slice Ao40 t307.length co40))⟩; have n1_ : Aside0 (Kd.R (Kd.int .i64) 3 ((((w33.setCell ⟨gb310, 0, none⟩ (.int .i64 t300)).setCell ⟨gb310, 1, none⟩ (.slice Ao38 t301.length co38)).setCell ⟨gb310, 2, none⟩ (.slice Ao39 t304.length co39)).setCell ⟨gb310, 3, none⟩ (.slice Ao40 t307.length co40)) w.heap.size (fun k_ => ns_ k_ Ao38 t301 co38 ∧ ns_ k_ Ao40 t307 co40) (.slice Ao39 t304.length co39) t304) := ⟨lo2_ (fr4_ HO306.out BK310.out (.int .i64 t300) (.slice Ao38 t301.length co38) (.slice Ao39 t304.length co39) (.slice Ao40 t307.length co40))⟩; have n2_ : Aside0 (Kd.R (Kd.int .i64) 3 ((((w33.setCell ⟨gb310, 0, none⟩ (.int .i64 t300)).setCell ⟨gb310, 1, none⟩ (.slice Ao38 t301.length co38)).setCell ⟨gb310, 2, none⟩ (.slice Ao39 t304.length co39)).setCell ⟨gb310, 3, none⟩ (.slice Ao40 t307.length co40)) w.heap.size (fun k_ => ns_ k_ Ao38 t301 co38 ∧ ns_ k_ Ao39 t304 co39) (.slice Ao40 t307.length co40) t307) := ⟨lo2_ (fr4_ HO309.out BK310.out (.int .i64 t300) (.slice Ao38 t301.length co38) (.slice Ao39 t304.length co39) (.slice Ao40 t307.length co40))⟩; have n3_ : Aside0 (((((w33.setCell ⟨gb310, 0, none⟩ (.int .i64 t300)).setCell ⟨gb310, 1, none⟩ (.slice Ao38 t301.length co38)).setCell ⟨gb310, 2, none⟩ (.slice Ao39 t304.length co39)).setCell ⟨gb310, 3, none⟩ (.slice Ao40 t307.length co40)).heap[gb295]? = some (.cells #[.int .i64 a0_0, .slice A0_1 l0_1.length c0_1] 26 (0, 0))) := ⟨lg_ BK295⟩; have n4_ : Aside0 (((((w33.setCell ⟨gb310, 0, none⟩ (.int .i64 t300)).setCell ⟨gb310, 1, none⟩ (.slice Ao38 t301.length co38)).setCell ⟨gb310, 2, none⟩ (.slice Ao39 t304.length co39)).setCell ⟨gb310, 3, none⟩ (.slice Ao40 t307.length co40)).heap[gb296]? = some (.cells #[.int .i64 a1_0, .slice A1_1 l1_1.length c1_1] 26 (0, 0))) := ⟨lg_ BK296⟩; have n5_ : Aside0 (((((w33.setCell ⟨gb310, 0, none⟩ (.int .i64 t300)).setCell ⟨gb310, 1, none⟩ (.slice Ao38 t301.length co38)).setCell ⟨gb310, 2, none⟩ (.slice Ao39 t304.length co39)).setCell ⟨gb310, 3, none⟩ (.slice Ao40 t307.length co40)).heap[gb297]? = some (.cells #[.int .i64 0, .slice none 0 0, .slice none 0 0, .slice none 0 0] 48 (0, 0))) := ⟨lg_ BK297⟩; have n6_ : Aside0 (((((w33.setCell ⟨gb310, 0, none⟩ (.int .i64 t300)).setCell ⟨gb310, 1, none⟩ (.slice Ao38 t301.length co38)).setCell ⟨gb310, 2, none⟩ (.slice Ao39 t304.length co39)).setCell ⟨gb310, 3, none⟩ (.slice Ao40 t307.length co40)).heap[gb310]? = some (.cells #[.int .i64 t300, .slice Ao38 t301.length co38, .slice Ao39 t304.length co39, .slice Ao40 t307.length co40] 48 (0, 0))) := ⟨lq_ BK310⟩; have n7_ : Aside0 (Below w.heap.size w ((((w33.setCell ⟨gb310, 0, none⟩ (.int .i64 t300)).setCell ⟨gb310, 1, none⟩ (.slice Ao38 t301.length co38)).setCell ⟨gb310, 2, none⟩ (.slice Ao39 t304.length co39)).setCell ⟨gb310, 3, none⟩ (.slice Ao40 t307.length co40))) := ⟨lw_ HB⟩
     (try clear HO303)
     (try clear HO306)
     (try clear HO309)
     (try clear BK295)
     (try clear BK296)
     (try clear BK297)
     (try clear BK310)
     (try clear HB)
     generalize ((((w33.setCell ⟨gb310, 0, none⟩ (.int .i64 t300)).setCell ⟨gb310, 1, none⟩ (.slice Ao38 t301.length co38)).setCell ⟨gb310, 2, none⟩ (.slice Ao39 t304.length co39)).setCell ⟨gb310, 3, none⟩ (.slice Ao40 t307.length co40)) = w41 at n0_ n1_ n2_ n3_ n4_ n5_ n6_ n7_ ⊢
     have HO303 := n0_
     have HO306 := n1_
     have HO309 := n2_
     have BK295 := n3_
     have BK296 := n4_
     have BK297 := n5_
     have BK310 := n6_
     have HB := n7_
     clear n0_ n1_ n2_ n3_ n4_ n5_ n6_ n7_
     replace HO303 := am_ (Kd.R_drew HO303.out); replace HO306 := am_ (Kd.R_drew HO306.out); replace HO309 := am_ (Kd.R_drew HO309.out); replace BK295 := am_ (blk_drew BK295.out); replace BK296 := am_ (blk_drew BK296.out); replace BK297 := am_ (blk_drew BK297.out); replace BK310 := am_ (blk_drew BK310.out); replace HB := am_ (below_drew1 HB.out)
     refine start_ (n := 5) (S := fun w' => w'.cell? ⟨gb310, 0, none⟩ = some (.int .i64 t300) ∧ w'.cell? ⟨gb310, 1, none⟩ = some (.slice Ao38 t301.length co38) ∧ w'.cell? ⟨gb310, 2, none⟩ = some (.slice Ao39 t304.length co39) ∧ w'.cell? ⟨gb310, 3, none⟩ = some (.slice Ao40 t307.length co40) ∧ w'.cell? ⟨gb296, 0, none⟩ = some (.int .i64 a1_0) ∧ w'.cell? ⟨gb296, 1, none⟩ = some (.slice A1_1 l1_1.length c1_1)) (ds := []) #[false, false, false, false, false] (by kernel_rfl) rfl rfl ⟨(blk_cell BK310.out 0).trans rfl, (blk_cell BK310.out 1).trans rfl, (blk_cell BK310.out 2).trans rfl, (blk_cell BK310.out 3).trans rfl, (blk_cell BK296.out 0).trans rfl, (blk_cell BK296.out 1).trans rfl⟩ (fun hHeld => ?_)
     generalize w41.drew = w42 at HO303 HO306 HO309 BK295 BK296 BK297 BK310 HB hHeld ⊢
     refine take_ (i := 0) (N := some 18) (v := ?_) (a' := ?_) #[true, false, false, false, false] rfl rfl (by kernel_rfl) (fun _ _ _ h => h) (Or.inl ⟨by rfl, ?_⟩) hHeld ?_ ?_
     rotate_left
     ·rintro w' ⟨s0, s1, s2, s3, s4, s5⟩
      go_simp
      with_reducible rfl
     rotate_left
     ·simp only [Act.put, List.setIfInBounds_toArray, List.set_cons_zero, List.set_cons_succ, i64_w, i32_w]
      rfl
     refine take_ (i := 2) (N := some 20) (v := ?_) (a' := ?_) #[true, false, true, false, false] rfl rfl (by kernel_rfl) (fun _ _ _ h => h) (Or.inl ⟨by rfl, ?_⟩) hHeld ?_ ?_
     rotate_left
     ·rintro w' ⟨s0, s1, s2, s3, s4, s5⟩
      go_simp
      with_reducible rfl
     rotate_left
     ·simp only [Act.put, List.setIfInBounds_toArray, List.set_cons_zero, List.set_cons_succ, i64_w, i32_w]
      rfl
     refine one_ (i := 1) (N := some 19) #[true, true, true, false, false] rfl rfl (by kernel_rfl) (by decide) (fun K hK => ?_)
     refine goes_ Try.func98 (by kernel_rfl) rfl #[.agg #[.int .i64 t300, .slice Ao38 t301.length co38, .slice Ao39 t304.length co39, .slice Ao40 t307.length co40]] (by rfl) rfl rfl lm_ ?_
     with_reducible refine (impl_directory.calls kj2 t300 _ _ t301 _ _ t304 _ _ t307 t311 t312 _ ?side1 ?side2 ?side3 ?side4 ?side5 ?side6 A26.out).mono ?_
     (case side1 => exact lc_ (Kd.R_reads' HO303.out).2.2)
     (case side2 => exact (Kd.R_reads' HO303.out).2.1)
     (case side3 => exact lc_ (Kd.R_reads' HO306.out).2.2)
     (case side4 => exact (Kd.R_reads' HO306.out).2.1)
     (case side5 => exact lc_ (Kd.R_reads' HO309.out).2.2)
     (case side6 => exact (Kd.R_reads' HO309.out).2.1)
     rintro e w43 ⟨v313, rfl, ho0, hb⟩
     refine ⟨_, rfl, ?_⟩
     have HO314 := am_ (Kd.R_lower (nw_ (nw_ (nw_ ho0 HO303) HO306) HO309) (below_size (lw_ HB))); replace HO303 := am_ (Kd.R_elder' (lf_ HO303) (Kd.R_base ho0) hb); replace HO306 := am_ (Kd.R_elder' (lf_ HO306) (Kd.R_base ho0) hb); replace HO309 := am_ (Kd.R_elder' (lf_ HO309) (Kd.R_base ho0) hb); replace BK295 := am_ (blk_below (g := gb295) (lb_ BK295) hb); replace BK296 := am_ (blk_below (g := gb296) (lb_ BK296) hb); replace BK297 := am_ (blk_below (g := gb297) (lb_ BK297) hb); replace BK310 := am_ (blk_below (g := gb310) (lb_ BK310) hb); replace HB := am_ (below_step (lw_ HB) hb)
     (try clear hb)
     (try clear hb2)
     (try clear hk)
     (try clear hi)
     (try clear ho0)
     obtain ⟨Ao44, co44, eo44⟩ := Kd.R_slice HO314.out
     (first | subst eo44 | (injection eo44 with f1_ f2_ f3_; have f4_ := f1_.symm; have f5_ := f3_.symm; clear f1_ f2_ f3_; subst f4_; subst f5_))
     refine hK.out _ _ ⟨(blk_cell BK310.out 0).trans rfl, (blk_cell BK310.out 1).trans rfl, (blk_cell BK310.out 2).trans rfl, (blk_cell BK310.out 3).trans rfl, (blk_cell BK296.out 0).trans rfl, (blk_cell BK296.out 1).trans rfl⟩ (fun hHeld => ?_)
     clear hK K
     refine norm_ (a' := ?_) ?_ ?_
     rotate_left
     ·show Act.put _ (some 19) _ = _
      simp only [Act.put, List.setIfInBounds_toArray, List.set_cons_zero, List.set_cons_succ, i64_w, i32_w]
      rfl
     refine one_ (i := 3) (N := some 21) #[true, true, true, true, false] rfl rfl (by kernel_rfl) (by decide) (fun K hK => ?_)
     refine goes_ Try.func100 (by kernel_rfl) rfl #[.agg #[.int .i64 t311, .slice Ao44 t312.length co44], .agg #[.int .i64 a1_0, .slice A1_1 l1_1.length c1_1]] (by rfl) rfl rfl lm_ ?_
     with_reducible refine (impl_sameBits.calls kj2 t311 _ _ t312 a1_0 _ _ l1_1 true _ ?side1 ?side2 ?side3 ?side4 A27.out).mono ?_
     (case side1 => exact lc_ (Kd.R_reads' HO314.out).2.2)
     (case side2 => exact (Kd.R_reads' HO314.out).2.1)
     (case side3 => exact lc_ (Kd.C_below HR1_1.out HB.out))
     (case side4 => exact HC1_1.out)
     rintro e w45 ⟨rfl, hb⟩
     refine ⟨_, rfl, ?_⟩
     replace HO303 := am_ (Kd.R_below (lf_ HO303) hb); replace HO306 := am_ (Kd.R_below (lf_ HO306) hb); replace HO309 := am_ (Kd.R_below (lf_ HO309) hb); replace HO314 := am_ (Kd.R_below (lf_ HO314) hb); replace BK295 := am_ (blk_below (g := gb295) (lb_ BK295) hb); replace BK296 := am_ (blk_below (g := gb296) (lb_ BK296) hb); replace BK297 := am_ (blk_below (g := gb297) (lb_ BK297) hb); replace BK310 := am_ (blk_below (g := gb310) (lb_ BK310) hb); replace HB := am_ (below_step (lw_ HB) hb)
     (try clear hb)
     (try clear hb2)
     (try clear hk)
     (try clear hi)
     refine hK.out _ _ ⟨(blk_cell BK310.out 0).trans rfl, (blk_cell BK310.out 1).trans rfl, (blk_cell BK310.out 2).trans rfl, (blk_cell BK310.out 3).trans rfl, (blk_cell BK296.out 0).trans rfl, (blk_cell BK296.out 1).trans rfl⟩ (fun hHeld => ?_)
     clear hK K
     refine norm_ (a' := ?_) ?_ ?_
     rotate_left
     ·show Act.put _ (some 21) _ = _
      simp only [Act.put, List.setIfInBounds_toArray, List.set_cons_zero, List.set_cons_succ, i64_w, i32_w]
      rfl
     refine pure_ (i := 4) (N := some 22) (v := ?_) (a' := ?_) #[true, true, true, true, true] rfl rfl (by kernel_rfl) (fun _ _ _ h => h) (Or.inl ⟨by rfl, ?_⟩) ?_ ?_
     rotate_left
     ·intro w'
      go_simp
      with_reducible rfl
     rotate_left
     ·simp only [Act.put, List.setIfInBounds_toArray, List.set_cons_zero, List.set_cons_succ, i64_w, i32_w]
      rfl
     refine done_ (by kernel_rfl) ?_
     obtain ⟨hcz46_0, hcz46_1, hcz46_2, hcz46_3, hfz46_0, hfz46_1, hfz46_2, hfz46_3⟩ := bx4_ BK310.out
     have hnb47 := NB297_296.out
     have hnc47 := NB296_297.out
     obtain ⟨hcz48_0, hcz48_1, hcz48_2, hcz48_3, hfz48_0, hfz48_1, hfz48_2, hfz48_3⟩ := bx4_ BK297.out
     try go_wp2
     refine bodyPost_ret (results_ct rfl _ _ gb297 48 #[.int .i64 t300, .slice Ao38 t301.length co38, .slice Ao39 t304.length co39, .slice Ao40 t307.length co40] (0, 0) _ rfl (lq_ BK297) Try.underlying48 rfl (by kernel_rfl)) rfl ?_
     exact ⟨_, _, _, er_, lo2_ (fr4_ HO303.out BK297.out (.int .i64 t300) (.slice Ao38 t301.length co38) (.slice Ao39 t304.length co39) (.slice Ao40 t307.length co40)), lo2_ (fr4_ HO306.out BK297.out (.int .i64 t300) (.slice Ao38 t301.length co38) (.slice Ao39 t304.length co39) (.slice Ao40 t307.length co40)), lo2_ (fr4_ HO309.out BK297.out (.int .i64 t300) (.slice Ao38 t301.length co38) (.slice Ao39 t304.length co39) (.slice Ao40 t307.length co40)), lw_ HB⟩
    ·replace c28 := Bool.eq_false_iff.mpr c28
     subst c28
     have H1 : (some (0, ([] : List Int), ([] : List Int), ([] : List Int), false)) = some (r1, r2, r3, r4, r5) := by rw [if_neg (show ¬ (false = true) by decide)] at H; exact H
     clear H
     have H := H1
     clear H1
     simp only [Option.some.injEq, Prod.mk.injEq] at H
     obtain ⟨rfl, rfl, rfl, rfl, rfl⟩ := H
     have hnb49 := NB295_296.out
     have hnc49 := NB296_295.out
     have hnb50 := NB295_297.out
     have hnc50 := NB297_295.out
     obtain ⟨hcz51_0, hcz51_1, hfz51_0, hfz51_1⟩ := bx2_ BK295.out
     try go_wp2_with (first | ((with_reducible refine gate_callee (f := 96) rfl ?_); refine goesL_ (some 17) rfl rfl Try.func96 (by kernel_rfl) rfl #[.agg #[.int .i64 a0_0, .slice A0_1 l0_1.length c0_1]] rfl lm_ ?_; (with_reducible refine (impl_ranked.calls kj2 a0_0 _ _ l0_1 t300 t301 t304 t307 _ ?side1 ?side2 A25.out).mono ?_); (case side1 => exact lc_ (Kd.C_below HR0_1.out HB.out)); (case side2 => exact HC0_1.out); rintro e w52 ⟨v302, v305, v308, rfl, ho0, ho1, ho2, hb⟩; refine ⟨_, rfl, ?_⟩; have HO303 := am_ (Kd.R_lower ho0 (below_size (lw_ HB))); have HO306 := am_ (Kd.R_lower ho1 (below_size (lw_ HB))); have HO309 := am_ (Kd.R_lower ho2 (below_size (lw_ HB))); replace BK295 := am_ (blk_below (g := gb295) (lb_ BK295) hb); replace BK296 := am_ (blk_below (g := gb296) (lb_ BK296) hb); replace BK297 := am_ (blk_below (g := gb297) (lb_ BK297) hb); replace HB := am_ (below_step (lw_ HB) hb); (try clear hb); (try clear hb2); (try clear hk); (try clear hi); (try clear ho0); (try clear ho1); (try clear ho2)) | ((with_reducible refine gate_dst (N := 6) rfl ?_); refine bev_ 6 #[.int .i64 0, .slice none 0 0, .slice none 0 0, .slice none 0 0] 48 rfl rfl ?_; intro gb310 hg w53 hbox hb; have BK310 := am_ (hbox); have GW310 := am_ ((by rw [hg]; exact (below_size (lw_ HB)) : w.heap.size ≤ gb310)); have GE310 := am_ ((by rw [hg]; exact (below_size (lw_ HB)) : w.heap.size ≤ gb310)); have NB295_310 := am_ ((by rw [hg]; exact Nat.ne_of_lt (blk_lt (g := gb295) (lb_ BK295)) : gb295 ≠ gb310)); have NB310_295 := am_ ((by rw [hg]; exact Nat.ne_of_gt (blk_lt (g := gb295) (lb_ BK295)) : gb310 ≠ gb295)); have NB296_310 := am_ ((by rw [hg]; exact Nat.ne_of_lt (blk_lt (g := gb296) (lb_ BK296)) : gb296 ≠ gb310)); have NB310_296 := am_ ((by rw [hg]; exact Nat.ne_of_gt (blk_lt (g := gb296) (lb_ BK296)) : gb310 ≠ gb296)); have NB297_310 := am_ ((by rw [hg]; exact Nat.ne_of_lt (blk_lt (g := gb297) (lb_ BK297)) : gb297 ≠ gb310)); have NB310_297 := am_ ((by rw [hg]; exact Nat.ne_of_gt (blk_lt (g := gb297) (lb_ BK297)) : gb310 ≠ gb297)); replace HO303 := am_ (Kd.R_below (lf_ HO303) hb); replace HO306 := am_ (Kd.R_below (lf_ HO306) hb); replace HO309 := am_ (Kd.R_below (lf_ HO309) hb); replace BK295 := am_ (blk_below (g := gb295) (lb_ BK295) hb); replace BK296 := am_ (blk_below (g := gb296) (lb_ BK296) hb); replace BK297 := am_ (blk_below (g := gb297) (lb_ BK297) hb); replace HB := am_ (below_step (lw_ HB) hb); clear hb hbox hg; have hnb54 := NB310_295.out; have hnc54 := NB295_310.out; have hnb55 := NB310_296.out; have hnc55 := NB296_310.out; have hnb56 := NB310_297.out; have hnc56 := NB297_310.out; obtain ⟨hcz57_0, hcz57_1, hcz57_2, hcz57_3, hfz57_0, hfz57_1, hfz57_2, hfz57_3⟩ := bx4_ BK310.out; obtain ⟨Ao58, co58, eo58⟩ := Kd.R_slice HO303.out; subst eo58; obtain ⟨Ao59, co59, eo59⟩ := Kd.R_slice HO306.out; subst eo59; obtain ⟨Ao60, co60, eo60⟩ := Kd.R_slice HO309.out; subst eo60))
     have n0_ : Aside0 (Kd.R (Kd.int .i64) 3 ((((w53.setCell ⟨gb310, 0, none⟩ (.int .i64 t300)).setCell ⟨gb310, 1, none⟩ (.slice Ao58 t301.length co58)).setCell ⟨gb310, 2, none⟩ (.slice Ao59 t304.length co59)).setCell ⟨gb310, 3, none⟩ (.slice Ao60 t307.length co60)) w.heap.size (fun k_ => ns_ k_ Ao59 t304 co59 ∧ ns_ k_ Ao60 t307 co60) (.slice Ao58 t301.length co58) t301) := ⟨lo2_ (fr4_ HO303.out BK310.out (.int .i64 t300) (.slice Ao58 t301.length co58) (.slice Ao59 t304.length co59) (.slice Ao60 t307.length co60))⟩; have n1_ : Aside0 (Kd.R (Kd.int .i64) 3 ((((w53.setCell ⟨gb310, 0, none⟩ (.int .i64 t300)).setCell ⟨gb310, 1, none⟩ (.slice Ao58 t301.length co58)).setCell ⟨gb310, 2, none⟩ (.slice Ao59 t304.length co59)).setCell ⟨gb310, 3, none⟩ (.slice Ao60 t307.length co60)) w.heap.size (fun k_ => ns_ k_ Ao58 t301 co58 ∧ ns_ k_ Ao60 t307 co60) (.slice Ao59 t304.length co59) t304) := ⟨lo2_ (fr4_ HO306.out BK310.out (.int .i64 t300) (.slice Ao58 t301.length co58) (.slice Ao59 t304.length co59) (.slice Ao60 t307.length co60))⟩; have n2_ : Aside0 (Kd.R (Kd.int .i64) 3 ((((w53.setCell ⟨gb310, 0, none⟩ (.int .i64 t300)).setCell ⟨gb310, 1, none⟩ (.slice Ao58 t301.length co58)).setCell ⟨gb310, 2, none⟩ (.slice Ao59 t304.length co59)).setCell ⟨gb310, 3, none⟩ (.slice Ao60 t307.length co60)) w.heap.size (fun k_ => ns_ k_ Ao58 t301 co58 ∧ ns_ k_ Ao59 t304 co59) (.slice Ao60 t307.length co60) t307) := ⟨lo2_ (fr4_ HO309.out BK310.out (.int .i64 t300) (.slice Ao58 t301.length co58) (.slice Ao59 t304.length co59) (.slice Ao60 t307.length co60))⟩; have n3_ : Aside0 (((((w53.setCell ⟨gb310, 0, none⟩ (.int .i64 t300)).setCell ⟨gb310, 1, none⟩ (.slice Ao58 t301.length co58)).setCell ⟨gb310, 2, none⟩ (.slice Ao59 t304.length co59)).setCell ⟨gb310, 3, none⟩ (.slice Ao60 t307.length co60)).heap[gb295]? = some (.cells #[.int .i64 a0_0, .slice A0_1 l0_1.length c0_1] 26 (0, 0))) := ⟨lg_ BK295⟩; have n4_ : Aside0 (((((w53.setCell ⟨gb310, 0, none⟩ (.int .i64 t300)).setCell ⟨gb310, 1, none⟩ (.slice Ao58 t301.length co58)).setCell ⟨gb310, 2, none⟩ (.slice Ao59 t304.length co59)).setCell ⟨gb310, 3, none⟩ (.slice Ao60 t307.length co60)).heap[gb296]? = some (.cells #[.int .i64 a1_0, .slice A1_1 l1_1.length c1_1] 26 (0, 0))) := ⟨lg_ BK296⟩; have n5_ : Aside0 (((((w53.setCell ⟨gb310, 0, none⟩ (.int .i64 t300)).setCell ⟨gb310, 1, none⟩ (.slice Ao58 t301.length co58)).setCell ⟨gb310, 2, none⟩ (.slice Ao59 t304.length co59)).setCell ⟨gb310, 3, none⟩ (.slice Ao60 t307.length co60)).heap[gb297]? = some (.cells #[.int .i64 0, .slice none 0 0, .slice none 0 0, .slice none 0 0] 48 (0, 0))) := ⟨lg_ BK297⟩; have n6_ : Aside0 (((((w53.setCell ⟨gb310, 0, none⟩ (.int .i64 t300)).setCell ⟨gb310, 1, none⟩ (.slice Ao58 t301.length co58)).setCell ⟨gb310, 2, none⟩ (.slice Ao59 t304.length co59)).setCell ⟨gb310, 3, none⟩ (.slice Ao60 t307.length co60)).heap[gb310]? = some (.cells #[.int .i64 t300, .slice Ao58 t301.length co58, .slice Ao59 t304.length co59, .slice Ao60 t307.length co60] 48 (0, 0))) := ⟨lq_ BK310⟩; have n7_ : Aside0 (Below w.heap.size w ((((w53.setCell ⟨gb310, 0, none⟩ (.int .i64 t300)).setCell ⟨gb310, 1, none⟩ (.slice Ao58 t301.length co58)).setCell ⟨gb310, 2, none⟩ (.slice Ao59 t304.length co59)).setCell ⟨gb310, 3, none⟩ (.slice Ao60 t307.length co60))) := ⟨lw_ HB⟩
     (try clear HO303)
     (try clear HO306)
     (try clear HO309)
     (try clear BK295)
     (try clear BK296)
     (try clear BK297)
     (try clear BK310)
     (try clear HB)
     generalize ((((w53.setCell ⟨gb310, 0, none⟩ (.int .i64 t300)).setCell ⟨gb310, 1, none⟩ (.slice Ao58 t301.length co58)).setCell ⟨gb310, 2, none⟩ (.slice Ao59 t304.length co59)).setCell ⟨gb310, 3, none⟩ (.slice Ao60 t307.length co60)) = w61 at n0_ n1_ n2_ n3_ n4_ n5_ n6_ n7_ ⊢
     have HO303 := n0_
     have HO306 := n1_
     have HO309 := n2_
     have BK295 := n3_
     have BK296 := n4_
     have BK297 := n5_
     have BK310 := n6_
     have HB := n7_
     clear n0_ n1_ n2_ n3_ n4_ n5_ n6_ n7_
     replace HO303 := am_ (Kd.R_drew HO303.out); replace HO306 := am_ (Kd.R_drew HO306.out); replace HO309 := am_ (Kd.R_drew HO309.out); replace BK295 := am_ (blk_drew BK295.out); replace BK296 := am_ (blk_drew BK296.out); replace BK297 := am_ (blk_drew BK297.out); replace BK310 := am_ (blk_drew BK310.out); replace HB := am_ (below_drew1 HB.out)
     refine start_ (n := 5) (S := fun w' => w'.cell? ⟨gb310, 0, none⟩ = some (.int .i64 t300) ∧ w'.cell? ⟨gb310, 1, none⟩ = some (.slice Ao58 t301.length co58) ∧ w'.cell? ⟨gb310, 2, none⟩ = some (.slice Ao59 t304.length co59) ∧ w'.cell? ⟨gb310, 3, none⟩ = some (.slice Ao60 t307.length co60) ∧ w'.cell? ⟨gb296, 0, none⟩ = some (.int .i64 a1_0) ∧ w'.cell? ⟨gb296, 1, none⟩ = some (.slice A1_1 l1_1.length c1_1)) (ds := []) #[false, false, false, false, false] (by kernel_rfl) rfl rfl ⟨(blk_cell BK310.out 0).trans rfl, (blk_cell BK310.out 1).trans rfl, (blk_cell BK310.out 2).trans rfl, (blk_cell BK310.out 3).trans rfl, (blk_cell BK296.out 0).trans rfl, (blk_cell BK296.out 1).trans rfl⟩ (fun hHeld => ?_)
     generalize w61.drew = w62 at HO303 HO306 HO309 BK295 BK296 BK297 BK310 HB hHeld ⊢
     refine take_ (i := 0) (N := some 18) (v := ?_) (a' := ?_) #[true, false, false, false, false] rfl rfl (by kernel_rfl) (fun _ _ _ h => h) (Or.inl ⟨by rfl, ?_⟩) hHeld ?_ ?_
     rotate_left
     ·rintro w' ⟨s0, s1, s2, s3, s4, s5⟩
      go_simp
      with_reducible rfl
     rotate_left
     ·simp only [Act.put, List.setIfInBounds_toArray, List.set_cons_zero, List.set_cons_succ, i64_w, i32_w]
      rfl
     refine take_ (i := 2) (N := some 20) (v := ?_) (a' := ?_) #[true, false, true, false, false] rfl rfl (by kernel_rfl) (fun _ _ _ h => h) (Or.inl ⟨by rfl, ?_⟩) hHeld ?_ ?_
     rotate_left
     ·rintro w' ⟨s0, s1, s2, s3, s4, s5⟩
      go_simp
      with_reducible rfl
     rotate_left
     ·simp only [Act.put, List.setIfInBounds_toArray, List.set_cons_zero, List.set_cons_succ, i64_w, i32_w]
      rfl
     refine one_ (i := 1) (N := some 19) #[true, true, true, false, false] rfl rfl (by kernel_rfl) (by decide) (fun K hK => ?_)
     refine goes_ Try.func98 (by kernel_rfl) rfl #[.agg #[.int .i64 t300, .slice Ao58 t301.length co58, .slice Ao59 t304.length co59, .slice Ao60 t307.length co60]] (by rfl) rfl rfl lm_ ?_
     with_reducible refine (impl_directory.calls kj2 t300 _ _ t301 _ _ t304 _ _ t307 t311 t312 _ ?side1 ?side2 ?side3 ?side4 ?side5 ?side6 A26.out).mono ?_
     (case side1 => exact lc_ (Kd.R_reads' HO303.out).2.2)
     (case side2 => exact (Kd.R_reads' HO303.out).2.1)
     (case side3 => exact lc_ (Kd.R_reads' HO306.out).2.2)
     (case side4 => exact (Kd.R_reads' HO306.out).2.1)
     (case side5 => exact lc_ (Kd.R_reads' HO309.out).2.2)
     (case side6 => exact (Kd.R_reads' HO309.out).2.1)
     rintro e w63 ⟨v313, rfl, ho0, hb⟩
     refine ⟨_, rfl, ?_⟩
     have HO314 := am_ (Kd.R_lower (nw_ (nw_ (nw_ ho0 HO303) HO306) HO309) (below_size (lw_ HB))); replace HO303 := am_ (Kd.R_elder' (lf_ HO303) (Kd.R_base ho0) hb); replace HO306 := am_ (Kd.R_elder' (lf_ HO306) (Kd.R_base ho0) hb); replace HO309 := am_ (Kd.R_elder' (lf_ HO309) (Kd.R_base ho0) hb); replace BK295 := am_ (blk_below (g := gb295) (lb_ BK295) hb); replace BK296 := am_ (blk_below (g := gb296) (lb_ BK296) hb); replace BK297 := am_ (blk_below (g := gb297) (lb_ BK297) hb); replace BK310 := am_ (blk_below (g := gb310) (lb_ BK310) hb); replace HB := am_ (below_step (lw_ HB) hb)
     (try clear hb)
     (try clear hb2)
     (try clear hk)
     (try clear hi)
     (try clear ho0)
     obtain ⟨Ao64, co64, eo64⟩ := Kd.R_slice HO314.out
     (first | subst eo64 | (injection eo64 with f1_ f2_ f3_; have f4_ := f1_.symm; have f5_ := f3_.symm; clear f1_ f2_ f3_; subst f4_; subst f5_))
     refine hK.out _ _ ⟨(blk_cell BK310.out 0).trans rfl, (blk_cell BK310.out 1).trans rfl, (blk_cell BK310.out 2).trans rfl, (blk_cell BK310.out 3).trans rfl, (blk_cell BK296.out 0).trans rfl, (blk_cell BK296.out 1).trans rfl⟩ (fun hHeld => ?_)
     clear hK K
     refine norm_ (a' := ?_) ?_ ?_
     rotate_left
     ·show Act.put _ (some 19) _ = _
      simp only [Act.put, List.setIfInBounds_toArray, List.set_cons_zero, List.set_cons_succ, i64_w, i32_w]
      rfl
     refine one_ (i := 3) (N := some 21) #[true, true, true, true, false] rfl rfl (by kernel_rfl) (by decide) (fun K hK => ?_)
     refine goes_ Try.func100 (by kernel_rfl) rfl #[.agg #[.int .i64 t311, .slice Ao64 t312.length co64], .agg #[.int .i64 a1_0, .slice A1_1 l1_1.length c1_1]] (by rfl) rfl rfl lm_ ?_
     with_reducible refine (impl_sameBits.calls kj2 t311 _ _ t312 a1_0 _ _ l1_1 false _ ?side1 ?side2 ?side3 ?side4 A27.out).mono ?_
     (case side1 => exact lc_ (Kd.R_reads' HO314.out).2.2)
     (case side2 => exact (Kd.R_reads' HO314.out).2.1)
     (case side3 => exact lc_ (Kd.C_below HR1_1.out HB.out))
     (case side4 => exact HC1_1.out)
     rintro e w65 ⟨rfl, hb⟩
     refine ⟨_, rfl, ?_⟩
     replace HO303 := am_ (Kd.R_below (lf_ HO303) hb); replace HO306 := am_ (Kd.R_below (lf_ HO306) hb); replace HO309 := am_ (Kd.R_below (lf_ HO309) hb); replace HO314 := am_ (Kd.R_below (lf_ HO314) hb); replace BK295 := am_ (blk_below (g := gb295) (lb_ BK295) hb); replace BK296 := am_ (blk_below (g := gb296) (lb_ BK296) hb); replace BK297 := am_ (blk_below (g := gb297) (lb_ BK297) hb); replace BK310 := am_ (blk_below (g := gb310) (lb_ BK310) hb); replace HB := am_ (below_step (lw_ HB) hb)
     (try clear hb)
     (try clear hb2)
     (try clear hk)
     (try clear hi)
     refine hK.out _ _ ⟨(blk_cell BK310.out 0).trans rfl, (blk_cell BK310.out 1).trans rfl, (blk_cell BK310.out 2).trans rfl, (blk_cell BK310.out 3).trans rfl, (blk_cell BK296.out 0).trans rfl, (blk_cell BK296.out 1).trans rfl⟩ (fun hHeld => ?_)
     clear hK K
     refine norm_ (a' := ?_) ?_ ?_
     rotate_left
     ·show Act.put _ (some 21) _ = _
      simp only [Act.put, List.setIfInBounds_toArray, List.set_cons_zero, List.set_cons_succ, i64_w, i32_w]
      rfl
     refine pure_ (i := 4) (N := some 22) (v := ?_) (a' := ?_) #[true, true, true, true, true] rfl rfl (by kernel_rfl) (fun _ _ _ h => h) (Or.inl ⟨by rfl, ?_⟩) ?_ ?_
     rotate_left
     ·intro w'
      go_simp
      with_reducible rfl
     rotate_left
     ·simp only [Act.put, List.setIfInBounds_toArray, List.set_cons_zero, List.set_cons_succ, i64_w, i32_w]
      rfl
     refine done_ (by kernel_rfl) ?_
     have hnb66 := NB297_296.out
     have hnc66 := NB296_297.out
     obtain ⟨hcz67_0, hcz67_1, hcz67_2, hcz67_3, hfz67_0, hfz67_1, hfz67_2, hfz67_3⟩ := bx4_ BK297.out
     try go_wp2
     refine bodyPost_ret (results_ct rfl _ _ gb297 48 #[.int .i64 0, .slice none 0 0, .slice none 0 0, .slice none 0 0] (0, 0) _ rfl (lq_ BK297) Try.underlying48 rfl (by kernel_rfl)) rfl ?_
     exact ⟨_, _, _, er_, by first | exact Kd.R_nil _ _ _ _ _ | exact Kd.N_nil _ _ _ _ _ | exact Kd.V_nil _ _ _ _ _ | exact Kd.Q_nil _ _ _ _ _ | exact Kd.S_nil _ _ _ _ _, by first | exact Kd.R_nil _ _ _ _ _ | exact Kd.N_nil _ _ _ _ _ | exact Kd.V_nil _ _ _ _ _ | exact Kd.Q_nil _ _ _ _ _ | exact Kd.S_nil _ _ _ _ _, by first | exact Kd.R_nil _ _ _ _ _ | exact Kd.N_nil _ _ _ _ _ | exact Kd.V_nil _ _ _ _ _ | exact Kd.Q_nil _ _ _ _ _ | exact Kd.S_nil _ _ _ _ _, lw_ HB⟩

/-! ### laws_big: function 45 -/
def laws_big.f (l0 : List Int) (l1 : List Int) : Option (Bool) := if (l0.length : Int) > 1048576 then (some true) else (some (decide ((l1.length : Int) > (wrap64 (1048576 - (l0.length : Int))))))
set_option maxHeartbeats 8000000 in
set_option maxRecDepth 100000 in
theorem laws_big.calls (A0 : Option Addr) (c0 : Nat) (l0 : List Int) (A1 : Option Addr) (c1 : Nat) (l1 : List Int) (r : Bool) (w : World) (hr0 : Kd.C (Kd.int .u8) w A0 l0.length l0) (hc0 : l0.length ≤ c0) (hr1 : Kd.C (Kd.int .u8) w A1 l1.length l1) (hc1 : l1.length ≤ c1) (h : laws_big.f l0 l1 = some r) :
  Calls Try.prog 45 #[.slice A0 l0.length c0, .slice A1 l1.length c1] w fun e w' => e = .returned (.bool r) ∧ Drawn0 w w' := by
 have HR0 := am_ hr0
 have HC0 := am_ hc0
 clear hr0 hc0
 have HR1 := am_ hr1
 have HC1 := am_ hc1
 clear hr1 hc1
 have H : (if (l0.length : Int) > 1048576 then (some true) else (some (decide ((l1.length : Int) > (wrap64 (1048576 - (l0.length : Int))))))) = some r := h
 clear h
 by_cases c3 : (l0.length : Int) > 1048576
 ·rw [if_pos c3] at H
  have c3b0 : decide (1048576 < (l0.length : Int)) = true := decide_eq_true c3
  have c3b1 : decide (1048576 < l0.length) = true := decide_eq_true (by omega)
  clear c3
  obtain rfl := Option.some.inj H
  go_enter Try.func45, Try.ntmps45
  go_wp2
  go_ret
  exact ⟨by first | rfl | (simp; done) | (simp [*]; done), by repeat (first | exact Drawn0.refl _ | apply Drawn0.step)⟩
 ·rw [if_neg c3] at H
  have c3b0 : decide (1048576 < (l0.length : Int)) = false := decide_eq_false c3
  have c3b1 : decide (1048576 < l0.length) = false := decide_eq_false (by omega)
  clear c3
  obtain rfl := Option.some.inj H
  go_enter Try.func45, Try.ntmps45
  go_wp2
  go_ret
  exact ⟨by first | rfl | (simp; done) | (simp [*]; done), by repeat (first | exact Drawn0.refl _ | apply Drawn0.step)⟩

/-! ### spec_biList: function 71 -/
def spec_biList.l0 : Nat → List Bool → Int → Int → List Int → Option (List Bool)
 | 0, _, _, _, _ => none
 | k + 1, x3, x4, x317000, x317001 => if x4 < x317000 then ((spec_biAt.f x317000 x317001 x4).bind fun t317 => (if x3.length < 140737488355328 then (spec_biList.l0 k (x3 ++ [t317]) (wrap64 (x4 + 1)) x317000 x317001) else (none))) else (some x3)
def spec_biList.f (k : Nat) (a0_0 : Int) (l0_1 : List Int) : Option (List Bool) := spec_biList.l0 k ([] : List Bool) 0 a0_0 l0_1
theorem spec_biList.mono_l : ∀ k, (∀ y0 y1 y2 y3, LeO (spec_biList.l0 k y0 y1 y2 y3) (spec_biList.l0 (k + 1) y0 y1 y2 y3))
 | 0 => fun _ _ _ _ r h => by simp [spec_biList.l0] at h
 | k + 1 => by
  have ih0 := spec_biList.mono_l k
  ·intro y0 y1 y2 y3
   unfold spec_biList.l0
   repeat' first
   | (with_reducible exact ih0 _ _ _ _)
   | (with_reducible exact LeO.refl _)
   | (with_reducible exact LeO.none _)
   | (with_reducible refine LeO.ite ?_ ?_)
   | (with_reducible refine LeO.bind ?_ (fun _ => ?_))
   | exact ih0 _ _ _ _
   | exact LeO.none _
   | refine LeO.ite ?_ ?_
   | refine LeO.bind ?_ (fun _ => ?_)
theorem spec_biList.mono : ∀ a0 a1 k, LeO (spec_biList.f k a0 a1) (spec_biList.f (k + 1) a0 a1) := by
 intro a0 a1 k
 have ih0 := spec_biList.mono_l k
 unfold spec_biList.f
 repeat' first
   | (with_reducible exact ih0 _ _ _ _)
   | (with_reducible exact LeO.refl _)
   | (with_reducible exact LeO.none _)
   | (with_reducible refine LeO.ite ?_ ?_)
   | (with_reducible refine LeO.bind ?_ (fun _ => ?_))
   | exact ih0 _ _ _ _
   | exact LeO.none _
   | refine LeO.ite ?_ ?_
   | refine LeO.bind ?_ (fun _ => ?_)
set_option maxHeartbeats 8000000 in
set_option maxRecDepth 100000 in
theorem spec_biList.calls (k : Nat) (a0_0 : Int) (A0_1 : Option Addr) (c0_1 : Nat) (l0_1 : List Int) (r : List Bool) (w : World) (hr0_1 : Kd.C (Kd.int .i64) w A0_1 l0_1.length l0_1) (hc0_1 : l0_1.length ≤ c0_1) (h : spec_biList.f k a0_0 l0_1 = some r) :
  Calls Try.prog 71 #[.agg #[.int .i64 a0_0, .slice A0_1 l0_1.length c0_1]] w fun e w' => ∃ v0_ : Value, e = .returned (v0_) ∧ Kd.R Kd.bool 4 w' w.heap.size (fun _ => True) v0_ r ∧ Below w.heap.size w w' := by
 have hu26 := Try.underlying26
 have HR0_1 := am_ hr0_1
 have HC0_1 := am_ hc0_1
 clear hr0_1 hc0_1
 have HB := am_ (Below.refl w.heap.size w)
 have H : (spec_biList.l0 k ([] : List Bool) 0 a0_0 l0_1) = some r := h
 clear h
 have H' := am_ H
 clear H
 go_enter Try.func71, Try.ntmps71
 go_wp2_with (first | ((with_reducible refine gate_dst (N := 1) rfl ?_); refine bev_ 1 #[.int .i64 a0_0, .slice A0_1 l0_1.length c0_1] 26 rfl rfl ?_; intro gb316 hg w2 hbox hb; have BK316 := am_ (hbox); have GW316 := am_ ((by rw [hg]; exact (below_size (lw_ HB)) : w.heap.size ≤ gb316)); have GE316 := am_ ((by rw [hg]; exact (below_size (lw_ HB)) : w.heap.size ≤ gb316)); replace HB := am_ (below_step (lw_ HB) hb); clear hb hbox hg))
 go_loopg [3, 4] k (fun kq v3 v4 w' => ∃ (x3_1 : List Bool) (x4_1 : Int), v4 = .int .i64 x4_1 ∧ Aside0 (spec_biList.l0 kq x3_1 x4_1 a0_0 l0_1 = some r) ∧ Aside0 (kq ≤ k) ∧ Aside0 (Kd.R Kd.bool 4 w' w.heap.size (fun _ => True) v3 x3_1) ∧ Aside0 (w'.heap[gb316]? = some (.cells #[.int .i64 a0_0, (.slice A0_1 l0_1.length c0_1)] 26 (0, 0))) ∧ Aside0 (Below w.heap.size w w'))
 case atStart => exact ⟨(([] : List Bool)), (0), sr_, H', ⟨Nat.le_refl _⟩, ⟨by first | exact Kd.R_nil _ _ _ _ _ | exact Kd.N_nil _ _ _ _ _ | exact Kd.V_nil _ _ _ _ _ | exact Kd.Q_nil _ _ _ _ _ | exact Kd.S_nil _ _ _ _ _⟩, ⟨lb_ BK316⟩, ⟨lw_ HB⟩⟩
 case round =>
  clear H'
  try clear p2
  obtain ⟨x3_1, x4_1, rfl, HA, HK1, HO_3, BK316, HB⟩ := hrel
  cases gk with
  | zero => exact absurd HA.out (by simp [spec_biList.l0])
  | succ k1 =>
   have H := HA.out
   clear HA
   simp only [spec_biList.l0] at H
   by_cases c3 : x4_1 < a0_0
   ·rw [if_pos c3] at H
    have c3b0 : decide (x4_1 < a0_0) = true := decide_eq_true c3
    clear c3
    replace H := Option.bind_eq_some_iff.mp H
    obtain ⟨t317, A40, H⟩ := H
    replace H : (if x3_1.length < 140737488355328 then (spec_biList.l0 k1 (x3_1 ++ [t317]) (wrap64 (x4_1 + 1)) a0_0 l0_1) else (none)) = some r := H
    have A4 := am_ A40
    clear A40
    by_cases c5 : x3_1.length < 140737488355328
    ·rw [if_pos c5] at H
     have LMc5 := am_ c5
     clear c5
     obtain ⟨y318, hy318⟩ : ∃ y_ : List Bool, y_ = (x3_1 ++ [t317]) := ⟨_, rfl⟩
     replace H : (spec_biList.l0 k1 y318 (wrap64 (x4_1 + 1)) a0_0 l0_1) = some r := by first | (rw [hy318]; with_reducible exact H) | (have H2_ := (Option.bind_some _ _).symm.trans H; rw [hy318]; with_reducible exact H2_) | (have H2_ := (Option.bind_some _ _).symm.trans H; with_reducible exact H2_) | with_reducible exact H | (rw [hy318]; exact H) | exact H
     have Ny318 := am_ hy318
     clear hy318
     have H' := am_ H
     clear H
     obtain ⟨hcz6_0, hcz6_1, hfz6_0, hfz6_1⟩ := bx2_ BK316.out
     go_wp2_with (first | ((with_reducible refine gate_callee (f := 122) rfl ?_); refine goesL_ (some 14) rfl rfl Try.func122 (by kernel_rfl) rfl #[.agg #[.int .i64 a0_0, .slice A0_1 l0_1.length c0_1], .int .i64 x4_1] rfl lm_ ?_; (with_reducible refine (spec_biAt.calls a0_0 _ _ l0_1 x4_1 t317 _ ?side1 ?side2 A4.out).mono ?_); (case side1 => exact lc_ (Kd.C_below HR0_1.out HB.out)); (case side2 => exact HC0_1.out); rintro e w7 ⟨rfl, hb⟩; refine ⟨_, rfl, ?_⟩; replace HO_3 := am_ (Kd.R_below (lf_ HO_3) hb); replace BK316 := am_ (blk_below (g := gb316) (lb_ BK316) hb); replace HB := am_ (below_step (lw_ HB) hb); (try clear hb); (try clear hb2); (try clear hk); (try clear hi)) | ((with_reducible refine gate_builtin (b := .append) (xs := #[.tmp 11, .tmp 15]) rfl ?_); at_builtin; refine Kd.R_append Kd.bool (w0 := w) w.heap.size rfl (.tmp 11) (.tmp 15) 88 4 (.bool false) 1 rfl Try.underlying88 info4 rfl (by decide) (by omega) u3 x3_1 t317 [.bool t317] (fun _ => True) (fun _ => False) rfl rfl ?aP (fun _ hk => hk.elim) ?aF ?aO ?aB ?aS ?aL ?_; (case aP => exact rfl); (case aB => exact (lw_ HB)); (case aF => exact (fun _ _ => trivial)); (case aO => exact (lf_ HO_3)); (case aS => exact (below_size (lw_ HB))); (case aL => have := LMc5.out; omega); intro v319 w8 ho hb hg hat; rw [← Ny318.out] at ho; have HO320 := am_ (ho); replace BK316 := am_ (blk_grown (g := gb316) (lb_ BK316) hg (Kd.R_ne HO_3.out BK316.out (by decide))); replace HB := am_ (hb); clear HO_3; clear ho hb hg hat))
     go_roundg k1
     case measure => have := HK1.out; omega
     case rel => exact ⟨(y318), (wrap64 (x4_1 + 1)), sr_, H', ⟨by have := HK1.out; omega⟩, ⟨lf_ HO320⟩, ⟨lb_ BK316⟩, ⟨lw_ HB⟩⟩
    ·rw [if_neg c5] at H
     exact absurd H (by simp)
   ·rw [if_neg c3] at H
    have c3b0 : decide (x4_1 < a0_0) = false := decide_eq_false c3
    clear c3
    obtain rfl := Option.some.inj H
    obtain ⟨hcz9_0, hcz9_1, hfz9_0, hfz9_1⟩ := bx2_ BK316.out
    go_wp2
    go_ret
    exact ⟨_, er_, lf_ HO_3, lw_ HB⟩

end Go.Proofs.Ytkmhjgejficclaa.PFnDirectoriesArePacked
