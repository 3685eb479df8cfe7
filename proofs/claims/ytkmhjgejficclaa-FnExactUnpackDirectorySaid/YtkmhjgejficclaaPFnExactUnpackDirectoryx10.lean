-- Laid by a program of this session: the print of the kit with additions of ours (wip/tools/patchprint.py). Nothing of it is trusted: Lean checks it.
import Derived.Test.YtkmhjgejficclaaPFnExactUnpackDirectoryx0
import Derived.Test.YtkmhjgejficclaaPFnExactUnpackDirectoryx7
import Derived.Test.YtkmhjgejficclaaPFnExactUnpackDirectoryx8
import Derived.Test.YtkmhjgejficclaaPFnExactUnpackDirectoryx9
namespace Go.Proofs.Ytkmhjgejficclaa.PFnExactUnpackDirectory
open Go.RowKit Go.Proofs.YtkmhjgejficclaaW.PrintWords Go.Proofs.YtkmhjgejficclaaW.PrintLast Go.Proofs.YtkmhjgejficclaaW.PrintMore
attribute [local go_sem] max2_int min2_int max_two min_two max_three min_three max_four min_four   -- for this text's walks alone
set_option linter.unusedVariables false
set_option linter.unusedSimpArgs false

/-! ### impl_UnpackDirectory: function 44 -/
def impl_UnpackDirectory.j0 : Nat → Bool → Int → List Int → Int → List Int → Option (Int × List Int × List Int × List Int × Bool)
 | 0, _, _, _, _, _ => none
 | k + 1, x14, x316000, x316001, x317000, x317001 => if x14 = true then (some (0, ([] : List Int), ([] : List Int), ([] : List Int), false)) else ((impl_ranked.f k x316000 x316001).bind fun bt320 => ((impl_directory.f k bt320.1 bt320.2.1 bt320.2.2.1 bt320.2.2.2).bind fun bt331 => ((impl_sameBits.f k bt331.1 bt331.2 x317000 x317001).bind fun t335 => (if t335 = true then (some (bt320.1, bt320.2.1, bt320.2.2.1, bt320.2.2.2, true)) else (some (0, ([] : List Int), ([] : List Int), ([] : List Int), false))))))
def impl_UnpackDirectory.f (k : Nat) (a0_0 : Int) (l0_1 : List Int) (a1_0 : Int) (l1_1 : List Int) : Option (Int × List Int × List Int × List Int × Bool) := (impl_IsBits.f k a0_0 l0_1).bind fun t318 => (if t318 = true then ((impl_IsBits.f k a1_0 l1_1).bind fun t319 => (impl_UnpackDirectory.j0 k (!t319) a0_0 l0_1 a1_0 l1_1)) else (impl_UnpackDirectory.j0 k true a0_0 l0_1 a1_0 l1_1))
theorem impl_UnpackDirectory.mono_l : ∀ k, (∀ y0 y1 y2 y3 y4, LeO (impl_UnpackDirectory.j0 k y0 y1 y2 y3 y4) (impl_UnpackDirectory.j0 (k + 1) y0 y1 y2 y3 y4))
 | 0 => fun _ _ _ _ _ r h => by simp [impl_UnpackDirectory.j0] at h
 | k + 1 => by
  have ih0 := impl_UnpackDirectory.mono_l k
  ·intro y0 y1 y2 y3 y4
   unfold impl_UnpackDirectory.j0
   repeat' first
   | (with_reducible exact ih0 _ _ _ _ _)
   | (with_reducible exact impl_IsBits.mono _ _ _)
   | (with_reducible exact impl_directory.mono _ _ _ _ _)
   | (with_reducible exact impl_ranked.mono _ _ _)
   | (with_reducible exact impl_sameBits.mono _ _ _ _ _)
   | (with_reducible exact LeO.refl _)
   | (with_reducible exact LeO.none _)
   | (with_reducible refine LeO.ite ?_ ?_)
   | (with_reducible refine LeO.bind ?_ (fun _ => ?_))
   | exact ih0 _ _ _ _ _
   | exact impl_IsBits.mono _ _ _
   | exact impl_directory.mono _ _ _ _ _
   | exact impl_ranked.mono _ _ _
   | exact impl_sameBits.mono _ _ _ _ _
   | exact LeO.none _
   | refine LeO.ite ?_ ?_
   | refine LeO.bind ?_ (fun _ => ?_)
theorem impl_UnpackDirectory.mono : ∀ a0 a1 a2 a3 k, LeO (impl_UnpackDirectory.f k a0 a1 a2 a3) (impl_UnpackDirectory.f (k + 1) a0 a1 a2 a3) := by
 intro a0 a1 a2 a3 k
 have ih0 := impl_UnpackDirectory.mono_l k
 unfold impl_UnpackDirectory.f
 repeat' first
   | (with_reducible exact ih0 _ _ _ _ _)
   | (with_reducible exact impl_IsBits.mono _ _ _)
   | (with_reducible exact impl_directory.mono _ _ _ _ _)
   | (with_reducible exact impl_ranked.mono _ _ _)
   | (with_reducible exact impl_sameBits.mono _ _ _ _ _)
   | (with_reducible exact LeO.refl _)
   | (with_reducible exact LeO.none _)
   | (with_reducible refine LeO.ite ?_ ?_)
   | (with_reducible refine LeO.bind ?_ (fun _ => ?_))
   | exact ih0 _ _ _ _ _
   | exact impl_IsBits.mono _ _ _
   | exact impl_directory.mono _ _ _ _ _
   | exact impl_ranked.mono _ _ _
   | exact impl_sameBits.mono _ _ _ _ _
   | exact LeO.none _
   | refine LeO.ite ?_ ?_
   | refine LeO.bind ?_ (fun _ => ?_)
set_option maxHeartbeats 8000000 in
set_option maxRecDepth 100000 in
theorem impl_UnpackDirectory.calls (k : Nat) (a0_0 : Int) (A0_1 : Option Addr) (c0_1 : Nat) (l0_1 : List Int) (a1_0 : Int) (A1_1 : Option Addr) (c1_1 : Nat) (l1_1 : List Int) (r1 : Int) (r2 : List Int) (r3 : List Int) (r4 : List Int) (r5 : Bool) (w : World) (hr0_1 : Kd.C (Kd.int .i64) w A0_1 l0_1.length l0_1) (hc0_1 : l0_1.length ≤ c0_1) (hr1_1 : Kd.C (Kd.int .i64) w A1_1 l1_1.length l1_1) (hc1_1 : l1_1.length ≤ c1_1) (h : impl_UnpackDirectory.f k a0_0 l0_1 a1_0 l1_1 = some (r1, r2, r3, r4, r5)) :
  Calls Try.prog 44 #[.agg #[.int .i64 a0_0, .slice A0_1 l0_1.length c0_1], .agg #[.int .i64 a1_0, .slice A1_1 l1_1.length c1_1]] w fun e w' => ∃ v1_ v2_ v3_ : Value, e = .returned (.tuple #[.agg #[.int .i64 r1, v1_, v2_, v3_], .bool r5]) ∧ Kd.R (Kd.int .i64) 3 w' w.heap.size (fun k_ => nb_ k_ v2_ ∧ nb_ k_ v3_) v1_ r2 ∧ Kd.R (Kd.int .i64) 3 w' w.heap.size (fun k_ => nb_ k_ v1_ ∧ nb_ k_ v3_) v2_ r3 ∧ Kd.R (Kd.int .i64) 3 w' w.heap.size (fun k_ => nb_ k_ v1_ ∧ nb_ k_ v2_) v3_ r4 ∧ Below w.heap.size w w' := by
 have hu26 := Try.underlying26
 have hu48 := Try.underlying48
 have HR0_1 := am_ hr0_1
 have HC0_1 := am_ hc0_1
 clear hr0_1 hc0_1
 have HR1_1 := am_ hr1_1
 have HC1_1 := am_ hc1_1
 clear hr1_1 hc1_1
 have HB := am_ (Below.refl w.heap.size w)
 have H : ((impl_IsBits.f k a0_0 l0_1).bind fun t318 => (if t318 = true then ((impl_IsBits.f k a1_0 l1_1).bind fun t319 => (impl_UnpackDirectory.j0 k (!t319) a0_0 l0_1 a1_0 l1_1)) else (impl_UnpackDirectory.j0 k true a0_0 l0_1 a1_0 l1_1))) = some (r1, r2, r3, r4, r5) := h
 clear h
 have HC3 := am_ H
 clear H
 go_enter Try.func44, Try.ntmps44
 go_upto_region 1 with (first | ((with_reducible refine gate_dst (N := 2) rfl ?_); refine bev_ 2 #[.int .i64 a0_0, .slice A0_1 l0_1.length c0_1] 26 rfl rfl ?_; intro gb315 hg w4 hbox hb; have BK315 := am_ (hbox); have GW315 := am_ ((by rw [hg]; exact (below_size (lw_ HB)) : w.heap.size ≤ gb315)); have GE315 := am_ ((by rw [hg]; exact (below_size (lw_ HB)) : w.heap.size ≤ gb315)); replace HB := am_ (below_step (lw_ HB) hb); clear hb hbox hg) | ((with_reducible refine gate_dst (N := 3) rfl ?_); refine bev_ 3 #[.int .i64 a1_0, .slice A1_1 l1_1.length c1_1] 26 rfl rfl ?_; intro gb316 hg w5 hbox hb; have BK316 := am_ (hbox); have GW316 := am_ ((by rw [hg]; exact (below_size (lw_ HB)) : w.heap.size ≤ gb316)); have GE316 := am_ ((by rw [hg]; exact (below_size (lw_ HB)) : w.heap.size ≤ gb316)); have NB315_316 := am_ ((by rw [hg]; exact Nat.ne_of_lt (blk_lt (g := gb315) (lb_ BK315)) : gb315 ≠ gb316)); have NB316_315 := am_ ((by rw [hg]; exact Nat.ne_of_gt (blk_lt (g := gb315) (lb_ BK315)) : gb316 ≠ gb315)); replace BK315 := am_ (blk_below (g := gb315) (lb_ BK315) hb); replace HB := am_ (below_step (lw_ HB) hb); clear hb hbox hg) | ((with_reducible refine gate_dst (N := 4) rfl ?_); refine bev_ 4 #[.int .i64 0, .slice none 0 0, .slice none 0 0, .slice none 0 0] 48 rfl rfl ?_; intro gb317 hg w6 hbox hb; have BK317 := am_ (hbox); have GW317 := am_ ((by rw [hg]; exact (below_size (lw_ HB)) : w.heap.size ≤ gb317)); have GE317 := am_ ((by rw [hg]; exact (below_size (lw_ HB)) : w.heap.size ≤ gb317)); have NB315_317 := am_ ((by rw [hg]; exact Nat.ne_of_lt (blk_lt (g := gb315) (lb_ BK315)) : gb315 ≠ gb317)); have NB317_315 := am_ ((by rw [hg]; exact Nat.ne_of_gt (blk_lt (g := gb315) (lb_ BK315)) : gb317 ≠ gb315)); have NB316_317 := am_ ((by rw [hg]; exact Nat.ne_of_lt (blk_lt (g := gb316) (lb_ BK316)) : gb316 ≠ gb317)); have NB317_316 := am_ ((by rw [hg]; exact Nat.ne_of_gt (blk_lt (g := gb316) (lb_ BK316)) : gb317 ≠ gb316)); replace BK315 := am_ (blk_below (g := gb315) (lb_ BK315) hb); replace BK316 := am_ (blk_below (g := gb316) (lb_ BK316) hb); replace HB := am_ (below_step (lw_ HB) hb); clear hb hbox hg))
 (try simp only [Act.put, List.setIfInBounds_toArray, List.set_cons_zero, List.set_cons_succ])
 go_cut [14] (fun v14 wc => ∃ (kq : Nat) (x14_2 : Bool), v14 = .bool x14_2 ∧ Aside0 (impl_UnpackDirectory.j0 kq x14_2 a0_0 l0_1 a1_0 l1_1 = some (r1, r2, r3, r4, r5)) ∧ Aside0 (kq ≤ k) ∧ Aside0 (wc.heap[gb315]? = some (.cells #[.int .i64 a0_0, (.slice A0_1 l0_1.length c0_1)] 26 (0, 0))) ∧ Aside0 (wc.heap[gb316]? = some (.cells #[.int .i64 a1_0, (.slice A1_1 l1_1.length c1_1)] 26 (0, 0))) ∧ Aside0 (wc.heap[gb317]? = some (.cells #[.int .i64 0, (.slice none 0 0), (.slice none 0 0), (.slice none 0 0)] 48 (0, 0))) ∧ Aside0 (Below w.heap.size w wc))
 case first =>
  have H := HC3.out
  clear HC3
  replace H := Option.bind_eq_some_iff.mp H
  obtain ⟨t318, A70, H⟩ := H
  replace H : (if t318 = true then ((impl_IsBits.f k a1_0 l1_1).bind fun t319 => (impl_UnpackDirectory.j0 k (!t319) a0_0 l0_1 a1_0 l1_1)) else (impl_UnpackDirectory.j0 k true a0_0 l0_1 a1_0 l1_1)) = some (r1, r2, r3, r4, r5) := H
  have A7 := am_ A70
  clear A70
  by_cases c8 : t318 = true
  ·subst c8
   have H1 : ((impl_IsBits.f k a1_0 l1_1).bind fun t319 => (impl_UnpackDirectory.j0 k (!t319) a0_0 l0_1 a1_0 l1_1)) = some (r1, r2, r3, r4, r5) := by rw [if_pos rfl] at H; exact H
   clear H
   have H := H1
   clear H1
   replace H := Option.bind_eq_some_iff.mp H
   obtain ⟨t319, A90, H⟩ := H
   replace H : (impl_UnpackDirectory.j0 k (!t319) a0_0 l0_1 a1_0 l1_1) = some (r1, r2, r3, r4, r5) := H
   have A9 := am_ A90
   clear A90
   have H' := am_ H
   clear H
   have hnb10 := NB315_316.out
   have hnc10 := NB316_315.out
   have hnb11 := NB315_317.out
   have hnc11 := NB317_315.out
   obtain ⟨hcz12_0, hcz12_1, hfz12_0, hfz12_1⟩ := bx2_ BK315.out
   go_wp2_with (first | ((with_reducible refine gate_callee (f := 73) rfl ?_); refine goesL_ (some 8) rfl rfl Try.func73 (by kernel_rfl) rfl #[.agg #[.int .i64 a0_0, .slice A0_1 l0_1.length c0_1]] rfl lm_ ?_; (with_reducible refine (impl_IsBits.calls k a0_0 _ _ l0_1 true _ ?side1 ?side2 A7.out).mono ?_); (case side1 => exact lc_ (Kd.C_below HR0_1.out HB.out)); (case side2 => exact HC0_1.out); rintro e w13 ⟨rfl, hb⟩; refine ⟨_, rfl, ?_⟩; replace BK315 := am_ (blk_below (g := gb315) (lb_ BK315) hb); replace BK316 := am_ (blk_below (g := gb316) (lb_ BK316) hb); replace BK317 := am_ (blk_below (g := gb317) (lb_ BK317) hb); replace HB := am_ (below_step (lw_ HB) hb); (try clear hb); (try clear hb2); (try clear hk); (try clear hi); have hnb14 := NB316_317.out; have hnc14 := NB317_316.out; obtain ⟨hcz15_0, hcz15_1, hfz15_0, hfz15_1⟩ := bx2_ BK316.out) | (go_at_call 73; (with_reducible refine (impl_IsBits.calls k a1_0 _ _ l1_1 t319 _ ?side1 ?side2 A9.out).mono ?_); (case side1 => exact lc_ (Kd.C_below HR1_1.out HB.out)); (case side2 => exact HC1_1.out); rintro e w16 ⟨rfl, hb⟩; replace BK315 := am_ (blk_below (g := gb315) (lb_ BK315) hb); replace BK316 := am_ (blk_below (g := gb316) (lb_ BK316) hb); replace BK317 := am_ (blk_below (g := gb317) (lb_ BK317) hb); replace HB := am_ (below_step (lw_ HB) hb); (try clear hb); (try clear hb2); (try clear hk); (try clear hi)))
   go_meet
   case rel => exact ⟨_, (!t319), sr_, H', ⟨by first | omega | exact Nat.le_refl _⟩, ⟨lb_ BK315⟩, ⟨lb_ BK316⟩, ⟨lb_ BK317⟩, ⟨lw_ HB⟩⟩
  ·replace c8 := Bool.eq_false_iff.mpr c8
   subst c8
   have H1 : (impl_UnpackDirectory.j0 k true a0_0 l0_1 a1_0 l1_1) = some (r1, r2, r3, r4, r5) := by rw [if_neg (show ¬ (false = true) by decide)] at H; exact H
   clear H
   have H := H1
   clear H1
   have H' := am_ H
   clear H
   have hnb17 := NB315_316.out
   have hnc17 := NB316_315.out
   have hnb18 := NB315_317.out
   have hnc18 := NB317_315.out
   obtain ⟨hcz19_0, hcz19_1, hfz19_0, hfz19_1⟩ := bx2_ BK315.out
   go_wp2_with (first | ((with_reducible refine gate_callee (f := 73) rfl ?_); refine goesL_ (some 8) rfl rfl Try.func73 (by kernel_rfl) rfl #[.agg #[.int .i64 a0_0, .slice A0_1 l0_1.length c0_1]] rfl lm_ ?_; (with_reducible refine (impl_IsBits.calls k a0_0 _ _ l0_1 false _ ?side1 ?side2 A7.out).mono ?_); (case side1 => exact lc_ (Kd.C_below HR0_1.out HB.out)); (case side2 => exact HC0_1.out); rintro e w20 ⟨rfl, hb⟩; refine ⟨_, rfl, ?_⟩; replace BK315 := am_ (blk_below (g := gb315) (lb_ BK315) hb); replace BK316 := am_ (blk_below (g := gb316) (lb_ BK316) hb); replace BK317 := am_ (blk_below (g := gb317) (lb_ BK317) hb); replace HB := am_ (below_step (lw_ HB) hb); (try clear hb); (try clear hb2); (try clear hk); (try clear hi)))
   go_meet
   case rel => exact ⟨_, (true), sr_, H', ⟨by first | omega | exact Nat.le_refl _⟩, ⟨lb_ BK315⟩, ⟨lb_ BK316⟩, ⟨lb_ BK317⟩, ⟨lw_ HB⟩⟩
 case rest =>
  clear HC3
  try clear c1
  try clear p2
  try clear c4
  try clear c7
  try clear c8
  try clear c10
  try clear c11
  try clear c14
  try clear c17
  try clear c18
  try clear hcz12_0
  try clear hcz12_1
  try clear hcz15_0
  try clear hcz15_1
  try clear hcz19_0
  try clear hcz19_1
  try clear hfz12_0
  try clear hfz12_1
  try clear hfz15_0
  try clear hfz15_1
  try clear hfz19_0
  try clear hfz19_1
  obtain ⟨kq, x14_2, rfl, HA, HJ2, BK315, BK316, BK317, HB⟩ := hcut
  cases kq with
  | zero => exact absurd HA.out (by simp [impl_UnpackDirectory.j0])
  | succ kj2 =>
   have H := HA.out
   clear HA
   simp only [impl_UnpackDirectory.j0] at H
   by_cases c21 : x14_2 = true
   ·subst c21
    have H1 : (some (0, ([] : List Int), ([] : List Int), ([] : List Int), false)) = some (r1, r2, r3, r4, r5) := by rw [if_pos rfl] at H; exact H
    clear H
    have H := H1
    clear H1
    simp only [Option.some.injEq, Prod.mk.injEq] at H
    obtain ⟨rfl, rfl, rfl, rfl, rfl⟩ := H
    have hnb22 := NB317_315.out
    have hnc22 := NB315_317.out
    have hnb23 := NB317_316.out
    have hnc23 := NB316_317.out
    obtain ⟨hcz24_0, hcz24_1, hcz24_2, hcz24_3, hfz24_0, hfz24_1, hfz24_2, hfz24_3⟩ := bx4_ BK317.out
    go_wp2
    refine bodyPost_ret (results_ct rfl _ _ gb317 48 #[.int .i64 0, .slice none 0 0, .slice none 0 0, .slice none 0 0] (0, 0) _ rfl (lq_ BK317) Try.underlying48 rfl (by kernel_rfl)) rfl ?_
    exact ⟨_, _, _, er_, by first | exact Kd.R_nil _ _ _ _ _ | exact Kd.N_nil _ _ _ _ _ | exact Kd.V_nil _ _ _ _ _ | exact Kd.Q_nil _ _ _ _ _ | exact Kd.S_nil _ _ _ _ _, by first | exact Kd.R_nil _ _ _ _ _ | exact Kd.N_nil _ _ _ _ _ | exact Kd.V_nil _ _ _ _ _ | exact Kd.Q_nil _ _ _ _ _ | exact Kd.S_nil _ _ _ _ _, by first | exact Kd.R_nil _ _ _ _ _ | exact Kd.N_nil _ _ _ _ _ | exact Kd.V_nil _ _ _ _ _ | exact Kd.Q_nil _ _ _ _ _ | exact Kd.S_nil _ _ _ _ _, lw_ HB⟩
   ·replace c21 := Bool.eq_false_iff.mpr c21
    subst c21
    have H1 : ((impl_ranked.f kj2 a0_0 l0_1).bind fun bt320 => ((impl_directory.f kj2 bt320.1 bt320.2.1 bt320.2.2.1 bt320.2.2.2).bind fun bt331 => ((impl_sameBits.f kj2 bt331.1 bt331.2 a1_0 l1_1).bind fun t335 => (if t335 = true then (some (bt320.1, bt320.2.1, bt320.2.2.1, bt320.2.2.2, true)) else (some (0, ([] : List Int), ([] : List Int), ([] : List Int), false)))))) = some (r1, r2, r3, r4, r5) := by rw [if_neg (show ¬ (false = true) by decide)] at H; exact H
    clear H
    have H := H1
    clear H1
    replace H := Option.bind_eq_some_iff.mp H
    obtain ⟨⟨t320, t321, t324, t327⟩, A250, H⟩ := H
    replace H : ((impl_directory.f kj2 t320 t321 t324 t327).bind fun bt331 => ((impl_sameBits.f kj2 bt331.1 bt331.2 a1_0 l1_1).bind fun t335 => (if t335 = true then (some (t320, t321, t324, t327, true)) else (some (0, ([] : List Int), ([] : List Int), ([] : List Int), false))))) = some (r1, r2, r3, r4, r5) := H
    have A25 := am_ A250
    clear A250
    replace H := Option.bind_eq_some_iff.mp H
    obtain ⟨⟨t331, t332⟩, A260, H⟩ := H
    replace H : ((impl_sameBits.f kj2 t331 t332 a1_0 l1_1).bind fun t335 => (if t335 = true then (some (t320, t321, t324, t327, true)) else (some (0, ([] : List Int), ([] : List Int), ([] : List Int), false)))) = some (r1, r2, r3, r4, r5) := H
    have A26 := am_ A260
    clear A260
    replace H := Option.bind_eq_some_iff.mp H
    obtain ⟨t335, A270, H⟩ := H
    replace H : (if t335 = true then (some (t320, t321, t324, t327, true)) else (some (0, ([] : List Int), ([] : List Int), ([] : List Int), false))) = some (r1, r2, r3, r4, r5) := H
    have A27 := am_ A270
    clear A270
    by_cases c28 : t335 = true
    ·subst c28
     have H1 : (some (t320, t321, t324, t327, true)) = some (r1, r2, r3, r4, r5) := by rw [if_pos rfl] at H; exact H
     clear H
     have H := H1
     clear H1
     simp only [Option.some.injEq, Prod.mk.injEq] at H
     obtain ⟨rfl, rfl, rfl, rfl, rfl⟩ := H
     have hnb29 := NB315_316.out
     have hnc29 := NB316_315.out
     have hnb30 := NB315_317.out
     have hnc30 := NB317_315.out
     obtain ⟨hcz31_0, hcz31_1, hfz31_0, hfz31_1⟩ := bx2_ BK315.out
     try go_wp2_with (first | ((with_reducible refine gate_callee (f := 96) rfl ?_); refine goesL_ (some 17) rfl rfl Try.func96 (by kernel_rfl) rfl #[.agg #[.int .i64 a0_0, .slice A0_1 l0_1.length c0_1]] rfl lm_ ?_; (with_reducible refine (impl_ranked.calls kj2 a0_0 _ _ l0_1 t320 t321 t324 t327 _ ?side1 ?side2 A25.out).mono ?_); (case side1 => exact lc_ (Kd.C_below HR0_1.out HB.out)); (case side2 => exact HC0_1.out); rintro e w32 ⟨v322, v325, v328, rfl, ho0, ho1, ho2, hb⟩; refine ⟨_, rfl, ?_⟩; have HO323 := am_ (Kd.R_lower ho0 (below_size (lw_ HB))); have HO326 := am_ (Kd.R_lower ho1 (below_size (lw_ HB))); have HO329 := am_ (Kd.R_lower ho2 (below_size (lw_ HB))); replace BK315 := am_ (blk_below (g := gb315) (lb_ BK315) hb); replace BK316 := am_ (blk_below (g := gb316) (lb_ BK316) hb); replace BK317 := am_ (blk_below (g := gb317) (lb_ BK317) hb); replace HB := am_ (below_step (lw_ HB) hb); (try clear hb); (try clear hb2); (try clear hk); (try clear hi); (try clear ho0); (try clear ho1); (try clear ho2)) | ((with_reducible refine gate_dst (N := 6) rfl ?_); refine bev_ 6 #[.int .i64 0, .slice none 0 0, .slice none 0 0, .slice none 0 0] 48 rfl rfl ?_; intro gb330 hg w33 hbox hb; have BK330 := am_ (hbox); have GW330 := am_ ((by rw [hg]; exact (below_size (lw_ HB)) : w.heap.size ≤ gb330)); have GE330 := am_ ((by rw [hg]; exact (below_size (lw_ HB)) : w.heap.size ≤ gb330)); have NB315_330 := am_ ((by rw [hg]; exact Nat.ne_of_lt (blk_lt (g := gb315) (lb_ BK315)) : gb315 ≠ gb330)); have NB330_315 := am_ ((by rw [hg]; exact Nat.ne_of_gt (blk_lt (g := gb315) (lb_ BK315)) : gb330 ≠ gb315)); have NB316_330 := am_ ((by rw [hg]; exact Nat.ne_of_lt (blk_lt (g := gb316) (lb_ BK316)) : gb316 ≠ gb330)); have NB330_316 := am_ ((by rw [hg]; exact Nat.ne_of_gt (blk_lt (g := gb316) (lb_ BK316)) : gb330 ≠ gb316)); have NB317_330 := am_ ((by rw [hg]; exact Nat.ne_of_lt (blk_lt (g := gb317) (lb_ BK317)) : gb317 ≠ gb330)); have NB330_317 := am_ ((by rw [hg]; exact Nat.ne_of_gt (blk_lt (g := gb317) (lb_ BK317)) : gb330 ≠ gb317)); replace HO323 := am_ (Kd.R_below (lf_ HO323) hb); replace HO326 := am_ (Kd.R_below (lf_ HO326) hb); replace HO329 := am_ (Kd.R_below (lf_ HO329) hb); replace BK315 := am_ (blk_below (g := gb315) (lb_ BK315) hb); replace BK316 := am_ (blk_below (g := gb316) (lb_ BK316) hb); replace BK317 := am_ (blk_below (g := gb317) (lb_ BK317) hb); replace HB := am_ (below_step (lw_ HB) hb); clear hb hbox hg; have hnb34 := NB330_315.out; have hnc34 := NB315_330.out; have hnb35 := NB330_316.out; have hnc35 := NB316_330.out; have hnb36 := NB330_317.out; have hnc36 := NB317_330.out; obtain ⟨hcz37_0, hcz37_1, hcz37_2, hcz37_3, hfz37_0, hfz37_1, hfz37_2, hfz37_3⟩ := bx4_ BK330.out; obtain ⟨Ao38, co38, eo38⟩ := Kd.R_slice HO323.out; subst eo38; obtain ⟨Ao39, co39, eo39⟩ := Kd.R_slice HO326.out; subst eo39; obtain ⟨Ao40, co40, eo40⟩ := Kd.R_slice HO329.out; subst eo40))
     have n0_ : Aside0 (Kd.R (Kd.int .i64) 3 ((((w33.setCell ⟨gb330, 0, none⟩ (.int .i64 t320)).setCell ⟨gb330, 1, none⟩ (.slice Ao38 t321.length co38)).setCell ⟨gb330, 2, none⟩ (.slice Ao39 t324.length co39)).setCell ⟨gb330, 3, none⟩ (.slice Ao40 t327.length co40)) w.heap.size (fun k_ => ns_ k_ Ao39 t324 co39 ∧ ns_ k_ Ao40 t327 co40) (.slice Ao38 t321.length co38) t321) := ⟨lo2_ (fr4_ HO323.out BK330.out (.int .i64 t320) (.slice Ao38 t321.length co38) (.slice Ao39 t324.length co39) (.slice Ao40 t327.length co40))⟩; have n1_ : Aside0 (Kd.R (Kd.int .i64) 3 ((((w33.setCell ⟨gb330, 0, none⟩ (.int .i64 t320)).setCell ⟨gb330, 1, none⟩ (.slice Ao38 t321.length co38)).setCell ⟨gb330, 2, none⟩ (.slice Ao39 t324.length co39)).setCell ⟨gb330, 3, none⟩ (.slice Ao40 t327.length co40)) w.heap.size (fun k_ => ns_ k_ Ao38 t321 co38 ∧ ns_ k_ Ao40 t327 co40) (.slice Ao39 t324.length co39) t324) := ⟨lo2_ (fr4_ HO326.out BK330.out (.int .i64 t320) (.slice Ao38 t321.length co38) (.slice Ao39 t324.length co39) (.slice Ao40 t327.length co40))⟩; have n2_ : Aside0 (Kd.R (Kd.int .i64) 3 ((((w33.setCell ⟨gb330, 0, none⟩ (.int .i64 t320)).setCell ⟨gb330, 1, none⟩ (.slice Ao38 t321.length co38)).setCell ⟨gb330, 2, none⟩ (.slice Ao39 t324.length co39)).setCell ⟨gb330, 3, none⟩ (.slice Ao40 t327.length co40)) w.heap.size (fun k_ => ns_ k_ Ao38 t321 co38 ∧ ns_ k_ Ao39 t324 co39) (.slice Ao40 t327.length co40) t327) := ⟨lo2_ (fr4_ HO329.out BK330.out (.int .i64 t320) (.slice Ao38 t321.length co38) (.slice Ao39 t324.length co39) (.slice Ao40 t327.length co40))⟩; have n3_ : Aside0 (((((w33.setCell ⟨gb330, 0, none⟩ (.int .i64 t320)).setCell ⟨gb330, 1, none⟩ (.slice Ao38 t321.length co38)).setCell ⟨gb330, 2, none⟩ (.slice Ao39 t324.length co39)).setCell ⟨gb330, 3, none⟩ (.slice Ao40 t327.length co40)).heap[gb315]? = some (.cells #[.int .i64 a0_0, .slice A0_1 l0_1.length c0_1] 26 (0, 0))) := ⟨lg_ BK315⟩; have n4_ : Aside0 (((((w33.setCell ⟨gb330, 0, none⟩ (.int .i64 t320)).setCell ⟨gb330, 1, none⟩ (.slice Ao38 t321.length co38)).setCell ⟨gb330, 2, none⟩ (.slice Ao39 t324.length co39)).setCell ⟨gb330, 3, none⟩ (.slice Ao40 t327.length co40)).heap[gb316]? = some (.cells #[.int .i64 a1_0, .slice A1_1 l1_1.length c1_1] 26 (0, 0))) := ⟨lg_ BK316⟩; have n5_ : Aside0 (((((w33.setCell ⟨gb330, 0, none⟩ (.int .i64 t320)).setCell ⟨gb330, 1, none⟩ (.slice Ao38 t321.length co38)).setCell ⟨gb330, 2, none⟩ (.slice Ao39 t324.length co39)).setCell ⟨gb330, 3, none⟩ (.slice Ao40 t327.length co40)).heap[gb317]? = some (.cells #[.int .i64 0, .slice none 0 0, .slice none 0 0, .slice none 0 0] 48 (0, 0))) := ⟨lg_ BK317⟩; have n6_ : Aside0 (((((w33.setCell ⟨gb330, 0, none⟩ (.int .i64 t320)).setCell ⟨gb330, 1, none⟩ (.slice Ao38 t321.length co38)).setCell ⟨gb330, 2, none⟩ (.slice Ao39 t324.length co39)).setCell ⟨gb330, 3, none⟩ (.slice Ao40 t327.length co40)).heap[gb330]? = some (.cells #[.int .i64 t320, .slice Ao38 t321.length co38, .slice Ao39 t324.length co39, .slice Ao40 t327.length co40] 48 (0, 0))) := ⟨lq_ BK330⟩; have n7_ : Aside0 (Below w.heap.size w ((((w33.setCell ⟨gb330, 0, none⟩ (.int .i64 t320)).setCell ⟨gb330, 1, none⟩ (.slice Ao38 t321.length co38)).setCell ⟨gb330, 2, none⟩ (.slice Ao39 t324.length co39)).setCell ⟨gb330, 3, none⟩ (.slice Ao40 t327.length co40))) := ⟨lw_ HB⟩
     (try clear HO323)
     (try clear HO326)
     (try clear HO329)
     (try clear BK315)
     (try clear BK316)
     (try clear BK317)
     (try clear BK330)
     (try clear HB)
     generalize ((((w33.setCell ⟨gb330, 0, none⟩ (.int .i64 t320)).setCell ⟨gb330, 1, none⟩ (.slice Ao38 t321.length co38)).setCell ⟨gb330, 2, none⟩ (.slice Ao39 t324.length co39)).setCell ⟨gb330, 3, none⟩ (.slice Ao40 t327.length co40)) = w41 at n0_ n1_ n2_ n3_ n4_ n5_ n6_ n7_ ⊢
     have HO323 := n0_
     have HO326 := n1_
     have HO329 := n2_
     have BK315 := n3_
     have BK316 := n4_
     have BK317 := n5_
     have BK330 := n6_
     have HB := n7_
     clear n0_ n1_ n2_ n3_ n4_ n5_ n6_ n7_
     replace HO323 := am_ (Kd.R_drew HO323.out); replace HO326 := am_ (Kd.R_drew HO326.out); replace HO329 := am_ (Kd.R_drew HO329.out); replace BK315 := am_ (blk_drew BK315.out); replace BK316 := am_ (blk_drew BK316.out); replace BK317 := am_ (blk_drew BK317.out); replace BK330 := am_ (blk_drew BK330.out); replace HB := am_ (below_drew1 HB.out)
     refine start_ (n := 5) (S := fun w' => w'.cell? ⟨gb330, 0, none⟩ = some (.int .i64 t320) ∧ w'.cell? ⟨gb330, 1, none⟩ = some (.slice Ao38 t321.length co38) ∧ w'.cell? ⟨gb330, 2, none⟩ = some (.slice Ao39 t324.length co39) ∧ w'.cell? ⟨gb330, 3, none⟩ = some (.slice Ao40 t327.length co40) ∧ w'.cell? ⟨gb316, 0, none⟩ = some (.int .i64 a1_0) ∧ w'.cell? ⟨gb316, 1, none⟩ = some (.slice A1_1 l1_1.length c1_1)) (ds := []) #[false, false, false, false, false] (by kernel_rfl) rfl rfl ⟨(blk_cell BK330.out 0).trans rfl, (blk_cell BK330.out 1).trans rfl, (blk_cell BK330.out 2).trans rfl, (blk_cell BK330.out 3).trans rfl, (blk_cell BK316.out 0).trans rfl, (blk_cell BK316.out 1).trans rfl⟩ (fun hHeld => ?_)
     generalize w41.drew = w42 at HO323 HO326 HO329 BK315 BK316 BK317 BK330 HB hHeld ⊢
     refine take_ (i := 0) (N := some 18) (v := ?_) (a' := ?_) #[true, false, false, false, false] rfl rfl (by kernel_rfl) (fun _ _ _ h => h) (Or.inl ⟨by rfl, ?_⟩) hHeld ?_ ?_
     rotate_left
     ·rintro w' ⟨s0, s1, s2, s3, s4, s5⟩
      go_simp
      with_reducible rfl
     rotate_left
     ·simp only [Act.put, List.setIfInBounds_toArray, List.set_cons_zero, List.set_cons_succ, i64_w, i32_w]
      rfl
     refine take_ (i := 2) (N := some 20) (v := ?_) (a' := ?_) #[true, false, true, false, false] rfl rfl (by kernel_rfl) (fun _ _ _ h => h) (Or.inl ⟨by rfl, ?_⟩) hHeld ?_ ?_
     rotate_left
     ·rintro w' ⟨s0, s1, s2, s3, s4, s5⟩
      go_simp
      with_reducible rfl
     rotate_left
     ·simp only [Act.put, List.setIfInBounds_toArray, List.set_cons_zero, List.set_cons_succ, i64_w, i32_w]
      rfl
     refine one_ (i := 1) (N := some 19) #[true, true, true, false, false] rfl rfl (by kernel_rfl) (by decide) (fun K hK => ?_)
     refine goes_ Try.func98 (by kernel_rfl) rfl #[.agg #[.int .i64 t320, .slice Ao38 t321.length co38, .slice Ao39 t324.length co39, .slice Ao40 t327.length co40]] (by rfl) rfl rfl lm_ ?_
     with_reducible refine (impl_directory.calls kj2 t320 _ _ t321 _ _ t324 _ _ t327 t331 t332 _ ?side1 ?side2 ?side3 ?side4 ?side5 ?side6 A26.out).mono ?_
     (case side1 => exact lc_ (Kd.R_reads' HO323.out).2.2)
     (case side2 => exact (Kd.R_reads' HO323.out).2.1)
     (case side3 => exact lc_ (Kd.R_reads' HO326.out).2.2)
     (case side4 => exact (Kd.R_reads' HO326.out).2.1)
     (case side5 => exact lc_ (Kd.R_reads' HO329.out).2.2)
     (case side6 => exact (Kd.R_reads' HO329.out).2.1)
     rintro e w43 ⟨v333, rfl, ho0, hb⟩
     refine ⟨_, rfl, ?_⟩
     have HO334 := am_ (Kd.R_lower (nw_ (nw_ (nw_ ho0 HO323) HO326) HO329) (below_size (lw_ HB))); replace HO323 := am_ (Kd.R_elder' (lf_ HO323) (Kd.R_base ho0) hb); replace HO326 := am_ (Kd.R_elder' (lf_ HO326) (Kd.R_base ho0) hb); replace HO329 := am_ (Kd.R_elder' (lf_ HO329) (Kd.R_base ho0) hb); replace BK315 := am_ (blk_below (g := gb315) (lb_ BK315) hb); replace BK316 := am_ (blk_below (g := gb316) (lb_ BK316) hb); replace BK317 := am_ (blk_below (g := gb317) (lb_ BK317) hb); replace BK330 := am_ (blk_below (g := gb330) (lb_ BK330) hb); replace HB := am_ (below_step (lw_ HB) hb)
     (try clear hb)
     (try clear hb2)
     (try clear hk)
     (try clear hi)
     (try clear ho0)
     obtain ⟨Ao44, co44, eo44⟩ := Kd.R_slice HO334.out
     (first | subst eo44 | (injection eo44 with f1_ f2_ f3_; have f4_ := f1_.symm; have f5_ := f3_.symm; clear f1_ f2_ f3_; subst f4_; subst f5_))
     refine hK.out _ _ ⟨(blk_cell BK330.out 0).trans rfl, (blk_cell BK330.out 1).trans rfl, (blk_cell BK330.out 2).trans rfl, (blk_cell BK330.out 3).trans rfl, (blk_cell BK316.out 0).trans rfl, (blk_cell BK316.out 1).trans rfl⟩ (fun hHeld => ?_)
     clear hK K
     refine norm_ (a' := ?_) ?_ ?_
     rotate_left
     ·show Act.put _ (some 19) _ = _
      simp only [Act.put, List.setIfInBounds_toArray, List.set_cons_zero, List.set_cons_succ, i64_w, i32_w]
      rfl
     refine one_ (i := 3) (N := some 21) #[true, true, true, true, false] rfl rfl (by kernel_rfl) (by decide) (fun K hK => ?_)
     refine goes_ Try.func100 (by kernel_rfl) rfl #[.agg #[.int .i64 t331, .slice Ao44 t332.length co44], .agg #[.int .i64 a1_0, .slice A1_1 l1_1.length c1_1]] (by rfl) rfl rfl lm_ ?_
     with_reducible refine (impl_sameBits.calls kj2 t331 _ _ t332 a1_0 _ _ l1_1 true _ ?side1 ?side2 ?side3 ?side4 A27.out).mono ?_
     (case side1 => exact lc_ (Kd.R_reads' HO334.out).2.2)
     (case side2 => exact (Kd.R_reads' HO334.out).2.1)
     (case side3 => exact lc_ (Kd.C_below HR1_1.out HB.out))
     (case side4 => exact HC1_1.out)
     rintro e w45 ⟨rfl, hb⟩
     refine ⟨_, rfl, ?_⟩
     replace HO323 := am_ (Kd.R_below (lf_ HO323) hb); replace HO326 := am_ (Kd.R_below (lf_ HO326) hb); replace HO329 := am_ (Kd.R_below (lf_ HO329) hb); replace HO334 := am_ (Kd.R_below (lf_ HO334) hb); replace BK315 := am_ (blk_below (g := gb315) (lb_ BK315) hb); replace BK316 := am_ (blk_below (g := gb316) (lb_ BK316) hb); replace BK317 := am_ (blk_below (g := gb317) (lb_ BK317) hb); replace BK330 := am_ (blk_below (g := gb330) (lb_ BK330) hb); replace HB := am_ (below_step (lw_ HB) hb)
     (try clear hb)
     (try clear hb2)
     (try clear hk)
     (try clear hi)
     refine hK.out _ _ ⟨(blk_cell BK330.out 0).trans rfl, (blk_cell BK330.out 1).trans rfl, (blk_cell BK330.out 2).trans rfl, (blk_cell BK330.out 3).trans rfl, (blk_cell BK316.out 0).trans rfl, (blk_cell BK316.out 1).trans rfl⟩ (fun hHeld => ?_)
     clear hK K
     refine norm_ (a' := ?_) ?_ ?_
     rotate_left
     ·show Act.put _ (some 21) _ = _
      simp only [Act.put, List.setIfInBounds_toArray, List.set_cons_zero, List.set_cons_succ, i64_w, i32_w]
      rfl
     refine pure_ (i := 4) (N := some 22) (v := ?_) (a' := ?_) #[true, true, true, true, true] rfl rfl (by kernel_rfl) (fun _ _ _ h => h) (Or.inl ⟨by rfl, ?_⟩) ?_ ?_
     rotate_left
     ·intro w'
      go_simp
      with_reducible rfl
     rotate_left
     ·simp only [Act.put, List.setIfInBounds_toArray, List.set_cons_zero, List.set_cons_succ, i64_w, i32_w]
      rfl
     refine done_ (by kernel_rfl) ?_
     obtain ⟨hcz46_0, hcz46_1, hcz46_2, hcz46_3, hfz46_0, hfz46_1, hfz46_2, hfz46_3⟩ := bx4_ BK330.out
     have hnb47 := NB317_316.out
     have hnc47 := NB316_317.out
     obtain ⟨hcz48_0, hcz48_1, hcz48_2, hcz48_3, hfz48_0, hfz48_1, hfz48_2, hfz48_3⟩ := bx4_ BK317.out
     try go_wp2
     refine bodyPost_ret (results_ct rfl _ _ gb317 48 #[.int .i64 t320, .slice Ao38 t321.length co38, .slice Ao39 t324.length co39, .slice Ao40 t327.length co40] (0, 0) _ rfl (lq_ BK317) Try.underlying48 rfl (by kernel_rfl)) rfl ?_
     exact ⟨_, _, _, er_, lo2_ (fr4_ HO323.out BK317.out (.int .i64 t320) (.slice Ao38 t321.length co38) (.slice Ao39 t324.length co39) (.slice Ao40 t327.length co40)), lo2_ (fr4_ HO326.out BK317.out (.int .i64 t320) (.slice Ao38 t321.length co38) (.slice Ao39 t324.length co39) (.slice Ao40 t327.length co40)), lo2_ (fr4_ HO329.out BK317.out (.int .i64 t320) (.slice Ao38 t321.length co38) (.slice Ao39 t324.length co39) (.slice Ao40 t327.length co40)), lw_ HB⟩
    ·replace c28 := Bool.eq_false_iff.mpr c28
     subst c28
     have H1 : (some (0, ([] : List Int), ([] : List Int), ([] : List Int), false)) = some (r1, r2, r3, r4, r5) := by rw [if_neg (show ¬ (false = true) by decide)] at H; exact H
     clear H
     have H := H1
     clear H1
     simp only [Option.some.injEq, Prod.mk.injEq] at H
     obtain ⟨rfl, rfl, rfl, rfl, rfl⟩ := H
     have hnb49 := NB315_316.out
     have hnc49 := NB316_315.out
     have hnb50 := NB315_317.out
     have hnc50 := NB317_315.out
     obtain ⟨hcz51_0, hcz51_1, hfz51_0, hfz51_1⟩ := bx2_ BK315.out
     try go_wp2_with (first | ((with_reducible refine gate_callee (f := 96) rfl ?_); refine goesL_ (some 17) rfl rfl Try.func96 (by kernel_rfl) rfl #[.agg #[.int .i64 a0_0, .slice A0_1 l0_1.length c0_1]] rfl lm_ ?_; (with_reducible refine (impl_ranked.calls kj2 a0_0 _ _ l0_1 t320 t321 t324 t327 _ ?side1 ?side2 A25.out).mono ?_); (case side1 => exact lc_ (Kd.C_below HR0_1.out HB.out)); (case side2 => exact HC0_1.out); rintro e w52 ⟨v322, v325, v328, rfl, ho0, ho1, ho2, hb⟩; refine ⟨_, rfl, ?_⟩; have HO323 := am_ (Kd.R_lower ho0 (below_size (lw_ HB))); have HO326 := am_ (Kd.R_lower ho1 (below_size (lw_ HB))); have HO329 := am_ (Kd.R_lower ho2 (below_size (lw_ HB))); replace BK315 := am_ (blk_below (g := gb315) (lb_ BK315) hb); replace BK316 := am_ (blk_below (g := gb316) (lb_ BK316) hb); replace BK317 := am_ (blk_below (g := gb317) (lb_ BK317) hb); replace HB := am_ (below_step (lw_ HB) hb); (try clear hb); (try clear hb2); (try clear hk); (try clear hi); (try clear ho0); (try clear ho1); (try clear ho2)) | ((with_reducible refine gate_dst (N := 6) rfl ?_); refine bev_ 6 #[.int .i64 0, .slice none 0 0, .slice none 0 0, .slice none 0 0] 48 rfl rfl ?_; intro gb330 hg w53 hbox hb; have BK330 := am_ (hbox); have GW330 := am_ ((by rw [hg]; exact (below_size (lw_ HB)) : w.heap.size ≤ gb330)); have GE330 := am_ ((by rw [hg]; exact (below_size (lw_ HB)) : w.heap.size ≤ gb330)); have NB315_330 := am_ ((by rw [hg]; exact Nat.ne_of_lt (blk_lt (g := gb315) (lb_ BK315)) : gb315 ≠ gb330)); have NB330_315 := am_ ((by rw [hg]; exact Nat.ne_of_gt (blk_lt (g := gb315) (lb_ BK315)) : gb330 ≠ gb315)); have NB316_330 := am_ ((by rw [hg]; exact Nat.ne_of_lt (blk_lt (g := gb316) (lb_ BK316)) : gb316 ≠ gb330)); have NB330_316 := am_ ((by rw [hg]; exact Nat.ne_of_gt (blk_lt (g := gb316) (lb_ BK316)) : gb330 ≠ gb316)); have NB317_330 := am_ ((by rw [hg]; exact Nat.ne_of_lt (blk_lt (g := gb317) (lb_ BK317)) : gb317 ≠ gb330)); have NB330_317 := am_ ((by rw [hg]; exact Nat.ne_of_gt (blk_lt (g := gb317) (lb_ BK317)) : gb330 ≠ gb317)); replace HO323 := am_ (Kd.R_below (lf_ HO323) hb); replace HO326 := am_ (Kd.R_below (lf_ HO326) hb); replace HO329 := am_ (Kd.R_below (lf_ HO329) hb); replace BK315 := am_ (blk_below (g := gb315) (lb_ BK315) hb); replace BK316 := am_ (blk_below (g := gb316) (lb_ BK316) hb); replace BK317 := am_ (blk_below (g := gb317) (lb_ BK317) hb); replace HB := am_ (below_step (lw_ HB) hb); clear hb hbox hg; have hnb54 := NB330_315.out; have hnc54 := NB315_330.out; have hnb55 := NB330_316.out; have hnc55 := NB316_330.out; have hnb56 := NB330_317.out; have hnc56 := NB317_330.out; obtain ⟨hcz57_0, hcz57_1, hcz57_2, hcz57_3, hfz57_0, hfz57_1, hfz57_2, hfz57_3⟩ := bx4_ BK330.out; obtain ⟨Ao58, co58, eo58⟩ := Kd.R_slice HO323.out; subst eo58; obtain ⟨Ao59, co59, eo59⟩ := Kd.R_slice HO326.out; subst eo59; obtain ⟨Ao60, co60, eo60⟩ := Kd.R_slice HO329.out; subst eo60))
     have n0_ : Aside0 (Kd.R (Kd.int .i64) 3 ((((w53.setCell ⟨gb330, 0, none⟩ (.int .i64 t320)).setCell ⟨gb330, 1, none⟩ (.slice Ao58 t321.length co58)).setCell ⟨gb330, 2, none⟩ (.slice Ao59 t324.length co59)).setCell ⟨gb330, 3, none⟩ (.slice Ao60 t327.length co60)) w.heap.size (fun k_ => ns_ k_ Ao59 t324 co59 ∧ ns_ k_ Ao60 t327 co60) (.slice Ao58 t321.length co58) t321) := ⟨lo2_ (fr4_ HO323.out BK330.out (.int .i64 t320) (.slice Ao58 t321.length co58) (.slice Ao59 t324.length co59) (.slice Ao60 t327.length co60))⟩; have n1_ : Aside0 (Kd.R (Kd.int .i64) 3 ((((w53.setCell ⟨gb330, 0, none⟩ (.int .i64 t320)).setCell ⟨gb330, 1, none⟩ (.slice Ao58 t321.length co58)).setCell ⟨gb330, 2, none⟩ (.slice Ao59 t324.length co59)).setCell ⟨gb330, 3, none⟩ (.slice Ao60 t327.length co60)) w.heap.size (fun k_ => ns_ k_ Ao58 t321 co58 ∧ ns_ k_ Ao60 t327 co60) (.slice Ao59 t324.length co59) t324) := ⟨lo2_ (fr4_ HO326.out BK330.out (.int .i64 t320) (.slice Ao58 t321.length co58) (.slice Ao59 t324.length co59) (.slice Ao60 t327.length co60))⟩; have n2_ : Aside0 (Kd.R (Kd.int .i64) 3 ((((w53.setCell ⟨gb330, 0, none⟩ (.int .i64 t320)).setCell ⟨gb330, 1, none⟩ (.slice Ao58 t321.length co58)).setCell ⟨gb330, 2, none⟩ (.slice Ao59 t324.length co59)).setCell ⟨gb330, 3, none⟩ (.slice Ao60 t327.length co60)) w.heap.size (fun k_ => ns_ k_ Ao58 t321 co58 ∧ ns_ k_ Ao59 t324 co59) (.slice Ao60 t327.length co60) t327) := ⟨lo2_ (fr4_ HO329.out BK330.out (.int .i64 t320) (.slice Ao58 t321.length co58) (.slice Ao59 t324.length co59) (.slice Ao60 t327.length co60))⟩; have n3_ : Aside0 (((((w53.setCell ⟨gb330, 0, none⟩ (.int .i64 t320)).setCell ⟨gb330, 1, none⟩ (.slice Ao58 t321.length co58)).setCell ⟨gb330, 2, none⟩ (.slice Ao59 t324.length co59)).setCell ⟨gb330, 3, none⟩ (.slice Ao60 t327.length co60)).heap[gb315]? = some (.cells #[.int .i64 a0_0, .slice A0_1 l0_1.length c0_1] 26 (0, 0))) := ⟨lg_ BK315⟩; have n4_ : Aside0 (((((w53.setCell ⟨gb330, 0, none⟩ (.int .i64 t320)).setCell ⟨gb330, 1, none⟩ (.slice Ao58 t321.length co58)).setCell ⟨gb330, 2, none⟩ (.slice Ao59 t324.length co59)).setCell ⟨gb330, 3, none⟩ (.slice Ao60 t327.length co60)).heap[gb316]? = some (.cells #[.int .i64 a1_0, .slice A1_1 l1_1.length c1_1] 26 (0, 0))) := ⟨lg_ BK316⟩; have n5_ : Aside0 (((((w53.setCell ⟨gb330, 0, none⟩ (.int .i64 t320)).setCell ⟨gb330, 1, none⟩ (.slice Ao58 t321.length co58)).setCell ⟨gb330, 2, none⟩ (.slice Ao59 t324.length co59)).setCell ⟨gb330, 3, none⟩ (.slice Ao60 t327.length co60)).heap[gb317]? = some (.cells #[.int .i64 0, .slice none 0 0, .slice none 0 0, .slice none 0 0] 48 (0, 0))) := ⟨lg_ BK317⟩; have n6_ : Aside0 (((((w53.setCell ⟨gb330, 0, none⟩ (.int .i64 t320)).setCell ⟨gb330, 1, none⟩ (.slice Ao58 t321.length co58)).setCell ⟨gb330, 2, none⟩ (.slice Ao59 t324.length co59)).setCell ⟨gb330, 3, none⟩ (.slice Ao60 t327.length co60)).heap[gb330]? = some (.cells #[.int .i64 t320, .slice Ao58 t321.length co58, .slice Ao59 t324.length co59, .slice Ao60 t327.length co60] 48 (0, 0))) := ⟨lq_ BK330⟩; have n7_ : Aside0 (Below w.heap.size w ((((w53.setCell ⟨gb330, 0, none⟩ (.int .i64 t320)).setCell ⟨gb330, 1, none⟩ (.slice Ao58 t321.length co58)).setCell ⟨gb330, 2, none⟩ (.slice Ao59 t324.length co59)).setCell ⟨gb330, 3, none⟩ (.slice Ao60 t327.length co60))) := ⟨lw_ HB⟩
     (try clear HO323)
     (try clear HO326)
     (try clear HO329)
     (try clear BK315)
     (try clear BK316)
     (try clear BK317)
     (try clear BK330)
     (try clear HB)
     generalize ((((w53.setCell ⟨gb330, 0, none⟩ (.int .i64 t320)).setCell ⟨gb330, 1, none⟩ (.slice Ao58 t321.length co58)).setCell ⟨gb330, 2, none⟩ (.slice Ao59 t324.length co59)).setCell ⟨gb330, 3, none⟩ (.slice Ao60 t327.length co60)) = w61 at n0_ n1_ n2_ n3_ n4_ n5_ n6_ n7_ ⊢
     have HO323 := n0_
     have HO326 := n1_
     have HO329 := n2_
     have BK315 := n3_
     have BK316 := n4_
     have BK317 := n5_
     have BK330 := n6_
     have HB := n7_
     clear n0_ n1_ n2_ n3_ n4_ n5_ n6_ n7_
     replace HO323 := am_ (Kd.R_drew HO323.out); replace HO326 := am_ (Kd.R_drew HO326.out); replace HO329 := am_ (Kd.R_drew HO329.out); replace BK315 := am_ (blk_drew BK315.out); replace BK316 := am_ (blk_drew BK316.out); replace BK317 := am_ (blk_drew BK317.out); replace BK330 := am_ (blk_drew BK330.out); replace HB := am_ (below_drew1 HB.out)
     refine start_ (n := 5) (S := fun w' => w'.cell? ⟨gb330, 0, none⟩ = some (.int .i64 t320) ∧ w'.cell? ⟨gb330, 1, none⟩ = some (.slice Ao58 t321.length co58) ∧ w'.cell? ⟨gb330, 2, none⟩ = some (.slice Ao59 t324.length co59) ∧ w'.cell? ⟨gb330, 3, none⟩ = some (.slice Ao60 t327.length co60) ∧ w'.cell? ⟨gb316, 0, none⟩ = some (.int .i64 a1_0) ∧ w'.cell? ⟨gb316, 1, none⟩ = some (.slice A1_1 l1_1.length c1_1)) (ds := []) #[false, false, false, false, false] (by kernel_rfl) rfl rfl ⟨(blk_cell BK330.out 0).trans rfl, (blk_cell BK330.out 1).trans rfl, (blk_cell BK330.out 2).trans rfl, (blk_cell BK330.out 3).trans rfl, (blk_cell BK316.out 0).trans rfl, (blk_cell BK316.out 1).trans rfl⟩ (fun hHeld => ?_)
     generalize w61.drew = w62 at HO323 HO326 HO329 BK315 BK316 BK317 BK330 HB hHeld ⊢
     refine take_ (i := 0) (N := some 18) (v := ?_) (a' := ?_) #[true, false, false, false, false] rfl rfl (by kernel_rfl) (fun _ _ _ h => h) (Or.inl ⟨by rfl, ?_⟩) hHeld ?_ ?_
     rotate_left
     ·rintro w' ⟨s0, s1, s2, s3, s4, s5⟩
      go_simp
      with_reducible rfl
     rotate_left
     ·simp only [Act.put, List.setIfInBounds_toArray, List.set_cons_zero, List.set_cons_succ, i64_w, i32_w]
      rfl
     refine take_ (i := 2) (N := some 20) (v := ?_) (a' := ?_) #[true, false, true, false, false] rfl rfl (by kernel_rfl) (fun _ _ _ h => h) (Or.inl ⟨by rfl, ?_⟩) hHeld ?_ ?_
     rotate_left
     ·rintro w' ⟨s0, s1, s2, s3, s4, s5⟩
      go_simp
      with_reducible rfl
     rotate_left
     ·simp only [Act.put, List.setIfInBounds_toArray, List.set_cons_zero, List.set_cons_succ, i64_w, i32_w]
      rfl
     refine one_ (i := 1) (N := some 19) #[true, true, true, false, false] rfl rfl (by kernel_rfl) (by decide) (fun K hK => ?_)
     refine goes_ Try.func98 (by kernel_rfl) rfl #[.agg #[.int .i64 t320, .slice Ao58 t321.length co58, .slice Ao59 t324.length co59, .slice Ao60 t327.length co60]] (by rfl) rfl rfl lm_ ?_
     with_reducible refine (impl_directory.calls kj2 t320 _ _ t321 _ _ t324 _ _ t327 t331 t332 _ ?side1 ?side2 ?side3 ?side4 ?side5 ?side6 A26.out).mono ?_
     (case side1 => exact lc_ (Kd.R_reads' HO323.out).2.2)
     (case side2 => exact (Kd.R_reads' HO323.out).2.1)
     (case side3 => exact lc_ (Kd.R_reads' HO326.out).2.2)
     (case side4 => exact (Kd.R_reads' HO326.out).2.1)
     (case side5 => exact lc_ (Kd.R_reads' HO329.out).2.2)
     (case side6 => exact (Kd.R_reads' HO329.out).2.1)
     rintro e w63 ⟨v333, rfl, ho0, hb⟩
     refine ⟨_, rfl, ?_⟩
     have HO334 := am_ (Kd.R_lower (nw_ (nw_ (nw_ ho0 HO323) HO326) HO329) (below_size (lw_ HB))); replace HO323 := am_ (Kd.R_elder' (lf_ HO323) (Kd.R_base ho0) hb); replace HO326 := am_ (Kd.R_elder' (lf_ HO326) (Kd.R_base ho0) hb); replace HO329 := am_ (Kd.R_elder' (lf_ HO329) (Kd.R_base ho0) hb); replace BK315 := am_ (blk_below (g := gb315) (lb_ BK315) hb); replace BK316 := am_ (blk_below (g := gb316) (lb_ BK316) hb); replace BK317 := am_ (blk_below (g := gb317) (lb_ BK317) hb); replace BK330 := am_ (blk_below (g := gb330) (lb_ BK330) hb); replace HB := am_ (below_step (lw_ HB) hb)
     (try clear hb)
     (try clear hb2)
     (try clear hk)
     (try clear hi)
     (try clear ho0)
     obtain ⟨Ao64, co64, eo64⟩ := Kd.R_slice HO334.out
     (first | subst eo64 | (injection eo64 with f1_ f2_ f3_; have f4_ := f1_.symm; have f5_ := f3_.symm; clear f1_ f2_ f3_; subst f4_; subst f5_))
     refine hK.out _ _ ⟨(blk_cell BK330.out 0).trans rfl, (blk_cell BK330.out 1).trans rfl, (blk_cell BK330.out 2).trans rfl, (blk_cell BK330.out 3).trans rfl, (blk_cell BK316.out 0).trans rfl, (blk_cell BK316.out 1).trans rfl⟩ (fun hHeld => ?_)
     clear hK K
     refine norm_ (a' := ?_) ?_ ?_
     rotate_left
     ·show Act.put _ (some 19) _ = _
      simp only [Act.put, List.setIfInBounds_toArray, List.set_cons_zero, List.set_cons_succ, i64_w, i32_w]
      rfl
     refine one_ (i := 3) (N := some 21) #[true, true, true, true, false] rfl rfl (by kernel_rfl) (by decide) (fun K hK => ?_)
     refine goes_ Try.func100 (by kernel_rfl) rfl #[.agg #[.int .i64 t331, .slice Ao64 t332.length co64], .agg #[.int .i64 a1_0, .slice A1_1 l1_1.length c1_1]] (by rfl) rfl rfl lm_ ?_
     with_reducible refine (impl_sameBits.calls kj2 t331 _ _ t332 a1_0 _ _ l1_1 false _ ?side1 ?side2 ?side3 ?side4 A27.out).mono ?_
     (case side1 => exact lc_ (Kd.R_reads' HO334.out).2.2)
     (case side2 => exact (Kd.R_reads' HO334.out).2.1)
     (case side3 => exact lc_ (Kd.C_below HR1_1.out HB.out))
     (case side4 => exact HC1_1.out)
     rintro e w65 ⟨rfl, hb⟩
     refine ⟨_, rfl, ?_⟩
     replace HO323 := am_ (Kd.R_below (lf_ HO323) hb); replace HO326 := am_ (Kd.R_below (lf_ HO326) hb); replace HO329 := am_ (Kd.R_below (lf_ HO329) hb); replace HO334 := am_ (Kd.R_below (lf_ HO334) hb); replace BK315 := am_ (blk_below (g := gb315) (lb_ BK315) hb); replace BK316 := am_ (blk_below (g := gb316) (lb_ BK316) hb); replace BK317 := am_ (blk_below (g := gb317) (lb_ BK317) hb); replace BK330 := am_ (blk_below (g := gb330) (lb_ BK330) hb); replace HB := am_ (below_step (lw_ HB) hb)
     (try clear hb)
     (try clear hb2)
     (try clear hk)
     (try clear hi)
     refine hK.out _ _ ⟨(blk_cell BK330.out 0).trans rfl, (blk_cell BK330.out 1).trans rfl, (blk_cell BK330.out 2).trans rfl, (blk_cell BK330.out 3).trans rfl, (blk_cell BK316.out 0).trans rfl, (blk_cell BK316.out 1).trans rfl⟩ (fun hHeld => ?_)
     clear hK K
     refine norm_ (a' := ?_) ?_ ?_
     rotate_left
     ·show Act.put _ (some 21) _ = _
      simp only [Act.put, List.setIfInBounds_toArray, List.set_cons_zero, List.set_cons_succ, i64_w, i32_w]
      rfl
     refine pure_ (i := 4) (N := some 22) (v := ?_) (a' := ?_) #[true, true, true, true, true] rfl rfl (by kernel_rfl) (fun _ _ _ h => h) (Or.inl ⟨by rfl, ?_⟩) ?_ ?_
     rotate_left
     ·intro w'
      go_simp
      with_reducible rfl
     rotate_left
     ·simp only [Act.put, List.setIfInBounds_toArray, List.set_cons_zero, List.set_cons_succ, i64_w, i32_w]
      rfl
     refine done_ (by kernel_rfl) ?_
     have hnb66 := NB317_316.out
     have hnc66 := NB316_317.out
     obtain ⟨hcz67_0, hcz67_1, hcz67_2, hcz67_3, hfz67_0, hfz67_1, hfz67_2, hfz67_3⟩ := bx4_ BK317.out
     try go_wp2
     refine bodyPost_ret (results_ct rfl _ _ gb317 48 #[.int .i64 0, .slice none 0 0, .slice none 0 0, .slice none 0 0] (0, 0) _ rfl (lq_ BK317) Try.underlying48 rfl (by kernel_rfl)) rfl ?_
     exact ⟨_, _, _, er_, by first | exact Kd.R_nil _ _ _ _ _ | exact Kd.N_nil _ _ _ _ _ | exact Kd.V_nil _ _ _ _ _ | exact Kd.Q_nil _ _ _ _ _ | exact Kd.S_nil _ _ _ _ _, by first | exact Kd.R_nil _ _ _ _ _ | exact Kd.N_nil _ _ _ _ _ | exact Kd.V_nil _ _ _ _ _ | exact Kd.Q_nil _ _ _ _ _ | exact Kd.S_nil _ _ _ _ _, by first | exact Kd.R_nil _ _ _ _ _ | exact Kd.N_nil _ _ _ _ _ | exact Kd.V_nil _ _ _ _ _ | exact Kd.Q_nil _ _ _ _ _ | exact Kd.S_nil _ _ _ _ _, lw_ HB⟩

end Go.Proofs.Ytkmhjgejficclaa.PFnExactUnpackDirectory
