-- Laid by a program of this session: the print of the kit with additions of ours (wip/tools/patchprint.py). Nothing of it is trusted: Lean checks it.
import Derived.Test.YtkmhjgejficclaaPFnDirectoriesArePackedx0
import Derived.Test.YtkmhjgejficclaaPFnDirectoriesArePackedx1
import Derived.Test.YtkmhjgejficclaaPFnDirectoriesArePackedx5
namespace Go.Proofs.Ytkmhjgejficclaa.PFnDirectoriesArePacked
open Go.RowKit Go.Proofs.YtkmhjgejficclaaW.PrintWords Go.Proofs.YtkmhjgejficclaaW.PrintLast Go.Proofs.YtkmhjgejficclaaW.PrintMore
attribute [local go_sem] max2_int min2_int max_two min_two max_three min_three max_four min_four   -- for this text's walks alone
set_option linter.unusedVariables false
set_option linter.unusedSimpArgs false

/-! ### spec_raPack: function 97 -/
mutual
def spec_raPack.l0 : Nat → List Bool → Int → List Int → Int → Int → Int → List Int → List Int → List Int → Option (Int × List Int)
 | 0, _, _, _, _, _, _, _, _, _ => none
 | k + 1, x3, x4, x15, x16, x17, x200000, x200001, x200002, x200003 => if x17 < x16 then (if 0 ≤ x17 then (if x17 < (x15.length : Int) then ((spec_biPut.f k x3 x4 13 (rd x15 x17)).bind fun t206 => (spec_raPack.l0 k t206 (wrap64 (x4 + 13)) x15 x16 (wrap64 (x17 + 1)) x200000 x200001 x200002 x200003)) else (none)) else (none)) else (spec_raPack.l1 k x3 x4 x200003 (x200003.length : Int) 0)
def spec_raPack.l1 : Nat → List Bool → Int → List Int → Int → Int → Option (Int × List Int)
 | 0, _, _, _, _, _ => none
 | k + 1, x3, x4, x29, x30, x31 => if x31 < x30 then (if 0 ≤ x31 then (if x31 < (x29.length : Int) then ((spec_biPut.f k x3 x4 6 (rd x29 x31)).bind fun t208 => (spec_raPack.l1 k t208 (wrap64 (x4 + 6)) x29 x30 (wrap64 (x31 + 1)))) else (none)) else (none)) else ((spec_biSome.f k x3).bind fun bt209 => (some (bt209.1, bt209.2)))
end
def spec_raPack.f (k : Nat) (a0_0 : Int) (l0_1 : List Int) (l0_2 : List Int) (l0_3 : List Int) : Option (Int × List Int) := (spec_raSize.f a0_0).bind fun t201 => (if 0 ≤ t201 then (if (t201 : Int).toNat ≤ 281474976710656 then (spec_raPack.l0 k (List.replicate (t201 : Int).toNat false) 0 l0_2 (l0_2.length : Int) 0 a0_0 l0_1 l0_2 l0_3) else (none)) else (none))
theorem spec_raPack.mono_l : ∀ k, (∀ y0 y1 y2 y3 y4 y5 y6 y7 y8, LeO (spec_raPack.l0 k y0 y1 y2 y3 y4 y5 y6 y7 y8) (spec_raPack.l0 (k + 1) y0 y1 y2 y3 y4 y5 y6 y7 y8)) ∧ (∀ y0 y1 y2 y3 y4, LeO (spec_raPack.l1 k y0 y1 y2 y3 y4) (spec_raPack.l1 (k + 1) y0 y1 y2 y3 y4))
 | 0 => ⟨fun _ _ _ _ _ _ _ _ _ r h => by simp [spec_raPack.l0] at h, fun _ _ _ _ _ r h => by simp [spec_raPack.l1] at h⟩
 | k + 1 => by
  obtain ⟨ih0, ih1⟩ := spec_raPack.mono_l k
  refine ⟨?_, ?_⟩
  ·intro y0 y1 y2 y3 y4 y5 y6 y7 y8
   unfold spec_raPack.l0
   repeat' first
   | (with_reducible exact ih0 _ _ _ _ _ _ _ _ _)
   | (with_reducible exact ih1 _ _ _ _ _)
   | (with_reducible exact spec_biPut.mono _ _ _ _ _)
   | (with_reducible exact spec_biSome.mono _ _)
   | (with_reducible exact LeO.refl _)
   | (with_reducible exact LeO.none _)
   | (with_reducible refine LeO.ite ?_ ?_)
   | (with_reducible refine LeO.bind ?_ (fun _ => ?_))
   | exact ih0 _ _ _ _ _ _ _ _ _
   | exact ih1 _ _ _ _ _
   | exact spec_biPut.mono _ _ _ _ _
   | exact spec_biSome.mono _ _
   | exact LeO.none _
   | refine LeO.ite ?_ ?_
   | refine LeO.bind ?_ (fun _ => ?_)
  ·intro y0 y1 y2 y3 y4
   unfold spec_raPack.l1
   repeat' first
   | (with_reducible exact ih0 _ _ _ _ _ _ _ _ _)
   | (with_reducible exact ih1 _ _ _ _ _)
   | (with_reducible exact spec_biPut.mono _ _ _ _ _)
   | (with_reducible exact spec_biSome.mono _ _)
   | (with_reducible exact LeO.refl _)
   | (with_reducible exact LeO.none _)
   | (with_reducible refine LeO.ite ?_ ?_)
   | (with_reducible refine LeO.bind ?_ (fun _ => ?_))
   | exact ih0 _ _ _ _ _ _ _ _ _
   | exact ih1 _ _ _ _ _
   | exact spec_biPut.mono _ _ _ _ _
   | exact spec_biSome.mono _ _
   | exact LeO.none _
   | refine LeO.ite ?_ ?_
   | refine LeO.bind ?_ (fun _ => ?_)
theorem spec_raPack.mono : ∀ a0 a1 a2 a3 k, LeO (spec_raPack.f k a0 a1 a2 a3) (spec_raPack.f (k + 1) a0 a1 a2 a3) := by
 intro a0 a1 a2 a3 k
 obtain ⟨ih0, ih1⟩ := spec_raPack.mono_l k
 unfold spec_raPack.f
 repeat' first
   | (with_reducible exact ih0 _ _ _ _ _ _ _ _ _)
   | (with_reducible exact ih1 _ _ _ _ _)
   | (with_reducible exact spec_biPut.mono _ _ _ _ _)
   | (with_reducible exact spec_biSome.mono _ _)
   | (with_reducible exact LeO.refl _)
   | (with_reducible exact LeO.none _)
   | (with_reducible refine LeO.ite ?_ ?_)
   | (with_reducible refine LeO.bind ?_ (fun _ => ?_))
   | exact ih0 _ _ _ _ _ _ _ _ _
   | exact ih1 _ _ _ _ _
   | exact spec_biPut.mono _ _ _ _ _
   | exact spec_biSome.mono _ _
   | exact LeO.none _
   | refine LeO.ite ?_ ?_
   | refine LeO.bind ?_ (fun _ => ?_)
set_option maxHeartbeats 8000000 in
set_option maxRecDepth 100000 in
theorem spec_raPack.calls (k : Nat) (a0_0 : Int) (A0_1 : Option Addr) (c0_1 : Nat) (l0_1 : List Int) (A0_2 : Option Addr) (c0_2 : Nat) (l0_2 : List Int) (A0_3 : Option Addr) (c0_3 : Nat) (l0_3 : List Int) (r1 : Int) (r2 : List Int) (w : World) (hr0_1 : Kd.C (Kd.int .i64) w A0_1 l0_1.length l0_1) (hc0_1 : l0_1.length ≤ c0_1) (hr0_2 : Kd.C (Kd.int .i64) w A0_2 l0_2.length l0_2) (hc0_2 : l0_2.length ≤ c0_2) (hr0_3 : Kd.C (Kd.int .i64) w A0_3 l0_3.length l0_3) (hc0_3 : l0_3.length ≤ c0_3) (h : spec_raPack.f k a0_0 l0_1 l0_2 l0_3 = some (r1, r2)) :
  Calls Try.prog 97 #[.agg #[.int .i64 a0_0, .slice A0_1 l0_1.length c0_1, .slice A0_2 l0_2.length c0_2, .slice A0_3 l0_3.length c0_3]] w fun e w' => ∃ v1_ : Value, e = .returned (.agg #[.int .i64 r1, v1_]) ∧ Kd.R (Kd.int .i64) 3 w' w.heap.size (fun _ => True) v1_ r2 ∧ Below w.heap.size w w' := by
 have hu48 := Try.underlying48
 have hu26 := Try.underlying26
 have HR0_1 := am_ hr0_1
 have HC0_1 := am_ hc0_1
 clear hr0_1 hc0_1
 have HR0_2 := am_ hr0_2
 have HC0_2 := am_ hc0_2
 clear hr0_2 hc0_2
 have HR0_3 := am_ hr0_3
 have HC0_3 := am_ hc0_3
 clear hr0_3 hc0_3
 have HB := am_ (Below.refl w.heap.size w)
 have H : ((spec_raSize.f a0_0).bind fun t201 => (if 0 ≤ t201 then (if (t201 : Int).toNat ≤ 281474976710656 then (spec_raPack.l0 k (List.replicate (t201 : Int).toNat false) 0 l0_2 (l0_2.length : Int) 0 a0_0 l0_1 l0_2 l0_3) else (none)) else (none))) = some (r1, r2) := h
 clear h
 replace H := Option.bind_eq_some_iff.mp H
 obtain ⟨t201, A20, H⟩ := H
 replace H : (if 0 ≤ t201 then (if (t201 : Int).toNat ≤ 281474976710656 then (spec_raPack.l0 k (List.replicate (t201 : Int).toNat false) 0 l0_2 (l0_2.length : Int) 0 a0_0 l0_1 l0_2 l0_3) else (none)) else (none)) = some (r1, r2) := H
 have A2 := am_ A20
 clear A20
 by_cases c3 : 0 ≤ t201
 ·rw [if_pos c3] at H
  have c3b0 := eq_true c3
  have c3b1 : decide (0 ≤ t201) = true := decide_eq_true c3
  clear c3
  by_cases c4 : (t201 : Int).toNat ≤ 281474976710656
  ·rw [if_pos c4] at H
   have c4b0 := eq_true c4
   have c4b1 : decide ((t201 : Int).toNat ≤ 281474976710656) = true := decide_eq_true c4
   clear c4
   obtain ⟨y202, hy202⟩ : ∃ y_ : List Bool, y_ = (List.replicate (t201 : Int).toNat false) := ⟨_, rfl⟩
   replace H : (spec_raPack.l0 k y202 0 l0_2 (l0_2.length : Int) 0 a0_0 l0_1 l0_2 l0_3) = some (r1, r2) := by first | (rw [hy202]; with_reducible exact H) | (have H2_ := (Option.bind_some _ _).symm.trans H; rw [hy202]; with_reducible exact H2_) | (have H2_ := (Option.bind_some _ _).symm.trans H; with_reducible exact H2_) | with_reducible exact H | (rw [hy202]; exact H) | exact H
   have Ny202 := am_ hy202
   clear hy202
   have H' := am_ H
   clear H
   go_enter Try.func97, Try.ntmps97
   go_wp2_with (first | ((with_reducible refine gate_dst (N := 1) rfl ?_); refine bev_ 1 #[.int .i64 a0_0, .slice A0_1 l0_1.length c0_1, .slice A0_2 l0_2.length c0_2, .slice A0_3 l0_3.length c0_3] 48 rfl rfl ?_; intro gb199 hg w5 hbox hb; have BK199 := am_ (hbox); have GW199 := am_ ((by rw [hg]; exact (below_size (lw_ HB)) : w.heap.size ≤ gb199)); have GE199 := am_ ((by rw [hg]; exact (below_size (lw_ HB)) : w.heap.size ≤ gb199)); replace HB := am_ (below_step (lw_ HB) hb); clear hb hbox hg) | ((with_reducible refine gate_dst (N := 2) rfl ?_); refine bev_ 2 #[.int .i64 0, .slice none 0 0] 26 rfl rfl ?_; intro gb200 hg w6 hbox hb; have BK200 := am_ (hbox); have GW200 := am_ ((by rw [hg]; exact (below_size (lw_ HB)) : w.heap.size ≤ gb200)); have GE200 := am_ ((by rw [hg]; exact (below_size (lw_ HB)) : w.heap.size ≤ gb200)); have NB199_200 := am_ ((by rw [hg]; exact Nat.ne_of_lt (blk_lt (g := gb199) (lb_ BK199)) : gb199 ≠ gb200)); have NB200_199 := am_ ((by rw [hg]; exact Nat.ne_of_gt (blk_lt (g := gb199) (lb_ BK199)) : gb200 ≠ gb199)); replace BK199 := am_ (blk_below (g := gb199) (lb_ BK199) hb); replace HB := am_ (below_step (lw_ HB) hb); clear hb hbox hg; have hnb7 := NB199_200.out; have hnc7 := NB200_199.out; obtain ⟨hcz8_0, hcz8_1, hcz8_2, hcz8_3, hfz8_0, hfz8_1, hfz8_2, hfz8_3⟩ := bx4_ BK199.out) | ((with_reducible refine gate_callee (f := 130) rfl ?_); refine goesL_ (some 12) rfl rfl Try.func130 (by kernel_rfl) rfl #[.int .i64 a0_0] rfl lm_ ?_; (with_reducible refine (spec_raSize.calls a0_0 t201 _ A2.out).mono ?_); rintro e w' ⟨rfl, ⟨nd, rfl⟩⟩; refine ⟨_, rfl, ?_⟩) | ((with_reducible refine gate_dst (N := 13) rfl ?_); refine Kd.R_make Kd.bool _ 4 rfl (N := 13) rfl 88 _ _ rfl t201 rfl rfl Try.underlying88 (.bool false) 1 info4 rfl (by decide) (by omega) false (ok := fun _ => True) (okp := fun _ => True) rfl (fun _ hk => hk) trivial (of_decide_eq_true (by first | (with_reducible assumption) | assumption)) (Nat.le_trans (Nat.mul_le_mul_right _ (of_decide_eq_true (by first | (with_reducible assumption) | assumption) : t201.toNat ≤ 281474976710656)) (by omega)) (Below.refl _ _) (Nat.le_refl _) ?_; intro v203 w9 ho10 hb hg_ hnew_; clear hg_ hnew_; (first | rw [← Ny202.out] at ho10 | (simp only [Int.reduceToNat] at ho10; rw [← Ny202.out] at ho10)); have HO204 := am_ (Kd.R_lower ho10 (below_size (lw_ HB))); replace BK199 := am_ (blk_below (g := gb199) (lb_ BK199) hb); replace BK200 := am_ (blk_below (g := gb200) (lb_ BK200) hb); replace HB := am_ (below_step (lw_ HB) hb); clear hb ho10; obtain ⟨hcz11_0, hcz11_1, hcz11_2, hcz11_3, hfz11_0, hfz11_1, hfz11_2, hfz11_3⟩ := bx4_ BK199.out))
   go_loopg [4, 17] k (fun kq v4 v17 w' => ∃ (x3_1 : List Bool) (x4_1 : Int) (x17_1 : Int), v4 = .int .i64 x4_1 ∧ v17 = .int .i64 x17_1 ∧ Aside0 (spec_raPack.l0 kq x3_1 x4_1 l0_2 (l0_2.length : Int) x17_1 a0_0 l0_1 l0_2 l0_3 = some (r1, r2)) ∧ Aside0 (kq ≤ k) ∧ Aside0 (Kd.R Kd.bool 4 w' w.heap.size (fun _ => True) v203 x3_1) ∧ Aside0 (w'.heap[gb199]? = some (.cells #[.int .i64 a0_0, (.slice A0_1 l0_1.length c0_1), (.slice A0_2 l0_2.length c0_2), (.slice A0_3 l0_3.length c0_3)] 48 (0, 0))) ∧ Aside0 (w'.heap[gb200]? = some (.cells #[.int .i64 0, (.slice none 0 0)] 26 (0, 0))) ∧ Aside0 (Below w.heap.size w w'))
   case atStart => exact ⟨(y202), (0), (0), sr_, sr_, H', ⟨Nat.le_refl _⟩, ⟨lf_ HO204⟩, ⟨lb_ BK199⟩, ⟨lb_ BK200⟩, ⟨lw_ HB⟩⟩
   case round =>
    clear H'
    try clear c1
    try clear p2
    try clear c3
    try clear c3b0
    try clear c3b1
    try clear c4
    try clear c4b0
    try clear c4b1
    try clear c7
    try clear c9
    try clear hcz11_0
    try clear hcz11_1
    try clear hcz11_2
    try clear hcz11_3
    try clear hcz8_0
    try clear hcz8_1
    try clear hcz8_2
    try clear hcz8_3
    try clear hfz11_0
    try clear hfz11_1
    try clear hfz11_2
    try clear hfz11_3
    try clear hfz8_0
    try clear hfz8_1
    try clear hfz8_2
    try clear hfz8_3
    obtain ⟨x3_1, x4_1, x17_1, rfl, rfl, HA, HK1, HO_3, BK199, BK200, HB⟩ := hrel
    cases gk with
    | zero => exact absurd HA.out (by simp [spec_raPack.l0])
    | succ k1 =>
     have H := HA.out
     clear HA
     simp only [spec_raPack.l0] at H
     by_cases c12 : x17_1 < (l0_2.length : Int)
     ·rw [if_pos c12] at H
      have c12b0 : decide (x17_1 < (l0_2.length : Int)) = true := decide_eq_true c12
      clear c12
      by_cases c13 : 0 ≤ x17_1
      ·rw [if_pos c13] at H
       have c13b0 : decide (0 ≤ x17_1) = true := decide_eq_true c13
       clear c13
       by_cases c14 : x17_1 < (l0_2.length : Int)
       ·rw [if_pos c14] at H
        have c14b0 : decide (x17_1 < (l0_2.length : Int)) = true := decide_eq_true c14
        clear c14
        replace H := Option.bind_eq_some_iff.mp H
        obtain ⟨t206, A150, H⟩ := H
        replace H : (spec_raPack.l0 k1 t206 (wrap64 (x4_1 + 13)) l0_2 (l0_2.length : Int) (wrap64 (x17_1 + 1)) a0_0 l0_1 l0_2 l0_3) = some (r1, r2) := H
        have A15 := am_ A150
        clear A150
        have H' := am_ H
        clear H
        have p205 : 0 ≤ (x17_1 : Int) := of_decide_eq_true (by first | (with_reducible assumption) | assumption)
        have q205 : x17_1 < (l0_2.length : Int) := of_decide_eq_true (by first | (with_reducible assumption) | assumption)
        obtain ⟨ad205, e205, hx205_0⟩ := Kd.at_int HR0_2.out x17_1 p205 q205
        cases e205
        replace hx205_0 := (HB.out.cell (World.block_lt_of_cell? w _ hx205_0)).trans hx205_0
        replace p205 := eq_true p205
        replace q205 := eq_true q205
        obtain ⟨Ao16, co16, eo16⟩ := Kd.R_slice HO_3.out
        subst eo16
        go_wp2_with (first | ((with_reducible refine gate_callee (f := 87) rfl ?_); refine goesL_ (some 24) rfl rfl Try.func87 (by kernel_rfl) rfl #[.slice Ao16 x3_1.length co16, .int .i64 x4_1, .int .i64 13, .int .i64 (rd l0_2 x17_1)] rfl lm_ ?_; (with_reducible refine (spec_biPut.calls k1 (fun k_ => some k_ = (.slice Ao16 x3_1.length co16 : Value).ownBlock) (.slice Ao16 x3_1.length co16) x3_1 x4_1 13 (rd l0_2 x17_1) t206 w _ ?side1 ?side2 A15.out).mono ?_); (case side1 => exact lw_ HB); (case side2 => exact Kd.R_tight rfl HO_3.out); rintro e w17 ⟨rfl, hy0, hb, hkp⟩; refine ⟨_, rfl, ?_⟩; replace BK199 := am_ (blk_kept (lb_ BK199) hkp (fun hs_ => (fun e_ => (Kd.R_ne HO_3.out BK199.out (by decide)) e_) hs_)); replace BK200 := am_ (blk_kept (lb_ BK200) hkp (fun hs_ => (fun e_ => (Kd.R_ne HO_3.out BK200.out (by decide)) e_) hs_)); replace HO_3 := am_ (Kd.R_reok rfl hy0 (fun k_ e_ => HO_3.out.1 k_ e_)); replace HB := am_ (hb); (try clear hb); (try clear hkp); (try clear hy0)))
        go_roundg k1
        case measure => have := HK1.out; omega
        case rel => exact ⟨(t206), (wrap64 (x4_1 + 13)), (wrap64 (x17_1 + 1)), sr_, sr_, H', ⟨by have := HK1.out; omega⟩, ⟨lf_ HO_3⟩, ⟨lb_ BK199⟩, ⟨lb_ BK200⟩, ⟨lw_ HB⟩⟩
       ·rw [if_neg c14] at H
        exact absurd H (by simp)
      ·rw [if_neg c13] at H
       exact absurd H (by simp)
     ·rw [if_neg c12] at H
      have c12b0 : decide (x17_1 < (l0_2.length : Int)) = false := decide_eq_false c12
      clear c12
      have H' := am_ H
      clear H
      have hnb18 := NB199_200.out
      have hnc18 := NB200_199.out
      obtain ⟨hcz19_0, hcz19_1, hcz19_2, hcz19_3, hfz19_0, hfz19_1, hfz19_2, hfz19_3⟩ := bx4_ BK199.out
      go_wp2
      go_loopg [4, 31] k1 (fun kq v4 v31 w' => ∃ (x3_2 : List Bool) (x4_2 : Int) (x31_2 : Int), v4 = .int .i64 x4_2 ∧ v31 = .int .i64 x31_2 ∧ Aside0 (spec_raPack.l1 kq x3_2 x4_2 l0_3 (l0_3.length : Int) x31_2 = some (r1, r2)) ∧ Aside0 (kq ≤ k1) ∧ Aside0 (Kd.R Kd.bool 4 w' w.heap.size (fun _ => True) v203 x3_2) ∧ Aside0 (w'.heap[gb199]? = some (.cells #[.int .i64 a0_0, (.slice A0_1 l0_1.length c0_1), (.slice A0_2 l0_2.length c0_2), (.slice A0_3 l0_3.length c0_3)] 48 (0, 0))) ∧ Aside0 (w'.heap[gb200]? = some (.cells #[.int .i64 0, (.slice none 0 0)] 26 (0, 0))) ∧ Aside0 (Below w.heap.size w w'))
      case atStart => exact ⟨(x3_1), (x4_1), (0), sr_, sr_, H', ⟨Nat.le_refl _⟩, ⟨lf_ HO_3⟩, ⟨lb_ BK199⟩, ⟨lb_ BK200⟩, ⟨lw_ HB⟩⟩
      case round =>
       clear H'
       try clear c1
       try clear p2
       try clear q2
       try clear hx2
       try clear c3
       try clear c3b0
       try clear c3b1
       try clear c4
       try clear c4b0
       try clear c4b1
       try clear p6
       try clear c7
       try clear c8
       try clear c9
       try clear c12
       try clear c12b0
       try clear c13
       try clear c13b0
       try clear c14
       try clear c14b0
       try clear c18
       try clear hcz11_0
       try clear hcz11_1
       try clear hcz11_2
       try clear hcz11_3
       try clear hcz19_0
       try clear hcz19_1
       try clear hcz19_2
       try clear hcz19_3
       try clear hcz8_0
       try clear hcz8_1
       try clear hcz8_2
       try clear hcz8_3
       try clear hfz11_0
       try clear hfz11_1
       try clear hfz11_2
       try clear hfz11_3
       try clear hfz19_0
       try clear hfz19_1
       try clear hfz19_2
       try clear hfz19_3
       try clear hfz8_0
       try clear hfz8_1
       try clear hfz8_2
       try clear hfz8_3
       try clear hx205_0
       try clear p2
       try clear p205
       try clear q205
       obtain ⟨x3_2, x4_2, x31_2, rfl, rfl, HA, HK2, HO_3, BK199, BK200, HB⟩ := hrel
       cases gk with
       | zero => exact absurd HA.out (by simp [spec_raPack.l1])
       | succ k2 =>
        have H := HA.out
        clear HA
        simp only [spec_raPack.l1] at H
        by_cases c20 : x31_2 < (l0_3.length : Int)
        ·rw [if_pos c20] at H
         have c20b0 : decide (x31_2 < (l0_3.length : Int)) = true := decide_eq_true c20
         clear c20
         by_cases c21 : 0 ≤ x31_2
         ·rw [if_pos c21] at H
          have c21b0 : decide (0 ≤ x31_2) = true := decide_eq_true c21
          clear c21
          by_cases c22 : x31_2 < (l0_3.length : Int)
          ·rw [if_pos c22] at H
           have c22b0 : decide (x31_2 < (l0_3.length : Int)) = true := decide_eq_true c22
           clear c22
           replace H := Option.bind_eq_some_iff.mp H
           obtain ⟨t208, A230, H⟩ := H
           replace H : (spec_raPack.l1 k2 t208 (wrap64 (x4_2 + 6)) l0_3 (l0_3.length : Int) (wrap64 (x31_2 + 1))) = some (r1, r2) := H
           have A23 := am_ A230
           clear A230
           have H' := am_ H
           clear H
           have p207 : 0 ≤ (x31_2 : Int) := of_decide_eq_true (by first | (with_reducible assumption) | assumption)
           have q207 : x31_2 < (l0_3.length : Int) := of_decide_eq_true (by first | (with_reducible assumption) | assumption)
           obtain ⟨ad207, e207, hx207_0⟩ := Kd.at_int HR0_3.out x31_2 p207 q207
           cases e207
           replace hx207_0 := (HB.out.cell (World.block_lt_of_cell? w _ hx207_0)).trans hx207_0
           replace p207 := eq_true p207
           replace q207 := eq_true q207
           obtain ⟨Ao24, co24, eo24⟩ := Kd.R_slice HO_3.out
           subst eo24
           go_wp2_with (first | ((with_reducible refine gate_callee (f := 87) rfl ?_); refine goesL_ (some 38) rfl rfl Try.func87 (by kernel_rfl) rfl #[.slice Ao24 x3_2.length co24, .int .i64 x4_2, .int .i64 6, .int .i64 (rd l0_3 x31_2)] rfl lm_ ?_; (with_reducible refine (spec_biPut.calls k2 (fun k_ => some k_ = (.slice Ao24 x3_2.length co24 : Value).ownBlock) (.slice Ao24 x3_2.length co24) x3_2 x4_2 6 (rd l0_3 x31_2) t208 w _ ?side1 ?side2 A23.out).mono ?_); (case side1 => exact lw_ HB); (case side2 => exact Kd.R_tight rfl HO_3.out); rintro e w25 ⟨rfl, hy0, hb, hkp⟩; refine ⟨_, rfl, ?_⟩; replace BK199 := am_ (blk_kept (lb_ BK199) hkp (fun hs_ => (fun e_ => (Kd.R_ne HO_3.out BK199.out (by decide)) e_) hs_)); replace BK200 := am_ (blk_kept (lb_ BK200) hkp (fun hs_ => (fun e_ => (Kd.R_ne HO_3.out BK200.out (by decide)) e_) hs_)); replace HO_3 := am_ (Kd.R_reok rfl hy0 (fun k_ e_ => HO_3.out.1 k_ e_)); replace HB := am_ (hb); (try clear hb); (try clear hkp); (try clear hy0)))
           go_roundg k2
           case measure => have := HK1.out; have := HK2.out; omega
           case rel => exact ⟨(t208), (wrap64 (x4_2 + 6)), (wrap64 (x31_2 + 1)), sr_, sr_, H', ⟨by have := HK1.out; have := HK2.out; omega⟩, ⟨lf_ HO_3⟩, ⟨lb_ BK199⟩, ⟨lb_ BK200⟩, ⟨lw_ HB⟩⟩
          ·rw [if_neg c22] at H
           exact absurd H (by simp)
         ·rw [if_neg c21] at H
          exact absurd H (by simp)
        ·rw [if_neg c20] at H
         have c20b0 : decide (x31_2 < (l0_3.length : Int)) = false := decide_eq_false c20
         clear c20
         replace H := Option.bind_eq_some_iff.mp H
         obtain ⟨⟨t209, t210⟩, A260, H⟩ := H
         replace H : (some (t209, t210)) = some (r1, r2) := H
         have A26 := am_ A260
         clear A260
         simp only [Option.some.injEq, Prod.mk.injEq] at H
         obtain ⟨rfl, rfl⟩ := H
         obtain ⟨Ao27, co27, eo27⟩ := Kd.R_slice HO_3.out
         subst eo27
         go_wp2_with (first | ((with_reducible refine gate_callee (f := 72) rfl ?_); refine goesL_ (some 43) rfl rfl Try.func72 (by kernel_rfl) rfl #[.slice Ao27 x3_2.length co27] rfl lm_ ?_; (with_reducible refine (spec_biSome.calls k2 _ _ x3_2 t209 t210 _ ?side1 ?side2 A26.out).mono ?_); (case side1 => exact lc_ (Kd.R_reads' HO_3.out).2.2); (case side2 => exact (Kd.R_reads' HO_3.out).2.1); rintro e w28 ⟨v211, rfl, ho0, hb⟩; refine ⟨_, rfl, ?_⟩; have HO212 := am_ (Kd.R_lower ho0 (below_size (lw_ HB))); replace HO_3 := am_ (Kd.R_below (lf_ HO_3) hb); replace BK199 := am_ (blk_below (g := gb199) (lb_ BK199) hb); replace BK200 := am_ (blk_below (g := gb200) (lb_ BK200) hb); replace HB := am_ (below_step (lw_ HB) hb); (try clear hb); (try clear hb2); (try clear hk); (try clear hi); (try clear ho0); have hnb29 := NB200_199.out; have hnc29 := NB199_200.out; obtain ⟨hcz30_0, hcz30_1, hfz30_0, hfz30_1⟩ := bx2_ BK200.out; obtain ⟨Ao31, co31, eo31⟩ := Kd.R_slice HO212.out; subst eo31))
         refine bodyPost_ret (results_cell_row rfl _ _ gb200 26 #[.int .i64 t209, .slice Ao31 t210.length co31] (0, 0) _ rfl (lq_ BK200) Try.underlying26 rfl (by kernel_rfl)) rfl ?_
         exact ⟨_, er_, lt_ (mt_ (fr2_ HO212.out BK200.out (.int .i64 t209) (.slice Ao31 t210.length co31))), lw_ HB⟩
  ·rw [if_neg c4] at H
   exact absurd H (by simp)
 ·rw [if_neg c3] at H
  exact absurd H (by simp)

/-! ### spec_PackDirectory: function 41 -/
def spec_PackDirectory.f (k : Nat) (a0_0 : Int) (l0_1 : List Int) (l0_2 : List Int) (l0_3 : List Int) : Option (Int × List Int × Bool) := (spec_raGood.f k a0_0 l0_1 l0_2 l0_3).bind fun t215 => (if t215 = true then ((spec_raPack.f k a0_0 l0_1 l0_2 l0_3).bind fun bt216 => (some (bt216.1, bt216.2, true))) else (some (0, ([] : List Int), false)))
theorem spec_PackDirectory.mono : ∀ a0 a1 a2 a3 k, LeO (spec_PackDirectory.f k a0 a1 a2 a3) (spec_PackDirectory.f (k + 1) a0 a1 a2 a3) := by
 intro a0 a1 a2 a3 k
 unfold spec_PackDirectory.f
 repeat' first
   | (with_reducible exact spec_raGood.mono _ _ _ _ _)
   | (with_reducible exact spec_raPack.mono _ _ _ _ _)
   | (with_reducible exact LeO.refl _)
   | (with_reducible exact LeO.none _)
   | (with_reducible refine LeO.ite ?_ ?_)
   | (with_reducible refine LeO.bind ?_ (fun _ => ?_))
   | exact spec_raGood.mono _ _ _ _ _
   | exact spec_raPack.mono _ _ _ _ _
   | exact LeO.none _
   | refine LeO.ite ?_ ?_
   | refine LeO.bind ?_ (fun _ => ?_)
set_option maxHeartbeats 8000000 in
set_option maxRecDepth 100000 in
theorem spec_PackDirectory.calls (k : Nat) (a0_0 : Int) (A0_1 : Option Addr) (c0_1 : Nat) (l0_1 : List Int) (A0_2 : Option Addr) (c0_2 : Nat) (l0_2 : List Int) (A0_3 : Option Addr) (c0_3 : Nat) (l0_3 : List Int) (r1 : Int) (r2 : List Int) (r3 : Bool) (w : World) (hr0_1 : Kd.C (Kd.int .i64) w A0_1 l0_1.length l0_1) (hc0_1 : l0_1.length ≤ c0_1) (hr0_2 : Kd.C (Kd.int .i64) w A0_2 l0_2.length l0_2) (hc0_2 : l0_2.length ≤ c0_2) (hr0_3 : Kd.C (Kd.int .i64) w A0_3 l0_3.length l0_3) (hc0_3 : l0_3.length ≤ c0_3) (h : spec_PackDirectory.f k a0_0 l0_1 l0_2 l0_3 = some (r1, r2, r3)) :
  Calls Try.prog 41 #[.agg #[.int .i64 a0_0, .slice A0_1 l0_1.length c0_1, .slice A0_2 l0_2.length c0_2, .slice A0_3 l0_3.length c0_3]] w fun e w' => ∃ v1_ : Value, e = .returned (.tuple #[.agg #[.int .i64 r1, v1_], .bool r3]) ∧ Kd.R (Kd.int .i64) 3 w' w.heap.size (fun _ => True) v1_ r2 ∧ Below w.heap.size w w' := by
 have hu48 := Try.underlying48
 have hu26 := Try.underlying26
 have HR0_1 := am_ hr0_1
 have HC0_1 := am_ hc0_1
 clear hr0_1 hc0_1
 have HR0_2 := am_ hr0_2
 have HC0_2 := am_ hc0_2
 clear hr0_2 hc0_2
 have HR0_3 := am_ hr0_3
 have HC0_3 := am_ hc0_3
 clear hr0_3 hc0_3
 have HB := am_ (Below.refl w.heap.size w)
 have H : ((spec_raGood.f k a0_0 l0_1 l0_2 l0_3).bind fun t215 => (if t215 = true then ((spec_raPack.f k a0_0 l0_1 l0_2 l0_3).bind fun bt216 => (some (bt216.1, bt216.2, true))) else (some (0, ([] : List Int), false)))) = some (r1, r2, r3) := h
 clear h
 replace H := Option.bind_eq_some_iff.mp H
 obtain ⟨t215, A20, H⟩ := H
 replace H : (if t215 = true then ((spec_raPack.f k a0_0 l0_1 l0_2 l0_3).bind fun bt216 => (some (bt216.1, bt216.2, true))) else (some (0, ([] : List Int), false))) = some (r1, r2, r3) := H
 have A2 := am_ A20
 clear A20
 by_cases c3 : t215 = true
 ·subst c3
  have H1 : ((spec_raPack.f k a0_0 l0_1 l0_2 l0_3).bind fun bt216 => (some (bt216.1, bt216.2, true))) = some (r1, r2, r3) := by rw [if_pos rfl] at H; exact H
  clear H
  have H := H1
  clear H1
  replace H := Option.bind_eq_some_iff.mp H
  obtain ⟨⟨t216, t217⟩, A40, H⟩ := H
  replace H : (some (t216, t217, true)) = some (r1, r2, r3) := H
  have A4 := am_ A40
  clear A40
  simp only [Option.some.injEq, Prod.mk.injEq] at H
  obtain ⟨rfl, rfl, rfl⟩ := H
  go_enter Try.func41, Try.ntmps41
  go_wp2_with (first | ((with_reducible refine gate_dst (N := 1) rfl ?_); refine bev_ 1 #[.int .i64 a0_0, .slice A0_1 l0_1.length c0_1, .slice A0_2 l0_2.length c0_2, .slice A0_3 l0_3.length c0_3] 48 rfl rfl ?_; intro gb213 hg w5 hbox hb; have BK213 := am_ (hbox); have GW213 := am_ ((by rw [hg]; exact (below_size (lw_ HB)) : w.heap.size ≤ gb213)); have GE213 := am_ ((by rw [hg]; exact (below_size (lw_ HB)) : w.heap.size ≤ gb213)); replace HB := am_ (below_step (lw_ HB) hb); clear hb hbox hg) | ((with_reducible refine gate_dst (N := 2) rfl ?_); refine bev_ 2 #[.int .i64 0, .slice none 0 0] 26 rfl rfl ?_; intro gb214 hg w6 hbox hb; have BK214 := am_ (hbox); have GW214 := am_ ((by rw [hg]; exact (below_size (lw_ HB)) : w.heap.size ≤ gb214)); have GE214 := am_ ((by rw [hg]; exact (below_size (lw_ HB)) : w.heap.size ≤ gb214)); have NB213_214 := am_ ((by rw [hg]; exact Nat.ne_of_lt (blk_lt (g := gb213) (lb_ BK213)) : gb213 ≠ gb214)); have NB214_213 := am_ ((by rw [hg]; exact Nat.ne_of_gt (blk_lt (g := gb213) (lb_ BK213)) : gb214 ≠ gb213)); replace BK213 := am_ (blk_below (g := gb213) (lb_ BK213) hb); replace HB := am_ (below_step (lw_ HB) hb); clear hb hbox hg; have hnb7 := NB213_214.out; have hnc7 := NB214_213.out; obtain ⟨hcz8_0, hcz8_1, hcz8_2, hcz8_3, hfz8_0, hfz8_1, hfz8_2, hfz8_3⟩ := bx4_ BK213.out) | ((with_reducible refine gate_callee (f := 94) rfl ?_); refine goesL_ (some 5) rfl rfl Try.func94 (by kernel_rfl) rfl #[.agg #[.int .i64 a0_0, .slice A0_1 l0_1.length c0_1, .slice A0_2 l0_2.length c0_2, .slice A0_3 l0_3.length c0_3]] rfl lm_ ?_; (with_reducible refine (spec_raGood.calls k a0_0 _ _ l0_1 _ _ l0_2 _ _ l0_3 true _ ?side1 ?side2 ?side3 ?side4 ?side5 ?side6 A2.out).mono ?_); (case side1 => exact lc_ (Kd.C_below HR0_1.out HB.out)); (case side2 => exact HC0_1.out); (case side3 => exact lc_ (Kd.C_below HR0_2.out HB.out)); (case side4 => exact HC0_2.out); (case side5 => exact lc_ (Kd.C_below HR0_3.out HB.out)); (case side6 => exact HC0_3.out); rintro e w9 ⟨rfl, hb⟩; refine ⟨_, rfl, ?_⟩; replace BK213 := am_ (blk_below (g := gb213) (lb_ BK213) hb); replace BK214 := am_ (blk_below (g := gb214) (lb_ BK214) hb); replace HB := am_ (below_step (lw_ HB) hb); (try clear hb); (try clear hb2); (try clear hk); (try clear hi); obtain ⟨hcz10_0, hcz10_1, hcz10_2, hcz10_3, hfz10_0, hfz10_1, hfz10_2, hfz10_3⟩ := bx4_ BK213.out) | ((with_reducible refine gate_callee (f := 97) rfl ?_); refine goesL_ (some 9) rfl rfl Try.func97 (by kernel_rfl) rfl #[.agg #[.int .i64 a0_0, .slice A0_1 l0_1.length c0_1, .slice A0_2 l0_2.length c0_2, .slice A0_3 l0_3.length c0_3]] rfl lm_ ?_; (with_reducible refine (spec_raPack.calls k a0_0 _ _ l0_1 _ _ l0_2 _ _ l0_3 t216 t217 _ ?side1 ?side2 ?side3 ?side4 ?side5 ?side6 A4.out).mono ?_); (case side1 => exact lc_ (Kd.C_below HR0_1.out HB.out)); (case side2 => exact HC0_1.out); (case side3 => exact lc_ (Kd.C_below HR0_2.out HB.out)); (case side4 => exact HC0_2.out); (case side5 => exact lc_ (Kd.C_below HR0_3.out HB.out)); (case side6 => exact HC0_3.out); rintro e w11 ⟨v218, rfl, ho0, hb⟩; refine ⟨_, rfl, ?_⟩; have HO219 := am_ (Kd.R_lower ho0 (below_size (lw_ HB))); replace BK213 := am_ (blk_below (g := gb213) (lb_ BK213) hb); replace BK214 := am_ (blk_below (g := gb214) (lb_ BK214) hb); replace HB := am_ (below_step (lw_ HB) hb); (try clear hb); (try clear hb2); (try clear hk); (try clear hi); (try clear ho0); obtain ⟨hcz12_0, hcz12_1, hfz12_0, hfz12_1⟩ := bx2_ BK214.out; obtain ⟨Ao13, co13, eo13⟩ := Kd.R_slice HO219.out; subst eo13))
  refine bodyPost_ret (results_ct rfl _ _ gb214 26 #[.int .i64 t216, .slice Ao13 t217.length co13] (0, 0) _ rfl (lq_ BK214) Try.underlying26 rfl (by kernel_rfl)) rfl ?_
  exact ⟨_, er_, lt_ (mt_ (fr2_ HO219.out BK214.out (.int .i64 t216) (.slice Ao13 t217.length co13))), lw_ HB⟩
 ·replace c3 := Bool.eq_false_iff.mpr c3
  subst c3
  have H1 : (some (0, ([] : List Int), false)) = some (r1, r2, r3) := by rw [if_neg (show ¬ (false = true) by decide)] at H; exact H
  clear H
  have H := H1
  clear H1
  simp only [Option.some.injEq, Prod.mk.injEq] at H
  obtain ⟨rfl, rfl, rfl⟩ := H
  go_enter Try.func41, Try.ntmps41
  go_wp2_with (first | ((with_reducible refine gate_dst (N := 1) rfl ?_); refine bev_ 1 #[.int .i64 a0_0, .slice A0_1 l0_1.length c0_1, .slice A0_2 l0_2.length c0_2, .slice A0_3 l0_3.length c0_3] 48 rfl rfl ?_; intro gb213 hg w14 hbox hb; have BK213 := am_ (hbox); have GW213 := am_ ((by rw [hg]; exact (below_size (lw_ HB)) : w.heap.size ≤ gb213)); have GE213 := am_ ((by rw [hg]; exact (below_size (lw_ HB)) : w.heap.size ≤ gb213)); replace HB := am_ (below_step (lw_ HB) hb); clear hb hbox hg) | ((with_reducible refine gate_dst (N := 2) rfl ?_); refine bev_ 2 #[.int .i64 0, .slice none 0 0] 26 rfl rfl ?_; intro gb214 hg w15 hbox hb; have BK214 := am_ (hbox); have GW214 := am_ ((by rw [hg]; exact (below_size (lw_ HB)) : w.heap.size ≤ gb214)); have GE214 := am_ ((by rw [hg]; exact (below_size (lw_ HB)) : w.heap.size ≤ gb214)); have NB213_214 := am_ ((by rw [hg]; exact Nat.ne_of_lt (blk_lt (g := gb213) (lb_ BK213)) : gb213 ≠ gb214)); have NB214_213 := am_ ((by rw [hg]; exact Nat.ne_of_gt (blk_lt (g := gb213) (lb_ BK213)) : gb214 ≠ gb213)); replace BK213 := am_ (blk_below (g := gb213) (lb_ BK213) hb); replace HB := am_ (below_step (lw_ HB) hb); clear hb hbox hg; have hnb16 := NB213_214.out; have hnc16 := NB214_213.out; obtain ⟨hcz17_0, hcz17_1, hcz17_2, hcz17_3, hfz17_0, hfz17_1, hfz17_2, hfz17_3⟩ := bx4_ BK213.out) | ((with_reducible refine gate_callee (f := 94) rfl ?_); refine goesL_ (some 5) rfl rfl Try.func94 (by kernel_rfl) rfl #[.agg #[.int .i64 a0_0, .slice A0_1 l0_1.length c0_1, .slice A0_2 l0_2.length c0_2, .slice A0_3 l0_3.length c0_3]] rfl lm_ ?_; (with_reducible refine (spec_raGood.calls k a0_0 _ _ l0_1 _ _ l0_2 _ _ l0_3 false _ ?side1 ?side2 ?side3 ?side4 ?side5 ?side6 A2.out).mono ?_); (case side1 => exact lc_ (Kd.C_below HR0_1.out HB.out)); (case side2 => exact HC0_1.out); (case side3 => exact lc_ (Kd.C_below HR0_2.out HB.out)); (case side4 => exact HC0_2.out); (case side5 => exact lc_ (Kd.C_below HR0_3.out HB.out)); (case side6 => exact HC0_3.out); rintro e w18 ⟨rfl, hb⟩; refine ⟨_, rfl, ?_⟩; replace BK213 := am_ (blk_below (g := gb213) (lb_ BK213) hb); replace BK214 := am_ (blk_below (g := gb214) (lb_ BK214) hb); replace HB := am_ (below_step (lw_ HB) hb); (try clear hb); (try clear hb2); (try clear hk); (try clear hi); obtain ⟨hcz19_0, hcz19_1, hfz19_0, hfz19_1⟩ := bx2_ BK214.out))
  refine bodyPost_ret (results_ct rfl _ _ gb214 26 #[.int .i64 0, .slice none 0 0] (0, 0) _ rfl (lq_ BK214) Try.underlying26 rfl (by kernel_rfl)) rfl ?_
  exact ⟨_, er_, by first | exact Kd.R_nil _ _ _ _ _ | exact Kd.N_nil _ _ _ _ _ | exact Kd.V_nil _ _ _ _ _ | exact Kd.Q_nil _ _ _ _ _ | exact Kd.S_nil _ _ _ _ _, lw_ HB⟩

/-! ### impl_Bits_at: function 82 -/
def impl_Bits_at.f (a0_0 : Int) (l0_1 : List Int) (a1 : Int) : Option (Bool) := if 0 ≤ (wrap64 (Int.tdiv a1 16)) then (if (wrap64 (Int.tdiv a1 16)) < (l0_1.length : Int) then (if 0 ≤ (Int.tmod a1 16) then (some ((Go.bits .and .i64 (shr .i64 (rd l0_1 (wrap64 (Int.tdiv a1 16))) (Int.tmod a1 16)) 1) == 1)) else (none)) else (none)) else (none)
set_option maxHeartbeats 8000000 in
set_option maxRecDepth 100000 in
theorem impl_Bits_at.calls (g0 : Nat) (ex0 : List Value) (ty0 : TypeId) (a0_0 : Int) (A0_1 : Option Addr) (c0_1 : Nat) (l0_1 : List Int) (a1 : Int) (r : Bool) (w : World) (hb0 : w.heap[g0]? = some (.cells ⟨.int .i64 a0_0 :: .slice A0_1 l0_1.length c0_1 :: ex0⟩ ty0 (0, 0))) (hr0_1 : Kd.C (Kd.int .i64) w A0_1 l0_1.length l0_1) (hc0_1 : l0_1.length ≤ c0_1) (h : impl_Bits_at.f a0_0 l0_1 a1 = some r) :
  Calls Try.prog 82 #[.pointer (some ⟨g0, 0, none⟩), .int .i64 a1] w fun e w' => e = .returned (.bool r) ∧ Below w.heap.size w w' := by
 have HR0_1 := am_ hr0_1
 have HC0_1 := am_ hc0_1
 clear hr0_1 hc0_1
 have BK0 := am_ hb0
 clear hb0
 have HB := am_ (Below.refl w.heap.size w)
 have H : (if 0 ≤ (wrap64 (Int.tdiv a1 16)) then (if (wrap64 (Int.tdiv a1 16)) < (l0_1.length : Int) then (if 0 ≤ (Int.tmod a1 16) then (some ((Go.bits .and .i64 (shr .i64 (rd l0_1 (wrap64 (Int.tdiv a1 16))) (Int.tmod a1 16)) 1) == 1)) else (none)) else (none)) else (none)) = some r := h
 clear h
 obtain ⟨ji3, hji3⟩ : ∃ j_ : Int, (wrap64 (Int.tdiv a1 16)) = j_ := ⟨_, rfl⟩
 replace H : (if 0 ≤ (ji3) then (if (ji3) < (l0_1.length : Int) then (if 0 ≤ (Int.tmod a1 16) then (some ((Go.bits .and .i64 (shr .i64 (rd l0_1 (ji3)) (Int.tmod a1 16)) 1) == 1)) else (none)) else (none)) else (none)) = some r := by first | (rw [hji3] at H; exact H) | (simp only [hji3] at H ⊢; exact H)
 have hji3w : (IntKind.i64.wrap (Int.tdiv a1 16)) = ji3 := (i64_w _).trans hji3
 by_cases c4 : 0 ≤ (ji3)
 ·rw [if_pos c4] at H
  have c4b0 : decide (0 ≤ (ji3)) = true := decide_eq_true c4
  clear c4
  by_cases c5 : (ji3) < (l0_1.length : Int)
  ·rw [if_pos c5] at H
   have c5b0 : decide ((ji3) < (l0_1.length : Int)) = true := decide_eq_true c5
   clear c5
   obtain ⟨ji6, hji6⟩ : ∃ j_ : Int, (Int.tmod a1 16) = j_ := ⟨_, rfl⟩
   replace H : (if 0 ≤ (ji6) then (some ((Go.bits .and .i64 (shr .i64 (rd l0_1 (ji3)) (ji6)) 1) == 1)) else (none)) = some r := by first | (rw [hji6] at H; exact H) | (simp only [hji6] at H ⊢; exact H)
   by_cases c7 : 0 ≤ (ji6)
   ·rw [if_pos c7] at H
    have c7b0 := eq_true c7
    have c7b1 : decide (0 ≤ (ji6)) = true := decide_eq_true c7
    clear c7
    obtain ⟨ji8, hji8⟩ : ∃ j_ : Int, (shr .i64 (rd l0_1 (ji3)) (ji6)) = j_ := ⟨_, rfl⟩
    replace H : (some ((Go.bits .and .i64 (ji8) 1) == 1)) = some r := by first | (rw [hji8] at H; exact H) | (simp only [hji8] at H ⊢; exact H)
    have hji8_ : ((rd l0_1 (ji3)) / 2 ^ min (ji6).toNat 64) = ji8 := hji8
    have hji8z : (ji6) ≤ 64 → ((rd l0_1 (ji3)) / 2 ^ (ji6).toNat) = ji8 := shr_small hji8
    obtain rfl := Option.some.inj H
    have hcz9_0 : w.cell? ⟨g0, 0, none⟩ = some (.int .i64 a0_0) := (blk_cell BK0.out 0).trans rfl
    have hcz9_1 : w.cell? ⟨g0, 1, none⟩ = some (.slice A0_1 l0_1.length c0_1) := (blk_cell BK0.out 1).trans rfl
    have hfz9_0 := blk_frozen BK0.out 0
    have hfz9_1 := blk_frozen BK0.out 1
    have p220 : 0 ≤ ((ji3) : Int) := of_decide_eq_true (by first | (with_reducible assumption) | assumption)
    have q220 : (ji3) < (l0_1.length : Int) := of_decide_eq_true (by first | (with_reducible assumption) | assumption)
    obtain ⟨ad220, e220, hx220_0⟩ := Kd.at_int HR0_1.out (ji3) p220 q220
    cases e220
    replace p220 := eq_true p220
    replace q220 := eq_true q220
    go_enter Try.func82, Try.ntmps82
    go_wp2
    go_ret
    exact ⟨by first | rfl | (simp [errW_none, errW_some] <;> rfl) | (simp only [← hji3, ← hji6, ← hji8]; first | rfl | (simp [errW_none, errW_some] <;> rfl)) | (simp [*, errW_none, errW_some] <;> rfl), lw_ HB⟩
   ·rw [if_neg c7] at H
    exact absurd H (by simp)
  ·rw [if_neg c5] at H
   exact absurd H (by simp)
 ·rw [if_neg c4] at H
  exact absurd H (by simp)

/-! ### impl_Bits_count: function 104 -/
def impl_Bits_count.l0 : Nat → Int → Int → Int → Int → List Int → Option (Int)
 | 0, _, _, _, _, _ => none
 | k + 1, x2, x7, x8, x1000, x1001 => if x8 < x2 then ((impl_Bits_at.f x1000 x1001 x8).bind fun t221 => (if t221 = true then (impl_Bits_count.l0 k x2 (wrap64 (x7 + 1)) (wrap64 (x8 + 1)) x1000 x1001) else (impl_Bits_count.l0 k x2 x7 (wrap64 (x8 + 1)) x1000 x1001))) else (some x7)
def impl_Bits_count.f (k : Nat) (a0_0 : Int) (l0_1 : List Int) (a1 : Int) (a2 : Int) : Option (Int) := impl_Bits_count.l0 k a2 0 a1 a0_0 l0_1
theorem impl_Bits_count.mono_l : ∀ k, (∀ y0 y1 y2 y3 y4, LeO (impl_Bits_count.l0 k y0 y1 y2 y3 y4) (impl_Bits_count.l0 (k + 1) y0 y1 y2 y3 y4))
 | 0 => fun _ _ _ _ _ r h => by simp [impl_Bits_count.l0] at h
 | k + 1 => by
  have ih0 := impl_Bits_count.mono_l k
  ·intro y0 y1 y2 y3 y4
   unfold impl_Bits_count.l0
   repeat' first
   | (with_reducible exact ih0 _ _ _ _ _)
   | (with_reducible exact LeO.refl _)
   | (with_reducible exact LeO.none _)
   | (with_reducible refine LeO.ite ?_ ?_)
   | (with_reducible refine LeO.bind ?_ (fun _ => ?_))
   | exact ih0 _ _ _ _ _
   | exact LeO.none _
   | refine LeO.ite ?_ ?_
   | refine LeO.bind ?_ (fun _ => ?_)
theorem impl_Bits_count.mono : ∀ a0 a1 a2 a3 k, LeO (impl_Bits_count.f k a0 a1 a2 a3) (impl_Bits_count.f (k + 1) a0 a1 a2 a3) := by
 intro a0 a1 a2 a3 k
 have ih0 := impl_Bits_count.mono_l k
 unfold impl_Bits_count.f
 repeat' first
   | (with_reducible exact ih0 _ _ _ _ _)
   | (with_reducible exact LeO.refl _)
   | (with_reducible exact LeO.none _)
   | (with_reducible refine LeO.ite ?_ ?_)
   | (with_reducible refine LeO.bind ?_ (fun _ => ?_))
   | exact ih0 _ _ _ _ _
   | exact LeO.none _
   | refine LeO.ite ?_ ?_
   | refine LeO.bind ?_ (fun _ => ?_)
set_option maxHeartbeats 8000000 in
set_option maxRecDepth 100000 in
theorem impl_Bits_count.calls (k : Nat) (g0 : Nat) (ex0 : List Value) (ty0 : TypeId) (a0_0 : Int) (A0_1 : Option Addr) (c0_1 : Nat) (l0_1 : List Int) (a1 : Int) (a2 : Int) (r : Int) (w : World) (hb0 : w.heap[g0]? = some (.cells ⟨.int .i64 a0_0 :: .slice A0_1 l0_1.length c0_1 :: ex0⟩ ty0 (0, 0))) (hr0_1 : Kd.C (Kd.int .i64) w A0_1 l0_1.length l0_1) (hc0_1 : l0_1.length ≤ c0_1) (h : impl_Bits_count.f k a0_0 l0_1 a1 a2 = some r) :
  Calls Try.prog 104 #[.pointer (some ⟨g0, 0, none⟩), .int .i64 a1, .int .i64 a2] w fun e w' => e = .returned (.int .i64 r) ∧ Below w.heap.size w w' := by
 have HR0_1 := am_ hr0_1
 have HC0_1 := am_ hc0_1
 clear hr0_1 hc0_1
 have BK0 := am_ hb0
 clear hb0
 have HB := am_ (Below.refl w.heap.size w)
 have H : (impl_Bits_count.l0 k a2 0 a1 a0_0 l0_1) = some r := h
 clear h
 have H' := am_ H
 clear H
 go_enter Try.func104, Try.ntmps104
 go_wp2
 go_loopg [7, 8] k (fun kq v7 v8 w' => ∃ (x7_1 : Int) (x8_1 : Int) (x1000_1 : Int), v7 = .int .i64 x7_1 ∧ v8 = .int .i64 x8_1 ∧ Aside0 (impl_Bits_count.l0 kq a2 x7_1 x8_1 x1000_1 l0_1 = some r) ∧ Aside0 (kq ≤ k) ∧ Aside0 (w'.heap[g0]? = some (.cells ⟨.int .i64 x1000_1 :: (.slice A0_1 l0_1.length c0_1) :: ex0⟩ ty0 (0, 0))) ∧ Aside0 (Below w.heap.size w w'))
 case atStart => exact ⟨(0), (a1), (a0_0), sr_, sr_, H', ⟨Nat.le_refl _⟩, ⟨lb_ BK0⟩, ⟨lw_ HB⟩⟩
 case round =>
  clear H'
  try clear c1
  try clear p2
  obtain ⟨x7_1, x8_1, x1000_1, rfl, rfl, HA, HK1, BK0, HB⟩ := hrel
  cases gk with
  | zero => exact absurd HA.out (by simp [impl_Bits_count.l0])
  | succ k1 =>
   have H := HA.out
   clear HA
   simp only [impl_Bits_count.l0] at H
   by_cases c4 : x8_1 < a2
   ·rw [if_pos c4] at H
    have c4b0 : decide (x8_1 < a2) = true := decide_eq_true c4
    clear c4
    replace H := Option.bind_eq_some_iff.mp H
    obtain ⟨t221, A50, H⟩ := H
    replace H : (if t221 = true then (impl_Bits_count.l0 k1 a2 (wrap64 (x7_1 + 1)) (wrap64 (x8_1 + 1)) x1000_1 l0_1) else (impl_Bits_count.l0 k1 a2 x7_1 (wrap64 (x8_1 + 1)) x1000_1 l0_1)) = some r := H
    have A5 := am_ A50
    clear A50
    by_cases c6 : t221 = true
    ·subst c6
     have H1 : (impl_Bits_count.l0 k1 a2 (wrap64 (x7_1 + 1)) (wrap64 (x8_1 + 1)) x1000_1 l0_1) = some r := by rw [if_pos rfl] at H; exact H
     clear H
     have H := H1
     clear H1
     have H' := am_ H
     clear H
     go_wp2_with (first | ((with_reducible refine gate_callee (f := 82) rfl ?_); refine goesL_ (some 17) rfl rfl Try.func82 (by kernel_rfl) rfl #[.pointer (some ⟨g0, 0, none⟩), .int .i64 x8_1] rfl lm_ ?_; (with_reducible refine (impl_Bits_at.calls g0 ex0 ty0 x1000_1 A0_1 c0_1 l0_1 x8_1 true _ ?side1 ?side2 ?side3 A5.out).mono ?_); (case side1 => exact lb_ BK0); (case side2 => exact lc_ (Kd.C_below HR0_1.out HB.out)); (case side3 => exact HC0_1.out); rintro e w7 ⟨rfl, hb⟩; refine ⟨_, rfl, ?_⟩; replace BK0 := am_ (blk_below (g := g0) (lb_ BK0) hb); replace HB := am_ (below_step (lw_ HB) hb); (try clear hb); (try clear hb2); (try clear hk); (try clear hi)))
     go_roundg k1
     case measure => have := HK1.out; omega
     case rel => exact ⟨(wrap64 (x7_1 + 1)), (wrap64 (x8_1 + 1)), (x1000_1), sr_, sr_, H', ⟨by have := HK1.out; omega⟩, ⟨lb_ BK0⟩, ⟨lw_ HB⟩⟩
    ·replace c6 := Bool.eq_false_iff.mpr c6
     subst c6
     have H1 : (impl_Bits_count.l0 k1 a2 x7_1 (wrap64 (x8_1 + 1)) x1000_1 l0_1) = some r := by rw [if_neg (show ¬ (false = true) by decide)] at H; exact H
     clear H
     have H := H1
     clear H1
     have H' := am_ H
     clear H
     go_wp2_with (first | ((with_reducible refine gate_callee (f := 82) rfl ?_); refine goesL_ (some 17) rfl rfl Try.func82 (by kernel_rfl) rfl #[.pointer (some ⟨g0, 0, none⟩), .int .i64 x8_1] rfl lm_ ?_; (with_reducible refine (impl_Bits_at.calls g0 ex0 ty0 x1000_1 A0_1 c0_1 l0_1 x8_1 false _ ?side1 ?side2 ?side3 A5.out).mono ?_); (case side1 => exact lb_ BK0); (case side2 => exact lc_ (Kd.C_below HR0_1.out HB.out)); (case side3 => exact HC0_1.out); rintro e w8 ⟨rfl, hb⟩; refine ⟨_, rfl, ?_⟩; replace BK0 := am_ (blk_below (g := g0) (lb_ BK0) hb); replace HB := am_ (below_step (lw_ HB) hb); (try clear hb); (try clear hb2); (try clear hk); (try clear hi)))
     go_roundg k1
     case measure => have := HK1.out; omega
     case rel => exact ⟨(x7_1), (wrap64 (x8_1 + 1)), (x1000_1), sr_, sr_, H', ⟨by have := HK1.out; omega⟩, ⟨lb_ BK0⟩, ⟨lw_ HB⟩⟩
   ·rw [if_neg c4] at H
    have c4b0 : decide (x8_1 < a2) = false := decide_eq_false c4
    clear c4
    obtain rfl := Option.some.inj H
    go_wp2
    go_ret
    exact ⟨er_, lw_ HB⟩

/-! ### impl_ranked: function 96 -/
def impl_ranked.l0 : Nat → Int → Int → Int → Int → Int → List Int → Int → List Int → List Int → List Int → Option (Int × List Int × List Int × List Int)
 | 0, _, _, _, _, _, _, _, _, _, _ => none
 | k + 1, x4, x5, x6, x7, x223000, x223001, x229000, x229001, x229002, x229003 => if x6 < x223000 then (if (Int.tmod x6 64) = 0 then (if x229002.length < 17592186044416 then (if x229003.length < 17592186044416 then ((impl_Bits_count.f k x223000 x223001 x6 (mn (wrap64 (x6 + 16)) x223000)).bind fun t235 => (impl_ranked.l0 k (wrap64 (x4 + t235)) x4 (wrap64 (x6 + 16)) (wrap64 (x7 + 1)) x223000 x223001 x229000 x229001 (x229002 ++ [x4]) (x229003 ++ [0]))) else (none)) else (none)) else (if x229003.length < 17592186044416 then ((impl_Bits_count.f k x223000 x223001 x6 (mn (wrap64 (x6 + 16)) x223000)).bind fun t239 => (impl_ranked.l0 k (wrap64 (x4 + t239)) x5 (wrap64 (x6 + 16)) (wrap64 (x7 + 1)) x223000 x223001 x229000 x229001 x229002 (x229003 ++ [wrap64 (x4 - x5)]))) else (none))) else (some (x229000, x229001, x229002, x229003))
def impl_ranked.f (k : Nat) (a0_0 : Int) (l0_1 : List Int) : Option (Int × List Int × List Int × List Int) := (impl_cloneBits.f a0_0 l0_1).bind fun bt224 => (impl_ranked.l0 k 0 0 0 0 a0_0 l0_1 bt224.1 bt224.2 ([] : List Int) ([] : List Int))
theorem impl_ranked.mono_l : ∀ k, (∀ y0 y1 y2 y3 y4 y5 y6 y7 y8 y9, LeO (impl_ranked.l0 k y0 y1 y2 y3 y4 y5 y6 y7 y8 y9) (impl_ranked.l0 (k + 1) y0 y1 y2 y3 y4 y5 y6 y7 y8 y9))
 | 0 => fun _ _ _ _ _ _ _ _ _ _ r h => by simp [impl_ranked.l0] at h
 | k + 1 => by
  have ih0 := impl_ranked.mono_l k
  ·intro y0 y1 y2 y3 y4 y5 y6 y7 y8 y9
   unfold impl_ranked.l0
   repeat' first
   | (with_reducible exact ih0 _ _ _ _ _ _ _ _ _ _)
   | (with_reducible exact impl_Bits_count.mono _ _ _ _ _)
   | (with_reducible exact LeO.refl _)
   | (with_reducible exact LeO.none _)
   | (with_reducible refine LeO.ite ?_ ?_)
   | (with_reducible refine LeO.bind ?_ (fun _ => ?_))
   | exact ih0 _ _ _ _ _ _ _ _ _ _
   | exact impl_Bits_count.mono _ _ _ _ _
   | exact LeO.none _
   | refine LeO.ite ?_ ?_
   | refine LeO.bind ?_ (fun _ => ?_)
theorem impl_ranked.mono : ∀ a0 a1 k, LeO (impl_ranked.f k a0 a1) (impl_ranked.f (k + 1) a0 a1) := by
 intro a0 a1 k
 have ih0 := impl_ranked.mono_l k
 unfold impl_ranked.f
 repeat' first
   | (with_reducible exact ih0 _ _ _ _ _ _ _ _ _ _)
   | (with_reducible exact impl_Bits_count.mono _ _ _ _ _)
   | (with_reducible exact LeO.refl _)
   | (with_reducible exact LeO.none _)
   | (with_reducible refine LeO.ite ?_ ?_)
   | (with_reducible refine LeO.bind ?_ (fun _ => ?_))
   | exact ih0 _ _ _ _ _ _ _ _ _ _
   | exact impl_Bits_count.mono _ _ _ _ _
   | exact LeO.none _
   | refine LeO.ite ?_ ?_
   | refine LeO.bind ?_ (fun _ => ?_)
set_option maxHeartbeats 8000000 in
set_option maxRecDepth 100000 in
theorem impl_ranked.calls (k : Nat) (a0_0 : Int) (A0_1 : Option Addr) (c0_1 : Nat) (l0_1 : List Int) (r1 : Int) (r2 : List Int) (r3 : List Int) (r4 : List Int) (w : World) (hr0_1 : Kd.C (Kd.int .i64) w A0_1 l0_1.length l0_1) (hc0_1 : l0_1.length ≤ c0_1) (h : impl_ranked.f k a0_0 l0_1 = some (r1, r2, r3, r4)) :
  Calls Try.prog 96 #[.agg #[.int .i64 a0_0, .slice A0_1 l0_1.length c0_1]] w fun e w' => ∃ v1_ v2_ v3_ : Value, e = .returned (.agg #[.int .i64 r1, v1_, v2_, v3_]) ∧ Kd.R (Kd.int .i64) 3 w' w.heap.size (fun k_ => nb_ k_ v2_ ∧ nb_ k_ v3_) v1_ r2 ∧ Kd.R (Kd.int .i64) 3 w' w.heap.size (fun k_ => nb_ k_ v1_ ∧ nb_ k_ v3_) v2_ r3 ∧ Kd.R (Kd.int .i64) 3 w' w.heap.size (fun k_ => nb_ k_ v1_ ∧ nb_ k_ v2_) v3_ r4 ∧ Below w.heap.size w w' := by
 have hu26 := Try.underlying26
 have hu48 := Try.underlying48
 have HR0_1 := am_ hr0_1
 have HC0_1 := am_ hc0_1
 clear hr0_1 hc0_1
 have HB := am_ (Below.refl w.heap.size w)
 have H : ((impl_cloneBits.f a0_0 l0_1).bind fun bt224 => (impl_ranked.l0 k 0 0 0 0 a0_0 l0_1 bt224.1 bt224.2 ([] : List Int) ([] : List Int))) = some (r1, r2, r3, r4) := h
 clear h
 replace H := Option.bind_eq_some_iff.mp H
 obtain ⟨⟨t224, t225⟩, A20, H⟩ := H
 replace H : (impl_ranked.l0 k 0 0 0 0 a0_0 l0_1 t224 t225 ([] : List Int) ([] : List Int)) = some (r1, r2, r3, r4) := H
 have A2 := am_ A20
 clear A20
 have H' := am_ H
 clear H
 go_enter Try.func96, Try.ntmps96
 go_wp2_with (first | ((with_reducible refine gate_dst (N := 1) rfl ?_); refine bev_ 1 #[.int .i64 a0_0, .slice A0_1 l0_1.length c0_1] 26 rfl rfl ?_; intro gb222 hg w3 hbox hb; have BK222 := am_ (hbox); have GW222 := am_ ((by rw [hg]; exact (below_size (lw_ HB)) : w.heap.size ≤ gb222)); have GE222 := am_ ((by rw [hg]; exact (below_size (lw_ HB)) : w.heap.size ≤ gb222)); replace HB := am_ (below_step (lw_ HB) hb); clear hb hbox hg) | ((with_reducible refine gate_dst (N := 2) rfl ?_); refine bev_ 2 #[.int .i64 0, .slice none 0 0, .slice none 0 0, .slice none 0 0] 48 rfl rfl ?_; intro gb223 hg w4 hbox hb; have BK223 := am_ (hbox); have GW223 := am_ ((by rw [hg]; exact (below_size (lw_ HB)) : w.heap.size ≤ gb223)); have GE223 := am_ ((by rw [hg]; exact (below_size (lw_ HB)) : w.heap.size ≤ gb223)); have NB222_223 := am_ ((by rw [hg]; exact Nat.ne_of_lt (blk_lt (g := gb222) (lb_ BK222)) : gb222 ≠ gb223)); have NB223_222 := am_ ((by rw [hg]; exact Nat.ne_of_gt (blk_lt (g := gb222) (lb_ BK222)) : gb223 ≠ gb222)); replace BK222 := am_ (blk_below (g := gb222) (lb_ BK222) hb); replace HB := am_ (below_step (lw_ HB) hb); clear hb hbox hg; have hnb5 := NB222_223.out; have hnc5 := NB223_222.out; obtain ⟨hcz6_0, hcz6_1, hfz6_0, hfz6_1⟩ := bx2_ BK222.out) | ((with_reducible refine gate_callee (f := 75) rfl ?_); refine goesL_ (some 9) rfl rfl Try.func75 (by kernel_rfl) rfl #[.agg #[.int .i64 a0_0, .slice A0_1 l0_1.length c0_1]] rfl lm_ ?_; (with_reducible refine (impl_cloneBits.calls a0_0 _ _ l0_1 t224 t225 _ ?side1 ?side2 A2.out).mono ?_); (case side1 => exact lc_ (Kd.C_below HR0_1.out HB.out)); (case side2 => exact HC0_1.out); rintro e w7 ⟨v226, rfl, ho0, hb⟩; refine ⟨_, rfl, ?_⟩; have HO227 := am_ (Kd.R_lower ho0 (below_size (lw_ HB))); replace BK222 := am_ (blk_below (g := gb222) (lb_ BK222) hb); replace BK223 := am_ (blk_below (g := gb223) (lb_ BK223) hb); replace HB := am_ (below_step (lw_ HB) hb); (try clear hb); (try clear hb2); (try clear hk); (try clear hi); (try clear ho0); obtain ⟨Ao8, co8, eo8⟩ := Kd.R_slice HO227.out; subst eo8) | ((with_reducible refine gate_dst (N := 3) rfl ?_); refine bev_ 3 #[.int .i64 0, .slice none 0 0, .slice none 0 0, .slice none 0 0] 48 rfl rfl ?_; intro gb228 hg w9 hbox hb; have BK228 := am_ (hbox); have GW228 := am_ ((by rw [hg]; exact (below_size (lw_ HB)) : w.heap.size ≤ gb228)); have GE228 := am_ ((by rw [hg]; exact (below_size (lw_ HB)) : w.heap.size ≤ gb228)); have NB222_228 := am_ ((by rw [hg]; exact Nat.ne_of_lt (blk_lt (g := gb222) (lb_ BK222)) : gb222 ≠ gb228)); have NB228_222 := am_ ((by rw [hg]; exact Nat.ne_of_gt (blk_lt (g := gb222) (lb_ BK222)) : gb228 ≠ gb222)); have NB223_228 := am_ ((by rw [hg]; exact Nat.ne_of_lt (blk_lt (g := gb223) (lb_ BK223)) : gb223 ≠ gb228)); have NB228_223 := am_ ((by rw [hg]; exact Nat.ne_of_gt (blk_lt (g := gb223) (lb_ BK223)) : gb228 ≠ gb223)); replace HO227 := am_ (Kd.R_below (lf_ HO227) hb); replace BK222 := am_ (blk_below (g := gb222) (lb_ BK222) hb); replace BK223 := am_ (blk_below (g := gb223) (lb_ BK223) hb); replace HB := am_ (below_step (lw_ HB) hb); clear hb hbox hg; have hnb10 := NB228_222.out; have hnc10 := NB222_228.out; have hnb11 := NB228_223.out; have hnc11 := NB223_228.out; obtain ⟨hcz12_0, hcz12_1, hcz12_2, hcz12_3, hfz12_0, hfz12_1, hfz12_2, hfz12_3⟩ := bx4_ BK228.out))
 go_loopg [4, 5, 6, 7] k (fun kq v4 v5 v6 v7 w' => ∃ (x4_1 : Int) (x5_1 : Int) (x6_1 : Int) (x7_1 : Int) (x229002_1 : List Int) (x229003_1 : List Int) (u229002 : Value) (u229003 : Value), v4 = .int .i64 x4_1 ∧ v5 = .int .i64 x5_1 ∧ v6 = .int .i64 x6_1 ∧ v7 = .int .i64 x7_1 ∧ Aside0 (impl_ranked.l0 kq x4_1 x5_1 x6_1 x7_1 a0_0 l0_1 t224 t225 x229002_1 x229003_1 = some (r1, r2, r3, r4)) ∧ Aside0 (kq ≤ k) ∧ Aside0 (Kd.R (Kd.int .i64) 3 w' w.heap.size (fun k_ => nb_ k_ u229002 ∧ nb_ k_ u229003) (.slice Ao8 t225.length co8) t225) ∧ Aside0 (Kd.R (Kd.int .i64) 3 w' w.heap.size (fun k_ => ns_ k_ Ao8 t225 co8 ∧ nb_ k_ u229003) u229002 x229002_1) ∧ Aside0 (Kd.R (Kd.int .i64) 3 w' w.heap.size (fun k_ => ns_ k_ Ao8 t225 co8 ∧ nb_ k_ u229002) u229003 x229003_1) ∧ Aside0 (w'.heap[gb222]? = some (.cells #[.int .i64 a0_0, (.slice A0_1 l0_1.length c0_1)] 26 (0, 0))) ∧ Aside0 (w'.heap[gb223]? = some (.cells #[.int .i64 0, (.slice none 0 0), (.slice none 0 0), (.slice none 0 0)] 48 (0, 0))) ∧ Aside0 (w'.heap[gb228]? = some (.cells #[.int .i64 t224, (.slice Ao8 t225.length co8), u229002, u229003] 48 (0, 0))) ∧ Aside0 (Below w.heap.size w w'))
 case atStart => exact ⟨(0), (0), (0), (0), (([] : List Int)), (([] : List Int)), (.slice none 0 0), (.slice none 0 0), sr_, sr_, sr_, sr_, H', ⟨Nat.le_refl _⟩, ⟨lt_ (Kd.R_mono (fr4_ HO227.out BK228.out (.int .i64 t224) (.slice Ao8 t225.length co8) (.slice none 0 0) (.slice none 0 0)) (fun _ hk => ⟨(by simp [Value.ownBlock]), (by simp [Value.ownBlock])⟩))⟩, ⟨by first | exact Kd.R_nil _ _ _ _ _ | exact Kd.N_nil _ _ _ _ _ | exact Kd.V_nil _ _ _ _ _ | exact Kd.Q_nil _ _ _ _ _ | exact Kd.S_nil _ _ _ _ _⟩, ⟨by first | exact Kd.R_nil _ _ _ _ _ | exact Kd.N_nil _ _ _ _ _ | exact Kd.V_nil _ _ _ _ _ | exact Kd.Q_nil _ _ _ _ _ | exact Kd.S_nil _ _ _ _ _⟩, ⟨lg_ BK222⟩, ⟨lg_ BK223⟩, ⟨lq_ BK228⟩, ⟨lw_ HB⟩⟩
 case round =>
  clear H'
  try clear c1
  try clear p2
  try clear c5
  try clear c7
  try clear c9
  try clear c10
  try clear c11
  try clear hcz12_0
  try clear hcz12_1
  try clear hcz12_2
  try clear hcz12_3
  try clear hcz6_0
  try clear hcz6_1
  try clear hfz12_0
  try clear hfz12_1
  try clear hfz12_2
  try clear hfz12_3
  try clear hfz6_0
  try clear hfz6_1
  obtain ⟨x4_1, x5_1, x6_1, x7_1, x229002_1, x229003_1, u229002, u229003, rfl, rfl, rfl, rfl, HA, HK1, HO_229001, HO_229002, HO_229003, BK222, BK223, BK228, HB⟩ := hrel
  cases gk with
  | zero => exact absurd HA.out (by simp [impl_ranked.l0])
  | succ k1 =>
   have H := HA.out
   clear HA
   simp only [impl_ranked.l0] at H
   by_cases c13 : x6_1 < a0_0
   ·rw [if_pos c13] at H
    have c13b0 : decide (x6_1 < a0_0) = true := decide_eq_true c13
    clear c13
    by_cases c14 : (Int.tmod x6_1 64) = 0
    ·rw [if_pos c14] at H
     have c14b0 : ((Int.tmod x6_1 64) == 0) = true := beq_iff_eq.mpr c14
     have c14b1 : ((Int.tmod x6_1 64) != 0) = false := bne_eq_false_iff_eq.mpr c14
     clear c14
     by_cases c15 : x229002_1.length < 17592186044416
     ·rw [if_pos c15] at H
      have LMc15 := am_ c15
      clear c15
      obtain ⟨y229, hy229⟩ : ∃ y_ : List Int, y_ = (x229002_1 ++ [x4_1]) := ⟨_, rfl⟩
      replace H : (if x229003_1.length < 17592186044416 then ((impl_Bits_count.f k1 a0_0 l0_1 x6_1 (mn (wrap64 (x6_1 + 16)) a0_0)).bind fun t235 => (impl_ranked.l0 k1 (wrap64 (x4_1 + t235)) x4_1 (wrap64 (x6_1 + 16)) (wrap64 (x7_1 + 1)) a0_0 l0_1 t224 t225 y229 (x229003_1 ++ [0]))) else (none)) = some (r1, r2, r3, r4) := by first | (rw [hy229]; with_reducible exact H) | (have H2_ := (Option.bind_some _ _).symm.trans H; rw [hy229]; with_reducible exact H2_) | (have H2_ := (Option.bind_some _ _).symm.trans H; with_reducible exact H2_) | with_reducible exact H | (rw [hy229]; exact H) | exact H
      have Ny229 := am_ hy229
      clear hy229
      by_cases c16 : x229003_1.length < 17592186044416
      ·rw [if_pos c16] at H
       have LMc16 := am_ c16
       clear c16
       obtain ⟨y232, hy232⟩ : ∃ y_ : List Int, y_ = (x229003_1 ++ [0]) := ⟨_, rfl⟩
       replace H : ((impl_Bits_count.f k1 a0_0 l0_1 x6_1 (mn (wrap64 (x6_1 + 16)) a0_0)).bind fun t235 => (impl_ranked.l0 k1 (wrap64 (x4_1 + t235)) x4_1 (wrap64 (x6_1 + 16)) (wrap64 (x7_1 + 1)) a0_0 l0_1 t224 t225 y229 y232)) = some (r1, r2, r3, r4) := by first | (rw [hy232]; with_reducible exact H) | (have H2_ := (Option.bind_some _ _).symm.trans H; rw [hy232]; with_reducible exact H2_) | (have H2_ := (Option.bind_some _ _).symm.trans H; with_reducible exact H2_) | with_reducible exact H | (rw [hy232]; exact H) | exact H
       have Ny232 := am_ hy232
       clear hy232
       obtain ⟨ji17, hji17⟩ : ∃ j_ : Int, (mn (wrap64 (x6_1 + 16)) a0_0) = j_ := ⟨_, rfl⟩
       replace H : ((impl_Bits_count.f k1 a0_0 l0_1 x6_1 (ji17)).bind fun t235 => (impl_ranked.l0 k1 (wrap64 (x4_1 + t235)) x4_1 (wrap64 (x6_1 + 16)) (wrap64 (x7_1 + 1)) a0_0 l0_1 t224 t225 y229 y232)) = some (r1, r2, r3, r4) := by first | (rw [hji17] at H; exact H) | (simp only [hji17] at H ⊢; exact H)
       have hji17_ : (if a0_0 < (wrap64 (x6_1 + 16)) then a0_0 else (wrap64 (x6_1 + 16))) = ji17 := hji17
       replace H := Option.bind_eq_some_iff.mp H
       obtain ⟨t235, A180, H⟩ := H
       replace H : (impl_ranked.l0 k1 (wrap64 (x4_1 + t235)) x4_1 (wrap64 (x6_1 + 16)) (wrap64 (x7_1 + 1)) a0_0 l0_1 t224 t225 y229 y232) = some (r1, r2, r3, r4) := H
       have A18 := am_ A180
       clear A180
       have H' := am_ H
       clear H
       have hnb19 := NB222_223.out
       have hnc19 := NB223_222.out
       have hnb20 := NB222_228.out
       have hnc20 := NB228_222.out
       obtain ⟨hcz21_0, hcz21_1, hfz21_0, hfz21_1⟩ := bx2_ BK222.out
       have hnb22 := NB228_223.out
       have hnc22 := NB223_228.out
       obtain ⟨hcz23_0, hcz23_1, hcz23_2, hcz23_3, hfz23_0, hfz23_1, hfz23_2, hfz23_3⟩ := bx4_ BK228.out
       go_wp2_with (first | ((with_reducible refine gate_builtin (b := .append) (xs := #[.tmp 23, .tmp 25]) rfl ?_); at_builtin; refine Kd.R_append (Kd.int .i64) (w0 := w) w.heap.size rfl (.tmp 23) (.tmp 25) 22 3 (.int .i64 0) 8 rfl Try.underlying22 info3 rfl (by decide) (by omega) u229002 x229002_1 x4_1 [.int .i64 x4_1] (fun k_ => ns_ k_ Ao8 t225 co8 ∧ nb_ k_ u229003) (fun _ => False) rfl rfl ?aP (fun _ hk => hk.elim) ?aF ?aO ?aB ?aS ?aL ?_; (case aP => exact rfl); (case aB => exact (lw_ HB)); (case aF => exact (fun k_ hk => ⟨Kd.fresh' (Kd.R_lt (lf_ HO_229001)) k_ hk, Kd.fresh' (Kd.R_lt (lf_ HO_229003)) k_ hk⟩)); (case aO => exact (lf_ HO_229002)); (case aS => exact (below_size (lw_ HB))); (case aL => have := LMc15.out; omega); intro v230 w24 ho hb hg hat; rw [← Ny229.out] at ho; have HO231 := am_ (ho); replace HO_229001 := am_ (Kd.R_after (ok := (fun k_ => nb_ k_ u229003)) (lo_ HO_229001) hg hat); replace HO_229003 := am_ (Kd.R_after (ok := (fun k_ => ns_ k_ Ao8 t225 co8)) (lf_ HO_229003) hg hat); replace BK222 := am_ (blk_grown (g := gb222) (lb_ BK222) hg (Kd.R_ne HO_229002.out BK222.out (by decide))); replace BK223 := am_ (blk_grown (g := gb223) (lb_ BK223) hg (Kd.R_ne HO_229002.out BK223.out (by decide))); replace BK228 := am_ (blk_grown (g := gb228) (lb_ BK228) hg (Kd.R_ne HO_229002.out BK228.out (by decide))); replace HB := am_ (hb); clear HO_229002; clear ho hb hg hat; obtain ⟨Ao25, co25, eo25⟩ := Kd.R_slice HO231.out; subst eo25; obtain ⟨hcz26_0, hcz26_1, hcz26_2, hcz26_3, hfz26_0, hfz26_1, hfz26_2, hfz26_3⟩ := bx4_ BK228.out) | ((with_reducible refine gate_builtin (b := .append) (xs := #[.tmp 30, .tmp 34]) rfl ?_); at_builtin; refine Kd.R_append (Kd.int .i64) (w0 := w) w.heap.size rfl (.tmp 30) (.tmp 34) 22 3 (.int .i64 0) 8 rfl Try.underlying22 info3 rfl (by decide) (by omega) u229003 x229003_1 0 [.int .i64 0] (fun k_ => ns_ k_ Ao8 t225 co8 ∧ ns_ k_ Ao25 y229 co25) (fun _ => False) rfl (by first | (go_simp; done) | (go_simp; rfl)) ?aP (fun _ hk => hk.elim) ?aF ?aO ?aB ?aS ?aL ?_; (case aP => exact rfl); (case aB => exact (lw_ HB)); (case aF => exact (fun k_ hk => ⟨Kd.fresh' (Kd.R_lt (lt_ ((m1_ (Kd.R_far (p := ⟨gb228, 2, none⟩) (Kd.R_types HO_229001.out BK228.out (by decide)) (fun _ hk => hk.2) (.slice Ao25 y229.length co25)))))) k_ hk, Kd.fresh' (Kd.R_lt (lt_ ((m1_ (Kd.R_far (p := ⟨gb228, 2, none⟩) (Kd.R_types HO231.out BK228.out (by decide)) (fun _ hk => hk.2) (.slice Ao25 y229.length co25)))))) k_ hk⟩)); (case aO => exact (lo2_ (Kd.R_far (p := ⟨gb228, 2, none⟩) (Kd.R_types HO_229003.out BK228.out (by decide)) (fun _ hk => hk.2) (.slice Ao25 y229.length co25)))); (case aS => exact (below_size (lw_ HB))); (case aL => have := LMc16.out; omega); intro v233 w27 ho hb hg hat; rw [← Ny232.out] at ho; have HO234 := am_ (ho); replace HO_229001 := am_ (Kd.R_after (ok := (fun k_ => ns_ k_ Ao25 y229 co25)) (lo2_ (Kd.R_far (p := ⟨gb228, 2, none⟩) (Kd.R_types HO_229001.out BK228.out (by decide)) (fun _ hk => hk.2) (.slice Ao25 y229.length co25))) hg hat); replace BK222 := am_ (blk_grown (g := gb222) (lg_ BK222) hg (Kd.R_ne HO_229003.out BK222.out (by decide))); replace BK223 := am_ (blk_grown (g := gb223) (lg_ BK223) hg (Kd.R_ne HO_229003.out BK223.out (by decide))); replace HO231 := am_ (Kd.R_after (ok := (fun k_ => ns_ k_ Ao8 t225 co8)) (lo2_ (Kd.R_far (p := ⟨gb228, 2, none⟩) (Kd.R_types HO231.out BK228.out (by decide)) (fun _ hk => hk.2) (.slice Ao25 y229.length co25))) hg hat); replace BK228 := am_ (blk_grown (g := gb228) (o := .cells #[.int .i64 t224, .slice Ao8 t225.length co8, .slice Ao25 y229.length co25, u229003] 48 (0, 0)) (lq_ BK228) hg (Kd.R_ne HO_229003.out BK228.out (by decide))); replace HB := am_ (hb); clear HO_229003; clear ho hb hg hat; obtain ⟨Ao28, co28, eo28⟩ := Kd.R_slice HO234.out; subst eo28; obtain ⟨hcz29_0, hcz29_1, hcz29_2, hcz29_3, hfz29_0, hfz29_1, hfz29_2, hfz29_3⟩ := bx4_ BK228.out; obtain ⟨hcz30_0, hcz30_1, hfz30_0, hfz30_1⟩ := bx2_ BK222.out) | ((with_reducible refine gate_callee (f := 104) rfl ?_); refine goesL_ (some 44) rfl rfl Try.func104 (by kernel_rfl) rfl #[.pointer (some ⟨gb222, 0, none⟩), .int .i64 x6_1, .int .i64 ji17] rfl (by (try simp only [List.map_toArray, List.map_cons, List.map_nil]); first | done | (simp only [hji17]; rfl) | rfl | (simp only [List.length_drop, List.length_take]; rfl)) ?_; (with_reducible refine (impl_Bits_count.calls k1 gb222 [] 26 a0_0 A0_1 c0_1 l0_1 x6_1 ji17 t235 _ ?side1 ?side2 ?side3 A18.out).mono ?_); (case side1 => exact lg_ BK222); (case side2 => exact Kd.C_below HR0_1.out (lw_ HB)); (case side3 => exact HC0_1.out); rintro e w31 ⟨rfl, hb⟩; refine ⟨_, rfl, ?_⟩; replace HO_229001 := am_ (Kd.R_below (lt_ ((m1_ (Kd.R_far (p := ⟨gb228, 3, none⟩) (Kd.R_types HO_229001.out BK228.out (by decide)) (fun _ hk => hk.2) (.slice Ao28 y232.length co28))))) hb); replace HO231 := am_ (Kd.R_below (lt_ ((m1_ (Kd.R_far (p := ⟨gb228, 3, none⟩) (Kd.R_types HO231.out BK228.out (by decide)) (fun _ hk => hk.2) (.slice Ao28 y232.length co28))))) hb); replace HO234 := am_ (Kd.R_below (lt_ ((m1_ (Kd.R_far (p := ⟨gb228, 3, none⟩) (Kd.R_types HO234.out BK228.out (by decide)) (fun _ hk => hk.2) (.slice Ao28 y232.length co28))))) hb); replace BK222 := am_ (blk_below (g := gb222) (lg_ BK222) hb); replace BK223 := am_ (blk_below (g := gb223) (lg_ BK223) hb); replace BK228 := am_ (blk_below (g := gb228) (o := .cells #[.int .i64 t224, .slice Ao8 t225.length co8, .slice Ao25 y229.length co25, .slice Ao28 y232.length co28] 48 (0, 0)) (lq_ BK228) hb); replace HB := am_ (below_step (lw_ HB) hb); (try clear hb); (try clear hb2); (try clear hk); (try clear hi)))
       go_roundg k1
       case measure => have := HK1.out; omega
       case rel => exact ⟨(wrap64 (x4_1 + t235)), (x4_1), (wrap64 (x6_1 + 16)), (wrap64 (x7_1 + 1)), (y229), (y232), (.slice Ao25 y229.length co25), (.slice Ao28 y232.length co28), sr_, sr_, sr_, sr_, H', ⟨by have := HK1.out; omega⟩, ⟨lf_ HO_229001⟩, ⟨lf_ HO231⟩, ⟨lf_ HO234⟩, ⟨lb_ BK222⟩, ⟨lb_ BK223⟩, ⟨lb_ BK228⟩, ⟨lw_ HB⟩⟩
      ·rw [if_neg c16] at H
       exact absurd H (by simp)
     ·rw [if_neg c15] at H
      exact absurd H (by simp)
    ·rw [if_neg c14] at H
     have c14b0 : ((Int.tmod x6_1 64) == 0) = false := beq_eq_false_iff_ne.mpr c14
     have c14b1 : ((Int.tmod x6_1 64) != 0) = true := bne_iff_ne.mpr c14
     by_cases c32 : x229003_1.length < 17592186044416
     ·rw [if_pos c32] at H
      have LMc32 := am_ c32
      clear c32
      obtain ⟨y236, hy236⟩ : ∃ y_ : List Int, y_ = (x229003_1 ++ [wrap64 (x4_1 - x5_1)]) := ⟨_, rfl⟩
      replace H : ((impl_Bits_count.f k1 a0_0 l0_1 x6_1 (mn (wrap64 (x6_1 + 16)) a0_0)).bind fun t239 => (impl_ranked.l0 k1 (wrap64 (x4_1 + t239)) x5_1 (wrap64 (x6_1 + 16)) (wrap64 (x7_1 + 1)) a0_0 l0_1 t224 t225 x229002_1 y236)) = some (r1, r2, r3, r4) := by first | (rw [hy236]; with_reducible exact H) | (have H2_ := (Option.bind_some _ _).symm.trans H; rw [hy236]; with_reducible exact H2_) | (have H2_ := (Option.bind_some _ _).symm.trans H; with_reducible exact H2_) | with_reducible exact H | (rw [hy236]; exact H) | exact H
      have Ny236 := am_ hy236
      clear hy236
      obtain ⟨ji33, hji33⟩ : ∃ j_ : Int, (mn (wrap64 (x6_1 + 16)) a0_0) = j_ := ⟨_, rfl⟩
      replace H : ((impl_Bits_count.f k1 a0_0 l0_1 x6_1 (ji33)).bind fun t239 => (impl_ranked.l0 k1 (wrap64 (x4_1 + t239)) x5_1 (wrap64 (x6_1 + 16)) (wrap64 (x7_1 + 1)) a0_0 l0_1 t224 t225 x229002_1 y236)) = some (r1, r2, r3, r4) := by first | (rw [hji33] at H; exact H) | (simp only [hji33] at H ⊢; exact H)
      have hji33_ : (if a0_0 < (wrap64 (x6_1 + 16)) then a0_0 else (wrap64 (x6_1 + 16))) = ji33 := hji33
      replace H := Option.bind_eq_some_iff.mp H
      obtain ⟨t239, A340, H⟩ := H
      replace H : (impl_ranked.l0 k1 (wrap64 (x4_1 + t239)) x5_1 (wrap64 (x6_1 + 16)) (wrap64 (x7_1 + 1)) a0_0 l0_1 t224 t225 x229002_1 y236) = some (r1, r2, r3, r4) := H
      have A34 := am_ A340
      clear A340
      have H' := am_ H
      clear H
      have hnb35 := NB222_223.out
      have hnc35 := NB223_222.out
      have hnb36 := NB222_228.out
      have hnc36 := NB228_222.out
      obtain ⟨hcz37_0, hcz37_1, hfz37_0, hfz37_1⟩ := bx2_ BK222.out
      have hnb38 := NB228_223.out
      have hnc38 := NB223_228.out
      obtain ⟨hcz39_0, hcz39_1, hcz39_2, hcz39_3, hfz39_0, hfz39_1, hfz39_2, hfz39_3⟩ := bx4_ BK228.out
      go_wp2_with (first | ((with_reducible refine gate_builtin (b := .append) (xs := #[.tmp 30, .tmp 34]) rfl ?_); at_builtin; refine Kd.R_append (Kd.int .i64) (w0 := w) w.heap.size rfl (.tmp 30) (.tmp 34) 22 3 (.int .i64 0) 8 rfl Try.underlying22 info3 rfl (by decide) (by omega) u229003 x229003_1 (wrap64 (x4_1 - x5_1)) [.int .i64 (wrap64 (x4_1 - x5_1))] (fun k_ => ns_ k_ Ao8 t225 co8 ∧ nb_ k_ u229002) (fun _ => False) rfl rfl ?aP (fun _ hk => hk.elim) ?aF ?aO ?aB ?aS ?aL ?_; (case aP => exact rfl); (case aB => exact (lw_ HB)); (case aF => exact (fun k_ hk => ⟨Kd.fresh' (Kd.R_lt (lf_ HO_229001)) k_ hk, Kd.fresh' (Kd.R_lt (lf_ HO_229002)) k_ hk⟩)); (case aO => exact (lf_ HO_229003)); (case aS => exact (below_size (lw_ HB))); (case aL => have := LMc32.out; omega); intro v237 w40 ho hb hg hat; rw [← Ny236.out] at ho; have HO238 := am_ (ho); replace HO_229001 := am_ (Kd.R_after (ok := (fun k_ => nb_ k_ u229002)) (lf_ HO_229001) hg hat); replace HO_229002 := am_ (Kd.R_after (ok := (fun k_ => ns_ k_ Ao8 t225 co8)) (lf_ HO_229002) hg hat); replace BK222 := am_ (blk_grown (g := gb222) (lb_ BK222) hg (Kd.R_ne HO_229003.out BK222.out (by decide))); replace BK223 := am_ (blk_grown (g := gb223) (lb_ BK223) hg (Kd.R_ne HO_229003.out BK223.out (by decide))); replace BK228 := am_ (blk_grown (g := gb228) (lb_ BK228) hg (Kd.R_ne HO_229003.out BK228.out (by decide))); replace HB := am_ (hb); clear HO_229003; clear ho hb hg hat; obtain ⟨Ao41, co41, eo41⟩ := Kd.R_slice HO238.out; subst eo41; obtain ⟨hcz42_0, hcz42_1, hcz42_2, hcz42_3, hfz42_0, hfz42_1, hfz42_2, hfz42_3⟩ := bx4_ BK228.out; obtain ⟨hcz43_0, hcz43_1, hfz43_0, hfz43_1⟩ := bx2_ BK222.out) | ((with_reducible refine gate_callee (f := 104) rfl ?_); refine goesL_ (some 44) rfl rfl Try.func104 (by kernel_rfl) rfl #[.pointer (some ⟨gb222, 0, none⟩), .int .i64 x6_1, .int .i64 ji33] rfl (by (try simp only [List.map_toArray, List.map_cons, List.map_nil]); first | done | (simp only [hji33]; rfl) | rfl | (simp only [List.length_drop, List.length_take]; rfl)) ?_; (with_reducible refine (impl_Bits_count.calls k1 gb222 [] 26 a0_0 A0_1 c0_1 l0_1 x6_1 ji33 t239 _ ?side1 ?side2 ?side3 A34.out).mono ?_); (case side1 => exact lg_ BK222); (case side2 => exact Kd.C_below HR0_1.out (lw_ HB)); (case side3 => exact HC0_1.out); rintro e w44 ⟨rfl, hb⟩; refine ⟨_, rfl, ?_⟩; replace HO_229001 := am_ (Kd.R_below (lt_ ((m1_ (Kd.R_far (p := ⟨gb228, 3, none⟩) (Kd.R_types HO_229001.out BK228.out (by decide)) (fun _ hk => hk.2) (.slice Ao41 y236.length co41))))) hb); replace HO_229002 := am_ (Kd.R_below (lt_ ((m1_ (Kd.R_far (p := ⟨gb228, 3, none⟩) (Kd.R_types HO_229002.out BK228.out (by decide)) (fun _ hk => hk.2) (.slice Ao41 y236.length co41))))) hb); replace HO238 := am_ (Kd.R_below (lt_ ((m1_ (Kd.R_far (p := ⟨gb228, 3, none⟩) (Kd.R_types HO238.out BK228.out (by decide)) (fun _ hk => hk.2) (.slice Ao41 y236.length co41))))) hb); replace BK222 := am_ (blk_below (g := gb222) (lg_ BK222) hb); replace BK223 := am_ (blk_below (g := gb223) (lg_ BK223) hb); replace BK228 := am_ (blk_below (g := gb228) (o := .cells #[.int .i64 t224, .slice Ao8 t225.length co8, u229002, .slice Ao41 y236.length co41] 48 (0, 0)) (lq_ BK228) hb); replace HB := am_ (below_step (lw_ HB) hb); (try clear hb); (try clear hb2); (try clear hk); (try clear hi)))
      go_roundg k1
      case measure => have := HK1.out; omega
      case rel => exact ⟨(wrap64 (x4_1 + t239)), (x5_1), (wrap64 (x6_1 + 16)), (wrap64 (x7_1 + 1)), (x229002_1), (y236), (u229002), (.slice Ao41 y236.length co41), sr_, sr_, sr_, sr_, H', ⟨by have := HK1.out; omega⟩, ⟨lf_ HO_229001⟩, ⟨lf_ HO_229002⟩, ⟨lf_ HO238⟩, ⟨lb_ BK222⟩, ⟨lb_ BK223⟩, ⟨lb_ BK228⟩, ⟨lw_ HB⟩⟩
     ·rw [if_neg c32] at H
      exact absurd H (by simp)
   ·rw [if_neg c13] at H
    have c13b0 : decide (x6_1 < a0_0) = false := decide_eq_false c13
    clear c13
    simp only [Option.some.injEq, Prod.mk.injEq] at H
    obtain ⟨rfl, rfl, rfl, rfl⟩ := H
    have hnb45 := NB222_223.out
    have hnc45 := NB223_222.out
    have hnb46 := NB222_228.out
    have hnc46 := NB228_222.out
    obtain ⟨hcz47_0, hcz47_1, hfz47_0, hfz47_1⟩ := bx2_ BK222.out
    have hnb48 := NB228_223.out
    have hnc48 := NB223_228.out
    obtain ⟨hcz49_0, hcz49_1, hcz49_2, hcz49_3, hfz49_0, hfz49_1, hfz49_2, hfz49_3⟩ := bx4_ BK228.out
    obtain ⟨hcz50_0, hcz50_1, hcz50_2, hcz50_3, hfz50_0, hfz50_1, hfz50_2, hfz50_3⟩ := bx4_ BK223.out
    obtain ⟨Ao51, co51, eo51⟩ := Kd.R_slice HO_229002.out
    subst eo51
    obtain ⟨Ao52, co52, eo52⟩ := Kd.R_slice HO_229003.out
    subst eo52
    go_wp2
    refine bodyPost_ret (results_cell_row rfl _ _ gb223 48 #[.int .i64 t224, .slice Ao8 t225.length co8, .slice Ao51 x229002_1.length co51, .slice Ao52 x229003_1.length co52] (0, 0) _ rfl (lq_ BK223) Try.underlying48 rfl (by kernel_rfl)) rfl ?_
    exact ⟨_, _, _, er_, lo2_ (fr4_ HO_229001.out BK223.out (.int .i64 t224) (.slice Ao8 t225.length co8) (.slice Ao51 x229002_1.length co51) (.slice Ao52 x229003_1.length co52)), lo2_ (fr4_ HO_229002.out BK223.out (.int .i64 t224) (.slice Ao8 t225.length co8) (.slice Ao51 x229002_1.length co51) (.slice Ao52 x229003_1.length co52)), lo2_ (fr4_ HO_229003.out BK223.out (.int .i64 t224) (.slice Ao8 t225.length co8) (.slice Ao51 x229002_1.length co51) (.slice Ao52 x229003_1.length co52)), lw_ HB⟩

end Go.Proofs.Ytkmhjgejficclaa.PFnDirectoriesArePacked
