-- Laid by a program of this session: the print of the kit with additions of ours (wip/tools/patchprint.py). Nothing of it is trusted: Lean checks it.
import Derived.Test.YtkmhjgejficclaaPFnDirectoriesArePackedx0
import Derived.Test.YtkmhjgejficclaaPFnDirectoriesArePackedx1
import Derived.Test.YtkmhjgejficclaaPFnDirectoriesArePackedx2
import Derived.Test.YtkmhjgejficclaaPFnDirectoriesArePackedx6
namespace Go.Proofs.Ytkmhjgejficclaa.PFnDirectoriesArePacked
open Go.RowKit Go.Proofs.YtkmhjgejficclaaW.PrintWords Go.Proofs.YtkmhjgejficclaaW.PrintLast Go.Proofs.YtkmhjgejficclaaW.PrintMore
attribute [local go_sem] max2_int min2_int max_two min_two max_three min_three max_four min_four   -- for this text's walks alone
set_option linter.unusedVariables false
set_option linter.unusedSimpArgs false

/-! ### slices_Equal_int_int: function 109 -/
def slices_Equal_int_int.l0 : Nat → List Int → List Int → Int → Int → Option (Bool)
 | 0, _, _, _, _ => none
 | k + 1, x0, x1, x12, x13 => if x13 < x12 then (if 0 ≤ x13 then (if x13 < (x0.length : Int) then (if x13 < (x1.length : Int) then (if (rd x0 x13) = (rd x1 x13) then (slices_Equal_int_int.l0 k x0 x1 x12 (wrap64 (x13 + 1))) else (some false)) else (none)) else (none)) else (none)) else (some true)
def slices_Equal_int_int.f (k : Nat) (l0 : List Int) (l1 : List Int) : Option (Bool) := if (l0.length : Int) = (l1.length : Int) then (slices_Equal_int_int.l0 k l0 l1 (l0.length : Int) 0) else (some false)
theorem slices_Equal_int_int.mono_l : ∀ k, (∀ y0 y1 y2 y3, LeO (slices_Equal_int_int.l0 k y0 y1 y2 y3) (slices_Equal_int_int.l0 (k + 1) y0 y1 y2 y3))
 | 0 => fun _ _ _ _ r h => by simp [slices_Equal_int_int.l0] at h
 | k + 1 => by
  have ih0 := slices_Equal_int_int.mono_l k
  ·intro y0 y1 y2 y3
   unfold slices_Equal_int_int.l0
   repeat' first
   | (with_reducible exact ih0 _ _ _ _)
   | (with_reducible exact LeO.refl _)
   | (with_reducible exact LeO.none _)
   | (with_reducible refine LeO.ite ?_ ?_)
   | (with_reducible refine LeO.bind ?_ (fun _ => ?_))
   | exact ih0 _ _ _ _
   | exact LeO.none _
   | refine LeO.ite ?_ ?_
   | refine LeO.bind ?_ (fun _ => ?_)
theorem slices_Equal_int_int.mono : ∀ a0 a1 k, LeO (slices_Equal_int_int.f k a0 a1) (slices_Equal_int_int.f (k + 1) a0 a1) := by
 intro a0 a1 k
 have ih0 := slices_Equal_int_int.mono_l k
 unfold slices_Equal_int_int.f
 repeat' first
   | (with_reducible exact ih0 _ _ _ _)
   | (with_reducible exact LeO.refl _)
   | (with_reducible exact LeO.none _)
   | (with_reducible refine LeO.ite ?_ ?_)
   | (with_reducible refine LeO.bind ?_ (fun _ => ?_))
   | exact ih0 _ _ _ _
   | exact LeO.none _
   | refine LeO.ite ?_ ?_
   | refine LeO.bind ?_ (fun _ => ?_)
set_option maxHeartbeats 8000000 in
set_option maxRecDepth 100000 in
theorem slices_Equal_int_int.calls (k : Nat) (A0 : Option Addr) (c0 : Nat) (l0 : List Int) (A1 : Option Addr) (c1 : Nat) (l1 : List Int) (r : Bool) (w : World) (hr0 : Kd.C (Kd.int .i64) w A0 l0.length l0) (hc0 : l0.length ≤ c0) (hr1 : Kd.C (Kd.int .i64) w A1 l1.length l1) (hc1 : l1.length ≤ c1) (h : slices_Equal_int_int.f k l0 l1 = some r) :
  Calls Try.prog 109 #[.slice A0 l0.length c0, .slice A1 l1.length c1] w fun e w' => e = .returned (.bool r) ∧ Drawn0 w w' := by
 have HR0 := am_ hr0
 have HC0 := am_ hc0
 clear hr0 hc0
 have HR1 := am_ hr1
 have HC1 := am_ hc1
 clear hr1 hc1
 have H : (if (l0.length : Int) = (l1.length : Int) then (slices_Equal_int_int.l0 k l0 l1 (l0.length : Int) 0) else (some false)) = some r := h
 clear h
 by_cases c3 : (l0.length : Int) = (l1.length : Int)
 ·rw [if_pos c3] at H
  have c3b0 : ((l0.length : Int) == (l1.length : Int)) = true := beq_iff_eq.mpr c3
  have c3b1 : ((l0.length : Int) != (l1.length : Int)) = false := bne_eq_false_iff_eq.mpr c3
  have c3b2 : (l0.length == l1.length) = true := by first | simpa using c3 | (simp at c3 ⊢; omega)
  clear c3
  have H' := am_ H
  clear H
  go_enter Try.func109, Try.ntmps109
  go_wp2
  repeat (go_quiet (fail); try go_wp2)
  go_loopg [13] k (fun kq v13 w' => ∃ (x13_1 : Int), v13 = .int .i64 x13_1 ∧ Aside0 (slices_Equal_int_int.l0 kq l0 l1 (l0.length : Int) x13_1 = some r) ∧ Aside0 (kq ≤ k) ∧ Drawn0 w w')
  case atStart => exact ⟨(0), sr_, H', ⟨Nat.le_refl _⟩, by repeat (first | exact Drawn0.refl _ | apply Drawn0.step)⟩
  case round =>
   clear H'
   try clear c1
   try clear p2
   try clear c3
   try clear c3b0
   try clear c3b1
   try clear c3b2
   obtain ⟨x13_1, rfl, HA, HK1, ⟨m1, rfl⟩⟩ := hrel
   cases gk with
   | zero => exact absurd HA.out (by simp [slices_Equal_int_int.l0])
   | succ k1 =>
    have H := HA.out
    clear HA
    simp only [slices_Equal_int_int.l0] at H
    by_cases c4 : x13_1 < (l0.length : Int)
    ·rw [if_pos c4] at H
     have c4b0 : decide (x13_1 < (l0.length : Int)) = true := decide_eq_true c4
     clear c4
     by_cases c5 : 0 ≤ x13_1
     ·rw [if_pos c5] at H
      have c5b0 : decide (0 ≤ x13_1) = true := decide_eq_true c5
      clear c5
      by_cases c6 : x13_1 < (l0.length : Int)
      ·rw [if_pos c6] at H
       have c6b0 : decide (x13_1 < (l0.length : Int)) = true := decide_eq_true c6
       clear c6
       by_cases c7 : x13_1 < (l1.length : Int)
       ·rw [if_pos c7] at H
        have c7b0 : decide (x13_1 < (l1.length : Int)) = true := decide_eq_true c7
        clear c7
        by_cases c8 : (rd l0 x13_1) = (rd l1 x13_1)
        ·rw [if_pos c8] at H
         have c8b0 : ((rd l0 x13_1) == (rd l1 x13_1)) = true := beq_iff_eq.mpr c8
         have c8b1 : ((rd l0 x13_1) != (rd l1 x13_1)) = false := bne_eq_false_iff_eq.mpr c8
         clear c8
         have H' := am_ H
         clear H
         have p240 : 0 ≤ (x13_1 : Int) := of_decide_eq_true (by first | (with_reducible assumption) | assumption)
         have q240 : x13_1 < (l0.length : Int) := of_decide_eq_true (by first | (with_reducible assumption) | assumption)
         obtain ⟨ad240, e240, hx240_0⟩ := Kd.at_int HR0.out x13_1 p240 q240
         cases e240
         replace p240 := eq_true p240
         replace q240 := eq_true q240
         have p241 : 0 ≤ (x13_1 : Int) := of_decide_eq_true (by first | (with_reducible assumption) | assumption)
         have q241 : x13_1 < (l1.length : Int) := of_decide_eq_true (by first | (with_reducible assumption) | assumption)
         obtain ⟨ad241, e241, hx241_0⟩ := Kd.at_int HR1.out x13_1 p241 q241
         cases e241
         replace p241 := eq_true p241
         replace q241 := eq_true q241
         go_wp2
         repeat (go_quiet (fail); try go_wp2)
         go_roundg k1
         case measure => have := HK1.out; omega
         case rel => exact ⟨(wrap64 (x13_1 + 1)), sr_, H', ⟨by have := HK1.out; omega⟩, by repeat (first | exact Drawn0.refl _ | apply Drawn0.step)⟩
        ·rw [if_neg c8] at H
         have c8b0 : ((rd l0 x13_1) == (rd l1 x13_1)) = false := beq_eq_false_iff_ne.mpr c8
         have c8b1 : ((rd l0 x13_1) != (rd l1 x13_1)) = true := bne_iff_ne.mpr c8
         obtain rfl := Option.some.inj H
         have p240 : 0 ≤ (x13_1 : Int) := of_decide_eq_true (by first | (with_reducible assumption) | assumption)
         have q240 : x13_1 < (l0.length : Int) := of_decide_eq_true (by first | (with_reducible assumption) | assumption)
         obtain ⟨ad240, e240, hx240_0⟩ := Kd.at_int HR0.out x13_1 p240 q240
         cases e240
         replace p240 := eq_true p240
         replace q240 := eq_true q240
         have p241 : 0 ≤ (x13_1 : Int) := of_decide_eq_true (by first | (with_reducible assumption) | assumption)
         have q241 : x13_1 < (l1.length : Int) := of_decide_eq_true (by first | (with_reducible assumption) | assumption)
         obtain ⟨ad241, e241, hx241_0⟩ := Kd.at_int HR1.out x13_1 p241 q241
         cases e241
         replace p241 := eq_true p241
         replace q241 := eq_true q241
         go_wp2
         repeat (go_quiet (fail); try go_wp2)
         go_ret
         exact ⟨by first | rfl | (simp; done) | (simp [*]; done), by repeat (first | exact Drawn0.refl _ | apply Drawn0.step)⟩
       ·rw [if_neg c7] at H
        exact absurd H (by simp)
      ·rw [if_neg c6] at H
       exact absurd H (by simp)
     ·rw [if_neg c5] at H
      exact absurd H (by simp)
    ·rw [if_neg c4] at H
     have c4b0 : decide (x13_1 < (l0.length : Int)) = false := decide_eq_false c4
     clear c4
     obtain rfl := Option.some.inj H
     go_wp2
     repeat (go_quiet (fail); try go_wp2)
     go_ret
     exact ⟨by first | rfl | (simp; done) | (simp [*]; done), by repeat (first | exact Drawn0.refl _ | apply Drawn0.step)⟩
 ·rw [if_neg c3] at H
  have c3b0 : ((l0.length : Int) == (l1.length : Int)) = false := beq_eq_false_iff_ne.mpr c3
  have c3b1 : ((l0.length : Int) != (l1.length : Int)) = true := bne_iff_ne.mpr c3
  have c3b2 : (l0.length == l1.length) = false := by first | simpa using c3 | (simp at c3 ⊢; omega)
  obtain rfl := Option.some.inj H
  go_enter Try.func109, Try.ntmps109
  go_wp2
  repeat (go_quiet (fail); try go_wp2)
  go_ret
  exact ⟨by first | rfl | (simp; done) | (simp [*]; done), by repeat (first | exact Drawn0.refl _ | apply Drawn0.step)⟩

/-! ### impl_IsRanked: function 55 -/
def impl_IsRanked.f (k : Nat) (a0_0 : Int) (l0_1 : List Int) (l0_2 : List Int) (l0_3 : List Int) : Option (Bool) := (impl_IsBits.f k a0_0 l0_1).bind fun t243 => (if t243 = true then ((impl_ranked.f k a0_0 l0_1).bind fun bt244 => ((slices_Equal_int_int.f k bt244.2.2.1 l0_2).bind fun t255 => (if t255 = true then ((slices_Equal_int_int.f k bt244.2.2.2 l0_3).bind fun t256 => (some t256)) else (some false)))) else (some false))
theorem impl_IsRanked.mono : ∀ a0 a1 a2 a3 k, LeO (impl_IsRanked.f k a0 a1 a2 a3) (impl_IsRanked.f (k + 1) a0 a1 a2 a3) := by
 intro a0 a1 a2 a3 k
 unfold impl_IsRanked.f
 repeat' first
   | (with_reducible exact impl_IsBits.mono _ _ _)
   | (with_reducible exact impl_ranked.mono _ _ _)
   | (with_reducible exact slices_Equal_int_int.mono _ _ _)
   | (with_reducible exact LeO.refl _)
   | (with_reducible exact LeO.none _)
   | (with_reducible refine LeO.ite ?_ ?_)
   | (with_reducible refine LeO.bind ?_ (fun _ => ?_))
   | exact impl_IsBits.mono _ _ _
   | exact impl_ranked.mono _ _ _
   | exact slices_Equal_int_int.mono _ _ _
   | exact LeO.none _
   | refine LeO.ite ?_ ?_
   | refine LeO.bind ?_ (fun _ => ?_)
set_option maxHeartbeats 8000000 in
set_option maxRecDepth 100000 in
theorem impl_IsRanked.calls (k : Nat) (a0_0 : Int) (A0_1 : Option Addr) (c0_1 : Nat) (l0_1 : List Int) (A0_2 : Option Addr) (c0_2 : Nat) (l0_2 : List Int) (A0_3 : Option Addr) (c0_3 : Nat) (l0_3 : List Int) (r : Bool) (w : World) (hr0_1 : Kd.C (Kd.int .i64) w A0_1 l0_1.length l0_1) (hc0_1 : l0_1.length ≤ c0_1) (hr0_2 : Kd.C (Kd.int .i64) w A0_2 l0_2.length l0_2) (hc0_2 : l0_2.length ≤ c0_2) (hr0_3 : Kd.C (Kd.int .i64) w A0_3 l0_3.length l0_3) (hc0_3 : l0_3.length ≤ c0_3) (h : impl_IsRanked.f k a0_0 l0_1 l0_2 l0_3 = some r) :
  Calls Try.prog 55 #[.agg #[.int .i64 a0_0, .slice A0_1 l0_1.length c0_1, .slice A0_2 l0_2.length c0_2, .slice A0_3 l0_3.length c0_3]] w fun e w' => e = .returned (.bool r) ∧ Below w.heap.size w w' := by
 have hu48 := Try.underlying48
 have hu26 := Try.underlying26
 have HR0_1 := am_ hr0_1
 have HC0_1 := am_ hc0_1
 clear hr0_1 hc0_1
 have HR0_2 := am_ hr0_2
 have HC0_2 := am_ hc0_2
 clear hr0_2 hc0_2
 have HR0_3 := am_ hr0_3
 have HC0_3 := am_ hc0_3
 clear hr0_3 hc0_3
 have HB := am_ (Below.refl w.heap.size w)
 have H : ((impl_IsBits.f k a0_0 l0_1).bind fun t243 => (if t243 = true then ((impl_ranked.f k a0_0 l0_1).bind fun bt244 => ((slices_Equal_int_int.f k bt244.2.2.1 l0_2).bind fun t255 => (if t255 = true then ((slices_Equal_int_int.f k bt244.2.2.2 l0_3).bind fun t256 => (some t256)) else (some false)))) else (some false))) = some r := h
 clear h
 replace H := Option.bind_eq_some_iff.mp H
 obtain ⟨t243, A20, H⟩ := H
 replace H : (if t243 = true then ((impl_ranked.f k a0_0 l0_1).bind fun bt244 => ((slices_Equal_int_int.f k bt244.2.2.1 l0_2).bind fun t255 => (if t255 = true then ((slices_Equal_int_int.f k bt244.2.2.2 l0_3).bind fun t256 => (some t256)) else (some false)))) else (some false)) = some r := H
 have A2 := am_ A20
 clear A20
 by_cases c3 : t243 = true
 ·subst c3
  have H1 : ((impl_ranked.f k a0_0 l0_1).bind fun bt244 => ((slices_Equal_int_int.f k bt244.2.2.1 l0_2).bind fun t255 => (if t255 = true then ((slices_Equal_int_int.f k bt244.2.2.2 l0_3).bind fun t256 => (some t256)) else (some false)))) = some r := by rw [if_pos rfl] at H; exact H
  clear H
  have H := H1
  clear H1
  replace H := Option.bind_eq_some_iff.mp H
  obtain ⟨⟨t244, t245, t248, t251⟩, A40, H⟩ := H
  replace H : ((slices_Equal_int_int.f k t248 l0_2).bind fun t255 => (if t255 = true then ((slices_Equal_int_int.f k t251 l0_3).bind fun t256 => (some t256)) else (some false))) = some r := H
  have A4 := am_ A40
  clear A40
  replace H := Option.bind_eq_some_iff.mp H
  obtain ⟨t255, A50, H⟩ := H
  replace H : (if t255 = true then ((slices_Equal_int_int.f k t251 l0_3).bind fun t256 => (some t256)) else (some false)) = some r := H
  have A5 := am_ A50
  clear A50
  by_cases c6 : t255 = true
  ·subst c6
   have H1 : ((slices_Equal_int_int.f k t251 l0_3).bind fun t256 => (some t256)) = some r := by rw [if_pos rfl] at H; exact H
   clear H
   have H := H1
   clear H1
   replace H := Option.bind_eq_some_iff.mp H
   obtain ⟨t256, A70, H⟩ := H
   replace H : (some t256) = some r := H
   have A7 := am_ A70
   clear A70
   obtain rfl := Option.some.inj H
   go_enter Try.func55, Try.ntmps55
   go_wp2_with (first | ((with_reducible refine gate_dst (N := 1) rfl ?_); refine bev_ 1 #[.int .i64 a0_0, .slice A0_1 l0_1.length c0_1, .slice A0_2 l0_2.length c0_2, .slice A0_3 l0_3.length c0_3] 48 rfl rfl ?_; intro gb242 hg w8 hbox hb; have BK242 := am_ (hbox); have GW242 := am_ ((by rw [hg]; exact (below_size (lw_ HB)) : w.heap.size ≤ gb242)); have GE242 := am_ ((by rw [hg]; exact (below_size (lw_ HB)) : w.heap.size ≤ gb242)); replace HB := am_ (below_step (lw_ HB) hb); clear hb hbox hg; obtain ⟨hcz9_0, hcz9_1, hcz9_2, hcz9_3, hfz9_0, hfz9_1, hfz9_2, hfz9_3⟩ := bx4_ BK242.out) | ((with_reducible refine gate_callee (f := 73) rfl ?_); refine goesL_ (some 6) rfl rfl Try.func73 (by kernel_rfl) rfl #[.agg #[.int .i64 a0_0, .slice A0_1 l0_1.length c0_1]] rfl lm_ ?_; (with_reducible refine (impl_IsBits.calls k a0_0 _ _ l0_1 true _ ?side1 ?side2 A2.out).mono ?_); (case side1 => exact lc_ (Kd.C_below HR0_1.out HB.out)); (case side2 => exact HC0_1.out); rintro e w10 ⟨rfl, hb⟩; refine ⟨_, rfl, ?_⟩; replace BK242 := am_ (blk_below (g := gb242) (lb_ BK242) hb); replace HB := am_ (below_step (lw_ HB) hb); (try clear hb); (try clear hb2); (try clear hk); (try clear hi); obtain ⟨hcz11_0, hcz11_1, hcz11_2, hcz11_3, hfz11_0, hfz11_1, hfz11_2, hfz11_3⟩ := bx4_ BK242.out) | ((with_reducible refine gate_callee (f := 96) rfl ?_); refine goesL_ (some 10) rfl rfl Try.func96 (by kernel_rfl) rfl #[.agg #[.int .i64 a0_0, .slice A0_1 l0_1.length c0_1]] rfl lm_ ?_; (with_reducible refine (impl_ranked.calls k a0_0 _ _ l0_1 t244 t245 t248 t251 _ ?side1 ?side2 A4.out).mono ?_); (case side1 => exact lc_ (Kd.C_below HR0_1.out HB.out)); (case side2 => exact HC0_1.out); rintro e w12 ⟨v246, v249, v252, rfl, ho0, ho1, ho2, hb⟩; refine ⟨_, rfl, ?_⟩; have HO247 := am_ (Kd.R_lower ho0 (below_size (lw_ HB))); have HO250 := am_ (Kd.R_lower ho1 (below_size (lw_ HB))); have HO253 := am_ (Kd.R_lower ho2 (below_size (lw_ HB))); replace BK242 := am_ (blk_below (g := gb242) (lb_ BK242) hb); replace HB := am_ (below_step (lw_ HB) hb); (try clear hb); (try clear hb2); (try clear hk); (try clear hi); (try clear ho0); (try clear ho1); (try clear ho2)) | ((with_reducible refine gate_dst (N := 3) rfl ?_); refine bev_ 3 #[.int .i64 0, .slice none 0 0, .slice none 0 0, .slice none 0 0] 48 rfl rfl ?_; intro gb254 hg w13 hbox hb; have BK254 := am_ (hbox); have GW254 := am_ ((by rw [hg]; exact (below_size (lw_ HB)) : w.heap.size ≤ gb254)); have GE254 := am_ ((by rw [hg]; exact (below_size (lw_ HB)) : w.heap.size ≤ gb254)); have NB242_254 := am_ ((by rw [hg]; exact Nat.ne_of_lt (blk_lt (g := gb242) (lb_ BK242)) : gb242 ≠ gb254)); have NB254_242 := am_ ((by rw [hg]; exact Nat.ne_of_gt (blk_lt (g := gb242) (lb_ BK242)) : gb254 ≠ gb242)); replace HO247 := am_ (Kd.R_below (lf_ HO247) hb); replace HO250 := am_ (Kd.R_below (lf_ HO250) hb); replace HO253 := am_ (Kd.R_below (lf_ HO253) hb); replace BK242 := am_ (blk_below (g := gb242) (lb_ BK242) hb); replace HB := am_ (below_step (lw_ HB) hb); clear hb hbox hg; have hnb14 := NB254_242.out; have hnc14 := NB242_254.out; obtain ⟨hcz15_0, hcz15_1, hcz15_2, hcz15_3, hfz15_0, hfz15_1, hfz15_2, hfz15_3⟩ := bx4_ BK254.out; obtain ⟨Ao16, co16, eo16⟩ := Kd.R_slice HO247.out; subst eo16; obtain ⟨Ao17, co17, eo17⟩ := Kd.R_slice HO250.out; subst eo17; obtain ⟨Ao18, co18, eo18⟩ := Kd.R_slice HO253.out; subst eo18; obtain ⟨hcz19_0, hcz19_1, hcz19_2, hcz19_3, hfz19_0, hfz19_1, hfz19_2, hfz19_3⟩ := bx4_ BK242.out) | ((with_reducible refine gate_callee (f := 109) rfl ?_); refine goesL_ (some 15) rfl rfl Try.func109 (by kernel_rfl) rfl #[.slice Ao17 t248.length co17, .slice A0_2 l0_2.length c0_2] rfl lm_ ?_; (with_reducible refine (slices_Equal_int_int.calls k _ _ t248 _ _ l0_2 true _ ?side1 ?side2 ?side3 ?side4 A5.out).mono ?_); (case side1 => refine (Kd.R_reads' (e := 3) (base := w.heap.size) (ok := fun k_ => (ns_ k_ Ao16 t245 co16 ∧ ns_ k_ Ao18 t251 co18)) (n := t248.length) (c := co17) ?_).2.2; exact (lt_ ((m1_ (fr4_ HO250.out BK254.out (.int .i64 t244) (.slice Ao16 t245.length co16) (.slice Ao17 t248.length co17) (.slice Ao18 t251.length co18)))))); (case side2 => exact (Kd.R_reads' HO250.out).2.1); (case side3 => exact Kd.C_below HR0_2.out (lw_ HB)); (case side4 => exact HC0_2.out); rintro e w' ⟨rfl, ⟨nd, rfl⟩⟩; refine ⟨_, rfl, ?_⟩) | (go_at_call 109; (with_reducible refine (slices_Equal_int_int.calls k _ _ t251 _ _ l0_3 t256 _ ?side1 ?side2 ?side3 ?side4 A7.out).mono ?_); (case side1 => refine (Kd.R_reads' (e := 3) (base := w.heap.size) (ok := fun k_ => (ns_ k_ Ao16 t245 co16 ∧ ns_ k_ Ao17 t248 co17)) (n := t251.length) (c := co18) ?_).2.2; exact (lt_ ((m1_ (fr4_ HO253.out BK254.out (.int .i64 t244) (.slice Ao16 t245.length co16) (.slice Ao17 t248.length co17) (.slice Ao18 t251.length co18)))))); (case side2 => exact (Kd.R_reads' HO253.out).2.1); (case side3 => exact Kd.C_below HR0_3.out (lw_ HB)); (case side4 => exact HC0_3.out); rintro e w' ⟨rfl, ⟨nd, rfl⟩⟩))
   go_ret
   exact ⟨er_, lw_ HB⟩
  ·replace c6 := Bool.eq_false_iff.mpr c6
   subst c6
   have H1 : (some false) = some r := by rw [if_neg (show ¬ (false = true) by decide)] at H; exact H
   clear H
   have H := H1
   clear H1
   obtain rfl := Option.some.inj H
   go_enter Try.func55, Try.ntmps55
   go_wp2_with (first | ((with_reducible refine gate_dst (N := 1) rfl ?_); refine bev_ 1 #[.int .i64 a0_0, .slice A0_1 l0_1.length c0_1, .slice A0_2 l0_2.length c0_2, .slice A0_3 l0_3.length c0_3] 48 rfl rfl ?_; intro gb242 hg w20 hbox hb; have BK242 := am_ (hbox); have GW242 := am_ ((by rw [hg]; exact (below_size (lw_ HB)) : w.heap.size ≤ gb242)); have GE242 := am_ ((by rw [hg]; exact (below_size (lw_ HB)) : w.heap.size ≤ gb242)); replace HB := am_ (below_step (lw_ HB) hb); clear hb hbox hg; obtain ⟨hcz21_0, hcz21_1, hcz21_2, hcz21_3, hfz21_0, hfz21_1, hfz21_2, hfz21_3⟩ := bx4_ BK242.out) | ((with_reducible refine gate_callee (f := 73) rfl ?_); refine goesL_ (some 6) rfl rfl Try.func73 (by kernel_rfl) rfl #[.agg #[.int .i64 a0_0, .slice A0_1 l0_1.length c0_1]] rfl lm_ ?_; (with_reducible refine (impl_IsBits.calls k a0_0 _ _ l0_1 true _ ?side1 ?side2 A2.out).mono ?_); (case side1 => exact lc_ (Kd.C_below HR0_1.out HB.out)); (case side2 => exact HC0_1.out); rintro e w22 ⟨rfl, hb⟩; refine ⟨_, rfl, ?_⟩; replace BK242 := am_ (blk_below (g := gb242) (lb_ BK242) hb); replace HB := am_ (below_step (lw_ HB) hb); (try clear hb); (try clear hb2); (try clear hk); (try clear hi); obtain ⟨hcz23_0, hcz23_1, hcz23_2, hcz23_3, hfz23_0, hfz23_1, hfz23_2, hfz23_3⟩ := bx4_ BK242.out) | ((with_reducible refine gate_callee (f := 96) rfl ?_); refine goesL_ (some 10) rfl rfl Try.func96 (by kernel_rfl) rfl #[.agg #[.int .i64 a0_0, .slice A0_1 l0_1.length c0_1]] rfl lm_ ?_; (with_reducible refine (impl_ranked.calls k a0_0 _ _ l0_1 t244 t245 t248 t251 _ ?side1 ?side2 A4.out).mono ?_); (case side1 => exact lc_ (Kd.C_below HR0_1.out HB.out)); (case side2 => exact HC0_1.out); rintro e w24 ⟨v246, v249, v252, rfl, ho0, ho1, ho2, hb⟩; refine ⟨_, rfl, ?_⟩; have HO247 := am_ (Kd.R_lower ho0 (below_size (lw_ HB))); have HO250 := am_ (Kd.R_lower ho1 (below_size (lw_ HB))); have HO253 := am_ (Kd.R_lower ho2 (below_size (lw_ HB))); replace BK242 := am_ (blk_below (g := gb242) (lb_ BK242) hb); replace HB := am_ (below_step (lw_ HB) hb); (try clear hb); (try clear hb2); (try clear hk); (try clear hi); (try clear ho0); (try clear ho1); (try clear ho2)) | ((with_reducible refine gate_dst (N := 3) rfl ?_); refine bev_ 3 #[.int .i64 0, .slice none 0 0, .slice none 0 0, .slice none 0 0] 48 rfl rfl ?_; intro gb254 hg w25 hbox hb; have BK254 := am_ (hbox); have GW254 := am_ ((by rw [hg]; exact (below_size (lw_ HB)) : w.heap.size ≤ gb254)); have GE254 := am_ ((by rw [hg]; exact (below_size (lw_ HB)) : w.heap.size ≤ gb254)); have NB242_254 := am_ ((by rw [hg]; exact Nat.ne_of_lt (blk_lt (g := gb242) (lb_ BK242)) : gb242 ≠ gb254)); have NB254_242 := am_ ((by rw [hg]; exact Nat.ne_of_gt (blk_lt (g := gb242) (lb_ BK242)) : gb254 ≠ gb242)); replace HO247 := am_ (Kd.R_below (lf_ HO247) hb); replace HO250 := am_ (Kd.R_below (lf_ HO250) hb); replace HO253 := am_ (Kd.R_below (lf_ HO253) hb); replace BK242 := am_ (blk_below (g := gb242) (lb_ BK242) hb); replace HB := am_ (below_step (lw_ HB) hb); clear hb hbox hg; have hnb26 := NB254_242.out; have hnc26 := NB242_254.out; obtain ⟨hcz27_0, hcz27_1, hcz27_2, hcz27_3, hfz27_0, hfz27_1, hfz27_2, hfz27_3⟩ := bx4_ BK254.out; obtain ⟨Ao28, co28, eo28⟩ := Kd.R_slice HO247.out; subst eo28; obtain ⟨Ao29, co29, eo29⟩ := Kd.R_slice HO250.out; subst eo29; obtain ⟨Ao30, co30, eo30⟩ := Kd.R_slice HO253.out; subst eo30; obtain ⟨hcz31_0, hcz31_1, hcz31_2, hcz31_3, hfz31_0, hfz31_1, hfz31_2, hfz31_3⟩ := bx4_ BK242.out) | ((with_reducible refine gate_callee (f := 109) rfl ?_); refine goesL_ (some 15) rfl rfl Try.func109 (by kernel_rfl) rfl #[.slice Ao29 t248.length co29, .slice A0_2 l0_2.length c0_2] rfl lm_ ?_; (with_reducible refine (slices_Equal_int_int.calls k _ _ t248 _ _ l0_2 false _ ?side1 ?side2 ?side3 ?side4 A5.out).mono ?_); (case side1 => refine (Kd.R_reads' (e := 3) (base := w.heap.size) (ok := fun k_ => (ns_ k_ Ao28 t245 co28 ∧ ns_ k_ Ao30 t251 co30)) (n := t248.length) (c := co29) ?_).2.2; exact (lt_ ((m1_ (fr4_ HO250.out BK254.out (.int .i64 t244) (.slice Ao28 t245.length co28) (.slice Ao29 t248.length co29) (.slice Ao30 t251.length co30)))))); (case side2 => exact (Kd.R_reads' HO250.out).2.1); (case side3 => exact Kd.C_below HR0_2.out (lw_ HB)); (case side4 => exact HC0_2.out); rintro e w' ⟨rfl, ⟨nd, rfl⟩⟩; refine ⟨_, rfl, ?_⟩))
   go_ret
   exact ⟨er_, lw_ HB⟩
 ·replace c3 := Bool.eq_false_iff.mpr c3
  subst c3
  have H1 : (some false) = some r := by rw [if_neg (show ¬ (false = true) by decide)] at H; exact H
  clear H
  have H := H1
  clear H1
  obtain rfl := Option.some.inj H
  go_enter Try.func55, Try.ntmps55
  go_wp2_with (first | ((with_reducible refine gate_dst (N := 1) rfl ?_); refine bev_ 1 #[.int .i64 a0_0, .slice A0_1 l0_1.length c0_1, .slice A0_2 l0_2.length c0_2, .slice A0_3 l0_3.length c0_3] 48 rfl rfl ?_; intro gb242 hg w32 hbox hb; have BK242 := am_ (hbox); have GW242 := am_ ((by rw [hg]; exact (below_size (lw_ HB)) : w.heap.size ≤ gb242)); have GE242 := am_ ((by rw [hg]; exact (below_size (lw_ HB)) : w.heap.size ≤ gb242)); replace HB := am_ (below_step (lw_ HB) hb); clear hb hbox hg; obtain ⟨hcz33_0, hcz33_1, hcz33_2, hcz33_3, hfz33_0, hfz33_1, hfz33_2, hfz33_3⟩ := bx4_ BK242.out) | ((with_reducible refine gate_callee (f := 73) rfl ?_); refine goesL_ (some 6) rfl rfl Try.func73 (by kernel_rfl) rfl #[.agg #[.int .i64 a0_0, .slice A0_1 l0_1.length c0_1]] rfl lm_ ?_; (with_reducible refine (impl_IsBits.calls k a0_0 _ _ l0_1 false _ ?side1 ?side2 A2.out).mono ?_); (case side1 => exact lc_ (Kd.C_below HR0_1.out HB.out)); (case side2 => exact HC0_1.out); rintro e w34 ⟨rfl, hb⟩; refine ⟨_, rfl, ?_⟩; replace BK242 := am_ (blk_below (g := gb242) (lb_ BK242) hb); replace HB := am_ (below_step (lw_ HB) hb); (try clear hb); (try clear hb2); (try clear hk); (try clear hi)))
  go_ret
  exact ⟨er_, lw_ HB⟩

/-! ### impl_blank: function 92 -/
def impl_blank.f (a0 : Int) : Option (Int × List Int) := (impl_words.f a0).bind fun t258 => (if 0 ≤ t258 then (if (t258 : Int).toNat ≤ 35184372088832 then (some (a0, (List.replicate (t258 : Int).toNat 0))) else (none)) else (none))
set_option maxHeartbeats 8000000 in
set_option maxRecDepth 100000 in
theorem impl_blank.calls (a0 : Int) (r1 : Int) (r2 : List Int) (w : World) (h : impl_blank.f a0 = some (r1, r2)) :
  Calls Try.prog 92 #[.int .i64 a0] w fun e w' => ∃ v1_ : Value, e = .returned (.agg #[.int .i64 r1, v1_]) ∧ Kd.R (Kd.int .i64) 3 w' w.heap.size (fun _ => True) v1_ r2 ∧ Below w.heap.size w w' := by
 have hu26 := Try.underlying26
 have HB := am_ (Below.refl w.heap.size w)
 have H : ((impl_words.f a0).bind fun t258 => (if 0 ≤ t258 then (if (t258 : Int).toNat ≤ 35184372088832 then (some (a0, (List.replicate (t258 : Int).toNat 0))) else (none)) else (none))) = some (r1, r2) := h
 clear h
 replace H := Option.bind_eq_some_iff.mp H
 obtain ⟨t258, A20, H⟩ := H
 replace H : (if 0 ≤ t258 then (if (t258 : Int).toNat ≤ 35184372088832 then (some (a0, (List.replicate (t258 : Int).toNat 0))) else (none)) else (none)) = some (r1, r2) := H
 have A2 := am_ A20
 clear A20
 by_cases c3 : 0 ≤ t258
 ·rw [if_pos c3] at H
  have c3b0 := eq_true c3
  have c3b1 : decide (0 ≤ t258) = true := decide_eq_true c3
  clear c3
  by_cases c4 : (t258 : Int).toNat ≤ 35184372088832
  ·rw [if_pos c4] at H
   have c4b0 := eq_true c4
   have c4b1 : decide ((t258 : Int).toNat ≤ 35184372088832) = true := decide_eq_true c4
   clear c4
   obtain ⟨y259, hy259⟩ : ∃ y_ : List Int, y_ = (List.replicate (t258 : Int).toNat 0) := ⟨_, rfl⟩
   replace H : (some (a0, y259)) = some (r1, r2) := by first | (rw [hy259]; with_reducible exact H) | (have H2_ := (Option.bind_some _ _).symm.trans H; rw [hy259]; with_reducible exact H2_) | (have H2_ := (Option.bind_some _ _).symm.trans H; with_reducible exact H2_) | with_reducible exact H | (rw [hy259]; exact H) | exact H
   have Ny259 := am_ hy259
   clear hy259
   simp only [Option.some.injEq, Prod.mk.injEq] at H
   obtain ⟨rfl, rfl⟩ := H
   go_enter Try.func92, Try.ntmps92
   go_wp2_with (first | ((with_reducible refine gate_dst (N := 2) rfl ?_); refine bev_ 2 #[.int .i64 0, .slice none 0 0] 26 rfl rfl ?_; intro gb257 hg w5 hbox hb; have BK257 := am_ (hbox); have GW257 := am_ ((by rw [hg]; exact (below_size (lw_ HB)) : w.heap.size ≤ gb257)); have GE257 := am_ ((by rw [hg]; exact (below_size (lw_ HB)) : w.heap.size ≤ gb257)); replace HB := am_ (below_step (lw_ HB) hb); clear hb hbox hg) | ((with_reducible refine gate_callee (f := 102) rfl ?_); refine goesL_ (some 5) rfl rfl Try.func102 (by kernel_rfl) rfl #[.int .i64 a0] rfl lm_ ?_; (with_reducible refine (impl_words.calls a0 t258 _ A2.out).mono ?_); rintro e w' ⟨rfl, ⟨nd, rfl⟩⟩; refine ⟨_, rfl, ?_⟩; (try (rw [drewN_self w5]; generalize hq_ : World.drewN w5 _ = w5; have n0_ : Aside0 (w5.heap[gb257]? = some (.cells #[.int .i64 0, .slice none 0 0] 26 (0, 0))) := ⟨by rw [← hq_]; exact (lb_ BK257)⟩; have n1_ : Aside0 (Below w.heap.size w w5) := ⟨by rw [← hq_]; exact (lw_ HB)⟩; clear BK257 HB hq_; have BK257 := n0_; have HB := n1_; clear n0_ n1_))) | ((with_reducible refine gate_dst (N := 6) rfl ?_); refine Kd.R_make (Kd.int .i64) _ 3 rfl (N := 6) rfl 22 _ _ rfl t258 rfl rfl Try.underlying22 (.int .i64 0) 8 info3 rfl (by decide) (by omega) 0 (ok := fun _ => True) (okp := fun _ => True) rfl (fun _ hk => hk) trivial (of_decide_eq_true (by first | (with_reducible assumption) | assumption)) (Nat.le_trans (Nat.mul_le_mul_right _ (of_decide_eq_true (by first | (with_reducible assumption) | assumption) : t258.toNat ≤ 35184372088832)) (by omega)) (Below.refl _ _) (Nat.le_refl _) ?_; intro v260 w6 ho7 hb hg_ hnew_; clear hg_ hnew_; (first | rw [← Ny259.out] at ho7 | (simp only [Int.reduceToNat] at ho7; rw [← Ny259.out] at ho7)); have HO261 := am_ (Kd.R_lower ho7 (below_size (lw_ HB))); replace BK257 := am_ (blk_below (g := gb257) (lb_ BK257) hb); replace HB := am_ (below_step (lw_ HB) hb); clear hb ho7; obtain ⟨Ao8, co8, eo8⟩ := Kd.R_slice HO261.out; subst eo8; obtain ⟨hcz9_0, hcz9_1, hfz9_0, hfz9_1⟩ := bx2_ BK257.out))
   refine bodyPost_ret (results_cell_row rfl _ _ gb257 26 #[.int .i64 a0, .slice Ao8 y259.length co8] (0, 0) _ rfl (lq_ BK257) Try.underlying26 rfl (by kernel_rfl)) rfl ?_
   exact ⟨_, er_, lt_ (mt_ (fr2_ HO261.out BK257.out (.int .i64 a0) (.slice Ao8 y259.length co8))), lw_ HB⟩
  ·rw [if_neg c4] at H
   exact absurd H (by simp)
 ·rw [if_neg c3] at H
  exact absurd H (by simp)

/-! ### impl_madeBits: function 80 (by hand) -/
theorem amH_ {p : Prop} (h : p) : Aside0 p := ⟨h⟩
theorem lmH_ {P : Prop} (h : P := by (try simp only [List.map_toArray, List.map_cons, List.map_nil]); first | done | rfl | (simp only [List.length_drop, List.length_take]; rfl)) : P := h
theorem lcH_ {P Q : Prop} (h : P) (f : P → Q := by intro h_; exact lc_ h_) : Q := f h
theorem lfH_ {P Q : Prop} (h : Aside0 P) (f : P → Q := by intro h_; (with_reducible repeat (first | apply Kd.R_alloc | apply Kd.R_drewN | apply Kd.R_drew)); exact h_) : Q := f h.out
theorem lbH_ {P Q : Prop} (h : Aside0 P) (f : P → Q := by intro h_; (with_reducible repeat (first | refine blk_drewN ?_ _ | refine blk_drew ?_ | refine blk_alloc ?_ _)); exact h_) : Q := f h.out
theorem lwH_ {P Q : Prop} (h : Aside0 P) (f : P → Q := by intro h_; repeat (first | (with_reducible first | exact h_ | apply below_alloc | apply pw_below_drewN | apply below_drew1 | refine below_set ?_ (Aside0.out (by assumption))) | exact h_)) : Q := f h.out
theorem gate_callvH_ {P : Program} {ops : Array Oper} {rest : List Oper} {o : Oper} {a : Act} {Q : Exit → Act → World → Prop} {W : World} {x : Nat} {xs_ : Array Operand} {ts : Array TypeId} (_ho : o.op = .call { callee := .value (.tmp x), args := xs_, argTypes := ts }) (h : wpList P ops Q (o :: rest) a W) : wpList P ops Q (o :: rest) a W := h
/-- A call of a function value, in a plain region. -/
theorem goesFH_ {P : Program} {ops : Array Oper} {rest : List Oper} {oi : Oper} {a : Act} {Q : Exit → Act → World → Prop} {w : World} (N : Option Tmp) (hd : oi.dst = N) (hg : oi.guard = none) {x : Operand} {f : FuncId} {fn : Func} {xs_ : Array Operand} {ts : Array TypeId} {caps : Array Value} (hf : P.funcs[f]? = some fn) (hname : (fn.name == "runtime.NumGoroutine") = false) (hb : fn.body.isSome = true) (args : Array Value)
  (hop : oi.op = .call { callee := .value x, args := xs_, argTypes := ts }) (hx : a.eval x = .func (.func f) #[] caps) (hargs : xs_.map a.eval ++ caps = args)
  (h : Calls P f args w fun e w' => ∃ v, e = .returned v ∧ wpList P ops Q rest (a.put N v) w') : wpList P ops Q (oi :: rest) a w := by
 refine wpList_plain hg fun K hK => ?_
 have he := enters_ hf hname hb args w
 have hrun : (execOp a.eval oi).run P w = .ok (.enter f args) w := by
  unfold execOp
  simp [hop, resolve, Deferred.ofValue, invoke, hx, hargs, he]
 unfold Oper.wp
 rw [hrun, Oper.upon_enter]
 refine h.mono fun e w'' hh => ?_
 obtain ⟨v, rfl, hk⟩ := hh
 subst hd
 exact hK _ _ hk
def impl_madeBits.l0 : Nat → (Int → Option Bool) → Int → Int → Int → List Int → Option (Int × List Int)
 | 0, _, _, _, _, _ => none
 | k + 1, g, x9, x10, x5_0, x5_1 => if x10 < x9 then ((g x10).bind fun t1 => ((impl_Bits_set.f x5_0 x5_1 x10 t1).bind fun t2 => (impl_madeBits.l0 k g x9 (wrap64 (x10 + 1)) x5_0 t2))) else (some (x5_0, x5_1))
def impl_madeBits.f (k : Nat) (a0 : Int) (g : Int → Option Bool) : Option (Int × List Int) := (impl_blank.f a0).bind fun bt => (impl_madeBits.l0 k g a0 0 bt.1 bt.2)
theorem impl_madeBits.mono_l : ∀ k, (∀ y0 y1 y2 y3 y4, LeO (impl_madeBits.l0 k y0 y1 y2 y3 y4) (impl_madeBits.l0 (k + 1) y0 y1 y2 y3 y4))
 | 0 => fun _ _ _ _ _ r h => by simp [impl_madeBits.l0] at h
 | k + 1 => by
  have ih0 := impl_madeBits.mono_l k
  intro y0 y1 y2 y3 y4
  unfold impl_madeBits.l0
  repeat' first
   | (with_reducible exact ih0 _ _ _ _ _)
   | (with_reducible exact LeO.refl _)
   | (with_reducible exact LeO.none _)
   | (with_reducible refine LeO.ite ?_ ?_)
   | (with_reducible refine LeO.bind ?_ (fun _ => ?_))
   | exact LeO.none _
   | refine LeO.ite ?_ ?_
   | refine LeO.bind ?_ (fun _ => ?_)
theorem impl_madeBits.mono : ∀ a0 g k, LeO (impl_madeBits.f k a0 g) (impl_madeBits.f (k + 1) a0 g) := by
 intro a0 g k
 have ih0 := impl_madeBits.mono_l k
 unfold impl_madeBits.f
 repeat' first
   | (with_reducible exact ih0 _ _ _ _ _)
   | (with_reducible exact LeO.refl _)
   | (with_reducible exact LeO.none _)
   | (with_reducible refine LeO.ite ?_ ?_)
   | (with_reducible refine LeO.bind ?_ (fun _ => ?_))
   | exact LeO.none _
   | refine LeO.ite ?_ ?_
   | refine LeO.bind ?_ (fun _ => ?_)
set_option maxHeartbeats 8000000 in
set_option maxRecDepth 100000 in
theorem impl_madeBits.calls (k : Nat) (fid : FuncId) (fn : Func) (caps : Array Value) (hfn : Try.prog.funcs[fid]? = some fn) (hnm : (fn.name == "runtime.NumGoroutine") = false) (hbd : fn.body.isSome = true) (a0 : Int) (g : Int → Option Bool) (r1 : Int) (r2 : List Int) (w : World)
  (hF : ∀ (i : Int) (b : Bool) (w1 : World), g i = some b → Below w.heap.size w w1 → Calls Try.prog fid (#[.int .i64 i] ++ caps) w1 fun e w2 => e = .returned (.bool b) ∧ Below w1.heap.size w1 w2)
  (h : impl_madeBits.f k a0 g = some (r1, r2)) :
  Calls Try.prog 80 #[.int .i64 a0, .func (.func fid) #[] caps] w fun e w' => ∃ v1_ : Value, e = .returned (.agg #[.int .i64 r1, v1_]) ∧ Kd.R (Kd.int .i64) 3 w' w.heap.size (fun _ => True) v1_ r2 ∧ Below w.heap.size w w' := by
 have hu26 := Try.underlying26
 have HFN := amH_ (And.intro hfn (And.intro hnm hbd))
 have HF := amH_ (show ∀ (i : Int) (b : Bool) (w1 : World), g i = some b → Below w.heap.size w w1 → Calls Try.prog fid (#[.int .i64 i] ++ caps) w1 (fun e w2 => e = .returned (.bool b) ∧ Below w1.heap.size w1 w2) from hF)
 clear hF hfn hnm hbd
 have HB := amH_ (Below.refl w.heap.size w)
 have H : ((impl_blank.f a0).bind fun bt => (impl_madeBits.l0 k g a0 0 bt.1 bt.2)) = some (r1, r2) := h
 clear h
 replace H := Option.bind_eq_some_iff.mp H
 obtain ⟨⟨t1, t2⟩, A30, H⟩ := H
 replace H : (impl_madeBits.l0 k g a0 0 t1 t2) = some (r1, r2) := H
 have A3 := amH_ A30
 clear A30
 have H' := amH_ H
 clear H
 go_enter Try.func80, Try.ntmps80
 go_wp2_with (first | ((with_reducible refine gate_dst (N := 4) rfl ?_); refine bev_ 4 #[.int .i64 0, .slice none 0 0] 26 rfl rfl ?_; intro g4 hg w1 hbox hb; have BKg4 := amH_ (hbox); have GEg4 := amH_ ((by rw [hg]; exact (below_size (lwH_ HB)) : w.heap.size ≤ g4)); replace HB := amH_ (below_step (lwH_ HB) hb); clear hb hbox hg) | ((with_reducible refine gate_callee (f := 92) rfl ?_); refine goesL_ (some 8) rfl rfl Try.func92 (by kernel_rfl) rfl #[.int .i64 a0] rfl lmH_ ?_; (with_reducible refine (impl_blank.calls a0 t1 t2 _ A3.out).mono ?_); rintro e w2 ⟨v8, rfl, ho0, hb⟩; refine ⟨_, rfl, ?_⟩; have HO := amH_ (Kd.R_lower ho0 (below_size (lwH_ HB))); replace BKg4 := amH_ (blk_below (lbH_ BKg4) hb); replace HB := amH_ (below_step (lwH_ HB) hb); (try clear hb); (try clear ho0)) | ((with_reducible refine gate_dst (N := 5) rfl ?_); refine bev_ 5 #[.int .i64 0, .slice none 0 0] 26 rfl rfl ?_; intro g5 hg w3 hbox hb; have BKg5 := amH_ (hbox); have GEg5 := amH_ ((by rw [hg]; exact (below_size (lwH_ HB)) : w.heap.size ≤ g5)); have NBg4_g5 := amH_ ((by rw [hg]; exact Nat.ne_of_lt (blk_lt (g := g4) (lbH_ BKg4)) : g4 ≠ g5)); have NBg5_g4 := amH_ ((by rw [hg]; exact Nat.ne_of_gt (blk_lt (g := g4) (lbH_ BKg4)) : g5 ≠ g4)); replace HO := amH_ (Kd.R_below (lfH_ HO) hb); replace BKg4 := amH_ (blk_below (lbH_ BKg4) hb); replace HB := amH_ (below_step (lwH_ HB) hb); clear hb hbox hg; have hn0g5g4 := NBg5_g4.out; have hn1g4g5 := NBg4_g5.out; have hcz5_0 : w3.cell? ⟨g5, 0, none⟩ = some (.int .i64 0) := (blk_cell BKg5.out 0).trans rfl; have hfz5_0 := blk_frozen BKg5.out 0; have hcz5_1 : w3.cell? ⟨g5, 1, none⟩ = some (.slice none 0 0) := (blk_cell BKg5.out 1).trans rfl; have hfz5_1 := blk_frozen BKg5.out 1; obtain ⟨Ao, co, eo⟩ := Kd.R_slice HO.out; subst eo))
 go_loopg [10] k (fun kq v10 w' => ∃ (x10_1 : Int) (xl : List Int) (u : Value), v10 = .int .i64 x10_1 ∧ Aside0 (impl_madeBits.l0 kq g a0 x10_1 t1 xl = some (r1, r2)) ∧ Aside0 (kq ≤ k) ∧ Aside0 (Kd.R (Kd.int .i64) 3 w' w.heap.size (fun _ => True) u xl) ∧ Aside0 (w'.heap[g4]? = some (.cells #[.int .i64 0, (.slice none 0 0)] 26 (0, 0))) ∧ Aside0 (w'.heap[g5]? = some (.cells #[.int .i64 t1, u] 26 (0, 0))) ∧ Aside0 (Below w.heap.size w w'))
 case atStart => exact ⟨(0), (t2), (.slice Ao t2.length co), sr_, H', ⟨Nat.le_refl _⟩, ⟨lt_ (mt_ (fr2_ HO.out BKg5.out (.int .i64 t1) (.slice Ao t2.length co)))⟩, ⟨lg_ BKg4⟩, ⟨lq_ BKg5⟩, ⟨lwH_ HB⟩⟩
 case round =>
  clear H'
  try clear hcz5_0
  try clear hcz5_1
  try clear hfz5_0
  try clear hfz5_1
  obtain ⟨x10_1, xl, u, rfl, HA, HK1, HO, BKg4, BKg5, HB⟩ := hrel
  cases gk with
  | zero => exact absurd HA.out (by simp [impl_madeBits.l0])
  | succ k1 =>
   have H := HA.out
   clear HA
   simp only [impl_madeBits.l0] at H
   by_cases c10 : x10_1 < a0
   ·rw [if_pos c10] at H
    have c10b0 : decide (x10_1 < a0) = true := decide_eq_true c10
    clear c10
    replace H := Option.bind_eq_some_iff.mp H
    obtain ⟨t3, A40, H⟩ := H
    replace H : ((impl_Bits_set.f t1 xl x10_1 t3).bind fun t2 => (impl_madeBits.l0 k1 g a0 (wrap64 (x10_1 + 1)) t1 t2)) = some (r1, r2) := H
    have A4 := amH_ A40
    clear A40
    replace H := Option.bind_eq_some_iff.mp H
    obtain ⟨t4, A50, H⟩ := H
    replace H : (impl_madeBits.l0 k1 g a0 (wrap64 (x10_1 + 1)) t1 t4) = some (r1, r2) := H
    have A5 := amH_ A50
    clear A50
    have H' := amH_ H
    clear H
    obtain ⟨Ao, co, eo⟩ := Kd.R_slice HO.out
    subst eo
    go_wp2_with (first | ((with_reducible refine gate_callvH_ (x := 14) rfl ?_); refine goesFH_ (some 16) rfl rfl HFN.out.1 HFN.out.2.1 HFN.out.2.2 (#[.int .i64 x10_1] ++ caps) rfl (by first | rfl | (go_simp; done) | (go_simp; rfl)) (by (try simp only [List.map_toArray, List.map_cons, List.map_nil]); rfl) ?_; (with_reducible refine (HF.out x10_1 t3 _ A4.out (lwH_ HB)).mono ?_); rintro e w4 ⟨rfl, hb⟩; refine ⟨_, rfl, ?_⟩; replace HO := amH_ (Kd.R_below (lfH_ HO) hb); replace BKg4 := amH_ (blk_below (lbH_ BKg4) hb); replace BKg5 := amH_ (blk_below (lbH_ BKg5) hb); replace HB := amH_ (below_step (lwH_ HB) hb); (try clear hb)) | ((with_reducible refine gate_callee (f := 76) rfl ?_); refine goesL_ (some 17) rfl rfl Try.func76 (by kernel_rfl) rfl #[.pointer (some ⟨g5, 0, none⟩), .int .i64 x10_1, .bool t3] rfl lmH_ ?_; (with_reducible refine (impl_Bits_set.calls g5 t1 (fun k_ => some k_ = (.slice Ao xl.length co : Value).ownBlock) (.slice Ao xl.length co) xl x10_1 t3 t4 w _ ?side1 ?side2 ?side3 A5.out).mono ?_); (case side1 => exact lw_ HB); (case side2 => exact lb_ BKg5); (case side3 => exact Kd.R_tight rfl HO.out); rintro e w5 ⟨rfl, hy0, hb, hkp⟩; refine ⟨_, rfl, ?_⟩; replace BKg4 := amH_ (blk_kept (lbH_ BKg4) hkp (fun hs_ => (fun e_ => (Kd.R_ne HO.out BKg4.out (by decide)) e_) hs_)); replace BKg5 := amH_ (blk_kept (lbH_ BKg5) hkp (fun hs_ => (fun e_ => (Kd.R_ne HO.out BKg5.out (by decide)) e_) hs_)); replace HO := amH_ (Kd.R_reok rfl hy0 (fun k_ e_ => HO.out.1 k_ e_)); replace HB := amH_ (hb); (try clear hb); (try clear hkp); (try clear hy0)))
    go_roundg k1
    case measure => have := HK1.out; omega
    case rel => exact ⟨(wrap64 (x10_1 + 1)), (t4), (.slice Ao xl.length co), sr_, H', ⟨by have := HK1.out; omega⟩, ⟨lfH_ HO⟩, ⟨lbH_ BKg4⟩, ⟨lbH_ BKg5⟩, ⟨lwH_ HB⟩⟩
   ·rw [if_neg c10] at H
    have c10b0 : decide (x10_1 < a0) = false := decide_eq_false c10
    clear c10
    simp only [Option.some.injEq, Prod.mk.injEq] at H
    obtain ⟨rfl, rfl⟩ := H
    have hnb16 := NBg5_g4.out
    have hnc16 := NBg4_g5.out
    have hcz7_0 : wr.cell? ⟨g5, 0, none⟩ = some (.int .i64 t1) := (blk_cell BKg5.out 0).trans rfl
    have hfz7_0 := blk_frozen BKg5.out 0
    have hcz7_1 : wr.cell? ⟨g5, 1, none⟩ = some (u) := (blk_cell BKg5.out 1).trans rfl
    have hfz7_1 := blk_frozen BKg5.out 1
    have hcz8_0 : wr.cell? ⟨g4, 0, none⟩ = some (.int .i64 0) := (blk_cell BKg4.out 0).trans rfl
    have hfz8_0 := blk_frozen BKg4.out 0
    have hcz8_1 : wr.cell? ⟨g4, 1, none⟩ = some (.slice none 0 0) := (blk_cell BKg4.out 1).trans rfl
    have hfz8_1 := blk_frozen BKg4.out 1
    obtain ⟨Ao, co, eo⟩ := Kd.R_slice HO.out
    subst eo
    go_wp2
    refine bodyPost_ret (results_cell_row rfl _ _ g4 26 #[.int .i64 t1, .slice Ao xl.length co] (0, 0) _ rfl (lq_ BKg4) Try.underlying26 rfl (by kernel_rfl)) rfl ?_
    exact ⟨_, rfl, lt_ (mt_ (fr2_ HO.out BKg4.out (.int .i64 t1) (.slice Ao xl.length co))), lwH_ HB⟩

/-! ### impl_joinBits: function 84 (by hand) -/
/-- What the closure of joinBits answers. -/
def impl_joinBits.of (a0_0 : Int) (l0_1 : List Int) (a1_0 : Int) (l1_1 : List Int) (i : Int) : Option Bool := if i < a0_0 then (impl_Bits_at.f a0_0 l0_1 i) else (impl_Bits_at.f a1_0 l1_1 (wrap64 (i - a0_0)))
def impl_joinBits.f (k : Nat) (a0_0 : Int) (l0_1 : List Int) (a1_0 : Int) (l1_1 : List Int) : Option (Int × List Int) := impl_madeBits.f k (wrap64 (a0_0 + a1_0)) (impl_joinBits.of a0_0 l0_1 a1_0 l1_1)
theorem impl_joinBits.mono : ∀ a0 a1 a2 a3 k, LeO (impl_joinBits.f k a0 a1 a2 a3) (impl_joinBits.f (k + 1) a0 a1 a2 a3) := by
 intro a0 a1 a2 a3 k
 unfold impl_joinBits.f
 exact impl_madeBits.mono _ _ _
set_option maxHeartbeats 8000000 in
set_option maxRecDepth 100000 in
theorem impl_joinBits.lit (ga gb : Nat) (a0_0 : Int) (A0_1 : Option Addr) (c0_1 : Nat) (l0_1 : List Int) (a1_0 : Int) (A1_1 : Option Addr) (c1_1 : Nat) (l1_1 : List Int) (i : Int) (r : Bool) (w : World) (hba : w.heap[ga]? = some (.cells #[.int .i64 a0_0, .slice A0_1 l0_1.length c0_1] 26 (0, 0))) (hbb : w.heap[gb]? = some (.cells #[.int .i64 a1_0, .slice A1_1 l1_1.length c1_1] 26 (0, 0))) (hr0 : Kd.C (Kd.int .i64) w A0_1 l0_1.length l0_1) (hc0 : l0_1.length ≤ c0_1) (hr1 : Kd.C (Kd.int .i64) w A1_1 l1_1.length l1_1) (hc1 : l1_1.length ≤ c1_1) (h : impl_joinBits.of a0_0 l0_1 a1_0 l1_1 i = some r) :
  Calls Try.prog 126 #[.int .i64 i, .pointer (some ⟨ga, 0, none⟩), .pointer (some ⟨gb, 0, none⟩)] w fun e w' => e = .returned (.bool r) ∧ Below w.heap.size w w' := by
 have HR0 := amH_ hr0
 have HC0 := amH_ hc0
 have HR1 := amH_ hr1
 have HC1 := amH_ hc1
 have BKga := amH_ hba
 have BKgb := amH_ hbb
 clear hr0 hc0 hr1 hc1 hba hbb
 have HB := amH_ (Below.refl w.heap.size w)
 have hcz0 : w.cell? ⟨ga, 0, none⟩ = some (.int .i64 a0_0) := (blk_cell BKga.out 0).trans rfl
 have hfz0 := blk_frozen BKga.out 0
 unfold impl_joinBits.of at h
 by_cases c : i < a0_0
 ·rw [if_pos c] at h
  have cb : decide (i < a0_0) = true := decide_eq_true c
  clear c
  have A1 := amH_ h
  clear h
  go_enter Try.func126, Try.ntmps126
  go_wp2_with (first | ((with_reducible refine gate_callee (f := 82) rfl ?_); refine goesL_ (some 10) rfl rfl Try.func82 (by kernel_rfl) rfl #[.pointer (some ⟨ga, 0, none⟩), .int .i64 i] rfl lmH_ ?_; (with_reducible refine (impl_Bits_at.calls ga [] 26 a0_0 A0_1 c0_1 l0_1 i r _ ?side1 ?side2 ?side3 A1.out).mono ?_); (case side1 => exact lb_ BKga); (case side2 => exact lc_ (Kd.C_below HR0.out HB.out)); (case side3 => exact HC0.out); rintro e w2 ⟨rfl, hb⟩; refine ⟨_, rfl, ?_⟩; replace HB := amH_ (below_step (lwH_ HB) hb); (try clear hb); (try clear ho0)))
  go_ret
  exact ⟨rfl, lwH_ HB⟩
 ·rw [if_neg c] at h
  have cb : decide (i < a0_0) = false := decide_eq_false c
  clear c
  have A1 := amH_ h
  clear h
  go_enter Try.func126, Try.ntmps126
  go_wp2_with (first | ((with_reducible refine gate_callee (f := 82) rfl ?_); refine goesL_ (some 15) rfl rfl Try.func82 (by kernel_rfl) rfl #[.pointer (some ⟨gb, 0, none⟩), .int .i64 (wrap64 (i - a0_0))] rfl lmH_ ?_; (with_reducible refine (impl_Bits_at.calls gb [] 26 a1_0 A1_1 c1_1 l1_1 (wrap64 (i - a0_0)) r _ ?side1 ?side2 ?side3 A1.out).mono ?_); (case side1 => exact lb_ BKgb); (case side2 => exact lc_ (Kd.C_below HR1.out HB.out)); (case side3 => exact HC1.out); rintro e w2 ⟨rfl, hb⟩; refine ⟨_, rfl, ?_⟩; replace HB := amH_ (below_step (lwH_ HB) hb); (try clear hb); (try clear ho0)))
  go_ret
  exact ⟨rfl, lwH_ HB⟩
set_option maxHeartbeats 8000000 in
set_option maxRecDepth 100000 in
theorem impl_joinBits.calls (k : Nat) (a0_0 : Int) (A0_1 : Option Addr) (c0_1 : Nat) (l0_1 : List Int) (a1_0 : Int) (A1_1 : Option Addr) (c1_1 : Nat) (l1_1 : List Int) (r1 : Int) (r2 : List Int) (w : World) (hr0_1 : Kd.C (Kd.int .i64) w A0_1 l0_1.length l0_1) (hc0_1 : l0_1.length ≤ c0_1) (hr1_1 : Kd.C (Kd.int .i64) w A1_1 l1_1.length l1_1) (hc1_1 : l1_1.length ≤ c1_1) (h : impl_joinBits.f k a0_0 l0_1 a1_0 l1_1 = some (r1, r2)) :
  Calls Try.prog 84 #[.agg #[.int .i64 a0_0, .slice A0_1 l0_1.length c0_1], .agg #[.int .i64 a1_0, .slice A1_1 l1_1.length c1_1]] w fun e w' => ∃ v1_ : Value, e = .returned (.agg #[.int .i64 r1, v1_]) ∧ Kd.R (Kd.int .i64) 3 w' w.heap.size (fun _ => True) v1_ r2 ∧ Below w.heap.size w w' := by
 have hu26 := Try.underlying26
 have hmf : ∀ (fn : Fn) (first cap : Array Value) (w : World), (Instr.makeFunc fn first cap).run Try.prog w = .ok (.func fn first cap) w := fun _ _ _ _ => rfl
 have HR0 := amH_ hr0_1
 have HC0 := amH_ hc0_1
 have HR1 := amH_ hr1_1
 have HC1 := amH_ hc1_1
 clear hr0_1 hc0_1 hr1_1 hc1_1
 have HB := amH_ (Below.refl w.heap.size w)
 have H : (impl_madeBits.f k (wrap64 (a0_0 + a1_0)) (impl_joinBits.of a0_0 l0_1 a1_0 l1_1)) = some (r1, r2) := h
 clear h
 have A1 := amH_ H
 clear H
 go_enter Try.func84, Try.ntmps84
 go_wp2_with (first | ((with_reducible refine gate_dst (N := 2) rfl ?_); refine bev_ 2 #[.int .i64 a0_0, .slice A0_1 l0_1.length c0_1] 26 rfl rfl ?_; intro g2 hg w1 hbox hb; have BKg2 := amH_ (hbox); have GEg2 := amH_ ((by rw [hg]; exact (below_size (lwH_ HB)) : w.heap.size ≤ g2)); replace HB := amH_ (below_step (lwH_ HB) hb); clear hb hbox hg) | ((with_reducible refine gate_dst (N := 3) rfl ?_); refine bev_ 3 #[.int .i64 a1_0, .slice A1_1 l1_1.length c1_1] 26 rfl rfl ?_; intro g3 hg w2 hbox hb; have BKg3 := amH_ (hbox); have GEg3 := amH_ ((by rw [hg]; exact (below_size (lwH_ HB)) : w.heap.size ≤ g3)); have NBg2_g3 := amH_ ((by rw [hg]; exact Nat.ne_of_lt (blk_lt (g := g2) (lbH_ BKg2)) : g2 ≠ g3)); have NBg3_g2 := amH_ ((by rw [hg]; exact Nat.ne_of_gt (blk_lt (g := g2) (lbH_ BKg2)) : g3 ≠ g2)); replace BKg2 := amH_ (blk_below (lbH_ BKg2) hb); replace HB := amH_ (below_step (lwH_ HB) hb); clear hb hbox hg) | ((with_reducible refine gate_dst (N := 4) rfl ?_); refine bev_ 4 #[.int .i64 0, .slice none 0 0] 26 rfl rfl ?_; intro g4 hg w3 hbox hb; have BKg4 := amH_ (hbox); have GEg4 := amH_ ((by rw [hg]; exact (below_size (lwH_ HB)) : w.heap.size ≤ g4)); have NBg2_g4 := amH_ ((by rw [hg]; exact Nat.ne_of_lt (blk_lt (g := g2) (lbH_ BKg2)) : g2 ≠ g4)); have NBg4_g2 := amH_ ((by rw [hg]; exact Nat.ne_of_gt (blk_lt (g := g2) (lbH_ BKg2)) : g4 ≠ g2)); have NBg3_g4 := amH_ ((by rw [hg]; exact Nat.ne_of_lt (blk_lt (g := g3) (lbH_ BKg3)) : g3 ≠ g4)); have NBg4_g3 := amH_ ((by rw [hg]; exact Nat.ne_of_gt (blk_lt (g := g3) (lbH_ BKg3)) : g4 ≠ g3)); replace BKg2 := amH_ (blk_below (lbH_ BKg2) hb); replace BKg3 := amH_ (blk_below (lbH_ BKg3) hb); replace HB := amH_ (below_step (lwH_ HB) hb); clear hb hbox hg; have hcz2_0 : w3.cell? ⟨g2, 0, none⟩ = some (.int .i64 a0_0) := (blk_cell BKg2.out 0).trans rfl; have hfz2_0 := blk_frozen BKg2.out 0; have hcz3_0 : w3.cell? ⟨g3, 0, none⟩ = some (.int .i64 a1_0) := (blk_cell BKg3.out 0).trans rfl; have hfz3_0 := blk_frozen BKg3.out 0) | ((with_reducible refine gate_callee (f := 80) rfl ?_); refine goesL_ (some 11) rfl rfl Try.func80 (by kernel_rfl) rfl #[.int .i64 (wrap64 (a0_0 + a1_0)), .func (.func 126) #[] #[.pointer (some ⟨g2, 0, none⟩), .pointer (some ⟨g3, 0, none⟩)]] rfl lmH_ ?_; (with_reducible refine (impl_madeBits.calls k 126 Try.f126 #[.pointer (some ⟨g2, 0, none⟩), .pointer (some ⟨g3, 0, none⟩)] Try.func126 (by kernel_rfl) (by kernel_rfl) (wrap64 (a0_0 + a1_0)) (impl_joinBits.of a0_0 l0_1 a1_0 l1_1) r1 r2 _ ?side1 A1.out).mono ?_); (case side1 => intro i_ b_ w_ hg_ hb_; exact impl_joinBits.lit g2 g3 a0_0 A0_1 c0_1 l0_1 a1_0 A1_1 c1_1 l1_1 i_ b_ w_ (blk_below (lbH_ BKg2) hb_) (blk_below (lbH_ BKg3) hb_) (Kd.C_below (Kd.C_below HR0.out (lwH_ HB)) hb_) HC0.out (Kd.C_below (Kd.C_below HR1.out (lwH_ HB)) hb_) HC1.out hg_); rintro e w4 ⟨v11, rfl, ho0, hb⟩; refine ⟨_, rfl, ?_⟩; have HO := amH_ (Kd.R_lower ho0 (below_size (lwH_ HB))); replace BKg2 := amH_ (blk_below (lbH_ BKg2) hb); replace BKg3 := amH_ (blk_below (lbH_ BKg3) hb); replace BKg4 := amH_ (blk_below (lbH_ BKg4) hb); replace HB := amH_ (below_step (lwH_ HB) hb); (try clear hb); (try clear ho0); have hn0g4g3 := NBg4_g3.out; have hn1g3g4 := NBg3_g4.out; have hn2g4g2 := NBg4_g2.out; have hn3g2g4 := NBg2_g4.out; have hcz4_0 : w4.cell? ⟨g4, 0, none⟩ = some (.int .i64 0) := (blk_cell BKg4.out 0).trans rfl; have hfz4_0 := blk_frozen BKg4.out 0; have hcz4_1 : w4.cell? ⟨g4, 1, none⟩ = some (.slice none 0 0) := (blk_cell BKg4.out 1).trans rfl; have hfz4_1 := blk_frozen BKg4.out 1; obtain ⟨Ao, co, eo⟩ := Kd.R_slice HO.out; subst eo))
 refine bodyPost_ret (results_cell_row rfl _ _ g4 26 #[.int .i64 r1, .slice Ao r2.length co] (0, 0) _ rfl (lq_ BKg4) Try.underlying26 rfl (by kernel_rfl)) rfl ?_
 exact ⟨_, rfl, lt_ (mt_ (fr2_ HO.out BKg4.out (.int .i64 r1) (.slice Ao r2.length co))), lwH_ HB⟩

/-! ### impl_Bits_setField: function 89 -/
def impl_Bits_setField.l0 : Nat → Int → Int → Int → Int → Int → List Int → Option (List Int)
 | 0, _, _, _, _, _, _ => none
 | k + 1, x1, x3, x9, x10, x1000, x1001 => if x10 < x9 then (if 0 ≤ x10 then ((impl_Bits_set.f x1000 x1001 (wrap64 (x1 + x10)) ((Go.bits .and .i64 (shr .i64 x3 x10) 1) == 1)).bind fun t262 => (impl_Bits_setField.l0 k x1 x3 x9 (wrap64 (x10 + 1)) x1000 t262)) else (none)) else (some x1001)
def impl_Bits_setField.f (k : Nat) (a0_0 : Int) (l0_1 : List Int) (a1 : Int) (a2 : Int) (a3 : Int) : Option (List Int) := impl_Bits_setField.l0 k a1 a3 a2 0 a0_0 l0_1
theorem impl_Bits_setField.mono_l : ∀ k, (∀ y0 y1 y2 y3 y4 y5, LeO (impl_Bits_setField.l0 k y0 y1 y2 y3 y4 y5) (impl_Bits_setField.l0 (k + 1) y0 y1 y2 y3 y4 y5))
 | 0 => fun _ _ _ _ _ _ r h => by simp [impl_Bits_setField.l0] at h
 | k + 1 => by
  have ih0 := impl_Bits_setField.mono_l k
  ·intro y0 y1 y2 y3 y4 y5
   unfold impl_Bits_setField.l0
   repeat' first
   | (with_reducible exact ih0 _ _ _ _ _ _)
   | (with_reducible exact LeO.refl _)
   | (with_reducible exact LeO.none _)
   | (with_reducible refine LeO.ite ?_ ?_)
   | (with_reducible refine LeO.bind ?_ (fun _ => ?_))
   | exact ih0 _ _ _ _ _ _
   | exact LeO.none _
   | refine LeO.ite ?_ ?_
   | refine LeO.bind ?_ (fun _ => ?_)
theorem impl_Bits_setField.mono : ∀ a0 a1 a2 a3 a4 k, LeO (impl_Bits_setField.f k a0 a1 a2 a3 a4) (impl_Bits_setField.f (k + 1) a0 a1 a2 a3 a4) := by
 intro a0 a1 a2 a3 a4 k
 have ih0 := impl_Bits_setField.mono_l k
 unfold impl_Bits_setField.f
 repeat' first
   | (with_reducible exact ih0 _ _ _ _ _ _)
   | (with_reducible exact LeO.refl _)
   | (with_reducible exact LeO.none _)
   | (with_reducible refine LeO.ite ?_ ?_)
   | (with_reducible refine LeO.bind ?_ (fun _ => ?_))
   | exact ih0 _ _ _ _ _ _
   | exact LeO.none _
   | refine LeO.ite ?_ ?_
   | refine LeO.bind ?_ (fun _ => ?_)
set_option maxHeartbeats 8000000 in
set_option maxRecDepth 100000 in
theorem impl_Bits_setField.calls (k : Nat) (g0 : Nat) (a0_0 : Int) (P0_1_ : Nat → Prop) (u9000_ : Value) (l0_1 : List Int) (a1 : Int) (a2 : Int) (a3 : Int) (r : List Int) (w0 w : World) (hB : Below w0.heap.size w0 w) (hb0 : w.heap[g0]? = some (.cells #[.int .i64 a0_0, u9000_] 26 (0, 0))) (ho0_1 : Kd.R (Kd.int .i64) 3 w w0.heap.size P0_1_ u9000_ l0_1) (h : impl_Bits_setField.f k a0_0 l0_1 a1 a2 a3 = some r) :
  Calls Try.prog 89 #[.pointer (some ⟨g0, 0, none⟩), .int .i64 a1, .int .i64 a2, .int .i64 a3] w fun e w' => e = .returned (.tuple #[]) ∧ Kd.R (Kd.int .i64) 3 w' w0.heap.size (fun k_ => (P0_1_ k_ ∨ w.heap.size ≤ k_)) u9000_ r ∧ Below w0.heap.size w0 w' ∧ Kept w w' (fun k_ => P0_1_ k_) := by
 have HO0_1 := am_ (show Kd.R (Kd.int .i64) 3 w w0.heap.size (fun k_ => (P0_1_ k_ ∨ w.heap.size ≤ k_)) u9000_ l0_1 from Kd.R_mono ho0_1 (fun k_ hk => (.inl hk)))
 have BK0 := am_ hb0
 clear hb0
 have HK := am_ (Kept.refl w (fun k_ => P0_1_ k_))
 have HW0 := am_ hB.size
 have HB := am_ hB
 clear hB
 have H : (impl_Bits_setField.l0 k a1 a3 a2 0 a0_0 l0_1) = some r := h
 clear h
 have H' := am_ H
 clear H
 go_enter Try.func89, Try.ntmps89
 go_wp2
 go_loopg [10] k (fun kq v10 w' => ∃ (x10_1 : Int) (x1000_1 : Int) (x1001_1 : List Int), v10 = .int .i64 x10_1 ∧ Aside0 (impl_Bits_setField.l0 kq a1 a3 a2 x10_1 x1000_1 x1001_1 = some r) ∧ Aside0 (kq ≤ k) ∧ Aside0 (Kd.R (Kd.int .i64) 3 w' w0.heap.size (fun k_ => (P0_1_ k_ ∨ w.heap.size ≤ k_)) u9000_ x1001_1) ∧ Aside0 (w'.heap[g0]? = some (.cells #[.int .i64 x1000_1, u9000_] 26 (0, 0))) ∧ Aside0 (Kept w w' (fun k_ => P0_1_ k_)) ∧ Aside0 (Below w0.heap.size w0 w'))
 case atStart => exact ⟨(0), (a0_0), (l0_1), sr_, H', ⟨Nat.le_refl _⟩, ⟨lf_ HO0_1⟩, ⟨lb_ BK0⟩, ⟨lp_ HK⟩, ⟨lw_ HB⟩⟩
 case round =>
  clear H'
  try clear p2
  obtain ⟨x10_1, x1000_1, x1001_1, rfl, HA, HK1, HO_1001, BK0, HK, HB⟩ := hrel
  cases gk with
  | zero => exact absurd HA.out (by simp [impl_Bits_setField.l0])
  | succ k1 =>
   have H := HA.out
   clear HA
   simp only [impl_Bits_setField.l0] at H
   by_cases c5 : x10_1 < a2
   ·rw [if_pos c5] at H
    have c5b0 : decide (x10_1 < a2) = true := decide_eq_true c5
    clear c5
    by_cases c6 : 0 ≤ x10_1
    ·rw [if_pos c6] at H
     have c6b0 := eq_true c6
     have c6b1 : decide (0 ≤ x10_1) = true := decide_eq_true c6
     clear c6
     obtain ⟨ji7, hji7⟩ : ∃ j_ : Int, (shr .i64 a3 x10_1) = j_ := ⟨_, rfl⟩
     replace H : ((impl_Bits_set.f x1000_1 x1001_1 (wrap64 (a1 + x10_1)) ((Go.bits .and .i64 (ji7) 1) == 1)).bind fun t262 => (impl_Bits_setField.l0 k1 a1 a3 a2 (wrap64 (x10_1 + 1)) x1000_1 t262)) = some r := by first | (rw [hji7] at H; exact H) | (simp only [hji7] at H ⊢; exact H)
     have hji7_ : (a3 / 2 ^ min x10_1.toNat 64) = ji7 := hji7
     have hji7z : x10_1 ≤ 64 → (a3 / 2 ^ x10_1.toNat) = ji7 := shr_small hji7
     replace H := Option.bind_eq_some_iff.mp H
     obtain ⟨t262, A80, H⟩ := H
     replace H : (impl_Bits_setField.l0 k1 a1 a3 a2 (wrap64 (x10_1 + 1)) x1000_1 t262) = some r := H
     have A8 := am_ A80
     clear A80
     have H' := am_ H
     clear H
     obtain ⟨Ao9, co9, eo9⟩ := Kd.R_slice HO_1001.out
     subst eo9
     go_wp2_with (first | ((with_reducible refine gate_callee (f := 76) rfl ?_); refine goesL_ (some 22) rfl rfl Try.func76 (by kernel_rfl) rfl #[.pointer (some ⟨g0, 0, none⟩), .int .i64 (wrap64 (a1 + x10_1)), .bool ((Go.bits .and .i64 (ji7) 1) == 1)] rfl (by (try simp only [List.map_toArray, List.map_cons, List.map_nil]); first | done | (simp only [hji7]; rfl) | rfl | (simp only [List.length_drop, List.length_take]; rfl)) ?_; (with_reducible refine (impl_Bits_set.calls g0 x1000_1 (fun k_ => some k_ = (.slice Ao9 x1001_1.length co9 : Value).ownBlock) (.slice Ao9 x1001_1.length co9) x1001_1 (wrap64 (a1 + x10_1)) ((Go.bits .and .i64 (ji7) 1) == 1) t262 w0 _ ?side1 ?side2 ?side3 A8.out).mono ?_); (case side1 => exact lw_ HB); (case side2 => exact lb_ BK0); (case side3 => exact Kd.R_tight rfl HO_1001.out); rintro e w10 ⟨rfl, hy0, hb, hkp⟩; refine ⟨_, rfl, ?_⟩; replace BK0 := am_ (blk_kept (lb_ BK0) hkp (fun hs_ => (fun e_ => (Kd.R_ne HO_1001.out BK0.out (by decide)) e_) hs_)); replace HK := am_ (Kept.then_ (S := (fun k_ => P0_1_ k_)) (lp_ HK) hkp (fun k_ hs_ => (fun e_ => (HO_1001.out.1 k_ e_.symm)) hs_)); replace HO_1001 := am_ (Kd.R_reok rfl hy0 (fun k_ e_ => HO_1001.out.1 k_ e_)); replace HB := am_ (hb); (try clear hb); (try clear hkp); (try clear hy0)))
     go_roundg k1
     case measure => have := HK1.out; omega
     case rel => exact ⟨(wrap64 (x10_1 + 1)), (x1000_1), (t262), sr_, H', ⟨by have := HK1.out; omega⟩, ⟨lf_ HO_1001⟩, ⟨lb_ BK0⟩, ⟨lp_ HK⟩, ⟨lw_ HB⟩⟩
    ·rw [if_neg c6] at H
     exact absurd H (by simp)
   ·rw [if_neg c5] at H
    have c5b0 : decide (x10_1 < a2) = false := decide_eq_false c5
    clear c5
    obtain rfl := Option.some.inj H
    go_wp2
    first | go_end0 | ((try simp only [Exit.inBlock, Exit.then]); refine bodyPost_ret (results_none rfl _ _ _) rfl ?_)
    exact ⟨er_, lf_ HO_1001, lw_ HB, lp_ HK⟩

/-! ### impl_fields: function 131 -/
def impl_fields.l0 : Nat → Int → List Int → Int → Int → Int → List Int → Option (Int × List Int)
 | 0, _, _, _, _, _, _ => none
 | k + 1, x1, x13, x14, x15, x269000, x269001 => if x15 < x14 then (if 0 ≤ x15 then (if x15 < (x13.length : Int) then ((impl_Bits_setField.f k x269000 x269001 (wrap64 (x15 * x1)) x1 (rd x13 x15)).bind fun t270 => (impl_fields.l0 k x1 x13 x14 (wrap64 (x15 + 1)) x269000 t270)) else (none)) else (none)) else (some (x269000, x269001))
def impl_fields.f (k : Nat) (l0 : List Int) (a1 : Int) : Option (Int × List Int) := (impl_blank.f (wrap64 ((l0.length : Int) * a1))).bind fun bt264 => (impl_fields.l0 k a1 l0 (l0.length : Int) 0 bt264.1 bt264.2)
theorem impl_fields.mono_l : ∀ k, (∀ y0 y1 y2 y3 y4 y5, LeO (impl_fields.l0 k y0 y1 y2 y3 y4 y5) (impl_fields.l0 (k + 1) y0 y1 y2 y3 y4 y5))
 | 0 => fun _ _ _ _ _ _ r h => by simp [impl_fields.l0] at h
 | k + 1 => by
  have ih0 := impl_fields.mono_l k
  ·intro y0 y1 y2 y3 y4 y5
   unfold impl_fields.l0
   repeat' first
   | (with_reducible exact ih0 _ _ _ _ _ _)
   | (with_reducible exact impl_Bits_setField.mono _ _ _ _ _ _)
   | (with_reducible exact LeO.refl _)
   | (with_reducible exact LeO.none _)
   | (with_reducible refine LeO.ite ?_ ?_)
   | (with_reducible refine LeO.bind ?_ (fun _ => ?_))
   | exact ih0 _ _ _ _ _ _
   | exact impl_Bits_setField.mono _ _ _ _ _ _
   | exact LeO.none _
   | refine LeO.ite ?_ ?_
   | refine LeO.bind ?_ (fun _ => ?_)
theorem impl_fields.mono : ∀ a0 a1 k, LeO (impl_fields.f k a0 a1) (impl_fields.f (k + 1) a0 a1) := by
 intro a0 a1 k
 have ih0 := impl_fields.mono_l k
 unfold impl_fields.f
 repeat' first
   | (with_reducible exact ih0 _ _ _ _ _ _)
   | (with_reducible exact impl_Bits_setField.mono _ _ _ _ _ _)
   | (with_reducible exact LeO.refl _)
   | (with_reducible exact LeO.none _)
   | (with_reducible refine LeO.ite ?_ ?_)
   | (with_reducible refine LeO.bind ?_ (fun _ => ?_))
   | exact ih0 _ _ _ _ _ _
   | exact impl_Bits_setField.mono _ _ _ _ _ _
   | exact LeO.none _
   | refine LeO.ite ?_ ?_
   | refine LeO.bind ?_ (fun _ => ?_)
set_option maxHeartbeats 8000000 in
set_option maxRecDepth 100000 in
theorem impl_fields.calls (k : Nat) (A0 : Option Addr) (c0 : Nat) (l0 : List Int) (a1 : Int) (r1 : Int) (r2 : List Int) (w : World) (hr0 : Kd.C (Kd.int .i64) w A0 l0.length l0) (hc0 : l0.length ≤ c0) (h : impl_fields.f k l0 a1 = some (r1, r2)) :
  Calls Try.prog 131 #[.slice A0 l0.length c0, .int .i64 a1] w fun e w' => ∃ v1_ : Value, e = .returned (.agg #[.int .i64 r1, v1_]) ∧ Kd.R (Kd.int .i64) 3 w' w.heap.size (fun _ => True) v1_ r2 ∧ Below w.heap.size w w' := by
 have hu26 := Try.underlying26
 have HR0 := am_ hr0
 have HC0 := am_ hc0
 clear hr0 hc0
 have HB := am_ (Below.refl w.heap.size w)
 have H : ((impl_blank.f (wrap64 ((l0.length : Int) * a1))).bind fun bt264 => (impl_fields.l0 k a1 l0 (l0.length : Int) 0 bt264.1 bt264.2)) = some (r1, r2) := h
 clear h
 replace H := Option.bind_eq_some_iff.mp H
 obtain ⟨⟨t264, t265⟩, A30, H⟩ := H
 replace H : (impl_fields.l0 k a1 l0 (l0.length : Int) 0 t264 t265) = some (r1, r2) := H
 have A3 := am_ A30
 clear A30
 have H' := am_ H
 clear H
 go_enter Try.func131, Try.ntmps131
 go_wp2_with (first | ((with_reducible refine gate_dst (N := 4) rfl ?_); refine bev_ 4 #[.int .i64 0, .slice none 0 0] 26 rfl rfl ?_; intro gb263 hg w4 hbox hb; have BK263 := am_ (hbox); have GW263 := am_ ((by rw [hg]; exact (below_size (lw_ HB)) : w.heap.size ≤ gb263)); have GE263 := am_ ((by rw [hg]; exact (below_size (lw_ HB)) : w.heap.size ≤ gb263)); replace HB := am_ (below_step (lw_ HB) hb); clear hb hbox hg) | ((with_reducible refine gate_callee (f := 92) rfl ?_); refine goesL_ (some 12) rfl rfl Try.func92 (by kernel_rfl) rfl #[.int .i64 (wrap64 ((l0.length : Int) * a1))] rfl lm_ ?_; (with_reducible refine (impl_blank.calls (wrap64 ((l0.length : Int) * a1)) t264 t265 _ A3.out).mono ?_); rintro e w5 ⟨v266, rfl, ho0, hb⟩; refine ⟨_, rfl, ?_⟩; have HO267 := am_ (Kd.R_lower ho0 (below_size (lw_ HB))); replace BK263 := am_ (blk_below (g := gb263) (lb_ BK263) hb); replace HB := am_ (below_step (lw_ HB) hb); (try clear hb); (try clear hb2); (try clear hk); (try clear hi); (try clear ho0)) | ((with_reducible refine gate_dst (N := 5) rfl ?_); refine bev_ 5 #[.int .i64 0, .slice none 0 0] 26 rfl rfl ?_; intro gb268 hg w6 hbox hb; have BK268 := am_ (hbox); have GW268 := am_ ((by rw [hg]; exact (below_size (lw_ HB)) : w.heap.size ≤ gb268)); have GE268 := am_ ((by rw [hg]; exact (below_size (lw_ HB)) : w.heap.size ≤ gb268)); have NB263_268 := am_ ((by rw [hg]; exact Nat.ne_of_lt (blk_lt (g := gb263) (lb_ BK263)) : gb263 ≠ gb268)); have NB268_263 := am_ ((by rw [hg]; exact Nat.ne_of_gt (blk_lt (g := gb263) (lb_ BK263)) : gb268 ≠ gb263)); replace HO267 := am_ (Kd.R_below (lf_ HO267) hb); replace BK263 := am_ (blk_below (g := gb263) (lb_ BK263) hb); replace HB := am_ (below_step (lw_ HB) hb); clear hb hbox hg; have hnb7 := NB268_263.out; have hnc7 := NB263_268.out; obtain ⟨hcz8_0, hcz8_1, hfz8_0, hfz8_1⟩ := bx2_ BK268.out; obtain ⟨Ao9, co9, eo9⟩ := Kd.R_slice HO267.out; subst eo9))
 go_loopg [15] k (fun kq v15 w' => ∃ (x15_1 : Int) (x269001_1 : List Int) (u269001 : Value), v15 = .int .i64 x15_1 ∧ Aside0 (impl_fields.l0 kq a1 l0 (l0.length : Int) x15_1 t264 x269001_1 = some (r1, r2)) ∧ Aside0 (kq ≤ k) ∧ Aside0 (Kd.R (Kd.int .i64) 3 w' w.heap.size (fun _ => True) u269001 x269001_1) ∧ Aside0 (w'.heap[gb263]? = some (.cells #[.int .i64 0, (.slice none 0 0)] 26 (0, 0))) ∧ Aside0 (w'.heap[gb268]? = some (.cells #[.int .i64 t264, u269001] 26 (0, 0))) ∧ Aside0 (Below w.heap.size w w'))
 case atStart => exact ⟨(0), (t265), (.slice Ao9 t265.length co9), sr_, H', ⟨Nat.le_refl _⟩, ⟨lt_ (mt_ (fr2_ HO267.out BK268.out (.int .i64 t264) (.slice Ao9 t265.length co9)))⟩, ⟨lg_ BK263⟩, ⟨lq_ BK268⟩, ⟨lw_ HB⟩⟩
 case round =>
  clear H'
  try clear c1
  try clear p2
  try clear p6
  try clear c7
  try clear c9
  try clear hcz8_0
  try clear hcz8_1
  try clear hfz8_0
  try clear hfz8_1
  obtain ⟨x15_1, x269001_1, u269001, rfl, HA, HK1, HO_269001, BK263, BK268, HB⟩ := hrel
  cases gk with
  | zero => exact absurd HA.out (by simp [impl_fields.l0])
  | succ k1 =>
   have H := HA.out
   clear HA
   simp only [impl_fields.l0] at H
   by_cases c10 : x15_1 < (l0.length : Int)
   ·rw [if_pos c10] at H
    have c10b0 : decide (x15_1 < (l0.length : Int)) = true := decide_eq_true c10
    clear c10
    by_cases c11 : 0 ≤ x15_1
    ·rw [if_pos c11] at H
     have c11b0 : decide (0 ≤ x15_1) = true := decide_eq_true c11
     clear c11
     by_cases c12 : x15_1 < (l0.length : Int)
     ·rw [if_pos c12] at H
      have c12b0 : decide (x15_1 < (l0.length : Int)) = true := decide_eq_true c12
      clear c12
      replace H := Option.bind_eq_some_iff.mp H
      obtain ⟨t270, A130, H⟩ := H
      replace H : (impl_fields.l0 k1 a1 l0 (l0.length : Int) (wrap64 (x15_1 + 1)) t264 t270) = some (r1, r2) := H
      have A13 := am_ A130
      clear A130
      have H' := am_ H
      clear H
      have p269 : 0 ≤ (x15_1 : Int) := of_decide_eq_true (by first | (with_reducible assumption) | assumption)
      have q269 : x15_1 < (l0.length : Int) := of_decide_eq_true (by first | (with_reducible assumption) | assumption)
      obtain ⟨ad269, e269, hx269_0⟩ := Kd.at_int HR0.out x15_1 p269 q269
      cases e269
      replace hx269_0 := (HB.out.cell (World.block_lt_of_cell? w _ hx269_0)).trans hx269_0
      replace p269 := eq_true p269
      replace q269 := eq_true q269
      obtain ⟨Ao14, co14, eo14⟩ := Kd.R_slice HO_269001.out
      subst eo14
      go_wp2_with (first | ((with_reducible refine gate_callee (f := 89) rfl ?_); refine goesL_ (some 25) rfl rfl Try.func89 (by kernel_rfl) rfl #[.pointer (some ⟨gb268, 0, none⟩), .int .i64 (wrap64 (x15_1 * a1)), .int .i64 a1, .int .i64 (rd l0 x15_1)] rfl lm_ ?_; (with_reducible refine (impl_Bits_setField.calls k1 gb268 t264 (fun k_ => some k_ = (.slice Ao14 x269001_1.length co14 : Value).ownBlock) (.slice Ao14 x269001_1.length co14) x269001_1 (wrap64 (x15_1 * a1)) a1 (rd l0 x15_1) t270 w _ ?side1 ?side2 ?side3 A13.out).mono ?_); (case side1 => exact lw_ HB); (case side2 => exact lb_ BK268); (case side3 => exact Kd.R_tight rfl HO_269001.out); rintro e w15 ⟨rfl, hy0, hb, hkp⟩; refine ⟨_, rfl, ?_⟩; replace BK263 := am_ (blk_kept (lb_ BK263) hkp (fun hs_ => (fun e_ => (Kd.R_ne HO_269001.out BK263.out (by decide)) e_) hs_)); replace BK268 := am_ (blk_kept (lb_ BK268) hkp (fun hs_ => (fun e_ => (Kd.R_ne HO_269001.out BK268.out (by decide)) e_) hs_)); replace HO_269001 := am_ (Kd.R_reok rfl hy0 (fun k_ e_ => HO_269001.out.1 k_ e_)); replace HB := am_ (hb); (try clear hb); (try clear hkp); (try clear hy0)))
      go_roundg k1
      case measure => have := HK1.out; omega
      case rel => exact ⟨(wrap64 (x15_1 + 1)), (t270), (.slice Ao14 x269001_1.length co14), sr_, H', ⟨by have := HK1.out; omega⟩, ⟨lf_ HO_269001⟩, ⟨lb_ BK263⟩, ⟨lb_ BK268⟩, ⟨lw_ HB⟩⟩
     ·rw [if_neg c12] at H
      exact absurd H (by simp)
    ·rw [if_neg c11] at H
     exact absurd H (by simp)
   ·rw [if_neg c10] at H
    have c10b0 : decide (x15_1 < (l0.length : Int)) = false := decide_eq_false c10
    clear c10
    simp only [Option.some.injEq, Prod.mk.injEq] at H
    obtain ⟨rfl, rfl⟩ := H
    have hnb16 := NB268_263.out
    have hnc16 := NB263_268.out
    obtain ⟨hcz17_0, hcz17_1, hfz17_0, hfz17_1⟩ := bx2_ BK268.out
    obtain ⟨hcz18_0, hcz18_1, hfz18_0, hfz18_1⟩ := bx2_ BK263.out
    obtain ⟨Ao19, co19, eo19⟩ := Kd.R_slice HO_269001.out
    subst eo19
    go_wp2
    refine bodyPost_ret (results_cell_row rfl _ _ gb263 26 #[.int .i64 t264, .slice Ao19 x269001_1.length co19] (0, 0) _ rfl (lq_ BK263) Try.underlying26 rfl (by kernel_rfl)) rfl ?_
    exact ⟨_, er_, lt_ (mt_ (fr2_ HO_269001.out BK263.out (.int .i64 t264) (.slice Ao19 x269001_1.length co19))), lw_ HB⟩

end Go.Proofs.Ytkmhjgejficclaa.PFnDirectoriesArePacked
