-- Laid by a program of this session: the print of the kit with additions of ours (wip/tools/patchprint.py). Nothing of it is trusted: Lean checks it.
import Derived.Test.YtkmhjgejficclaaPFnRanksJoinx0
import Derived.Test.YtkmhjgejficclaaPFnRanksJoinx5
import Derived.Test.YtkmhjgejficclaaPFnRanksJoinx6
namespace Go.Proofs.Ytkmhjgejficclaa.PFnRanksJoin
open Go.RowKit Go.Proofs.YtkmhjgejficclaaW.PrintWords Go.Proofs.YtkmhjgejficclaaW.PrintLast Go.Proofs.YtkmhjgejficclaaW.PrintMore
attribute [local go_sem] max2_int min2_int max_two min_two max_three min_three max_four min_four   -- for this text's walks alone
set_option linter.unusedVariables false
set_option linter.unusedSimpArgs false

/-! ### slices_Equal_int_int: function 109 -/
def slices_Equal_int_int.l0 : Nat → List Int → List Int → Int → Int → Option (Bool)
 | 0, _, _, _, _ => none
 | k + 1, x0, x1, x12, x13 => if x13 < x12 then (if 0 ≤ x13 then (if x13 < (x0.length : Int) then (if x13 < (x1.length : Int) then (if (rd x0 x13) = (rd x1 x13) then (slices_Equal_int_int.l0 k x0 x1 x12 (wrap64 (x13 + 1))) else (some false)) else (none)) else (none)) else (none)) else (some true)
def slices_Equal_int_int.f (k : Nat) (l0 : List Int) (l1 : List Int) : Option (Bool) := if (l0.length : Int) = (l1.length : Int) then (slices_Equal_int_int.l0 k l0 l1 (l0.length : Int) 0) else (some false)
theorem slices_Equal_int_int.mono_l : ∀ k, (∀ y0 y1 y2 y3, LeO (slices_Equal_int_int.l0 k y0 y1 y2 y3) (slices_Equal_int_int.l0 (k + 1) y0 y1 y2 y3))
 | 0 => fun _ _ _ _ r h => by simp [slices_Equal_int_int.l0] at h
 | k + 1 => by
  have ih0 := slices_Equal_int_int.mono_l k
  ·intro y0 y1 y2 y3
   unfold slices_Equal_int_int.l0
   repeat' first
   | (with_reducible exact ih0 _ _ _ _)
   | (with_reducible exact LeO.refl _)
   | (with_reducible exact LeO.none _)
   | (with_reducible refine LeO.ite ?_ ?_)
   | (with_reducible refine LeO.bind ?_ (fun _ => ?_))
   | exact ih0 _ _ _ _
   | exact LeO.none _
   | refine LeO.ite ?_ ?_
   | refine LeO.bind ?_ (fun _ => ?_)
theorem slices_Equal_int_int.mono : ∀ a0 a1 k, LeO (slices_Equal_int_int.f k a0 a1) (slices_Equal_int_int.f (k + 1) a0 a1) := by
 intro a0 a1 k
 have ih0 := slices_Equal_int_int.mono_l k
 unfold slices_Equal_int_int.f
 repeat' first
   | (with_reducible exact ih0 _ _ _ _)
   | (with_reducible exact LeO.refl _)
   | (with_reducible exact LeO.none _)
   | (with_reducible refine LeO.ite ?_ ?_)
   | (with_reducible refine LeO.bind ?_ (fun _ => ?_))
   | exact ih0 _ _ _ _
   | exact LeO.none _
   | refine LeO.ite ?_ ?_
   | refine LeO.bind ?_ (fun _ => ?_)
set_option maxHeartbeats 8000000 in
set_option maxRecDepth 100000 in
theorem slices_Equal_int_int.calls (k : Nat) (A0 : Option Addr) (c0 : Nat) (l0 : List Int) (A1 : Option Addr) (c1 : Nat) (l1 : List Int) (r : Bool) (w : World) (hr0 : Kd.C (Kd.int .i64) w A0 l0.length l0) (hc0 : l0.length ≤ c0) (hr1 : Kd.C (Kd.int .i64) w A1 l1.length l1) (hc1 : l1.length ≤ c1) (h : slices_Equal_int_int.f k l0 l1 = some r) :
  Calls Try.prog 109 #[.slice A0 l0.length c0, .slice A1 l1.length c1] w fun e w' => e = .returned (.bool r) ∧ Drawn0 w w' := by
 have HR0 := am_ hr0
 have HC0 := am_ hc0
 clear hr0 hc0
 have HR1 := am_ hr1
 have HC1 := am_ hc1
 clear hr1 hc1
 have H : (if (l0.length : Int) = (l1.length : Int) then (slices_Equal_int_int.l0 k l0 l1 (l0.length : Int) 0) else (some false)) = some r := h
 clear h
 by_cases c3 : (l0.length : Int) = (l1.length : Int)
 ·rw [if_pos c3] at H
  have c3b0 : ((l0.length : Int) == (l1.length : Int)) = true := beq_iff_eq.mpr c3
  have c3b1 : ((l0.length : Int) != (l1.length : Int)) = false := bne_eq_false_iff_eq.mpr c3
  have c3b2 : (l0.length == l1.length) = true := by first | simpa using c3 | (simp at c3 ⊢; omega)
  clear c3
  have H' := am_ H
  clear H
  go_enter Try.func109, Try.ntmps109
  go_wp2
  repeat (go_quiet (fail); try go_wp2)
  go_loopg [13] k (fun kq v13 w' => ∃ (x13_1 : Int), v13 = .int .i64 x13_1 ∧ Aside0 (slices_Equal_int_int.l0 kq l0 l1 (l0.length : Int) x13_1 = some r) ∧ Aside0 (kq ≤ k) ∧ Drawn0 w w')
  case atStart => exact ⟨(0), sr_, H', ⟨Nat.le_refl _⟩, by repeat (first | exact Drawn0.refl _ | apply Drawn0.step)⟩
  case round =>
   clear H'
   try clear c1
   try clear p2
   try clear c3
   try clear c3b0
   try clear c3b1
   try clear c3b2
   obtain ⟨x13_1, rfl, HA, HK1, ⟨m1, rfl⟩⟩ := hrel
   cases gk with
   | zero => exact absurd HA.out (by simp [slices_Equal_int_int.l0])
   | succ k1 =>
    have H := HA.out
    clear HA
    simp only [slices_Equal_int_int.l0] at H
    by_cases c4 : x13_1 < (l0.length : Int)
    ·rw [if_pos c4] at H
     have c4b0 : decide (x13_1 < (l0.length : Int)) = true := decide_eq_true c4
     clear c4
     by_cases c5 : 0 ≤ x13_1
     ·rw [if_pos c5] at H
      have c5b0 : decide (0 ≤ x13_1) = true := decide_eq_true c5
      clear c5
      by_cases c6 : x13_1 < (l0.length : Int)
      ·rw [if_pos c6] at H
       have c6b0 : decide (x13_1 < (l0.length : Int)) = true := decide_eq_true c6
       clear c6
       by_cases c7 : x13_1 < (l1.length : Int)
       ·rw [if_pos c7] at H
        have c7b0 : decide (x13_1 < (l1.length : Int)) = true := decide_eq_true c7
        clear c7
        by_cases c8 : (rd l0 x13_1) = (rd l1 x13_1)
        ·rw [if_pos c8] at H
         have c8b0 : ((rd l0 x13_1) == (rd l1 x13_1)) = true := beq_iff_eq.mpr c8
         have c8b1 : ((rd l0 x13_1) != (rd l1 x13_1)) = false := bne_eq_false_iff_eq.mpr c8
         clear c8
         have H' := am_ H
         clear H
         have p255 : 0 ≤ (x13_1 : Int) := of_decide_eq_true (by first | (with_reducible assumption) | assumption)
         have q255 : x13_1 < (l0.length : Int) := of_decide_eq_true (by first | (with_reducible assumption) | assumption)
         obtain ⟨ad255, e255, hx255_0⟩ := Kd.at_int HR0.out x13_1 p255 q255
         cases e255
         replace p255 := eq_true p255
         replace q255 := eq_true q255
         have p256 : 0 ≤ (x13_1 : Int) := of_decide_eq_true (by first | (with_reducible assumption) | assumption)
         have q256 : x13_1 < (l1.length : Int) := of_decide_eq_true (by first | (with_reducible assumption) | assumption)
         obtain ⟨ad256, e256, hx256_0⟩ := Kd.at_int HR1.out x13_1 p256 q256
         cases e256
         replace p256 := eq_true p256
         replace q256 := eq_true q256
         go_wp2
         repeat (go_quiet (fail); try go_wp2)
         go_roundg k1
         case measure => have := HK1.out; omega
         case rel => exact ⟨(wrap64 (x13_1 + 1)), sr_, H', ⟨by have := HK1.out; omega⟩, by repeat (first | exact Drawn0.refl _ | apply Drawn0.step)⟩
        ·rw [if_neg c8] at H
         have c8b0 : ((rd l0 x13_1) == (rd l1 x13_1)) = false := beq_eq_false_iff_ne.mpr c8
         have c8b1 : ((rd l0 x13_1) != (rd l1 x13_1)) = true := bne_iff_ne.mpr c8
         obtain rfl := Option.some.inj H
         have p255 : 0 ≤ (x13_1 : Int) := of_decide_eq_true (by first | (with_reducible assumption) | assumption)
         have q255 : x13_1 < (l0.length : Int) := of_decide_eq_true (by first | (with_reducible assumption) | assumption)
         obtain ⟨ad255, e255, hx255_0⟩ := Kd.at_int HR0.out x13_1 p255 q255
         cases e255
         replace p255 := eq_true p255
         replace q255 := eq_true q255
         have p256 : 0 ≤ (x13_1 : Int) := of_decide_eq_true (by first | (with_reducible assumption) | assumption)
         have q256 : x13_1 < (l1.length : Int) := of_decide_eq_true (by first | (with_reducible assumption) | assumption)
         obtain ⟨ad256, e256, hx256_0⟩ := Kd.at_int HR1.out x13_1 p256 q256
         cases e256
         replace p256 := eq_true p256
         replace q256 := eq_true q256
         go_wp2
         repeat (go_quiet (fail); try go_wp2)
         go_ret
         exact ⟨by first | rfl | (simp; done) | (simp [*]; done), by repeat (first | exact Drawn0.refl _ | apply Drawn0.step)⟩
       ·rw [if_neg c7] at H
        exact absurd H (by simp)
      ·rw [if_neg c6] at H
       exact absurd H (by simp)
     ·rw [if_neg c5] at H
      exact absurd H (by simp)
    ·rw [if_neg c4] at H
     have c4b0 : decide (x13_1 < (l0.length : Int)) = false := decide_eq_false c4
     clear c4
     obtain rfl := Option.some.inj H
     go_wp2
     repeat (go_quiet (fail); try go_wp2)
     go_ret
     exact ⟨by first | rfl | (simp; done) | (simp [*]; done), by repeat (first | exact Drawn0.refl _ | apply Drawn0.step)⟩
 ·rw [if_neg c3] at H
  have c3b0 : ((l0.length : Int) == (l1.length : Int)) = false := beq_eq_false_iff_ne.mpr c3
  have c3b1 : ((l0.length : Int) != (l1.length : Int)) = true := bne_iff_ne.mpr c3
  have c3b2 : (l0.length == l1.length) = false := by first | simpa using c3 | (simp at c3 ⊢; omega)
  obtain rfl := Option.some.inj H
  go_enter Try.func109, Try.ntmps109
  go_wp2
  repeat (go_quiet (fail); try go_wp2)
  go_ret
  exact ⟨by first | rfl | (simp; done) | (simp [*]; done), by repeat (first | exact Drawn0.refl _ | apply Drawn0.step)⟩

/-! ### impl_IsRanked: function 55 -/
def impl_IsRanked.f (k : Nat) (a0_0 : Int) (l0_1 : List Int) (l0_2 : List Int) (l0_3 : List Int) : Option (Bool) := (impl_IsBits.f k a0_0 l0_1).bind fun t258 => (if t258 = true then ((impl_ranked.f k a0_0 l0_1).bind fun bt259 => ((slices_Equal_int_int.f k bt259.2.2.1 l0_2).bind fun t270 => (if t270 = true then ((slices_Equal_int_int.f k bt259.2.2.2 l0_3).bind fun t271 => (some t271)) else (some false)))) else (some false))
theorem impl_IsRanked.mono : ∀ a0 a1 a2 a3 k, LeO (impl_IsRanked.f k a0 a1 a2 a3) (impl_IsRanked.f (k + 1) a0 a1 a2 a3) := by
 intro a0 a1 a2 a3 k
 unfold impl_IsRanked.f
 repeat' first
   | (with_reducible exact impl_IsBits.mono _ _ _)
   | (with_reducible exact impl_ranked.mono _ _ _)
   | (with_reducible exact slices_Equal_int_int.mono _ _ _)
   | (with_reducible exact LeO.refl _)
   | (with_reducible exact LeO.none _)
   | (with_reducible refine LeO.ite ?_ ?_)
   | (with_reducible refine LeO.bind ?_ (fun _ => ?_))
   | exact impl_IsBits.mono _ _ _
   | exact impl_ranked.mono _ _ _
   | exact slices_Equal_int_int.mono _ _ _
   | exact LeO.none _
   | refine LeO.ite ?_ ?_
   | refine LeO.bind ?_ (fun _ => ?_)
set_option maxHeartbeats 8000000 in
set_option maxRecDepth 100000 in
theorem impl_IsRanked.calls (k : Nat) (a0_0 : Int) (A0_1 : Option Addr) (c0_1 : Nat) (l0_1 : List Int) (A0_2 : Option Addr) (c0_2 : Nat) (l0_2 : List Int) (A0_3 : Option Addr) (c0_3 : Nat) (l0_3 : List Int) (r : Bool) (w : World) (hr0_1 : Kd.C (Kd.int .i64) w A0_1 l0_1.length l0_1) (hc0_1 : l0_1.length ≤ c0_1) (hr0_2 : Kd.C (Kd.int .i64) w A0_2 l0_2.length l0_2) (hc0_2 : l0_2.length ≤ c0_2) (hr0_3 : Kd.C (Kd.int .i64) w A0_3 l0_3.length l0_3) (hc0_3 : l0_3.length ≤ c0_3) (h : impl_IsRanked.f k a0_0 l0_1 l0_2 l0_3 = some r) :
  Calls Try.prog 55 #[.agg #[.int .i64 a0_0, .slice A0_1 l0_1.length c0_1, .slice A0_2 l0_2.length c0_2, .slice A0_3 l0_3.length c0_3]] w fun e w' => e = .returned (.bool r) ∧ Below w.heap.size w w' := by
 have hu48 := Try.underlying48
 have hu26 := Try.underlying26
 have HR0_1 := am_ hr0_1
 have HC0_1 := am_ hc0_1
 clear hr0_1 hc0_1
 have HR0_2 := am_ hr0_2
 have HC0_2 := am_ hc0_2
 clear hr0_2 hc0_2
 have HR0_3 := am_ hr0_3
 have HC0_3 := am_ hc0_3
 clear hr0_3 hc0_3
 have HB := am_ (Below.refl w.heap.size w)
 have H : ((impl_IsBits.f k a0_0 l0_1).bind fun t258 => (if t258 = true then ((impl_ranked.f k a0_0 l0_1).bind fun bt259 => ((slices_Equal_int_int.f k bt259.2.2.1 l0_2).bind fun t270 => (if t270 = true then ((slices_Equal_int_int.f k bt259.2.2.2 l0_3).bind fun t271 => (some t271)) else (some false)))) else (some false))) = some r := h
 clear h
 replace H := Option.bind_eq_some_iff.mp H
 obtain ⟨t258, A20, H⟩ := H
 replace H : (if t258 = true then ((impl_ranked.f k a0_0 l0_1).bind fun bt259 => ((slices_Equal_int_int.f k bt259.2.2.1 l0_2).bind fun t270 => (if t270 = true then ((slices_Equal_int_int.f k bt259.2.2.2 l0_3).bind fun t271 => (some t271)) else (some false)))) else (some false)) = some r := H
 have A2 := am_ A20
 clear A20
 by_cases c3 : t258 = true
 ·subst c3
  have H1 : ((impl_ranked.f k a0_0 l0_1).bind fun bt259 => ((slices_Equal_int_int.f k bt259.2.2.1 l0_2).bind fun t270 => (if t270 = true then ((slices_Equal_int_int.f k bt259.2.2.2 l0_3).bind fun t271 => (some t271)) else (some false)))) = some r := by rw [if_pos rfl] at H; exact H
  clear H
  have H := H1
  clear H1
  replace H := Option.bind_eq_some_iff.mp H
  obtain ⟨⟨t259, t260, t263, t266⟩, A40, H⟩ := H
  replace H : ((slices_Equal_int_int.f k t263 l0_2).bind fun t270 => (if t270 = true then ((slices_Equal_int_int.f k t266 l0_3).bind fun t271 => (some t271)) else (some false))) = some r := H
  have A4 := am_ A40
  clear A40
  replace H := Option.bind_eq_some_iff.mp H
  obtain ⟨t270, A50, H⟩ := H
  replace H : (if t270 = true then ((slices_Equal_int_int.f k t266 l0_3).bind fun t271 => (some t271)) else (some false)) = some r := H
  have A5 := am_ A50
  clear A50
  by_cases c6 : t270 = true
  ·subst c6
   have H1 : ((slices_Equal_int_int.f k t266 l0_3).bind fun t271 => (some t271)) = some r := by rw [if_pos rfl] at H; exact H
   clear H
   have H := H1
   clear H1
   replace H := Option.bind_eq_some_iff.mp H
   obtain ⟨t271, A70, H⟩ := H
   replace H : (some t271) = some r := H
   have A7 := am_ A70
   clear A70
   obtain rfl := Option.some.inj H
   go_enter Try.func55, Try.ntmps55
   go_wp2_with (first | ((with_reducible refine gate_dst (N := 1) rfl ?_); refine bev_ 1 #[.int .i64 a0_0, .slice A0_1 l0_1.length c0_1, .slice A0_2 l0_2.length c0_2, .slice A0_3 l0_3.length c0_3] 48 rfl rfl ?_; intro gb257 hg w8 hbox hb; have BK257 := am_ (hbox); have GW257 := am_ ((by rw [hg]; exact (below_size (lw_ HB)) : w.heap.size ≤ gb257)); have GE257 := am_ ((by rw [hg]; exact (below_size (lw_ HB)) : w.heap.size ≤ gb257)); replace HB := am_ (below_step (lw_ HB) hb); clear hb hbox hg; obtain ⟨hcz9_0, hcz9_1, hcz9_2, hcz9_3, hfz9_0, hfz9_1, hfz9_2, hfz9_3⟩ := bx4_ BK257.out) | ((with_reducible refine gate_callee (f := 73) rfl ?_); refine goesL_ (some 6) rfl rfl Try.func73 (by kernel_rfl) rfl #[.agg #[.int .i64 a0_0, .slice A0_1 l0_1.length c0_1]] rfl lm_ ?_; (with_reducible refine (impl_IsBits.calls k a0_0 _ _ l0_1 true _ ?side1 ?side2 A2.out).mono ?_); (case side1 => exact lc_ (Kd.C_below HR0_1.out HB.out)); (case side2 => exact HC0_1.out); rintro e w10 ⟨rfl, hb⟩; refine ⟨_, rfl, ?_⟩; replace BK257 := am_ (blk_below (g := gb257) (lb_ BK257) hb); replace HB := am_ (below_step (lw_ HB) hb); (try clear hb); (try clear hb2); (try clear hk); (try clear hi); obtain ⟨hcz11_0, hcz11_1, hcz11_2, hcz11_3, hfz11_0, hfz11_1, hfz11_2, hfz11_3⟩ := bx4_ BK257.out) | ((with_reducible refine gate_callee (f := 96) rfl ?_); refine goesL_ (some 10) rfl rfl Try.func96 (by kernel_rfl) rfl #[.agg #[.int .i64 a0_0, .slice A0_1 l0_1.length c0_1]] rfl lm_ ?_; (with_reducible refine (impl_ranked.calls k a0_0 _ _ l0_1 t259 t260 t263 t266 _ ?side1 ?side2 A4.out).mono ?_); (case side1 => exact lc_ (Kd.C_below HR0_1.out HB.out)); (case side2 => exact HC0_1.out); rintro e w12 ⟨v261, v264, v267, rfl, ho0, ho1, ho2, hb⟩; refine ⟨_, rfl, ?_⟩; have HO262 := am_ (Kd.R_lower ho0 (below_size (lw_ HB))); have HO265 := am_ (Kd.R_lower ho1 (below_size (lw_ HB))); have HO268 := am_ (Kd.R_lower ho2 (below_size (lw_ HB))); replace BK257 := am_ (blk_below (g := gb257) (lb_ BK257) hb); replace HB := am_ (below_step (lw_ HB) hb); (try clear hb); (try clear hb2); (try clear hk); (try clear hi); (try clear ho0); (try clear ho1); (try clear ho2)) | ((with_reducible refine gate_dst (N := 3) rfl ?_); refine bev_ 3 #[.int .i64 0, .slice none 0 0, .slice none 0 0, .slice none 0 0] 48 rfl rfl ?_; intro gb269 hg w13 hbox hb; have BK269 := am_ (hbox); have GW269 := am_ ((by rw [hg]; exact (below_size (lw_ HB)) : w.heap.size ≤ gb269)); have GE269 := am_ ((by rw [hg]; exact (below_size (lw_ HB)) : w.heap.size ≤ gb269)); have NB257_269 := am_ ((by rw [hg]; exact Nat.ne_of_lt (blk_lt (g := gb257) (lb_ BK257)) : gb257 ≠ gb269)); have NB269_257 := am_ ((by rw [hg]; exact Nat.ne_of_gt (blk_lt (g := gb257) (lb_ BK257)) : gb269 ≠ gb257)); replace HO262 := am_ (Kd.R_below (lf_ HO262) hb); replace HO265 := am_ (Kd.R_below (lf_ HO265) hb); replace HO268 := am_ (Kd.R_below (lf_ HO268) hb); replace BK257 := am_ (blk_below (g := gb257) (lb_ BK257) hb); replace HB := am_ (below_step (lw_ HB) hb); clear hb hbox hg; have hnb14 := NB269_257.out; have hnc14 := NB257_269.out; obtain ⟨hcz15_0, hcz15_1, hcz15_2, hcz15_3, hfz15_0, hfz15_1, hfz15_2, hfz15_3⟩ := bx4_ BK269.out; obtain ⟨Ao16, co16, eo16⟩ := Kd.R_slice HO262.out; subst eo16; obtain ⟨Ao17, co17, eo17⟩ := Kd.R_slice HO265.out; subst eo17; obtain ⟨Ao18, co18, eo18⟩ := Kd.R_slice HO268.out; subst eo18; obtain ⟨hcz19_0, hcz19_1, hcz19_2, hcz19_3, hfz19_0, hfz19_1, hfz19_2, hfz19_3⟩ := bx4_ BK257.out) | ((with_reducible refine gate_callee (f := 109) rfl ?_); refine goesL_ (some 15) rfl rfl Try.func109 (by kernel_rfl) rfl #[.slice Ao17 t263.length co17, .slice A0_2 l0_2.length c0_2] rfl lm_ ?_; (with_reducible refine (slices_Equal_int_int.calls k _ _ t263 _ _ l0_2 true _ ?side1 ?side2 ?side3 ?side4 A5.out).mono ?_); (case side1 => refine (Kd.R_reads' (e := 3) (base := w.heap.size) (ok := fun k_ => (ns_ k_ Ao16 t260 co16 ∧ ns_ k_ Ao18 t266 co18)) (n := t263.length) (c := co17) ?_).2.2; exact (lt_ ((m1_ (fr4_ HO265.out BK269.out (.int .i64 t259) (.slice Ao16 t260.length co16) (.slice Ao17 t263.length co17) (.slice Ao18 t266.length co18)))))); (case side2 => exact (Kd.R_reads' HO265.out).2.1); (case side3 => exact Kd.C_below HR0_2.out (lw_ HB)); (case side4 => exact HC0_2.out); rintro e w' ⟨rfl, ⟨nd, rfl⟩⟩; refine ⟨_, rfl, ?_⟩) | (go_at_call 109; (with_reducible refine (slices_Equal_int_int.calls k _ _ t266 _ _ l0_3 t271 _ ?side1 ?side2 ?side3 ?side4 A7.out).mono ?_); (case side1 => refine (Kd.R_reads' (e := 3) (base := w.heap.size) (ok := fun k_ => (ns_ k_ Ao16 t260 co16 ∧ ns_ k_ Ao17 t263 co17)) (n := t266.length) (c := co18) ?_).2.2; exact (lt_ ((m1_ (fr4_ HO268.out BK269.out (.int .i64 t259) (.slice Ao16 t260.length co16) (.slice Ao17 t263.length co17) (.slice Ao18 t266.length co18)))))); (case side2 => exact (Kd.R_reads' HO268.out).2.1); (case side3 => exact Kd.C_below HR0_3.out (lw_ HB)); (case side4 => exact HC0_3.out); rintro e w' ⟨rfl, ⟨nd, rfl⟩⟩))
   go_ret
   exact ⟨er_, lw_ HB⟩
  ·replace c6 := Bool.eq_false_iff.mpr c6
   subst c6
   have H1 : (some false) = some r := by rw [if_neg (show ¬ (false = true) by decide)] at H; exact H
   clear H
   have H := H1
   clear H1
   obtain rfl := Option.some.inj H
   go_enter Try.func55, Try.ntmps55
   go_wp2_with (first | ((with_reducible refine gate_dst (N := 1) rfl ?_); refine bev_ 1 #[.int .i64 a0_0, .slice A0_1 l0_1.length c0_1, .slice A0_2 l0_2.length c0_2, .slice A0_3 l0_3.length c0_3] 48 rfl rfl ?_; intro gb257 hg w20 hbox hb; have BK257 := am_ (hbox); have GW257 := am_ ((by rw [hg]; exact (below_size (lw_ HB)) : w.heap.size ≤ gb257)); have GE257 := am_ ((by rw [hg]; exact (below_size (lw_ HB)) : w.heap.size ≤ gb257)); replace HB := am_ (below_step (lw_ HB) hb); clear hb hbox hg; obtain ⟨hcz21_0, hcz21_1, hcz21_2, hcz21_3, hfz21_0, hfz21_1, hfz21_2, hfz21_3⟩ := bx4_ BK257.out) | ((with_reducible refine gate_callee (f := 73) rfl ?_); refine goesL_ (some 6) rfl rfl Try.func73 (by kernel_rfl) rfl #[.agg #[.int .i64 a0_0, .slice A0_1 l0_1.length c0_1]] rfl lm_ ?_; (with_reducible refine (impl_IsBits.calls k a0_0 _ _ l0_1 true _ ?side1 ?side2 A2.out).mono ?_); (case side1 => exact lc_ (Kd.C_below HR0_1.out HB.out)); (case side2 => exact HC0_1.out); rintro e w22 ⟨rfl, hb⟩; refine ⟨_, rfl, ?_⟩; replace BK257 := am_ (blk_below (g := gb257) (lb_ BK257) hb); replace HB := am_ (below_step (lw_ HB) hb); (try clear hb); (try clear hb2); (try clear hk); (try clear hi); obtain ⟨hcz23_0, hcz23_1, hcz23_2, hcz23_3, hfz23_0, hfz23_1, hfz23_2, hfz23_3⟩ := bx4_ BK257.out) | ((with_reducible refine gate_callee (f := 96) rfl ?_); refine goesL_ (some 10) rfl rfl Try.func96 (by kernel_rfl) rfl #[.agg #[.int .i64 a0_0, .slice A0_1 l0_1.length c0_1]] rfl lm_ ?_; (with_reducible refine (impl_ranked.calls k a0_0 _ _ l0_1 t259 t260 t263 t266 _ ?side1 ?side2 A4.out).mono ?_); (case side1 => exact lc_ (Kd.C_below HR0_1.out HB.out)); (case side2 => exact HC0_1.out); rintro e w24 ⟨v261, v264, v267, rfl, ho0, ho1, ho2, hb⟩; refine ⟨_, rfl, ?_⟩; have HO262 := am_ (Kd.R_lower ho0 (below_size (lw_ HB))); have HO265 := am_ (Kd.R_lower ho1 (below_size (lw_ HB))); have HO268 := am_ (Kd.R_lower ho2 (below_size (lw_ HB))); replace BK257 := am_ (blk_below (g := gb257) (lb_ BK257) hb); replace HB := am_ (below_step (lw_ HB) hb); (try clear hb); (try clear hb2); (try clear hk); (try clear hi); (try clear ho0); (try clear ho1); (try clear ho2)) | ((with_reducible refine gate_dst (N := 3) rfl ?_); refine bev_ 3 #[.int .i64 0, .slice none 0 0, .slice none 0 0, .slice none 0 0] 48 rfl rfl ?_; intro gb269 hg w25 hbox hb; have BK269 := am_ (hbox); have GW269 := am_ ((by rw [hg]; exact (below_size (lw_ HB)) : w.heap.size ≤ gb269)); have GE269 := am_ ((by rw [hg]; exact (below_size (lw_ HB)) : w.heap.size ≤ gb269)); have NB257_269 := am_ ((by rw [hg]; exact Nat.ne_of_lt (blk_lt (g := gb257) (lb_ BK257)) : gb257 ≠ gb269)); have NB269_257 := am_ ((by rw [hg]; exact Nat.ne_of_gt (blk_lt (g := gb257) (lb_ BK257)) : gb269 ≠ gb257)); replace HO262 := am_ (Kd.R_below (lf_ HO262) hb); replace HO265 := am_ (Kd.R_below (lf_ HO265) hb); replace HO268 := am_ (Kd.R_below (lf_ HO268) hb); replace BK257 := am_ (blk_below (g := gb257) (lb_ BK257) hb); replace HB := am_ (below_step (lw_ HB) hb); clear hb hbox hg; have hnb26 := NB269_257.out; have hnc26 := NB257_269.out; obtain ⟨hcz27_0, hcz27_1, hcz27_2, hcz27_3, hfz27_0, hfz27_1, hfz27_2, hfz27_3⟩ := bx4_ BK269.out; obtain ⟨Ao28, co28, eo28⟩ := Kd.R_slice HO262.out; subst eo28; obtain ⟨Ao29, co29, eo29⟩ := Kd.R_slice HO265.out; subst eo29; obtain ⟨Ao30, co30, eo30⟩ := Kd.R_slice HO268.out; subst eo30; obtain ⟨hcz31_0, hcz31_1, hcz31_2, hcz31_3, hfz31_0, hfz31_1, hfz31_2, hfz31_3⟩ := bx4_ BK257.out) | ((with_reducible refine gate_callee (f := 109) rfl ?_); refine goesL_ (some 15) rfl rfl Try.func109 (by kernel_rfl) rfl #[.slice Ao29 t263.length co29, .slice A0_2 l0_2.length c0_2] rfl lm_ ?_; (with_reducible refine (slices_Equal_int_int.calls k _ _ t263 _ _ l0_2 false _ ?side1 ?side2 ?side3 ?side4 A5.out).mono ?_); (case side1 => refine (Kd.R_reads' (e := 3) (base := w.heap.size) (ok := fun k_ => (ns_ k_ Ao28 t260 co28 ∧ ns_ k_ Ao30 t266 co30)) (n := t263.length) (c := co29) ?_).2.2; exact (lt_ ((m1_ (fr4_ HO265.out BK269.out (.int .i64 t259) (.slice Ao28 t260.length co28) (.slice Ao29 t263.length co29) (.slice Ao30 t266.length co30)))))); (case side2 => exact (Kd.R_reads' HO265.out).2.1); (case side3 => exact Kd.C_below HR0_2.out (lw_ HB)); (case side4 => exact HC0_2.out); rintro e w' ⟨rfl, ⟨nd, rfl⟩⟩; refine ⟨_, rfl, ?_⟩))
   go_ret
   exact ⟨er_, lw_ HB⟩
 ·replace c3 := Bool.eq_false_iff.mpr c3
  subst c3
  have H1 : (some false) = some r := by rw [if_neg (show ¬ (false = true) by decide)] at H; exact H
  clear H
  have H := H1
  clear H1
  obtain rfl := Option.some.inj H
  go_enter Try.func55, Try.ntmps55
  go_wp2_with (first | ((with_reducible refine gate_dst (N := 1) rfl ?_); refine bev_ 1 #[.int .i64 a0_0, .slice A0_1 l0_1.length c0_1, .slice A0_2 l0_2.length c0_2, .slice A0_3 l0_3.length c0_3] 48 rfl rfl ?_; intro gb257 hg w32 hbox hb; have BK257 := am_ (hbox); have GW257 := am_ ((by rw [hg]; exact (below_size (lw_ HB)) : w.heap.size ≤ gb257)); have GE257 := am_ ((by rw [hg]; exact (below_size (lw_ HB)) : w.heap.size ≤ gb257)); replace HB := am_ (below_step (lw_ HB) hb); clear hb hbox hg; obtain ⟨hcz33_0, hcz33_1, hcz33_2, hcz33_3, hfz33_0, hfz33_1, hfz33_2, hfz33_3⟩ := bx4_ BK257.out) | ((with_reducible refine gate_callee (f := 73) rfl ?_); refine goesL_ (some 6) rfl rfl Try.func73 (by kernel_rfl) rfl #[.agg #[.int .i64 a0_0, .slice A0_1 l0_1.length c0_1]] rfl lm_ ?_; (with_reducible refine (impl_IsBits.calls k a0_0 _ _ l0_1 false _ ?side1 ?side2 A2.out).mono ?_); (case side1 => exact lc_ (Kd.C_below HR0_1.out HB.out)); (case side2 => exact HC0_1.out); rintro e w34 ⟨rfl, hb⟩; refine ⟨_, rfl, ?_⟩; replace BK257 := am_ (blk_below (g := gb257) (lb_ BK257) hb); replace HB := am_ (below_step (lw_ HB) hb); (try clear hb); (try clear hb2); (try clear hk); (try clear hi)))
  go_ret
  exact ⟨er_, lw_ HB⟩

/-! ### impl_JoinRanked: function 37 -/
def impl_JoinRanked.j0 : Nat → Bool → Int → List Int → List Int → List Int → Int → List Int → List Int → List Int → Option (Int × List Int × List Int × List Int × Bool)
 | 0, _, _, _, _, _, _, _, _, _ => none
 | k + 1, x15, x273000, x273001, x273002, x273003, x274000, x274001, x274002, x274003 => if x15 = true then (some (0, ([] : List Int), ([] : List Int), ([] : List Int), false)) else ((impl_JoinBits.f k x273000 x273001 x274000 x274001).bind fun bt277 => (if bt277.2.2 = true then ((impl_ranked.f k bt277.1 bt277.2.1).bind fun bt283 => (some (bt283.1, bt283.2.1, bt283.2.2.1, bt283.2.2.2, true))) else (some (0, ([] : List Int), ([] : List Int), ([] : List Int), false))))
def impl_JoinRanked.f (k : Nat) (a0_0 : Int) (l0_1 : List Int) (l0_2 : List Int) (l0_3 : List Int) (a1_0 : Int) (l1_1 : List Int) (l1_2 : List Int) (l1_3 : List Int) : Option (Int × List Int × List Int × List Int × Bool) := (impl_IsRanked.f k a0_0 l0_1 l0_2 l0_3).bind fun t275 => (if t275 = true then ((impl_IsRanked.f k a1_0 l1_1 l1_2 l1_3).bind fun t276 => (impl_JoinRanked.j0 k (!t276) a0_0 l0_1 l0_2 l0_3 a1_0 l1_1 l1_2 l1_3)) else (impl_JoinRanked.j0 k true a0_0 l0_1 l0_2 l0_3 a1_0 l1_1 l1_2 l1_3))
theorem impl_JoinRanked.mono_l : ∀ k, (∀ y0 y1 y2 y3 y4 y5 y6 y7 y8, LeO (impl_JoinRanked.j0 k y0 y1 y2 y3 y4 y5 y6 y7 y8) (impl_JoinRanked.j0 (k + 1) y0 y1 y2 y3 y4 y5 y6 y7 y8))
 | 0 => fun _ _ _ _ _ _ _ _ _ r h => by simp [impl_JoinRanked.j0] at h
 | k + 1 => by
  have ih0 := impl_JoinRanked.mono_l k
  ·intro y0 y1 y2 y3 y4 y5 y6 y7 y8
   unfold impl_JoinRanked.j0
   repeat' first
   | (with_reducible exact ih0 _ _ _ _ _ _ _ _ _)
   | (with_reducible exact impl_IsRanked.mono _ _ _ _ _)
   | (with_reducible exact impl_JoinBits.mono _ _ _ _ _)
   | (with_reducible exact impl_ranked.mono _ _ _)
   | (with_reducible exact LeO.refl _)
   | (with_reducible exact LeO.none _)
   | (with_reducible refine LeO.ite ?_ ?_)
   | (with_reducible refine LeO.bind ?_ (fun _ => ?_))
   | exact ih0 _ _ _ _ _ _ _ _ _
   | exact impl_IsRanked.mono _ _ _ _ _
   | exact impl_JoinBits.mono _ _ _ _ _
   | exact impl_ranked.mono _ _ _
   | exact LeO.none _
   | refine LeO.ite ?_ ?_
   | refine LeO.bind ?_ (fun _ => ?_)
theorem impl_JoinRanked.mono : ∀ a0 a1 a2 a3 a4 a5 a6 a7 k, LeO (impl_JoinRanked.f k a0 a1 a2 a3 a4 a5 a6 a7) (impl_JoinRanked.f (k + 1) a0 a1 a2 a3 a4 a5 a6 a7) := by
 intro a0 a1 a2 a3 a4 a5 a6 a7 k
 have ih0 := impl_JoinRanked.mono_l k
 unfold impl_JoinRanked.f
 repeat' first
   | (with_reducible exact ih0 _ _ _ _ _ _ _ _ _)
   | (with_reducible exact impl_IsRanked.mono _ _ _ _ _)
   | (with_reducible exact impl_JoinBits.mono _ _ _ _ _)
   | (with_reducible exact impl_ranked.mono _ _ _)
   | (with_reducible exact LeO.refl _)
   | (with_reducible exact LeO.none _)
   | (with_reducible refine LeO.ite ?_ ?_)
   | (with_reducible refine LeO.bind ?_ (fun _ => ?_))
   | exact ih0 _ _ _ _ _ _ _ _ _
   | exact impl_IsRanked.mono _ _ _ _ _
   | exact impl_JoinBits.mono _ _ _ _ _
   | exact impl_ranked.mono _ _ _
   | exact LeO.none _
   | refine LeO.ite ?_ ?_
   | refine LeO.bind ?_ (fun _ => ?_)
set_option maxHeartbeats 8000000 in
set_option maxRecDepth 100000 in
theorem impl_JoinRanked.calls (k : Nat) (a0_0 : Int) (A0_1 : Option Addr) (c0_1 : Nat) (l0_1 : List Int) (A0_2 : Option Addr) (c0_2 : Nat) (l0_2 : List Int) (A0_3 : Option Addr) (c0_3 : Nat) (l0_3 : List Int) (a1_0 : Int) (A1_1 : Option Addr) (c1_1 : Nat) (l1_1 : List Int) (A1_2 : Option Addr) (c1_2 : Nat) (l1_2 : List Int) (A1_3 : Option Addr) (c1_3 : Nat) (l1_3 : List Int) (r1 : Int) (r2 : List Int) (r3 : List Int) (r4 : List Int) (r5 : Bool) (w : World) (hr0_1 : Kd.C (Kd.int .i64) w A0_1 l0_1.length l0_1) (hc0_1 : l0_1.length ≤ c0_1) (hr0_2 : Kd.C (Kd.int .i64) w A0_2 l0_2.length l0_2) (hc0_2 : l0_2.length ≤ c0_2) (hr0_3 : Kd.C (Kd.int .i64) w A0_3 l0_3.length l0_3) (hc0_3 : l0_3.length ≤ c0_3) (hr1_1 : Kd.C (Kd.int .i64) w A1_1 l1_1.length l1_1) (hc1_1 : l1_1.length ≤ c1_1) (hr1_2 : Kd.C (Kd.int .i64) w A1_2 l1_2.length l1_2) (hc1_2 : l1_2.length ≤ c1_2) (hr1_3 : Kd.C (Kd.int .i64) w A1_3 l1_3.length l1_3) (hc1_3 : l1_3.length ≤ c1_3) (h : impl_JoinRanked.f k a0_0 l0_1 l0_2 l0_3 a1_0 l1_1 l1_2 l1_3 = some (r1, r2, r3, r4, r5)) :
  Calls Try.prog 37 #[.agg #[.int .i64 a0_0, .slice A0_1 l0_1.length c0_1, .slice A0_2 l0_2.length c0_2, .slice A0_3 l0_3.length c0_3], .agg #[.int .i64 a1_0, .slice A1_1 l1_1.length c1_1, .slice A1_2 l1_2.length c1_2, .slice A1_3 l1_3.length c1_3]] w fun e w' => ∃ v1_ v2_ v3_ : Value, e = .returned (.tuple #[.agg #[.int .i64 r1, v1_, v2_, v3_], .bool r5]) ∧ Kd.R (Kd.int .i64) 3 w' w.heap.size (fun k_ => nb_ k_ v2_ ∧ nb_ k_ v3_) v1_ r2 ∧ Kd.R (Kd.int .i64) 3 w' w.heap.size (fun k_ => nb_ k_ v1_ ∧ nb_ k_ v3_) v2_ r3 ∧ Kd.R (Kd.int .i64) 3 w' w.heap.size (fun k_ => nb_ k_ v1_ ∧ nb_ k_ v2_) v3_ r4 ∧ Below w.heap.size w w' := by
 have hu48 := Try.underlying48
 have hu26 := Try.underlying26
 have HR0_1 := am_ hr0_1
 have HC0_1 := am_ hc0_1
 clear hr0_1 hc0_1
 have HR0_2 := am_ hr0_2
 have HC0_2 := am_ hc0_2
 clear hr0_2 hc0_2
 have HR0_3 := am_ hr0_3
 have HC0_3 := am_ hc0_3
 clear hr0_3 hc0_3
 have HR1_1 := am_ hr1_1
 have HC1_1 := am_ hc1_1
 clear hr1_1 hc1_1
 have HR1_2 := am_ hr1_2
 have HC1_2 := am_ hc1_2
 clear hr1_2 hc1_2
 have HR1_3 := am_ hr1_3
 have HC1_3 := am_ hc1_3
 clear hr1_3 hc1_3
 have HB := am_ (Below.refl w.heap.size w)
 have H : ((impl_IsRanked.f k a0_0 l0_1 l0_2 l0_3).bind fun t275 => (if t275 = true then ((impl_IsRanked.f k a1_0 l1_1 l1_2 l1_3).bind fun t276 => (impl_JoinRanked.j0 k (!t276) a0_0 l0_1 l0_2 l0_3 a1_0 l1_1 l1_2 l1_3)) else (impl_JoinRanked.j0 k true a0_0 l0_1 l0_2 l0_3 a1_0 l1_1 l1_2 l1_3))) = some (r1, r2, r3, r4, r5) := h
 clear h
 have HC3 := am_ H
 clear H
 go_enter Try.func37, Try.ntmps37
 go_upto_region 1 with (first | ((with_reducible refine gate_dst (N := 2) rfl ?_); refine bev_ 2 #[.int .i64 a0_0, .slice A0_1 l0_1.length c0_1, .slice A0_2 l0_2.length c0_2, .slice A0_3 l0_3.length c0_3] 48 rfl rfl ?_; intro gb272 hg w4 hbox hb; have BK272 := am_ (hbox); have GW272 := am_ ((by rw [hg]; exact (below_size (lw_ HB)) : w.heap.size ≤ gb272)); have GE272 := am_ ((by rw [hg]; exact (below_size (lw_ HB)) : w.heap.size ≤ gb272)); replace HB := am_ (below_step (lw_ HB) hb); clear hb hbox hg) | ((with_reducible refine gate_dst (N := 3) rfl ?_); refine bev_ 3 #[.int .i64 a1_0, .slice A1_1 l1_1.length c1_1, .slice A1_2 l1_2.length c1_2, .slice A1_3 l1_3.length c1_3] 48 rfl rfl ?_; intro gb273 hg w5 hbox hb; have BK273 := am_ (hbox); have GW273 := am_ ((by rw [hg]; exact (below_size (lw_ HB)) : w.heap.size ≤ gb273)); have GE273 := am_ ((by rw [hg]; exact (below_size (lw_ HB)) : w.heap.size ≤ gb273)); have NB272_273 := am_ ((by rw [hg]; exact Nat.ne_of_lt (blk_lt (g := gb272) (lb_ BK272)) : gb272 ≠ gb273)); have NB273_272 := am_ ((by rw [hg]; exact Nat.ne_of_gt (blk_lt (g := gb272) (lb_ BK272)) : gb273 ≠ gb272)); replace BK272 := am_ (blk_below (g := gb272) (lb_ BK272) hb); replace HB := am_ (below_step (lw_ HB) hb); clear hb hbox hg) | ((with_reducible refine gate_dst (N := 4) rfl ?_); refine bev_ 4 #[.int .i64 0, .slice none 0 0, .slice none 0 0, .slice none 0 0] 48 rfl rfl ?_; intro gb274 hg w6 hbox hb; have BK274 := am_ (hbox); have GW274 := am_ ((by rw [hg]; exact (below_size (lw_ HB)) : w.heap.size ≤ gb274)); have GE274 := am_ ((by rw [hg]; exact (below_size (lw_ HB)) : w.heap.size ≤ gb274)); have NB272_274 := am_ ((by rw [hg]; exact Nat.ne_of_lt (blk_lt (g := gb272) (lb_ BK272)) : gb272 ≠ gb274)); have NB274_272 := am_ ((by rw [hg]; exact Nat.ne_of_gt (blk_lt (g := gb272) (lb_ BK272)) : gb274 ≠ gb272)); have NB273_274 := am_ ((by rw [hg]; exact Nat.ne_of_lt (blk_lt (g := gb273) (lb_ BK273)) : gb273 ≠ gb274)); have NB274_273 := am_ ((by rw [hg]; exact Nat.ne_of_gt (blk_lt (g := gb273) (lb_ BK273)) : gb274 ≠ gb273)); replace BK272 := am_ (blk_below (g := gb272) (lb_ BK272) hb); replace BK273 := am_ (blk_below (g := gb273) (lb_ BK273) hb); replace HB := am_ (below_step (lw_ HB) hb); clear hb hbox hg))
 (try simp only [Act.put, List.setIfInBounds_toArray, List.set_cons_zero, List.set_cons_succ])
 go_cut [15] (fun v15 wc => ∃ (kq : Nat) (x15_2 : Bool), v15 = .bool x15_2 ∧ Aside0 (impl_JoinRanked.j0 kq x15_2 a0_0 l0_1 l0_2 l0_3 a1_0 l1_1 l1_2 l1_3 = some (r1, r2, r3, r4, r5)) ∧ Aside0 (kq ≤ k) ∧ Aside0 (wc.heap[gb272]? = some (.cells #[.int .i64 a0_0, (.slice A0_1 l0_1.length c0_1), (.slice A0_2 l0_2.length c0_2), (.slice A0_3 l0_3.length c0_3)] 48 (0, 0))) ∧ Aside0 (wc.heap[gb273]? = some (.cells #[.int .i64 a1_0, (.slice A1_1 l1_1.length c1_1), (.slice A1_2 l1_2.length c1_2), (.slice A1_3 l1_3.length c1_3)] 48 (0, 0))) ∧ Aside0 (wc.heap[gb274]? = some (.cells #[.int .i64 0, (.slice none 0 0), (.slice none 0 0), (.slice none 0 0)] 48 (0, 0))) ∧ Aside0 (Below w.heap.size w wc))
 case first =>
  have H := HC3.out
  clear HC3
  replace H := Option.bind_eq_some_iff.mp H
  obtain ⟨t275, A70, H⟩ := H
  replace H : (if t275 = true then ((impl_IsRanked.f k a1_0 l1_1 l1_2 l1_3).bind fun t276 => (impl_JoinRanked.j0 k (!t276) a0_0 l0_1 l0_2 l0_3 a1_0 l1_1 l1_2 l1_3)) else (impl_JoinRanked.j0 k true a0_0 l0_1 l0_2 l0_3 a1_0 l1_1 l1_2 l1_3)) = some (r1, r2, r3, r4, r5) := H
  have A7 := am_ A70
  clear A70
  by_cases c8 : t275 = true
  ·subst c8
   have H1 : ((impl_IsRanked.f k a1_0 l1_1 l1_2 l1_3).bind fun t276 => (impl_JoinRanked.j0 k (!t276) a0_0 l0_1 l0_2 l0_3 a1_0 l1_1 l1_2 l1_3)) = some (r1, r2, r3, r4, r5) := by rw [if_pos rfl] at H; exact H
   clear H
   have H := H1
   clear H1
   replace H := Option.bind_eq_some_iff.mp H
   obtain ⟨t276, A90, H⟩ := H
   replace H : (impl_JoinRanked.j0 k (!t276) a0_0 l0_1 l0_2 l0_3 a1_0 l1_1 l1_2 l1_3) = some (r1, r2, r3, r4, r5) := H
   have A9 := am_ A90
   clear A90
   have H' := am_ H
   clear H
   have hnb10 := NB272_273.out
   have hnc10 := NB273_272.out
   have hnb11 := NB272_274.out
   have hnc11 := NB274_272.out
   obtain ⟨hcz12_0, hcz12_1, hcz12_2, hcz12_3, hfz12_0, hfz12_1, hfz12_2, hfz12_3⟩ := bx4_ BK272.out
   go_wp2_with (first | ((with_reducible refine gate_callee (f := 55) rfl ?_); refine goesL_ (some 9) rfl rfl Try.func55 (by kernel_rfl) rfl #[.agg #[.int .i64 a0_0, .slice A0_1 l0_1.length c0_1, .slice A0_2 l0_2.length c0_2, .slice A0_3 l0_3.length c0_3]] rfl lm_ ?_; (with_reducible refine (impl_IsRanked.calls k a0_0 _ _ l0_1 _ _ l0_2 _ _ l0_3 true _ ?side1 ?side2 ?side3 ?side4 ?side5 ?side6 A7.out).mono ?_); (case side1 => exact lc_ (Kd.C_below HR0_1.out HB.out)); (case side2 => exact HC0_1.out); (case side3 => exact lc_ (Kd.C_below HR0_2.out HB.out)); (case side4 => exact HC0_2.out); (case side5 => exact lc_ (Kd.C_below HR0_3.out HB.out)); (case side6 => exact HC0_3.out); rintro e w13 ⟨rfl, hb⟩; refine ⟨_, rfl, ?_⟩; replace BK272 := am_ (blk_below (g := gb272) (lb_ BK272) hb); replace BK273 := am_ (blk_below (g := gb273) (lb_ BK273) hb); replace BK274 := am_ (blk_below (g := gb274) (lb_ BK274) hb); replace HB := am_ (below_step (lw_ HB) hb); (try clear hb); (try clear hb2); (try clear hk); (try clear hi); have hnb14 := NB273_274.out; have hnc14 := NB274_273.out; obtain ⟨hcz15_0, hcz15_1, hcz15_2, hcz15_3, hfz15_0, hfz15_1, hfz15_2, hfz15_3⟩ := bx4_ BK273.out) | (go_at_call 55; (with_reducible refine (impl_IsRanked.calls k a1_0 _ _ l1_1 _ _ l1_2 _ _ l1_3 t276 _ ?side1 ?side2 ?side3 ?side4 ?side5 ?side6 A9.out).mono ?_); (case side1 => exact lc_ (Kd.C_below HR1_1.out HB.out)); (case side2 => exact HC1_1.out); (case side3 => exact lc_ (Kd.C_below HR1_2.out HB.out)); (case side4 => exact HC1_2.out); (case side5 => exact lc_ (Kd.C_below HR1_3.out HB.out)); (case side6 => exact HC1_3.out); rintro e w16 ⟨rfl, hb⟩; replace BK272 := am_ (blk_below (g := gb272) (lb_ BK272) hb); replace BK273 := am_ (blk_below (g := gb273) (lb_ BK273) hb); replace BK274 := am_ (blk_below (g := gb274) (lb_ BK274) hb); replace HB := am_ (below_step (lw_ HB) hb); (try clear hb); (try clear hb2); (try clear hk); (try clear hi)))
   go_meet
   case rel => exact ⟨_, (!t276), sr_, H', ⟨by first | omega | exact Nat.le_refl _⟩, ⟨lb_ BK272⟩, ⟨lb_ BK273⟩, ⟨lb_ BK274⟩, ⟨lw_ HB⟩⟩
  ·replace c8 := Bool.eq_false_iff.mpr c8
   subst c8
   have H1 : (impl_JoinRanked.j0 k true a0_0 l0_1 l0_2 l0_3 a1_0 l1_1 l1_2 l1_3) = some (r1, r2, r3, r4, r5) := by rw [if_neg (show ¬ (false = true) by decide)] at H; exact H
   clear H
   have H := H1
   clear H1
   have H' := am_ H
   clear H
   have hnb17 := NB272_273.out
   have hnc17 := NB273_272.out
   have hnb18 := NB272_274.out
   have hnc18 := NB274_272.out
   obtain ⟨hcz19_0, hcz19_1, hcz19_2, hcz19_3, hfz19_0, hfz19_1, hfz19_2, hfz19_3⟩ := bx4_ BK272.out
   go_wp2_with (first | ((with_reducible refine gate_callee (f := 55) rfl ?_); refine goesL_ (some 9) rfl rfl Try.func55 (by kernel_rfl) rfl #[.agg #[.int .i64 a0_0, .slice A0_1 l0_1.length c0_1, .slice A0_2 l0_2.length c0_2, .slice A0_3 l0_3.length c0_3]] rfl lm_ ?_; (with_reducible refine (impl_IsRanked.calls k a0_0 _ _ l0_1 _ _ l0_2 _ _ l0_3 false _ ?side1 ?side2 ?side3 ?side4 ?side5 ?side6 A7.out).mono ?_); (case side1 => exact lc_ (Kd.C_below HR0_1.out HB.out)); (case side2 => exact HC0_1.out); (case side3 => exact lc_ (Kd.C_below HR0_2.out HB.out)); (case side4 => exact HC0_2.out); (case side5 => exact lc_ (Kd.C_below HR0_3.out HB.out)); (case side6 => exact HC0_3.out); rintro e w20 ⟨rfl, hb⟩; refine ⟨_, rfl, ?_⟩; replace BK272 := am_ (blk_below (g := gb272) (lb_ BK272) hb); replace BK273 := am_ (blk_below (g := gb273) (lb_ BK273) hb); replace BK274 := am_ (blk_below (g := gb274) (lb_ BK274) hb); replace HB := am_ (below_step (lw_ HB) hb); (try clear hb); (try clear hb2); (try clear hk); (try clear hi)))
   go_meet
   case rel => exact ⟨_, (true), sr_, H', ⟨by first | omega | exact Nat.le_refl _⟩, ⟨lb_ BK272⟩, ⟨lb_ BK273⟩, ⟨lb_ BK274⟩, ⟨lw_ HB⟩⟩
 case rest =>
  clear HC3
  try clear c1
  try clear p2
  try clear c3
  try clear c5
  try clear c8
  try clear c10
  try clear c11
  try clear c14
  try clear c17
  try clear c18
  try clear hcz12_0
  try clear hcz12_1
  try clear hcz12_2
  try clear hcz12_3
  try clear hcz15_0
  try clear hcz15_1
  try clear hcz15_2
  try clear hcz15_3
  try clear hcz19_0
  try clear hcz19_1
  try clear hcz19_2
  try clear hcz19_3
  try clear hfz12_0
  try clear hfz12_1
  try clear hfz12_2
  try clear hfz12_3
  try clear hfz15_0
  try clear hfz15_1
  try clear hfz15_2
  try clear hfz15_3
  try clear hfz19_0
  try clear hfz19_1
  try clear hfz19_2
  try clear hfz19_3
  obtain ⟨kq, x15_2, rfl, HA, HJ2, BK272, BK273, BK274, HB⟩ := hcut
  cases kq with
  | zero => exact absurd HA.out (by simp [impl_JoinRanked.j0])
  | succ kj2 =>
   have H := HA.out
   clear HA
   simp only [impl_JoinRanked.j0] at H
   by_cases c21 : x15_2 = true
   ·subst c21
    have H1 : (some (0, ([] : List Int), ([] : List Int), ([] : List Int), false)) = some (r1, r2, r3, r4, r5) := by rw [if_pos rfl] at H; exact H
    clear H
    have H := H1
    clear H1
    simp only [Option.some.injEq, Prod.mk.injEq] at H
    obtain ⟨rfl, rfl, rfl, rfl, rfl⟩ := H
    have hnb22 := NB274_272.out
    have hnc22 := NB272_274.out
    have hnb23 := NB274_273.out
    have hnc23 := NB273_274.out
    obtain ⟨hcz24_0, hcz24_1, hcz24_2, hcz24_3, hfz24_0, hfz24_1, hfz24_2, hfz24_3⟩ := bx4_ BK274.out
    go_wp2
    refine bodyPost_ret (results_ct rfl _ _ gb274 48 #[.int .i64 0, .slice none 0 0, .slice none 0 0, .slice none 0 0] (0, 0) _ rfl (lq_ BK274) Try.underlying48 rfl (by kernel_rfl)) rfl ?_
    exact ⟨_, _, _, er_, by first | exact Kd.R_nil _ _ _ _ _ | exact Kd.N_nil _ _ _ _ _ | exact Kd.V_nil _ _ _ _ _ | exact Kd.Q_nil _ _ _ _ _ | exact Kd.S_nil _ _ _ _ _, by first | exact Kd.R_nil _ _ _ _ _ | exact Kd.N_nil _ _ _ _ _ | exact Kd.V_nil _ _ _ _ _ | exact Kd.Q_nil _ _ _ _ _ | exact Kd.S_nil _ _ _ _ _, by first | exact Kd.R_nil _ _ _ _ _ | exact Kd.N_nil _ _ _ _ _ | exact Kd.V_nil _ _ _ _ _ | exact Kd.Q_nil _ _ _ _ _ | exact Kd.S_nil _ _ _ _ _, lw_ HB⟩
   ·replace c21 := Bool.eq_false_iff.mpr c21
    subst c21
    have H1 : ((impl_JoinBits.f kj2 a0_0 l0_1 a1_0 l1_1).bind fun bt277 => (if bt277.2.2 = true then ((impl_ranked.f kj2 bt277.1 bt277.2.1).bind fun bt283 => (some (bt283.1, bt283.2.1, bt283.2.2.1, bt283.2.2.2, true))) else (some (0, ([] : List Int), ([] : List Int), ([] : List Int), false)))) = some (r1, r2, r3, r4, r5) := by rw [if_neg (show ¬ (false = true) by decide)] at H; exact H
    clear H
    have H := H1
    clear H1
    replace H := Option.bind_eq_some_iff.mp H
    obtain ⟨⟨t277, t278, t281⟩, A250, H⟩ := H
    replace H : (if t281 = true then ((impl_ranked.f kj2 t277 t278).bind fun bt283 => (some (bt283.1, bt283.2.1, bt283.2.2.1, bt283.2.2.2, true))) else (some (0, ([] : List Int), ([] : List Int), ([] : List Int), false))) = some (r1, r2, r3, r4, r5) := H
    have A25 := am_ A250
    clear A250
    by_cases c26 : t281 = true
    ·subst c26
     have H1 : ((impl_ranked.f kj2 t277 t278).bind fun bt283 => (some (bt283.1, bt283.2.1, bt283.2.2.1, bt283.2.2.2, true))) = some (r1, r2, r3, r4, r5) := by rw [if_pos rfl] at H; exact H
     clear H
     have H := H1
     clear H1
     replace H := Option.bind_eq_some_iff.mp H
     obtain ⟨⟨t283, t284, t287, t290⟩, A270, H⟩ := H
     replace H : (some (t283, t284, t287, t290, true)) = some (r1, r2, r3, r4, r5) := H
     have A27 := am_ A270
     clear A270
     simp only [Option.some.injEq, Prod.mk.injEq] at H
     obtain ⟨rfl, rfl, rfl, rfl, rfl⟩ := H
     have hnb28 := NB272_273.out
     have hnc28 := NB273_272.out
     have hnb29 := NB272_274.out
     have hnc29 := NB274_272.out
     obtain ⟨hcz30_0, hcz30_1, hcz30_2, hcz30_3, hfz30_0, hfz30_1, hfz30_2, hfz30_3⟩ := bx4_ BK272.out
     have hnb31 := NB273_274.out
     have hnc31 := NB274_273.out
     obtain ⟨hcz32_0, hcz32_1, hcz32_2, hcz32_3, hfz32_0, hfz32_1, hfz32_2, hfz32_3⟩ := bx4_ BK273.out
     go_wp2_with (first | ((with_reducible refine gate_callee (f := 26) rfl ?_); refine goesL_ (some 22) rfl rfl Try.func26 (by kernel_rfl) rfl #[.agg #[.int .i64 a0_0, .slice A0_1 l0_1.length c0_1], .agg #[.int .i64 a1_0, .slice A1_1 l1_1.length c1_1]] rfl lm_ ?_; (with_reducible refine (impl_JoinBits.calls kj2 a0_0 _ _ l0_1 a1_0 _ _ l1_1 t277 t278 true _ ?side1 ?side2 ?side3 ?side4 A25.out).mono ?_); (case side1 => exact lc_ (Kd.C_below HR0_1.out HB.out)); (case side2 => exact HC0_1.out); (case side3 => exact lc_ (Kd.C_below HR1_1.out HB.out)); (case side4 => exact HC1_1.out); rintro e w33 ⟨v279, rfl, ho0, hb⟩; refine ⟨_, rfl, ?_⟩; have HO280 := am_ (Kd.R_lower ho0 (below_size (lw_ HB))); replace BK272 := am_ (blk_below (g := gb272) (lb_ BK272) hb); replace BK273 := am_ (blk_below (g := gb273) (lb_ BK273) hb); replace BK274 := am_ (blk_below (g := gb274) (lb_ BK274) hb); replace HB := am_ (below_step (lw_ HB) hb); (try clear hb); (try clear hb2); (try clear hk); (try clear hi); (try clear ho0)) | ((with_reducible refine gate_dst (N := 6) rfl ?_); refine bev_ 6 #[.int .i64 0, .slice none 0 0] 26 rfl rfl ?_; intro gb282 hg w34 hbox hb; have BK282 := am_ (hbox); have GW282 := am_ ((by rw [hg]; exact (below_size (lw_ HB)) : w.heap.size ≤ gb282)); have GE282 := am_ ((by rw [hg]; exact (below_size (lw_ HB)) : w.heap.size ≤ gb282)); have NB272_282 := am_ ((by rw [hg]; exact Nat.ne_of_lt (blk_lt (g := gb272) (lb_ BK272)) : gb272 ≠ gb282)); have NB282_272 := am_ ((by rw [hg]; exact Nat.ne_of_gt (blk_lt (g := gb272) (lb_ BK272)) : gb282 ≠ gb272)); have NB273_282 := am_ ((by rw [hg]; exact Nat.ne_of_lt (blk_lt (g := gb273) (lb_ BK273)) : gb273 ≠ gb282)); have NB282_273 := am_ ((by rw [hg]; exact Nat.ne_of_gt (blk_lt (g := gb273) (lb_ BK273)) : gb282 ≠ gb273)); have NB274_282 := am_ ((by rw [hg]; exact Nat.ne_of_lt (blk_lt (g := gb274) (lb_ BK274)) : gb274 ≠ gb282)); have NB282_274 := am_ ((by rw [hg]; exact Nat.ne_of_gt (blk_lt (g := gb274) (lb_ BK274)) : gb282 ≠ gb274)); replace HO280 := am_ (Kd.R_below (lf_ HO280) hb); replace BK272 := am_ (blk_below (g := gb272) (lb_ BK272) hb); replace BK273 := am_ (blk_below (g := gb273) (lb_ BK273) hb); replace BK274 := am_ (blk_below (g := gb274) (lb_ BK274) hb); replace HB := am_ (below_step (lw_ HB) hb); clear hb hbox hg; have hnb35 := NB282_272.out; have hnc35 := NB272_282.out; have hnb36 := NB282_273.out; have hnc36 := NB273_282.out; have hnb37 := NB282_274.out; have hnc37 := NB274_282.out; obtain ⟨hcz38_0, hcz38_1, hfz38_0, hfz38_1⟩ := bx2_ BK282.out; obtain ⟨Ao39, co39, eo39⟩ := Kd.R_slice HO280.out; subst eo39) | ((with_reducible refine gate_callee (f := 96) rfl ?_); refine goesL_ (some 29) rfl rfl Try.func96 (by kernel_rfl) rfl #[.agg #[.int .i64 t277, .slice Ao39 t278.length co39]] rfl lm_ ?_; (with_reducible refine (impl_ranked.calls kj2 t277 _ _ t278 t283 t284 t287 t290 _ ?side1 ?side2 A27.out).mono ?_); (case side1 => refine (Kd.R_reads' (e := 3) (base := w.heap.size) (ok := fun k_ => True) (n := t278.length) (c := co39) ?_).2.2; exact (lt_ ((m1_ (fr2_ HO280.out BK282.out (.int .i64 t277) (.slice Ao39 t278.length co39)))))); (case side2 => exact (Kd.R_reads' HO280.out).2.1); rintro e w40 ⟨v285, v288, v291, rfl, ho0, ho1, ho2, hb⟩; refine ⟨_, rfl, ?_⟩; have HO286 := am_ (Kd.R_lower (Kd.R_new' ho0 (Kd.R_lt (lt_ ((m1_ (fr2_ HO280.out BK282.out (.int .i64 t277) (.slice Ao39 t278.length co39))))))) (below_size (lw_ HB))); have HO289 := am_ (Kd.R_lower (Kd.R_new' ho1 (Kd.R_lt (lt_ ((m1_ (fr2_ HO280.out BK282.out (.int .i64 t277) (.slice Ao39 t278.length co39))))))) (below_size (lw_ HB))); have HO292 := am_ (Kd.R_lower (Kd.R_new' ho2 (Kd.R_lt (lt_ ((m1_ (fr2_ HO280.out BK282.out (.int .i64 t277) (.slice Ao39 t278.length co39))))))) (below_size (lw_ HB))); replace HO280 := am_ (m1_ (td_ (td_ (td_ (Kd.R_old (lt_ ((m1_ (fr2_ HO280.out BK282.out (.int .i64 t277) (.slice Ao39 t278.length co39))))) hb) ho0) ho1) ho2)); replace BK272 := am_ (blk_below (g := gb272) (lg_ BK272) hb); replace BK273 := am_ (blk_below (g := gb273) (lg_ BK273) hb); replace BK274 := am_ (blk_below (g := gb274) (lg_ BK274) hb); replace BK282 := am_ (blk_below (g := gb282) (o := .cells #[.int .i64 t277, .slice Ao39 t278.length co39] 26 (0, 0)) (lq_ BK282) hb); replace HB := am_ (below_step (lw_ HB) hb); (try clear hb); (try clear hb2); (try clear hk); (try clear hi); (try clear ho0); (try clear ho1); (try clear ho2); obtain ⟨hcz41_0, hcz41_1, hcz41_2, hcz41_3, hfz41_0, hfz41_1, hfz41_2, hfz41_3⟩ := bx4_ BK274.out; obtain ⟨Ao42, co42, eo42⟩ := Kd.R_slice HO286.out; subst eo42; obtain ⟨Ao43, co43, eo43⟩ := Kd.R_slice HO289.out; subst eo43; obtain ⟨Ao44, co44, eo44⟩ := Kd.R_slice HO292.out; subst eo44))
     refine bodyPost_ret (results_ct rfl _ _ gb274 48 #[.int .i64 t283, .slice Ao42 t284.length co42, .slice Ao43 t287.length co43, .slice Ao44 t290.length co44] (0, 0) _ rfl (lq_ BK274) Try.underlying48 rfl (by kernel_rfl)) rfl ?_
     exact ⟨_, _, _, er_, lo2_ (fr4_ HO286.out BK274.out (.int .i64 t283) (.slice Ao42 t284.length co42) (.slice Ao43 t287.length co43) (.slice Ao44 t290.length co44)), lo2_ (fr4_ HO289.out BK274.out (.int .i64 t283) (.slice Ao42 t284.length co42) (.slice Ao43 t287.length co43) (.slice Ao44 t290.length co44)), lo2_ (fr4_ HO292.out BK274.out (.int .i64 t283) (.slice Ao42 t284.length co42) (.slice Ao43 t287.length co43) (.slice Ao44 t290.length co44)), lw_ HB⟩
    ·replace c26 := Bool.eq_false_iff.mpr c26
     subst c26
     have H1 : (some (0, ([] : List Int), ([] : List Int), ([] : List Int), false)) = some (r1, r2, r3, r4, r5) := by rw [if_neg (show ¬ (false = true) by decide)] at H; exact H
     clear H
     have H := H1
     clear H1
     simp only [Option.some.injEq, Prod.mk.injEq] at H
     obtain ⟨rfl, rfl, rfl, rfl, rfl⟩ := H
     have hnb45 := NB272_273.out
     have hnc45 := NB273_272.out
     have hnb46 := NB272_274.out
     have hnc46 := NB274_272.out
     obtain ⟨hcz47_0, hcz47_1, hcz47_2, hcz47_3, hfz47_0, hfz47_1, hfz47_2, hfz47_3⟩ := bx4_ BK272.out
     have hnb48 := NB273_274.out
     have hnc48 := NB274_273.out
     obtain ⟨hcz49_0, hcz49_1, hcz49_2, hcz49_3, hfz49_0, hfz49_1, hfz49_2, hfz49_3⟩ := bx4_ BK273.out
     go_wp2_with (first | ((with_reducible refine gate_callee (f := 26) rfl ?_); refine goesL_ (some 22) rfl rfl Try.func26 (by kernel_rfl) rfl #[.agg #[.int .i64 a0_0, .slice A0_1 l0_1.length c0_1], .agg #[.int .i64 a1_0, .slice A1_1 l1_1.length c1_1]] rfl lm_ ?_; (with_reducible refine (impl_JoinBits.calls kj2 a0_0 _ _ l0_1 a1_0 _ _ l1_1 t277 t278 false _ ?side1 ?side2 ?side3 ?side4 A25.out).mono ?_); (case side1 => exact lc_ (Kd.C_below HR0_1.out HB.out)); (case side2 => exact HC0_1.out); (case side3 => exact lc_ (Kd.C_below HR1_1.out HB.out)); (case side4 => exact HC1_1.out); rintro e w50 ⟨v279, rfl, ho0, hb⟩; refine ⟨_, rfl, ?_⟩; have HO280 := am_ (Kd.R_lower ho0 (below_size (lw_ HB))); replace BK272 := am_ (blk_below (g := gb272) (lb_ BK272) hb); replace BK273 := am_ (blk_below (g := gb273) (lb_ BK273) hb); replace BK274 := am_ (blk_below (g := gb274) (lb_ BK274) hb); replace HB := am_ (below_step (lw_ HB) hb); (try clear hb); (try clear hb2); (try clear hk); (try clear hi); (try clear ho0)) | ((with_reducible refine gate_dst (N := 6) rfl ?_); refine bev_ 6 #[.int .i64 0, .slice none 0 0] 26 rfl rfl ?_; intro gb282 hg w51 hbox hb; have BK282 := am_ (hbox); have GW282 := am_ ((by rw [hg]; exact (below_size (lw_ HB)) : w.heap.size ≤ gb282)); have GE282 := am_ ((by rw [hg]; exact (below_size (lw_ HB)) : w.heap.size ≤ gb282)); have NB272_282 := am_ ((by rw [hg]; exact Nat.ne_of_lt (blk_lt (g := gb272) (lb_ BK272)) : gb272 ≠ gb282)); have NB282_272 := am_ ((by rw [hg]; exact Nat.ne_of_gt (blk_lt (g := gb272) (lb_ BK272)) : gb282 ≠ gb272)); have NB273_282 := am_ ((by rw [hg]; exact Nat.ne_of_lt (blk_lt (g := gb273) (lb_ BK273)) : gb273 ≠ gb282)); have NB282_273 := am_ ((by rw [hg]; exact Nat.ne_of_gt (blk_lt (g := gb273) (lb_ BK273)) : gb282 ≠ gb273)); have NB274_282 := am_ ((by rw [hg]; exact Nat.ne_of_lt (blk_lt (g := gb274) (lb_ BK274)) : gb274 ≠ gb282)); have NB282_274 := am_ ((by rw [hg]; exact Nat.ne_of_gt (blk_lt (g := gb274) (lb_ BK274)) : gb282 ≠ gb274)); replace HO280 := am_ (Kd.R_below (lf_ HO280) hb); replace BK272 := am_ (blk_below (g := gb272) (lb_ BK272) hb); replace BK273 := am_ (blk_below (g := gb273) (lb_ BK273) hb); replace BK274 := am_ (blk_below (g := gb274) (lb_ BK274) hb); replace HB := am_ (below_step (lw_ HB) hb); clear hb hbox hg; have hnb52 := NB282_272.out; have hnc52 := NB272_282.out; have hnb53 := NB282_273.out; have hnc53 := NB273_282.out; have hnb54 := NB282_274.out; have hnc54 := NB274_282.out; obtain ⟨hcz55_0, hcz55_1, hfz55_0, hfz55_1⟩ := bx2_ BK282.out; obtain ⟨Ao56, co56, eo56⟩ := Kd.R_slice HO280.out; subst eo56; obtain ⟨hcz57_0, hcz57_1, hcz57_2, hcz57_3, hfz57_0, hfz57_1, hfz57_2, hfz57_3⟩ := bx4_ BK274.out))
     refine bodyPost_ret (results_ct rfl _ _ gb274 48 #[.int .i64 0, .slice none 0 0, .slice none 0 0, .slice none 0 0] (0, 0) _ rfl (lq_ BK274) Try.underlying48 rfl (by kernel_rfl)) rfl ?_
     exact ⟨_, _, _, er_, by first | exact Kd.R_nil _ _ _ _ _ | exact Kd.N_nil _ _ _ _ _ | exact Kd.V_nil _ _ _ _ _ | exact Kd.Q_nil _ _ _ _ _ | exact Kd.S_nil _ _ _ _ _, by first | exact Kd.R_nil _ _ _ _ _ | exact Kd.N_nil _ _ _ _ _ | exact Kd.V_nil _ _ _ _ _ | exact Kd.Q_nil _ _ _ _ _ | exact Kd.S_nil _ _ _ _ _, by first | exact Kd.R_nil _ _ _ _ _ | exact Kd.N_nil _ _ _ _ _ | exact Kd.V_nil _ _ _ _ _ | exact Kd.Q_nil _ _ _ _ _ | exact Kd.S_nil _ _ _ _ _, lw_ HB⟩

/-! ### laws_big: function 45 -/
def laws_big.f (l0 : List Int) (l1 : List Int) : Option (Bool) := if (l0.length : Int) > 1048576 then (some true) else (some (decide ((l1.length : Int) > (wrap64 (1048576 - (l0.length : Int))))))
set_option maxHeartbeats 8000000 in
set_option maxRecDepth 100000 in
theorem laws_big.calls (A0 : Option Addr) (c0 : Nat) (l0 : List Int) (A1 : Option Addr) (c1 : Nat) (l1 : List Int) (r : Bool) (w : World) (hr0 : Kd.C (Kd.int .u8) w A0 l0.length l0) (hc0 : l0.length ≤ c0) (hr1 : Kd.C (Kd.int .u8) w A1 l1.length l1) (hc1 : l1.length ≤ c1) (h : laws_big.f l0 l1 = some r) :
  Calls Try.prog 45 #[.slice A0 l0.length c0, .slice A1 l1.length c1] w fun e w' => e = .returned (.bool r) ∧ Drawn0 w w' := by
 have HR0 := am_ hr0
 have HC0 := am_ hc0
 clear hr0 hc0
 have HR1 := am_ hr1
 have HC1 := am_ hc1
 clear hr1 hc1
 have H : (if (l0.length : Int) > 1048576 then (some true) else (some (decide ((l1.length : Int) > (wrap64 (1048576 - (l0.length : Int))))))) = some r := h
 clear h
 by_cases c3 : (l0.length : Int) > 1048576
 ·rw [if_pos c3] at H
  have c3b0 : decide (1048576 < (l0.length : Int)) = true := decide_eq_true c3
  have c3b1 : decide (1048576 < l0.length) = true := decide_eq_true (by omega)
  clear c3
  obtain rfl := Option.some.inj H
  go_enter Try.func45, Try.ntmps45
  go_wp2
  go_ret
  exact ⟨by first | rfl | (simp; done) | (simp [*]; done), by repeat (first | exact Drawn0.refl _ | apply Drawn0.step)⟩
 ·rw [if_neg c3] at H
  have c3b0 : decide (1048576 < (l0.length : Int)) = false := decide_eq_false c3
  have c3b1 : decide (1048576 < l0.length) = false := decide_eq_false (by omega)
  clear c3
  obtain rfl := Option.some.inj H
  go_enter Try.func45, Try.ntmps45
  go_wp2
  go_ret
  exact ⟨by first | rfl | (simp; done) | (simp [*]; done), by repeat (first | exact Drawn0.refl _ | apply Drawn0.step)⟩

/-! ### laws_pSameInts: function 60 -/
def laws_pSameInts.l0 : Nat → List Int → List Int → Int → Int → Option (Bool)
 | 0, _, _, _, _ => none
 | k + 1, x0, x1, x12, x13 => if x13 < x12 then (if 0 ≤ x13 then (if x13 < (x0.length : Int) then (if x13 < (x1.length : Int) then (if (rd x0 x13) = (rd x1 x13) then (laws_pSameInts.l0 k x0 x1 x12 (wrap64 (x13 + 1))) else (some false)) else (none)) else (none)) else (none)) else (some true)
def laws_pSameInts.f (k : Nat) (l0 : List Int) (l1 : List Int) : Option (Bool) := if (l0.length : Int) = (l1.length : Int) then (laws_pSameInts.l0 k l0 l1 (l0.length : Int) 0) else (some false)
theorem laws_pSameInts.mono_l : ∀ k, (∀ y0 y1 y2 y3, LeO (laws_pSameInts.l0 k y0 y1 y2 y3) (laws_pSameInts.l0 (k + 1) y0 y1 y2 y3))
 | 0 => fun _ _ _ _ r h => by simp [laws_pSameInts.l0] at h
 | k + 1 => by
  have ih0 := laws_pSameInts.mono_l k
  ·intro y0 y1 y2 y3
   unfold laws_pSameInts.l0
   repeat' first
   | (with_reducible exact ih0 _ _ _ _)
   | (with_reducible exact LeO.refl _)
   | (with_reducible exact LeO.none _)
   | (with_reducible refine LeO.ite ?_ ?_)
   | (with_reducible refine LeO.bind ?_ (fun _ => ?_))
   | exact ih0 _ _ _ _
   | exact LeO.none _
   | refine LeO.ite ?_ ?_
   | refine LeO.bind ?_ (fun _ => ?_)
theorem laws_pSameInts.mono : ∀ a0 a1 k, LeO (laws_pSameInts.f k a0 a1) (laws_pSameInts.f (k + 1) a0 a1) := by
 intro a0 a1 k
 have ih0 := laws_pSameInts.mono_l k
 unfold laws_pSameInts.f
 repeat' first
   | (with_reducible exact ih0 _ _ _ _)
   | (with_reducible exact LeO.refl _)
   | (with_reducible exact LeO.none _)
   | (with_reducible refine LeO.ite ?_ ?_)
   | (with_reducible refine LeO.bind ?_ (fun _ => ?_))
   | exact ih0 _ _ _ _
   | exact LeO.none _
   | refine LeO.ite ?_ ?_
   | refine LeO.bind ?_ (fun _ => ?_)
set_option maxHeartbeats 8000000 in
set_option maxRecDepth 100000 in
theorem laws_pSameInts.calls (k : Nat) (A0 : Option Addr) (c0 : Nat) (l0 : List Int) (A1 : Option Addr) (c1 : Nat) (l1 : List Int) (r : Bool) (w : World) (hr0 : Kd.C (Kd.int .i64) w A0 l0.length l0) (hc0 : l0.length ≤ c0) (hr1 : Kd.C (Kd.int .i64) w A1 l1.length l1) (hc1 : l1.length ≤ c1) (h : laws_pSameInts.f k l0 l1 = some r) :
  Calls Try.prog 60 #[.slice A0 l0.length c0, .slice A1 l1.length c1] w fun e w' => e = .returned (.bool r) ∧ Drawn0 w w' := by
 have HR0 := am_ hr0
 have HC0 := am_ hc0
 clear hr0 hc0
 have HR1 := am_ hr1
 have HC1 := am_ hc1
 clear hr1 hc1
 have H : (if (l0.length : Int) = (l1.length : Int) then (laws_pSameInts.l0 k l0 l1 (l0.length : Int) 0) else (some false)) = some r := h
 clear h
 by_cases c3 : (l0.length : Int) = (l1.length : Int)
 ·rw [if_pos c3] at H
  have c3b0 : ((l0.length : Int) == (l1.length : Int)) = true := beq_iff_eq.mpr c3
  have c3b1 : ((l0.length : Int) != (l1.length : Int)) = false := bne_eq_false_iff_eq.mpr c3
  have c3b2 : (l0.length == l1.length) = true := by first | simpa using c3 | (simp at c3 ⊢; omega)
  clear c3
  have H' := am_ H
  clear H
  go_enter Try.func60, Try.ntmps60
  go_wp2
  repeat (go_quiet (fail); try go_wp2)
  go_loopg [13] k (fun kq v13 w' => ∃ (x13_1 : Int), v13 = .int .i64 x13_1 ∧ Aside0 (laws_pSameInts.l0 kq l0 l1 (l0.length : Int) x13_1 = some r) ∧ Aside0 (kq ≤ k) ∧ Drawn0 w w')
  case atStart => exact ⟨(0), sr_, H', ⟨Nat.le_refl _⟩, by repeat (first | exact Drawn0.refl _ | apply Drawn0.step)⟩
  case round =>
   clear H'
   try clear c1
   try clear p2
   try clear c3
   try clear c3b0
   try clear c3b1
   try clear c3b2
   obtain ⟨x13_1, rfl, HA, HK1, ⟨m1, rfl⟩⟩ := hrel
   cases gk with
   | zero => exact absurd HA.out (by simp [laws_pSameInts.l0])
   | succ k1 =>
    have H := HA.out
    clear HA
    simp only [laws_pSameInts.l0] at H
    by_cases c4 : x13_1 < (l0.length : Int)
    ·rw [if_pos c4] at H
     have c4b0 : decide (x13_1 < (l0.length : Int)) = true := decide_eq_true c4
     clear c4
     by_cases c5 : 0 ≤ x13_1
     ·rw [if_pos c5] at H
      have c5b0 : decide (0 ≤ x13_1) = true := decide_eq_true c5
      clear c5
      by_cases c6 : x13_1 < (l0.length : Int)
      ·rw [if_pos c6] at H
       have c6b0 : decide (x13_1 < (l0.length : Int)) = true := decide_eq_true c6
       clear c6
       by_cases c7 : x13_1 < (l1.length : Int)
       ·rw [if_pos c7] at H
        have c7b0 : decide (x13_1 < (l1.length : Int)) = true := decide_eq_true c7
        clear c7
        by_cases c8 : (rd l0 x13_1) = (rd l1 x13_1)
        ·rw [if_pos c8] at H
         have c8b0 : ((rd l0 x13_1) == (rd l1 x13_1)) = true := beq_iff_eq.mpr c8
         have c8b1 : ((rd l0 x13_1) != (rd l1 x13_1)) = false := bne_eq_false_iff_eq.mpr c8
         clear c8
         have H' := am_ H
         clear H
         have p293 : 0 ≤ (x13_1 : Int) := of_decide_eq_true (by first | (with_reducible assumption) | assumption)
         have q293 : x13_1 < (l0.length : Int) := of_decide_eq_true (by first | (with_reducible assumption) | assumption)
         obtain ⟨ad293, e293, hx293_0⟩ := Kd.at_int HR0.out x13_1 p293 q293
         cases e293
         replace p293 := eq_true p293
         replace q293 := eq_true q293
         have p294 : 0 ≤ (x13_1 : Int) := of_decide_eq_true (by first | (with_reducible assumption) | assumption)
         have q294 : x13_1 < (l1.length : Int) := of_decide_eq_true (by first | (with_reducible assumption) | assumption)
         obtain ⟨ad294, e294, hx294_0⟩ := Kd.at_int HR1.out x13_1 p294 q294
         cases e294
         replace p294 := eq_true p294
         replace q294 := eq_true q294
         go_wp2
         repeat (go_quiet (fail); try go_wp2)
         go_roundg k1
         case measure => have := HK1.out; omega
         case rel => exact ⟨(wrap64 (x13_1 + 1)), sr_, H', ⟨by have := HK1.out; omega⟩, by repeat (first | exact Drawn0.refl _ | apply Drawn0.step)⟩
        ·rw [if_neg c8] at H
         have c8b0 : ((rd l0 x13_1) == (rd l1 x13_1)) = false := beq_eq_false_iff_ne.mpr c8
         have c8b1 : ((rd l0 x13_1) != (rd l1 x13_1)) = true := bne_iff_ne.mpr c8
         obtain rfl := Option.some.inj H
         have p293 : 0 ≤ (x13_1 : Int) := of_decide_eq_true (by first | (with_reducible assumption) | assumption)
         have q293 : x13_1 < (l0.length : Int) := of_decide_eq_true (by first | (with_reducible assumption) | assumption)
         obtain ⟨ad293, e293, hx293_0⟩ := Kd.at_int HR0.out x13_1 p293 q293
         cases e293
         replace p293 := eq_true p293
         replace q293 := eq_true q293
         have p294 : 0 ≤ (x13_1 : Int) := of_decide_eq_true (by first | (with_reducible assumption) | assumption)
         have q294 : x13_1 < (l1.length : Int) := of_decide_eq_true (by first | (with_reducible assumption) | assumption)
         obtain ⟨ad294, e294, hx294_0⟩ := Kd.at_int HR1.out x13_1 p294 q294
         cases e294
         replace p294 := eq_true p294
         replace q294 := eq_true q294
         go_wp2
         repeat (go_quiet (fail); try go_wp2)
         go_ret
         exact ⟨by first | rfl | (simp; done) | (simp [*]; done), by repeat (first | exact Drawn0.refl _ | apply Drawn0.step)⟩
       ·rw [if_neg c7] at H
        exact absurd H (by simp)
      ·rw [if_neg c6] at H
       exact absurd H (by simp)
     ·rw [if_neg c5] at H
      exact absurd H (by simp)
    ·rw [if_neg c4] at H
     have c4b0 : decide (x13_1 < (l0.length : Int)) = false := decide_eq_false c4
     clear c4
     obtain rfl := Option.some.inj H
     go_wp2
     repeat (go_quiet (fail); try go_wp2)
     go_ret
     exact ⟨by first | rfl | (simp; done) | (simp [*]; done), by repeat (first | exact Drawn0.refl _ | apply Drawn0.step)⟩
 ·rw [if_neg c3] at H
  have c3b0 : ((l0.length : Int) == (l1.length : Int)) = false := beq_eq_false_iff_ne.mpr c3
  have c3b1 : ((l0.length : Int) != (l1.length : Int)) = true := bne_iff_ne.mpr c3
  have c3b2 : (l0.length == l1.length) = false := by first | simpa using c3 | (simp at c3 ⊢; omega)
  obtain rfl := Option.some.inj H
  go_enter Try.func60, Try.ntmps60
  go_wp2
  repeat (go_quiet (fail); try go_wp2)
  go_ret
  exact ⟨by first | rfl | (simp; done) | (simp [*]; done), by repeat (first | exact Drawn0.refl _ | apply Drawn0.step)⟩

/-! ### laws_pSameBits: function 47 -/
def laws_pSameBits.f (k : Nat) (a0_0 : Int) (l0_1 : List Int) (a1_0 : Int) (l1_1 : List Int) : Option (Bool) := if a0_0 = a1_0 then ((laws_pSameInts.f k l0_1 l1_1).bind fun t297 => (some t297)) else (some false)
theorem laws_pSameBits.mono : ∀ a0 a1 a2 a3 k, LeO (laws_pSameBits.f k a0 a1 a2 a3) (laws_pSameBits.f (k + 1) a0 a1 a2 a3) := by
 intro a0 a1 a2 a3 k
 unfold laws_pSameBits.f
 repeat' first
   | (with_reducible exact laws_pSameInts.mono _ _ _)
   | (with_reducible exact LeO.refl _)
   | (with_reducible exact LeO.none _)
   | (with_reducible refine LeO.ite ?_ ?_)
   | (with_reducible refine LeO.bind ?_ (fun _ => ?_))
   | exact laws_pSameInts.mono _ _ _
   | exact LeO.none _
   | refine LeO.ite ?_ ?_
   | refine LeO.bind ?_ (fun _ => ?_)
set_option maxHeartbeats 8000000 in
set_option maxRecDepth 100000 in
theorem laws_pSameBits.calls (k : Nat) (a0_0 : Int) (A0_1 : Option Addr) (c0_1 : Nat) (l0_1 : List Int) (a1_0 : Int) (A1_1 : Option Addr) (c1_1 : Nat) (l1_1 : List Int) (r : Bool) (w : World) (hr0_1 : Kd.C (Kd.int .i64) w A0_1 l0_1.length l0_1) (hc0_1 : l0_1.length ≤ c0_1) (hr1_1 : Kd.C (Kd.int .i64) w A1_1 l1_1.length l1_1) (hc1_1 : l1_1.length ≤ c1_1) (h : laws_pSameBits.f k a0_0 l0_1 a1_0 l1_1 = some r) :
  Calls Try.prog 47 #[.agg #[.int .i64 a0_0, .slice A0_1 l0_1.length c0_1], .agg #[.int .i64 a1_0, .slice A1_1 l1_1.length c1_1]] w fun e w' => e = .returned (.bool r) ∧ Below w.heap.size w w' := by
 have hu26 := Try.underlying26
 have HR0_1 := am_ hr0_1
 have HC0_1 := am_ hc0_1
 clear hr0_1 hc0_1
 have HR1_1 := am_ hr1_1
 have HC1_1 := am_ hc1_1
 clear hr1_1 hc1_1
 have HB := am_ (Below.refl w.heap.size w)
 have H : (if a0_0 = a1_0 then ((laws_pSameInts.f k l0_1 l1_1).bind fun t297 => (some t297)) else (some false)) = some r := h
 clear h
 by_cases c3 : a0_0 = a1_0
 ·rw [if_pos c3] at H
  have c3b0 : (a0_0 == a1_0) = true := beq_iff_eq.mpr c3
  have c3b1 : (a0_0 != a1_0) = false := bne_eq_false_iff_eq.mpr c3
  clear c3
  replace H := Option.bind_eq_some_iff.mp H
  obtain ⟨t297, A40, H⟩ := H
  replace H : (some t297) = some r := H
  have A4 := am_ A40
  clear A40
  obtain rfl := Option.some.inj H
  go_enter Try.func47, Try.ntmps47
  go_wp2_with (first | ((with_reducible refine gate_dst (N := 2) rfl ?_); refine bev_ 2 #[.int .i64 a0_0, .slice A0_1 l0_1.length c0_1] 26 rfl rfl ?_; intro gb295 hg w5 hbox hb; have BK295 := am_ (hbox); have GW295 := am_ ((by rw [hg]; exact (below_size (lw_ HB)) : w.heap.size ≤ gb295)); have GE295 := am_ ((by rw [hg]; exact (below_size (lw_ HB)) : w.heap.size ≤ gb295)); replace HB := am_ (below_step (lw_ HB) hb); clear hb hbox hg) | ((with_reducible refine gate_dst (N := 3) rfl ?_); refine bev_ 3 #[.int .i64 a1_0, .slice A1_1 l1_1.length c1_1] 26 rfl rfl ?_; intro gb296 hg w6 hbox hb; have BK296 := am_ (hbox); have GW296 := am_ ((by rw [hg]; exact (below_size (lw_ HB)) : w.heap.size ≤ gb296)); have GE296 := am_ ((by rw [hg]; exact (below_size (lw_ HB)) : w.heap.size ≤ gb296)); have NB295_296 := am_ ((by rw [hg]; exact Nat.ne_of_lt (blk_lt (g := gb295) (lb_ BK295)) : gb295 ≠ gb296)); have NB296_295 := am_ ((by rw [hg]; exact Nat.ne_of_gt (blk_lt (g := gb295) (lb_ BK295)) : gb296 ≠ gb295)); replace BK295 := am_ (blk_below (g := gb295) (lb_ BK295) hb); replace HB := am_ (below_step (lw_ HB) hb); clear hb hbox hg; have hnb7 := NB295_296.out; have hnc7 := NB296_295.out; obtain ⟨hcz8_0, hcz8_1, hfz8_0, hfz8_1⟩ := bx2_ BK295.out; obtain ⟨hcz9_0, hcz9_1, hfz9_0, hfz9_1⟩ := bx2_ BK296.out) | (go_at_call 60; (with_reducible refine (laws_pSameInts.calls k _ _ l0_1 _ _ l1_1 t297 _ ?side1 ?side2 ?side3 ?side4 A4.out).mono ?_); (case side1 => exact lc_ (Kd.C_below HR0_1.out HB.out)); (case side2 => exact HC0_1.out); (case side3 => exact lc_ (Kd.C_below HR1_1.out HB.out)); (case side4 => exact HC1_1.out); rintro e w' ⟨rfl, ⟨nd, rfl⟩⟩))
  go_ret
  exact ⟨er_, lw_ HB⟩
 ·rw [if_neg c3] at H
  have c3b0 : (a0_0 == a1_0) = false := beq_eq_false_iff_ne.mpr c3
  have c3b1 : (a0_0 != a1_0) = true := bne_iff_ne.mpr c3
  obtain rfl := Option.some.inj H
  go_enter Try.func47, Try.ntmps47
  go_wp2_with (first | ((with_reducible refine gate_dst (N := 2) rfl ?_); refine bev_ 2 #[.int .i64 a0_0, .slice A0_1 l0_1.length c0_1] 26 rfl rfl ?_; intro gb295 hg w10 hbox hb; have BK295 := am_ (hbox); have GW295 := am_ ((by rw [hg]; exact (below_size (lw_ HB)) : w.heap.size ≤ gb295)); have GE295 := am_ ((by rw [hg]; exact (below_size (lw_ HB)) : w.heap.size ≤ gb295)); replace HB := am_ (below_step (lw_ HB) hb); clear hb hbox hg) | ((with_reducible refine gate_dst (N := 3) rfl ?_); refine bev_ 3 #[.int .i64 a1_0, .slice A1_1 l1_1.length c1_1] 26 rfl rfl ?_; intro gb296 hg w11 hbox hb; have BK296 := am_ (hbox); have GW296 := am_ ((by rw [hg]; exact (below_size (lw_ HB)) : w.heap.size ≤ gb296)); have GE296 := am_ ((by rw [hg]; exact (below_size (lw_ HB)) : w.heap.size ≤ gb296)); have NB295_296 := am_ ((by rw [hg]; exact Nat.ne_of_lt (blk_lt (g := gb295) (lb_ BK295)) : gb295 ≠ gb296)); have NB296_295 := am_ ((by rw [hg]; exact Nat.ne_of_gt (blk_lt (g := gb295) (lb_ BK295)) : gb296 ≠ gb295)); replace BK295 := am_ (blk_below (g := gb295) (lb_ BK295) hb); replace HB := am_ (below_step (lw_ HB) hb); clear hb hbox hg; have hnb12 := NB295_296.out; have hnc12 := NB296_295.out; obtain ⟨hcz13_0, hcz13_1, hfz13_0, hfz13_1⟩ := bx2_ BK295.out; obtain ⟨hcz14_0, hcz14_1, hfz14_0, hfz14_1⟩ := bx2_ BK296.out))
  go_ret
  exact ⟨er_, lw_ HB⟩

/-! ### laws_pSameRanked: function 49 -/
def laws_pSameRanked.f (k : Nat) (a0_0 : Int) (l0_1 : List Int) (l0_2 : List Int) (l0_3 : List Int) (a1_0 : Int) (l1_1 : List Int) (l1_2 : List Int) (l1_3 : List Int) : Option (Bool) := (laws_pSameBits.f k a0_0 l0_1 a1_0 l1_1).bind fun t300 => (if t300 = true then ((laws_pSameInts.f k l0_2 l1_2).bind fun t301 => (if t301 = true then ((laws_pSameInts.f k l0_3 l1_3).bind fun t302 => (some t302)) else (some false))) else (some false))
theorem laws_pSameRanked.mono : ∀ a0 a1 a2 a3 a4 a5 a6 a7 k, LeO (laws_pSameRanked.f k a0 a1 a2 a3 a4 a5 a6 a7) (laws_pSameRanked.f (k + 1) a0 a1 a2 a3 a4 a5 a6 a7) := by
 intro a0 a1 a2 a3 a4 a5 a6 a7 k
 unfold laws_pSameRanked.f
 repeat' first
   | (with_reducible exact laws_pSameBits.mono _ _ _ _ _)
   | (with_reducible exact laws_pSameInts.mono _ _ _)
   | (with_reducible exact LeO.refl _)
   | (with_reducible exact LeO.none _)
   | (with_reducible refine LeO.ite ?_ ?_)
   | (with_reducible refine LeO.bind ?_ (fun _ => ?_))
   | exact laws_pSameBits.mono _ _ _ _ _
   | exact laws_pSameInts.mono _ _ _
   | exact LeO.none _
   | refine LeO.ite ?_ ?_
   | refine LeO.bind ?_ (fun _ => ?_)
set_option maxHeartbeats 8000000 in
set_option maxRecDepth 100000 in
theorem laws_pSameRanked.calls (k : Nat) (a0_0 : Int) (A0_1 : Option Addr) (c0_1 : Nat) (l0_1 : List Int) (A0_2 : Option Addr) (c0_2 : Nat) (l0_2 : List Int) (A0_3 : Option Addr) (c0_3 : Nat) (l0_3 : List Int) (a1_0 : Int) (A1_1 : Option Addr) (c1_1 : Nat) (l1_1 : List Int) (A1_2 : Option Addr) (c1_2 : Nat) (l1_2 : List Int) (A1_3 : Option Addr) (c1_3 : Nat) (l1_3 : List Int) (r : Bool) (w : World) (hr0_1 : Kd.C (Kd.int .i64) w A0_1 l0_1.length l0_1) (hc0_1 : l0_1.length ≤ c0_1) (hr0_2 : Kd.C (Kd.int .i64) w A0_2 l0_2.length l0_2) (hc0_2 : l0_2.length ≤ c0_2) (hr0_3 : Kd.C (Kd.int .i64) w A0_3 l0_3.length l0_3) (hc0_3 : l0_3.length ≤ c0_3) (hr1_1 : Kd.C (Kd.int .i64) w A1_1 l1_1.length l1_1) (hc1_1 : l1_1.length ≤ c1_1) (hr1_2 : Kd.C (Kd.int .i64) w A1_2 l1_2.length l1_2) (hc1_2 : l1_2.length ≤ c1_2) (hr1_3 : Kd.C (Kd.int .i64) w A1_3 l1_3.length l1_3) (hc1_3 : l1_3.length ≤ c1_3) (h : laws_pSameRanked.f k a0_0 l0_1 l0_2 l0_3 a1_0 l1_1 l1_2 l1_3 = some r) :
  Calls Try.prog 49 #[.agg #[.int .i64 a0_0, .slice A0_1 l0_1.length c0_1, .slice A0_2 l0_2.length c0_2, .slice A0_3 l0_3.length c0_3], .agg #[.int .i64 a1_0, .slice A1_1 l1_1.length c1_1, .slice A1_2 l1_2.length c1_2, .slice A1_3 l1_3.length c1_3]] w fun e w' => e = .returned (.bool r) ∧ Below w.heap.size w w' := by
 have hu48 := Try.underlying48
 have hu26 := Try.underlying26
 have HR0_1 := am_ hr0_1
 have HC0_1 := am_ hc0_1
 clear hr0_1 hc0_1
 have HR0_2 := am_ hr0_2
 have HC0_2 := am_ hc0_2
 clear hr0_2 hc0_2
 have HR0_3 := am_ hr0_3
 have HC0_3 := am_ hc0_3
 clear hr0_3 hc0_3
 have HR1_1 := am_ hr1_1
 have HC1_1 := am_ hc1_1
 clear hr1_1 hc1_1
 have HR1_2 := am_ hr1_2
 have HC1_2 := am_ hc1_2
 clear hr1_2 hc1_2
 have HR1_3 := am_ hr1_3
 have HC1_3 := am_ hc1_3
 clear hr1_3 hc1_3
 have HB := am_ (Below.refl w.heap.size w)
 have H : ((laws_pSameBits.f k a0_0 l0_1 a1_0 l1_1).bind fun t300 => (if t300 = true then ((laws_pSameInts.f k l0_2 l1_2).bind fun t301 => (if t301 = true then ((laws_pSameInts.f k l0_3 l1_3).bind fun t302 => (some t302)) else (some false))) else (some false))) = some r := h
 clear h
 replace H := Option.bind_eq_some_iff.mp H
 obtain ⟨t300, A30, H⟩ := H
 replace H : (if t300 = true then ((laws_pSameInts.f k l0_2 l1_2).bind fun t301 => (if t301 = true then ((laws_pSameInts.f k l0_3 l1_3).bind fun t302 => (some t302)) else (some false))) else (some false)) = some r := H
 have A3 := am_ A30
 clear A30
 by_cases c4 : t300 = true
 ·subst c4
  have H1 : ((laws_pSameInts.f k l0_2 l1_2).bind fun t301 => (if t301 = true then ((laws_pSameInts.f k l0_3 l1_3).bind fun t302 => (some t302)) else (some false))) = some r := by rw [if_pos rfl] at H; exact H
  clear H
  have H := H1
  clear H1
  replace H := Option.bind_eq_some_iff.mp H
  obtain ⟨t301, A50, H⟩ := H
  replace H : (if t301 = true then ((laws_pSameInts.f k l0_3 l1_3).bind fun t302 => (some t302)) else (some false)) = some r := H
  have A5 := am_ A50
  clear A50
  by_cases c6 : t301 = true
  ·subst c6
   have H1 : ((laws_pSameInts.f k l0_3 l1_3).bind fun t302 => (some t302)) = some r := by rw [if_pos rfl] at H; exact H
   clear H
   have H := H1
   clear H1
   replace H := Option.bind_eq_some_iff.mp H
   obtain ⟨t302, A70, H⟩ := H
   replace H : (some t302) = some r := H
   have A7 := am_ A70
   clear A70
   obtain rfl := Option.some.inj H
   go_enter Try.func49, Try.ntmps49
   go_wp2_with (first | ((with_reducible refine gate_dst (N := 2) rfl ?_); refine bev_ 2 #[.int .i64 a0_0, .slice A0_1 l0_1.length c0_1, .slice A0_2 l0_2.length c0_2, .slice A0_3 l0_3.length c0_3] 48 rfl rfl ?_; intro gb298 hg w8 hbox hb; have BK298 := am_ (hbox); have GW298 := am_ ((by rw [hg]; exact (below_size (lw_ HB)) : w.heap.size ≤ gb298)); have GE298 := am_ ((by rw [hg]; exact (below_size (lw_ HB)) : w.heap.size ≤ gb298)); replace HB := am_ (below_step (lw_ HB) hb); clear hb hbox hg) | ((with_reducible refine gate_dst (N := 3) rfl ?_); refine bev_ 3 #[.int .i64 a1_0, .slice A1_1 l1_1.length c1_1, .slice A1_2 l1_2.length c1_2, .slice A1_3 l1_3.length c1_3] 48 rfl rfl ?_; intro gb299 hg w9 hbox hb; have BK299 := am_ (hbox); have GW299 := am_ ((by rw [hg]; exact (below_size (lw_ HB)) : w.heap.size ≤ gb299)); have GE299 := am_ ((by rw [hg]; exact (below_size (lw_ HB)) : w.heap.size ≤ gb299)); have NB298_299 := am_ ((by rw [hg]; exact Nat.ne_of_lt (blk_lt (g := gb298) (lb_ BK298)) : gb298 ≠ gb299)); have NB299_298 := am_ ((by rw [hg]; exact Nat.ne_of_gt (blk_lt (g := gb298) (lb_ BK298)) : gb299 ≠ gb298)); replace BK298 := am_ (blk_below (g := gb298) (lb_ BK298) hb); replace HB := am_ (below_step (lw_ HB) hb); clear hb hbox hg; have hnb10 := NB298_299.out; have hnc10 := NB299_298.out; obtain ⟨hcz11_0, hcz11_1, hcz11_2, hcz11_3, hfz11_0, hfz11_1, hfz11_2, hfz11_3⟩ := bx4_ BK298.out; obtain ⟨hcz12_0, hcz12_1, hcz12_2, hcz12_3, hfz12_0, hfz12_1, hfz12_2, hfz12_3⟩ := bx4_ BK299.out) | ((with_reducible refine gate_callee (f := 47) rfl ?_); refine goesL_ (some 9) rfl rfl Try.func47 (by kernel_rfl) rfl #[.agg #[.int .i64 a0_0, .slice A0_1 l0_1.length c0_1], .agg #[.int .i64 a1_0, .slice A1_1 l1_1.length c1_1]] rfl lm_ ?_; (with_reducible refine (laws_pSameBits.calls k a0_0 _ _ l0_1 a1_0 _ _ l1_1 true _ ?side1 ?side2 ?side3 ?side4 A3.out).mono ?_); (case side1 => exact lc_ (Kd.C_below HR0_1.out HB.out)); (case side2 => exact HC0_1.out); (case side3 => exact lc_ (Kd.C_below HR1_1.out HB.out)); (case side4 => exact HC1_1.out); rintro e w13 ⟨rfl, hb⟩; refine ⟨_, rfl, ?_⟩; replace BK298 := am_ (blk_below (g := gb298) (lb_ BK298) hb); replace BK299 := am_ (blk_below (g := gb299) (lb_ BK299) hb); replace HB := am_ (below_step (lw_ HB) hb); (try clear hb); (try clear hb2); (try clear hk); (try clear hi); obtain ⟨hcz14_0, hcz14_1, hcz14_2, hcz14_3, hfz14_0, hfz14_1, hfz14_2, hfz14_3⟩ := bx4_ BK298.out; obtain ⟨hcz15_0, hcz15_1, hcz15_2, hcz15_3, hfz15_0, hfz15_1, hfz15_2, hfz15_3⟩ := bx4_ BK299.out) | (go_at_call 60; (with_reducible refine (laws_pSameInts.calls k _ _ l0_2 _ _ l1_2 true _ ?side1 ?side2 ?side3 ?side4 A5.out).mono ?_); (case side1 => exact lc_ (Kd.C_below HR0_2.out HB.out)); (case side2 => exact HC0_2.out); (case side3 => exact lc_ (Kd.C_below HR1_2.out HB.out)); (case side4 => exact HC1_2.out); rintro e w' ⟨rfl, ⟨nd, rfl⟩⟩) | (go_at_call 60; (with_reducible refine (laws_pSameInts.calls k _ _ l0_3 _ _ l1_3 t302 _ ?side1 ?side2 ?side3 ?side4 A7.out).mono ?_); (case side1 => exact lc_ (Kd.C_below HR0_3.out (lw_ HB))); (case side2 => exact HC0_3.out); (case side3 => exact lc_ (Kd.C_below HR1_3.out (lw_ HB))); (case side4 => exact HC1_3.out); rintro e w' ⟨rfl, ⟨nd, rfl⟩⟩))
   go_ret
   exact ⟨er_, lw_ HB⟩
  ·replace c6 := Bool.eq_false_iff.mpr c6
   subst c6
   have H1 : (some false) = some r := by rw [if_neg (show ¬ (false = true) by decide)] at H; exact H
   clear H
   have H := H1
   clear H1
   obtain rfl := Option.some.inj H
   go_enter Try.func49, Try.ntmps49
   go_wp2_with (first | ((with_reducible refine gate_dst (N := 2) rfl ?_); refine bev_ 2 #[.int .i64 a0_0, .slice A0_1 l0_1.length c0_1, .slice A0_2 l0_2.length c0_2, .slice A0_3 l0_3.length c0_3] 48 rfl rfl ?_; intro gb298 hg w16 hbox hb; have BK298 := am_ (hbox); have GW298 := am_ ((by rw [hg]; exact (below_size (lw_ HB)) : w.heap.size ≤ gb298)); have GE298 := am_ ((by rw [hg]; exact (below_size (lw_ HB)) : w.heap.size ≤ gb298)); replace HB := am_ (below_step (lw_ HB) hb); clear hb hbox hg) | ((with_reducible refine gate_dst (N := 3) rfl ?_); refine bev_ 3 #[.int .i64 a1_0, .slice A1_1 l1_1.length c1_1, .slice A1_2 l1_2.length c1_2, .slice A1_3 l1_3.length c1_3] 48 rfl rfl ?_; intro gb299 hg w17 hbox hb; have BK299 := am_ (hbox); have GW299 := am_ ((by rw [hg]; exact (below_size (lw_ HB)) : w.heap.size ≤ gb299)); have GE299 := am_ ((by rw [hg]; exact (below_size (lw_ HB)) : w.heap.size ≤ gb299)); have NB298_299 := am_ ((by rw [hg]; exact Nat.ne_of_lt (blk_lt (g := gb298) (lb_ BK298)) : gb298 ≠ gb299)); have NB299_298 := am_ ((by rw [hg]; exact Nat.ne_of_gt (blk_lt (g := gb298) (lb_ BK298)) : gb299 ≠ gb298)); replace BK298 := am_ (blk_below (g := gb298) (lb_ BK298) hb); replace HB := am_ (below_step (lw_ HB) hb); clear hb hbox hg; have hnb18 := NB298_299.out; have hnc18 := NB299_298.out; obtain ⟨hcz19_0, hcz19_1, hcz19_2, hcz19_3, hfz19_0, hfz19_1, hfz19_2, hfz19_3⟩ := bx4_ BK298.out; obtain ⟨hcz20_0, hcz20_1, hcz20_2, hcz20_3, hfz20_0, hfz20_1, hfz20_2, hfz20_3⟩ := bx4_ BK299.out) | ((with_reducible refine gate_callee (f := 47) rfl ?_); refine goesL_ (some 9) rfl rfl Try.func47 (by kernel_rfl) rfl #[.agg #[.int .i64 a0_0, .slice A0_1 l0_1.length c0_1], .agg #[.int .i64 a1_0, .slice A1_1 l1_1.length c1_1]] rfl lm_ ?_; (with_reducible refine (laws_pSameBits.calls k a0_0 _ _ l0_1 a1_0 _ _ l1_1 true _ ?side1 ?side2 ?side3 ?side4 A3.out).mono ?_); (case side1 => exact lc_ (Kd.C_below HR0_1.out HB.out)); (case side2 => exact HC0_1.out); (case side3 => exact lc_ (Kd.C_below HR1_1.out HB.out)); (case side4 => exact HC1_1.out); rintro e w21 ⟨rfl, hb⟩; refine ⟨_, rfl, ?_⟩; replace BK298 := am_ (blk_below (g := gb298) (lb_ BK298) hb); replace BK299 := am_ (blk_below (g := gb299) (lb_ BK299) hb); replace HB := am_ (below_step (lw_ HB) hb); (try clear hb); (try clear hb2); (try clear hk); (try clear hi); obtain ⟨hcz22_0, hcz22_1, hcz22_2, hcz22_3, hfz22_0, hfz22_1, hfz22_2, hfz22_3⟩ := bx4_ BK298.out; obtain ⟨hcz23_0, hcz23_1, hcz23_2, hcz23_3, hfz23_0, hfz23_1, hfz23_2, hfz23_3⟩ := bx4_ BK299.out) | (go_at_call 60; (with_reducible refine (laws_pSameInts.calls k _ _ l0_2 _ _ l1_2 false _ ?side1 ?side2 ?side3 ?side4 A5.out).mono ?_); (case side1 => exact lc_ (Kd.C_below HR0_2.out HB.out)); (case side2 => exact HC0_2.out); (case side3 => exact lc_ (Kd.C_below HR1_2.out HB.out)); (case side4 => exact HC1_2.out); rintro e w' ⟨rfl, ⟨nd, rfl⟩⟩))
   go_ret
   exact ⟨er_, lw_ HB⟩
 ·replace c4 := Bool.eq_false_iff.mpr c4
  subst c4
  have H1 : (some false) = some r := by rw [if_neg (show ¬ (false = true) by decide)] at H; exact H
  clear H
  have H := H1
  clear H1
  obtain rfl := Option.some.inj H
  go_enter Try.func49, Try.ntmps49
  go_wp2_with (first | ((with_reducible refine gate_dst (N := 2) rfl ?_); refine bev_ 2 #[.int .i64 a0_0, .slice A0_1 l0_1.length c0_1, .slice A0_2 l0_2.length c0_2, .slice A0_3 l0_3.length c0_3] 48 rfl rfl ?_; intro gb298 hg w24 hbox hb; have BK298 := am_ (hbox); have GW298 := am_ ((by rw [hg]; exact (below_size (lw_ HB)) : w.heap.size ≤ gb298)); have GE298 := am_ ((by rw [hg]; exact (below_size (lw_ HB)) : w.heap.size ≤ gb298)); replace HB := am_ (below_step (lw_ HB) hb); clear hb hbox hg) | ((with_reducible refine gate_dst (N := 3) rfl ?_); refine bev_ 3 #[.int .i64 a1_0, .slice A1_1 l1_1.length c1_1, .slice A1_2 l1_2.length c1_2, .slice A1_3 l1_3.length c1_3] 48 rfl rfl ?_; intro gb299 hg w25 hbox hb; have BK299 := am_ (hbox); have GW299 := am_ ((by rw [hg]; exact (below_size (lw_ HB)) : w.heap.size ≤ gb299)); have GE299 := am_ ((by rw [hg]; exact (below_size (lw_ HB)) : w.heap.size ≤ gb299)); have NB298_299 := am_ ((by rw [hg]; exact Nat.ne_of_lt (blk_lt (g := gb298) (lb_ BK298)) : gb298 ≠ gb299)); have NB299_298 := am_ ((by rw [hg]; exact Nat.ne_of_gt (blk_lt (g := gb298) (lb_ BK298)) : gb299 ≠ gb298)); replace BK298 := am_ (blk_below (g := gb298) (lb_ BK298) hb); replace HB := am_ (below_step (lw_ HB) hb); clear hb hbox hg; have hnb26 := NB298_299.out; have hnc26 := NB299_298.out; obtain ⟨hcz27_0, hcz27_1, hcz27_2, hcz27_3, hfz27_0, hfz27_1, hfz27_2, hfz27_3⟩ := bx4_ BK298.out; obtain ⟨hcz28_0, hcz28_1, hcz28_2, hcz28_3, hfz28_0, hfz28_1, hfz28_2, hfz28_3⟩ := bx4_ BK299.out) | ((with_reducible refine gate_callee (f := 47) rfl ?_); refine goesL_ (some 9) rfl rfl Try.func47 (by kernel_rfl) rfl #[.agg #[.int .i64 a0_0, .slice A0_1 l0_1.length c0_1], .agg #[.int .i64 a1_0, .slice A1_1 l1_1.length c1_1]] rfl lm_ ?_; (with_reducible refine (laws_pSameBits.calls k a0_0 _ _ l0_1 a1_0 _ _ l1_1 false _ ?side1 ?side2 ?side3 ?side4 A3.out).mono ?_); (case side1 => exact lc_ (Kd.C_below HR0_1.out HB.out)); (case side2 => exact HC0_1.out); (case side3 => exact lc_ (Kd.C_below HR1_1.out HB.out)); (case side4 => exact HC1_1.out); rintro e w29 ⟨rfl, hb⟩; refine ⟨_, rfl, ?_⟩; replace BK298 := am_ (blk_below (g := gb298) (lb_ BK298) hb); replace BK299 := am_ (blk_below (g := gb299) (lb_ BK299) hb); replace HB := am_ (below_step (lw_ HB) hb); (try clear hb); (try clear hb2); (try clear hk); (try clear hi)))
  go_ret
  exact ⟨er_, lw_ HB⟩

end Go.Proofs.Ytkmhjgejficclaa.PFnRanksJoin
