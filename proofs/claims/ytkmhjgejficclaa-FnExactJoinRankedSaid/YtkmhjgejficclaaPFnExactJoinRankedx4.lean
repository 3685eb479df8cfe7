-- Laid by a program of this session: the print of the kit with additions of ours (wip/tools/patchprint.py). Nothing of it is trusted: Lean checks it.
import Derived.Test.YtkmhjgejficclaaPFnExactJoinRankedx0
import Derived.Test.YtkmhjgejficclaaPFnExactJoinRankedx1
import Derived.Test.YtkmhjgejficclaaPFnExactJoinRankedx2
import Derived.Test.YtkmhjgejficclaaPFnExactJoinRankedx3
namespace Go.Proofs.Ytkmhjgejficclaa.PFnExactJoinRanked
open Go.RowKit Go.Proofs.YtkmhjgejficclaaW.PrintWords Go.Proofs.YtkmhjgejficclaaW.PrintLast Go.Proofs.YtkmhjgejficclaaW.PrintMore
attribute [local go_sem] max2_int min2_int max_two min_two max_three min_three max_four min_four   -- for this text's walks alone
set_option linter.unusedVariables false
set_option linter.unusedSimpArgs false

/-! ### spec_l1Same: function 127 -/
def spec_l1Same.l0 : Nat → List Int → List Int → Int → Int → Option (Bool)
 | 0, _, _, _, _ => none
 | k + 1, x0, x1, x12, x13 => if x13 < x12 then (if 0 ≤ x13 then (if x13 < (x0.length : Int) then (if x13 < (x1.length : Int) then (if (rd x0 x13) = (rd x1 x13) then (spec_l1Same.l0 k x0 x1 x12 (wrap64 (x13 + 1))) else (some false)) else (none)) else (none)) else (none)) else (some true)
def spec_l1Same.f (k : Nat) (l0 : List Int) (l1 : List Int) : Option (Bool) := if (l0.length : Int) = (l1.length : Int) then (spec_l1Same.l0 k l0 l1 (l0.length : Int) 0) else (some false)
theorem spec_l1Same.mono_l : ∀ k, (∀ y0 y1 y2 y3, LeO (spec_l1Same.l0 k y0 y1 y2 y3) (spec_l1Same.l0 (k + 1) y0 y1 y2 y3))
 | 0 => fun _ _ _ _ r h => by simp [spec_l1Same.l0] at h
 | k + 1 => by
  have ih0 := spec_l1Same.mono_l k
  ·intro y0 y1 y2 y3
   unfold spec_l1Same.l0
   repeat' first
   | (with_reducible exact ih0 _ _ _ _)
   | (with_reducible exact LeO.refl _)
   | (with_reducible exact LeO.none _)
   | (with_reducible refine LeO.ite ?_ ?_)
   | (with_reducible refine LeO.bind ?_ (fun _ => ?_))
   | exact ih0 _ _ _ _
   | exact LeO.none _
   | refine LeO.ite ?_ ?_
   | refine LeO.bind ?_ (fun _ => ?_)
theorem spec_l1Same.mono : ∀ a0 a1 k, LeO (spec_l1Same.f k a0 a1) (spec_l1Same.f (k + 1) a0 a1) := by
 intro a0 a1 k
 have ih0 := spec_l1Same.mono_l k
 unfold spec_l1Same.f
 repeat' first
   | (with_reducible exact ih0 _ _ _ _)
   | (with_reducible exact LeO.refl _)
   | (with_reducible exact LeO.none _)
   | (with_reducible refine LeO.ite ?_ ?_)
   | (with_reducible refine LeO.bind ?_ (fun _ => ?_))
   | exact ih0 _ _ _ _
   | exact LeO.none _
   | refine LeO.ite ?_ ?_
   | refine LeO.bind ?_ (fun _ => ?_)
set_option maxHeartbeats 8000000 in
set_option maxRecDepth 100000 in
theorem spec_l1Same.calls (k : Nat) (A0 : Option Addr) (c0 : Nat) (l0 : List Int) (A1 : Option Addr) (c1 : Nat) (l1 : List Int) (r : Bool) (w : World) (hr0 : Kd.C (Kd.int .i64) w A0 l0.length l0) (hc0 : l0.length ≤ c0) (hr1 : Kd.C (Kd.int .i64) w A1 l1.length l1) (hc1 : l1.length ≤ c1) (h : spec_l1Same.f k l0 l1 = some r) :
  Calls Try.prog 127 #[.slice A0 l0.length c0, .slice A1 l1.length c1] w fun e w' => e = .returned (.bool r) ∧ Drawn0 w w' := by
 have HR0 := am_ hr0
 have HC0 := am_ hc0
 clear hr0 hc0
 have HR1 := am_ hr1
 have HC1 := am_ hc1
 clear hr1 hc1
 have H : (if (l0.length : Int) = (l1.length : Int) then (spec_l1Same.l0 k l0 l1 (l0.length : Int) 0) else (some false)) = some r := h
 clear h
 by_cases c3 : (l0.length : Int) = (l1.length : Int)
 ·rw [if_pos c3] at H
  have c3b0 : ((l0.length : Int) == (l1.length : Int)) = true := beq_iff_eq.mpr c3
  have c3b1 : ((l0.length : Int) != (l1.length : Int)) = false := bne_eq_false_iff_eq.mpr c3
  have c3b2 : (l0.length == l1.length) = true := by first | simpa using c3 | (simp at c3 ⊢; omega)
  clear c3
  have H' := am_ H
  clear H
  go_enter Try.func127, Try.ntmps127
  go_wp2
  repeat (go_quiet (fail); try go_wp2)
  go_loopg [13] k (fun kq v13 w' => ∃ (x13_1 : Int), v13 = .int .i64 x13_1 ∧ Aside0 (spec_l1Same.l0 kq l0 l1 (l0.length : Int) x13_1 = some r) ∧ Aside0 (kq ≤ k) ∧ Drawn0 w w')
  case atStart => exact ⟨(0), sr_, H', ⟨Nat.le_refl _⟩, by repeat (first | exact Drawn0.refl _ | apply Drawn0.step)⟩
  case round =>
   clear H'
   try clear c1
   try clear p2
   try clear c3
   try clear c3b0
   try clear c3b1
   try clear c3b2
   obtain ⟨x13_1, rfl, HA, HK1, ⟨m1, rfl⟩⟩ := hrel
   cases gk with
   | zero => exact absurd HA.out (by simp [spec_l1Same.l0])
   | succ k1 =>
    have H := HA.out
    clear HA
    simp only [spec_l1Same.l0] at H
    by_cases c4 : x13_1 < (l0.length : Int)
    ·rw [if_pos c4] at H
     have c4b0 : decide (x13_1 < (l0.length : Int)) = true := decide_eq_true c4
     clear c4
     by_cases c5 : 0 ≤ x13_1
     ·rw [if_pos c5] at H
      have c5b0 : decide (0 ≤ x13_1) = true := decide_eq_true c5
      clear c5
      by_cases c6 : x13_1 < (l0.length : Int)
      ·rw [if_pos c6] at H
       have c6b0 : decide (x13_1 < (l0.length : Int)) = true := decide_eq_true c6
       clear c6
       by_cases c7 : x13_1 < (l1.length : Int)
       ·rw [if_pos c7] at H
        have c7b0 : decide (x13_1 < (l1.length : Int)) = true := decide_eq_true c7
        clear c7
        by_cases c8 : (rd l0 x13_1) = (rd l1 x13_1)
        ·rw [if_pos c8] at H
         have c8b0 : ((rd l0 x13_1) == (rd l1 x13_1)) = true := beq_iff_eq.mpr c8
         have c8b1 : ((rd l0 x13_1) != (rd l1 x13_1)) = false := bne_eq_false_iff_eq.mpr c8
         clear c8
         have H' := am_ H
         clear H
         have p167 : 0 ≤ (x13_1 : Int) := of_decide_eq_true (by first | (with_reducible assumption) | assumption)
         have q167 : x13_1 < (l0.length : Int) := of_decide_eq_true (by first | (with_reducible assumption) | assumption)
         obtain ⟨ad167, e167, hx167_0⟩ := Kd.at_int HR0.out x13_1 p167 q167
         cases e167
         replace p167 := eq_true p167
         replace q167 := eq_true q167
         have p168 : 0 ≤ (x13_1 : Int) := of_decide_eq_true (by first | (with_reducible assumption) | assumption)
         have q168 : x13_1 < (l1.length : Int) := of_decide_eq_true (by first | (with_reducible assumption) | assumption)
         obtain ⟨ad168, e168, hx168_0⟩ := Kd.at_int HR1.out x13_1 p168 q168
         cases e168
         replace p168 := eq_true p168
         replace q168 := eq_true q168
         go_wp2
         repeat (go_quiet (fail); try go_wp2)
         go_roundg k1
         case measure => have := HK1.out; omega
         case rel => exact ⟨(wrap64 (x13_1 + 1)), sr_, H', ⟨by have := HK1.out; omega⟩, by repeat (first | exact Drawn0.refl _ | apply Drawn0.step)⟩
        ·rw [if_neg c8] at H
         have c8b0 : ((rd l0 x13_1) == (rd l1 x13_1)) = false := beq_eq_false_iff_ne.mpr c8
         have c8b1 : ((rd l0 x13_1) != (rd l1 x13_1)) = true := bne_iff_ne.mpr c8
         obtain rfl := Option.some.inj H
         have p167 : 0 ≤ (x13_1 : Int) := of_decide_eq_true (by first | (with_reducible assumption) | assumption)
         have q167 : x13_1 < (l0.length : Int) := of_decide_eq_true (by first | (with_reducible assumption) | assumption)
         obtain ⟨ad167, e167, hx167_0⟩ := Kd.at_int HR0.out x13_1 p167 q167
         cases e167
         replace p167 := eq_true p167
         replace q167 := eq_true q167
         have p168 : 0 ≤ (x13_1 : Int) := of_decide_eq_true (by first | (with_reducible assumption) | assumption)
         have q168 : x13_1 < (l1.length : Int) := of_decide_eq_true (by first | (with_reducible assumption) | assumption)
         obtain ⟨ad168, e168, hx168_0⟩ := Kd.at_int HR1.out x13_1 p168 q168
         cases e168
         replace p168 := eq_true p168
         replace q168 := eq_true q168
         go_wp2
         repeat (go_quiet (fail); try go_wp2)
         go_ret
         exact ⟨by first | rfl | (simp; done) | (simp [*]; done), by repeat (first | exact Drawn0.refl _ | apply Drawn0.step)⟩
       ·rw [if_neg c7] at H
        exact absurd H (by simp)
      ·rw [if_neg c6] at H
       exact absurd H (by simp)
     ·rw [if_neg c5] at H
      exact absurd H (by simp)
    ·rw [if_neg c4] at H
     have c4b0 : decide (x13_1 < (l0.length : Int)) = false := decide_eq_false c4
     clear c4
     obtain rfl := Option.some.inj H
     go_wp2
     repeat (go_quiet (fail); try go_wp2)
     go_ret
     exact ⟨by first | rfl | (simp; done) | (simp [*]; done), by repeat (first | exact Drawn0.refl _ | apply Drawn0.step)⟩
 ·rw [if_neg c3] at H
  have c3b0 : ((l0.length : Int) == (l1.length : Int)) = false := beq_eq_false_iff_ne.mpr c3
  have c3b1 : ((l0.length : Int) != (l1.length : Int)) = true := bne_iff_ne.mpr c3
  have c3b2 : (l0.length == l1.length) = false := by first | simpa using c3 | (simp at c3 ⊢; omega)
  obtain rfl := Option.some.inj H
  go_enter Try.func127, Try.ntmps127
  go_wp2
  repeat (go_quiet (fail); try go_wp2)
  go_ret
  exact ⟨by first | rfl | (simp; done) | (simp [*]; done), by repeat (first | exact Drawn0.refl _ | apply Drawn0.step)⟩

/-! ### spec_raGood: function 94 -/
def spec_raGood.f (k : Nat) (a0_0 : Int) (l0_1 : List Int) (l0_2 : List Int) (l0_3 : List Int) : Option (Bool) := (spec_biGood.f k a0_0 l0_1).bind fun t170 => (if t170 = true then ((spec_raOf.f k a0_0 l0_1).bind fun bt171 => ((spec_l1Same.f k l0_2 bt171.2.2.1).bind fun t182 => (if t182 = true then ((spec_l1Same.f k l0_3 bt171.2.2.2).bind fun t183 => (some t183)) else (some false)))) else (some false))
theorem spec_raGood.mono : ∀ a0 a1 a2 a3 k, LeO (spec_raGood.f k a0 a1 a2 a3) (spec_raGood.f (k + 1) a0 a1 a2 a3) := by
 intro a0 a1 a2 a3 k
 unfold spec_raGood.f
 repeat' first
   | (with_reducible exact spec_biGood.mono _ _ _)
   | (with_reducible exact spec_l1Same.mono _ _ _)
   | (with_reducible exact spec_raOf.mono _ _ _)
   | (with_reducible exact LeO.refl _)
   | (with_reducible exact LeO.none _)
   | (with_reducible refine LeO.ite ?_ ?_)
   | (with_reducible refine LeO.bind ?_ (fun _ => ?_))
   | exact spec_biGood.mono _ _ _
   | exact spec_l1Same.mono _ _ _
   | exact spec_raOf.mono _ _ _
   | exact LeO.none _
   | refine LeO.ite ?_ ?_
   | refine LeO.bind ?_ (fun _ => ?_)
set_option maxHeartbeats 8000000 in
set_option maxRecDepth 100000 in
theorem spec_raGood.calls (k : Nat) (a0_0 : Int) (A0_1 : Option Addr) (c0_1 : Nat) (l0_1 : List Int) (A0_2 : Option Addr) (c0_2 : Nat) (l0_2 : List Int) (A0_3 : Option Addr) (c0_3 : Nat) (l0_3 : List Int) (r : Bool) (w : World) (hr0_1 : Kd.C (Kd.int .i64) w A0_1 l0_1.length l0_1) (hc0_1 : l0_1.length ≤ c0_1) (hr0_2 : Kd.C (Kd.int .i64) w A0_2 l0_2.length l0_2) (hc0_2 : l0_2.length ≤ c0_2) (hr0_3 : Kd.C (Kd.int .i64) w A0_3 l0_3.length l0_3) (hc0_3 : l0_3.length ≤ c0_3) (h : spec_raGood.f k a0_0 l0_1 l0_2 l0_3 = some r) :
  Calls Try.prog 94 #[.agg #[.int .i64 a0_0, .slice A0_1 l0_1.length c0_1, .slice A0_2 l0_2.length c0_2, .slice A0_3 l0_3.length c0_3]] w fun e w' => e = .returned (.bool r) ∧ Below w.heap.size w w' := by
 have hu48 := Try.underlying48
 have hu26 := Try.underlying26
 have HR0_1 := am_ hr0_1
 have HC0_1 := am_ hc0_1
 clear hr0_1 hc0_1
 have HR0_2 := am_ hr0_2
 have HC0_2 := am_ hc0_2
 clear hr0_2 hc0_2
 have HR0_3 := am_ hr0_3
 have HC0_3 := am_ hc0_3
 clear hr0_3 hc0_3
 have HB := am_ (Below.refl w.heap.size w)
 have H : ((spec_biGood.f k a0_0 l0_1).bind fun t170 => (if t170 = true then ((spec_raOf.f k a0_0 l0_1).bind fun bt171 => ((spec_l1Same.f k l0_2 bt171.2.2.1).bind fun t182 => (if t182 = true then ((spec_l1Same.f k l0_3 bt171.2.2.2).bind fun t183 => (some t183)) else (some false)))) else (some false))) = some r := h
 clear h
 replace H := Option.bind_eq_some_iff.mp H
 obtain ⟨t170, A20, H⟩ := H
 replace H : (if t170 = true then ((spec_raOf.f k a0_0 l0_1).bind fun bt171 => ((spec_l1Same.f k l0_2 bt171.2.2.1).bind fun t182 => (if t182 = true then ((spec_l1Same.f k l0_3 bt171.2.2.2).bind fun t183 => (some t183)) else (some false)))) else (some false)) = some r := H
 have A2 := am_ A20
 clear A20
 by_cases c3 : t170 = true
 ·subst c3
  have H1 : ((spec_raOf.f k a0_0 l0_1).bind fun bt171 => ((spec_l1Same.f k l0_2 bt171.2.2.1).bind fun t182 => (if t182 = true then ((spec_l1Same.f k l0_3 bt171.2.2.2).bind fun t183 => (some t183)) else (some false)))) = some r := by rw [if_pos rfl] at H; exact H
  clear H
  have H := H1
  clear H1
  replace H := Option.bind_eq_some_iff.mp H
  obtain ⟨⟨t171, t172, t175, t178⟩, A40, H⟩ := H
  replace H : ((spec_l1Same.f k l0_2 t175).bind fun t182 => (if t182 = true then ((spec_l1Same.f k l0_3 t178).bind fun t183 => (some t183)) else (some false))) = some r := H
  have A4 := am_ A40
  clear A40
  replace H := Option.bind_eq_some_iff.mp H
  obtain ⟨t182, A50, H⟩ := H
  replace H : (if t182 = true then ((spec_l1Same.f k l0_3 t178).bind fun t183 => (some t183)) else (some false)) = some r := H
  have A5 := am_ A50
  clear A50
  by_cases c6 : t182 = true
  ·subst c6
   have H1 : ((spec_l1Same.f k l0_3 t178).bind fun t183 => (some t183)) = some r := by rw [if_pos rfl] at H; exact H
   clear H
   have H := H1
   clear H1
   replace H := Option.bind_eq_some_iff.mp H
   obtain ⟨t183, A70, H⟩ := H
   replace H : (some t183) = some r := H
   have A7 := am_ A70
   clear A70
   obtain rfl := Option.some.inj H
   go_enter Try.func94, Try.ntmps94
   go_wp2_with (first | ((with_reducible refine gate_dst (N := 1) rfl ?_); refine bev_ 1 #[.int .i64 a0_0, .slice A0_1 l0_1.length c0_1, .slice A0_2 l0_2.length c0_2, .slice A0_3 l0_3.length c0_3] 48 rfl rfl ?_; intro gb169 hg w8 hbox hb; have BK169 := am_ (hbox); have GW169 := am_ ((by rw [hg]; exact (below_size (lw_ HB)) : w.heap.size ≤ gb169)); have GE169 := am_ ((by rw [hg]; exact (below_size (lw_ HB)) : w.heap.size ≤ gb169)); replace HB := am_ (below_step (lw_ HB) hb); clear hb hbox hg; obtain ⟨hcz9_0, hcz9_1, hcz9_2, hcz9_3, hfz9_0, hfz9_1, hfz9_2, hfz9_3⟩ := bx4_ BK169.out) | ((with_reducible refine gate_callee (f := 83) rfl ?_); refine goesL_ (some 6) rfl rfl Try.func83 (by kernel_rfl) rfl #[.agg #[.int .i64 a0_0, .slice A0_1 l0_1.length c0_1]] rfl lm_ ?_; (with_reducible refine (spec_biGood.calls k a0_0 _ _ l0_1 true _ ?side1 ?side2 A2.out).mono ?_); (case side1 => exact lc_ (Kd.C_below HR0_1.out HB.out)); (case side2 => exact HC0_1.out); rintro e w10 ⟨rfl, hb⟩; refine ⟨_, rfl, ?_⟩; replace BK169 := am_ (blk_below (g := gb169) (lb_ BK169) hb); replace HB := am_ (below_step (lw_ HB) hb); (try clear hb); (try clear hb2); (try clear hk); (try clear hi); obtain ⟨hcz11_0, hcz11_1, hcz11_2, hcz11_3, hfz11_0, hfz11_1, hfz11_2, hfz11_3⟩ := bx4_ BK169.out) | ((with_reducible refine gate_callee (f := 95) rfl ?_); refine goesL_ (some 10) rfl rfl Try.func95 (by kernel_rfl) rfl #[.agg #[.int .i64 a0_0, .slice A0_1 l0_1.length c0_1]] rfl lm_ ?_; (with_reducible refine (spec_raOf.calls k a0_0 _ _ l0_1 t171 t172 t175 t178 _ ?side1 ?side2 A4.out).mono ?_); (case side1 => exact lc_ (Kd.C_below HR0_1.out HB.out)); (case side2 => exact HC0_1.out); rintro e w12 ⟨v173, v176, v179, rfl, ho0, ho1, ho2, hb⟩; refine ⟨_, rfl, ?_⟩; have HO174 := am_ (Kd.R_lower ho0 (below_size (lw_ HB))); have HO177 := am_ (Kd.R_lower ho1 (below_size (lw_ HB))); have HO180 := am_ (Kd.R_lower ho2 (below_size (lw_ HB))); replace BK169 := am_ (blk_below (g := gb169) (lb_ BK169) hb); replace HB := am_ (below_step (lw_ HB) hb); (try clear hb); (try clear hb2); (try clear hk); (try clear hi); (try clear ho0); (try clear ho1); (try clear ho2)) | ((with_reducible refine gate_dst (N := 3) rfl ?_); refine bev_ 3 #[.int .i64 0, .slice none 0 0, .slice none 0 0, .slice none 0 0] 48 rfl rfl ?_; intro gb181 hg w13 hbox hb; have BK181 := am_ (hbox); have GW181 := am_ ((by rw [hg]; exact (below_size (lw_ HB)) : w.heap.size ≤ gb181)); have GE181 := am_ ((by rw [hg]; exact (below_size (lw_ HB)) : w.heap.size ≤ gb181)); have NB169_181 := am_ ((by rw [hg]; exact Nat.ne_of_lt (blk_lt (g := gb169) (lb_ BK169)) : gb169 ≠ gb181)); have NB181_169 := am_ ((by rw [hg]; exact Nat.ne_of_gt (blk_lt (g := gb169) (lb_ BK169)) : gb181 ≠ gb169)); replace HO174 := am_ (Kd.R_below (lf_ HO174) hb); replace HO177 := am_ (Kd.R_below (lf_ HO177) hb); replace HO180 := am_ (Kd.R_below (lf_ HO180) hb); replace BK169 := am_ (blk_below (g := gb169) (lb_ BK169) hb); replace HB := am_ (below_step (lw_ HB) hb); clear hb hbox hg; have hnb14 := NB181_169.out; have hnc14 := NB169_181.out; obtain ⟨hcz15_0, hcz15_1, hcz15_2, hcz15_3, hfz15_0, hfz15_1, hfz15_2, hfz15_3⟩ := bx4_ BK181.out; obtain ⟨Ao16, co16, eo16⟩ := Kd.R_slice HO174.out; subst eo16; obtain ⟨Ao17, co17, eo17⟩ := Kd.R_slice HO177.out; subst eo17; obtain ⟨Ao18, co18, eo18⟩ := Kd.R_slice HO180.out; subst eo18; obtain ⟨hcz19_0, hcz19_1, hcz19_2, hcz19_3, hfz19_0, hfz19_1, hfz19_2, hfz19_3⟩ := bx4_ BK169.out) | ((with_reducible refine gate_callee (f := 127) rfl ?_); refine goesL_ (some 15) rfl rfl Try.func127 (by kernel_rfl) rfl #[.slice A0_2 l0_2.length c0_2, .slice Ao17 t175.length co17] rfl lm_ ?_; (with_reducible refine (spec_l1Same.calls k _ _ l0_2 _ _ t175 true _ ?side1 ?side2 ?side3 ?side4 A5.out).mono ?_); (case side1 => exact Kd.C_below HR0_2.out (lw_ HB)); (case side2 => exact HC0_2.out); (case side3 => refine (Kd.R_reads' (e := 3) (base := w.heap.size) (ok := fun k_ => (ns_ k_ Ao16 t172 co16 ∧ ns_ k_ Ao18 t178 co18)) (n := t175.length) (c := co17) ?_).2.2; exact (lt_ ((m1_ (fr4_ HO177.out BK181.out (.int .i64 t171) (.slice Ao16 t172.length co16) (.slice Ao17 t175.length co17) (.slice Ao18 t178.length co18)))))); (case side4 => exact (Kd.R_reads' HO177.out).2.1); rintro e w' ⟨rfl, ⟨nd, rfl⟩⟩; refine ⟨_, rfl, ?_⟩) | (go_at_call 127; (with_reducible refine (spec_l1Same.calls k _ _ l0_3 _ _ t178 t183 _ ?side1 ?side2 ?side3 ?side4 A7.out).mono ?_); (case side1 => exact Kd.C_below HR0_3.out (lw_ HB)); (case side2 => exact HC0_3.out); (case side3 => refine (Kd.R_reads' (e := 3) (base := w.heap.size) (ok := fun k_ => (ns_ k_ Ao16 t172 co16 ∧ ns_ k_ Ao17 t175 co17)) (n := t178.length) (c := co18) ?_).2.2; exact (lt_ ((m1_ (fr4_ HO180.out BK181.out (.int .i64 t171) (.slice Ao16 t172.length co16) (.slice Ao17 t175.length co17) (.slice Ao18 t178.length co18)))))); (case side4 => exact (Kd.R_reads' HO180.out).2.1); rintro e w' ⟨rfl, ⟨nd, rfl⟩⟩))
   go_ret
   exact ⟨er_, lw_ HB⟩
  ·replace c6 := Bool.eq_false_iff.mpr c6
   subst c6
   have H1 : (some false) = some r := by rw [if_neg (show ¬ (false = true) by decide)] at H; exact H
   clear H
   have H := H1
   clear H1
   obtain rfl := Option.some.inj H
   go_enter Try.func94, Try.ntmps94
   go_wp2_with (first | ((with_reducible refine gate_dst (N := 1) rfl ?_); refine bev_ 1 #[.int .i64 a0_0, .slice A0_1 l0_1.length c0_1, .slice A0_2 l0_2.length c0_2, .slice A0_3 l0_3.length c0_3] 48 rfl rfl ?_; intro gb169 hg w20 hbox hb; have BK169 := am_ (hbox); have GW169 := am_ ((by rw [hg]; exact (below_size (lw_ HB)) : w.heap.size ≤ gb169)); have GE169 := am_ ((by rw [hg]; exact (below_size (lw_ HB)) : w.heap.size ≤ gb169)); replace HB := am_ (below_step (lw_ HB) hb); clear hb hbox hg; obtain ⟨hcz21_0, hcz21_1, hcz21_2, hcz21_3, hfz21_0, hfz21_1, hfz21_2, hfz21_3⟩ := bx4_ BK169.out) | ((with_reducible refine gate_callee (f := 83) rfl ?_); refine goesL_ (some 6) rfl rfl Try.func83 (by kernel_rfl) rfl #[.agg #[.int .i64 a0_0, .slice A0_1 l0_1.length c0_1]] rfl lm_ ?_; (with_reducible refine (spec_biGood.calls k a0_0 _ _ l0_1 true _ ?side1 ?side2 A2.out).mono ?_); (case side1 => exact lc_ (Kd.C_below HR0_1.out HB.out)); (case side2 => exact HC0_1.out); rintro e w22 ⟨rfl, hb⟩; refine ⟨_, rfl, ?_⟩; replace BK169 := am_ (blk_below (g := gb169) (lb_ BK169) hb); replace HB := am_ (below_step (lw_ HB) hb); (try clear hb); (try clear hb2); (try clear hk); (try clear hi); obtain ⟨hcz23_0, hcz23_1, hcz23_2, hcz23_3, hfz23_0, hfz23_1, hfz23_2, hfz23_3⟩ := bx4_ BK169.out) | ((with_reducible refine gate_callee (f := 95) rfl ?_); refine goesL_ (some 10) rfl rfl Try.func95 (by kernel_rfl) rfl #[.agg #[.int .i64 a0_0, .slice A0_1 l0_1.length c0_1]] rfl lm_ ?_; (with_reducible refine (spec_raOf.calls k a0_0 _ _ l0_1 t171 t172 t175 t178 _ ?side1 ?side2 A4.out).mono ?_); (case side1 => exact lc_ (Kd.C_below HR0_1.out HB.out)); (case side2 => exact HC0_1.out); rintro e w24 ⟨v173, v176, v179, rfl, ho0, ho1, ho2, hb⟩; refine ⟨_, rfl, ?_⟩; have HO174 := am_ (Kd.R_lower ho0 (below_size (lw_ HB))); have HO177 := am_ (Kd.R_lower ho1 (below_size (lw_ HB))); have HO180 := am_ (Kd.R_lower ho2 (below_size (lw_ HB))); replace BK169 := am_ (blk_below (g := gb169) (lb_ BK169) hb); replace HB := am_ (below_step (lw_ HB) hb); (try clear hb); (try clear hb2); (try clear hk); (try clear hi); (try clear ho0); (try clear ho1); (try clear ho2)) | ((with_reducible refine gate_dst (N := 3) rfl ?_); refine bev_ 3 #[.int .i64 0, .slice none 0 0, .slice none 0 0, .slice none 0 0] 48 rfl rfl ?_; intro gb181 hg w25 hbox hb; have BK181 := am_ (hbox); have GW181 := am_ ((by rw [hg]; exact (below_size (lw_ HB)) : w.heap.size ≤ gb181)); have GE181 := am_ ((by rw [hg]; exact (below_size (lw_ HB)) : w.heap.size ≤ gb181)); have NB169_181 := am_ ((by rw [hg]; exact Nat.ne_of_lt (blk_lt (g := gb169) (lb_ BK169)) : gb169 ≠ gb181)); have NB181_169 := am_ ((by rw [hg]; exact Nat.ne_of_gt (blk_lt (g := gb169) (lb_ BK169)) : gb181 ≠ gb169)); replace HO174 := am_ (Kd.R_below (lf_ HO174) hb); replace HO177 := am_ (Kd.R_below (lf_ HO177) hb); replace HO180 := am_ (Kd.R_below (lf_ HO180) hb); replace BK169 := am_ (blk_below (g := gb169) (lb_ BK169) hb); replace HB := am_ (below_step (lw_ HB) hb); clear hb hbox hg; have hnb26 := NB181_169.out; have hnc26 := NB169_181.out; obtain ⟨hcz27_0, hcz27_1, hcz27_2, hcz27_3, hfz27_0, hfz27_1, hfz27_2, hfz27_3⟩ := bx4_ BK181.out; obtain ⟨Ao28, co28, eo28⟩ := Kd.R_slice HO174.out; subst eo28; obtain ⟨Ao29, co29, eo29⟩ := Kd.R_slice HO177.out; subst eo29; obtain ⟨Ao30, co30, eo30⟩ := Kd.R_slice HO180.out; subst eo30; obtain ⟨hcz31_0, hcz31_1, hcz31_2, hcz31_3, hfz31_0, hfz31_1, hfz31_2, hfz31_3⟩ := bx4_ BK169.out) | ((with_reducible refine gate_callee (f := 127) rfl ?_); refine goesL_ (some 15) rfl rfl Try.func127 (by kernel_rfl) rfl #[.slice A0_2 l0_2.length c0_2, .slice Ao29 t175.length co29] rfl lm_ ?_; (with_reducible refine (spec_l1Same.calls k _ _ l0_2 _ _ t175 false _ ?side1 ?side2 ?side3 ?side4 A5.out).mono ?_); (case side1 => exact Kd.C_below HR0_2.out (lw_ HB)); (case side2 => exact HC0_2.out); (case side3 => refine (Kd.R_reads' (e := 3) (base := w.heap.size) (ok := fun k_ => (ns_ k_ Ao28 t172 co28 ∧ ns_ k_ Ao30 t178 co30)) (n := t175.length) (c := co29) ?_).2.2; exact (lt_ ((m1_ (fr4_ HO177.out BK181.out (.int .i64 t171) (.slice Ao28 t172.length co28) (.slice Ao29 t175.length co29) (.slice Ao30 t178.length co30)))))); (case side4 => exact (Kd.R_reads' HO177.out).2.1); rintro e w' ⟨rfl, ⟨nd, rfl⟩⟩; refine ⟨_, rfl, ?_⟩))
   go_ret
   exact ⟨er_, lw_ HB⟩
 ·replace c3 := Bool.eq_false_iff.mpr c3
  subst c3
  have H1 : (some false) = some r := by rw [if_neg (show ¬ (false = true) by decide)] at H; exact H
  clear H
  have H := H1
  clear H1
  obtain rfl := Option.some.inj H
  go_enter Try.func94, Try.ntmps94
  go_wp2_with (first | ((with_reducible refine gate_dst (N := 1) rfl ?_); refine bev_ 1 #[.int .i64 a0_0, .slice A0_1 l0_1.length c0_1, .slice A0_2 l0_2.length c0_2, .slice A0_3 l0_3.length c0_3] 48 rfl rfl ?_; intro gb169 hg w32 hbox hb; have BK169 := am_ (hbox); have GW169 := am_ ((by rw [hg]; exact (below_size (lw_ HB)) : w.heap.size ≤ gb169)); have GE169 := am_ ((by rw [hg]; exact (below_size (lw_ HB)) : w.heap.size ≤ gb169)); replace HB := am_ (below_step (lw_ HB) hb); clear hb hbox hg; obtain ⟨hcz33_0, hcz33_1, hcz33_2, hcz33_3, hfz33_0, hfz33_1, hfz33_2, hfz33_3⟩ := bx4_ BK169.out) | ((with_reducible refine gate_callee (f := 83) rfl ?_); refine goesL_ (some 6) rfl rfl Try.func83 (by kernel_rfl) rfl #[.agg #[.int .i64 a0_0, .slice A0_1 l0_1.length c0_1]] rfl lm_ ?_; (with_reducible refine (spec_biGood.calls k a0_0 _ _ l0_1 false _ ?side1 ?side2 A2.out).mono ?_); (case side1 => exact lc_ (Kd.C_below HR0_1.out HB.out)); (case side2 => exact HC0_1.out); rintro e w34 ⟨rfl, hb⟩; refine ⟨_, rfl, ?_⟩; replace BK169 := am_ (blk_below (g := gb169) (lb_ BK169) hb); replace HB := am_ (below_step (lw_ HB) hb); (try clear hb); (try clear hb2); (try clear hk); (try clear hi)))
  go_ret
  exact ⟨er_, lw_ HB⟩

/-! ### spec_JoinRanked: function 35 -/
def spec_JoinRanked.j0 : Nat → Bool → Int → List Int → List Int → List Int → Int → List Int → List Int → List Int → Option (Int × List Int × List Int × List Int × Bool)
 | 0, _, _, _, _, _, _, _, _, _ => none
 | k + 1, x23, x185000, x185001, x185002, x185003, x186000, x186001, x186002, x186003 => if x23 = true then (some (0, ([] : List Int), ([] : List Int), ([] : List Int), false)) else ((spec_biList.f k x185000 x185001).bind fun t189 => ((spec_biList.f k x186000 x186001).bind fun t192 => (if t189.length + t192.length < 140737488355328 then ((spec_biSome.f k (t189 ++ t192)).bind fun bt198 => ((spec_raOf.f k bt198.1 bt198.2).bind fun bt202 => (some (bt202.1, bt202.2.1, bt202.2.2.1, bt202.2.2.2, true)))) else (none))))
def spec_JoinRanked.f (k : Nat) (a0_0 : Int) (l0_1 : List Int) (l0_2 : List Int) (l0_3 : List Int) (a1_0 : Int) (l1_1 : List Int) (l1_2 : List Int) (l1_3 : List Int) : Option (Int × List Int × List Int × List Int × Bool) := (spec_raGood.f k a0_0 l0_1 l0_2 l0_3).bind fun t187 => (if t187 = true then ((spec_raGood.f k a1_0 l1_1 l1_2 l1_3).bind fun t188 => (if t188 = true then (spec_JoinRanked.j0 k (decide ((wrap64 (a0_0 + a1_0)) > 4096)) a0_0 l0_1 l0_2 l0_3 a1_0 l1_1 l1_2 l1_3) else (spec_JoinRanked.j0 k true a0_0 l0_1 l0_2 l0_3 a1_0 l1_1 l1_2 l1_3))) else (spec_JoinRanked.j0 k true a0_0 l0_1 l0_2 l0_3 a1_0 l1_1 l1_2 l1_3))
theorem spec_JoinRanked.mono_l : ∀ k, (∀ y0 y1 y2 y3 y4 y5 y6 y7 y8, LeO (spec_JoinRanked.j0 k y0 y1 y2 y3 y4 y5 y6 y7 y8) (spec_JoinRanked.j0 (k + 1) y0 y1 y2 y3 y4 y5 y6 y7 y8))
 | 0 => fun _ _ _ _ _ _ _ _ _ r h => by simp [spec_JoinRanked.j0] at h
 | k + 1 => by
  have ih0 := spec_JoinRanked.mono_l k
  ·intro y0 y1 y2 y3 y4 y5 y6 y7 y8
   unfold spec_JoinRanked.j0
   repeat' first
   | (with_reducible exact ih0 _ _ _ _ _ _ _ _ _)
   | (with_reducible exact spec_biList.mono _ _ _)
   | (with_reducible exact spec_biSome.mono _ _)
   | (with_reducible exact spec_raGood.mono _ _ _ _ _)
   | (with_reducible exact spec_raOf.mono _ _ _)
   | (with_reducible exact LeO.refl _)
   | (with_reducible exact LeO.none _)
   | (with_reducible refine LeO.ite ?_ ?_)
   | (with_reducible refine LeO.bind ?_ (fun _ => ?_))
   | exact ih0 _ _ _ _ _ _ _ _ _
   | exact spec_biList.mono _ _ _
   | exact spec_biSome.mono _ _
   | exact spec_raGood.mono _ _ _ _ _
   | exact spec_raOf.mono _ _ _
   | exact LeO.none _
   | refine LeO.ite ?_ ?_
   | refine LeO.bind ?_ (fun _ => ?_)
theorem spec_JoinRanked.mono : ∀ a0 a1 a2 a3 a4 a5 a6 a7 k, LeO (spec_JoinRanked.f k a0 a1 a2 a3 a4 a5 a6 a7) (spec_JoinRanked.f (k + 1) a0 a1 a2 a3 a4 a5 a6 a7) := by
 intro a0 a1 a2 a3 a4 a5 a6 a7 k
 have ih0 := spec_JoinRanked.mono_l k
 unfold spec_JoinRanked.f
 repeat' first
   | (with_reducible exact ih0 _ _ _ _ _ _ _ _ _)
   | (with_reducible exact spec_biList.mono _ _ _)
   | (with_reducible exact spec_biSome.mono _ _)
   | (with_reducible exact spec_raGood.mono _ _ _ _ _)
   | (with_reducible exact spec_raOf.mono _ _ _)
   | (with_reducible exact LeO.refl _)
   | (with_reducible exact LeO.none _)
   | (with_reducible refine LeO.ite ?_ ?_)
   | (with_reducible refine LeO.bind ?_ (fun _ => ?_))
   | exact ih0 _ _ _ _ _ _ _ _ _
   | exact spec_biList.mono _ _ _
   | exact spec_biSome.mono _ _
   | exact spec_raGood.mono _ _ _ _ _
   | exact spec_raOf.mono _ _ _
   | exact LeO.none _
   | refine LeO.ite ?_ ?_
   | refine LeO.bind ?_ (fun _ => ?_)
def spec_JoinRanked.T3 : Bool × List (List Nat × List Nat) := (true, [([], []), ([0], [0]), ([1], [1]), ([], []), ([3], [3]), ([4, 2], [4]), ([2, 5, 5], [2, 5]), ([6, 6], [6]), ([7, 7], [7]), ([8, 8, 0, 1, 2, 3, 4, 5, 6, 7, 8], [8]), ([9, 0, 1, 2, 3, 4, 5, 6, 7, 8, 9], [])])
def spec_JoinRanked.B3 : List Nat := [0, 1, 3, 0, 8, 31, 63, 127, 255, 511, 1023]
theorem spec_JoinRanked.tab3 : rtab .any (opsOf Try.f35 3) = spec_JoinRanked.T3 := by kernel_rfl
theorem spec_JoinRanked.bits3 : waitsOk spec_JoinRanked.T3.2 spec_JoinRanked.B3 = true := by kernel_rfl
set_option maxHeartbeats 8000000 in
set_option maxRecDepth 100000 in
theorem spec_JoinRanked.calls (k : Nat) (a0_0 : Int) (A0_1 : Option Addr) (c0_1 : Nat) (l0_1 : List Int) (A0_2 : Option Addr) (c0_2 : Nat) (l0_2 : List Int) (A0_3 : Option Addr) (c0_3 : Nat) (l0_3 : List Int) (a1_0 : Int) (A1_1 : Option Addr) (c1_1 : Nat) (l1_1 : List Int) (A1_2 : Option Addr) (c1_2 : Nat) (l1_2 : List Int) (A1_3 : Option Addr) (c1_3 : Nat) (l1_3 : List Int) (r1 : Int) (r2 : List Int) (r3 : List Int) (r4 : List Int) (r5 : Bool) (w : World) (hr0_1 : Kd.C (Kd.int .i64) w A0_1 l0_1.length l0_1) (hc0_1 : l0_1.length ≤ c0_1) (hr0_2 : Kd.C (Kd.int .i64) w A0_2 l0_2.length l0_2) (hc0_2 : l0_2.length ≤ c0_2) (hr0_3 : Kd.C (Kd.int .i64) w A0_3 l0_3.length l0_3) (hc0_3 : l0_3.length ≤ c0_3) (hr1_1 : Kd.C (Kd.int .i64) w A1_1 l1_1.length l1_1) (hc1_1 : l1_1.length ≤ c1_1) (hr1_2 : Kd.C (Kd.int .i64) w A1_2 l1_2.length l1_2) (hc1_2 : l1_2.length ≤ c1_2) (hr1_3 : Kd.C (Kd.int .i64) w A1_3 l1_3.length l1_3) (hc1_3 : l1_3.length ≤ c1_3) (h : spec_JoinRanked.f k a0_0 l0_1 l0_2 l0_3 a1_0 l1_1 l1_2 l1_3 = some (r1, r2, r3, r4, r5)) :
  Calls Try.prog 35 #[.agg #[.int .i64 a0_0, .slice A0_1 l0_1.length c0_1, .slice A0_2 l0_2.length c0_2, .slice A0_3 l0_3.length c0_3], .agg #[.int .i64 a1_0, .slice A1_1 l1_1.length c1_1, .slice A1_2 l1_2.length c1_2, .slice A1_3 l1_3.length c1_3]] w fun e w' => ∃ v1_ v2_ v3_ : Value, e = .returned (.tuple #[.agg #[.int .i64 r1, v1_, v2_, v3_], .bool r5]) ∧ Kd.R (Kd.int .i64) 3 w' w.heap.size (fun k_ => nb_ k_ v2_ ∧ nb_ k_ v3_) v1_ r2 ∧ Kd.R (Kd.int .i64) 3 w' w.heap.size (fun k_ => nb_ k_ v1_ ∧ nb_ k_ v3_) v2_ r3 ∧ Kd.R (Kd.int .i64) 3 w' w.heap.size (fun k_ => nb_ k_ v1_ ∧ nb_ k_ v2_) v3_ r4 ∧ Below w.heap.size w w' := by
 have hu48 := Try.underlying48
 have hu26 := Try.underlying26
 have HR0_1 := am_ hr0_1
 have HC0_1 := am_ hc0_1
 clear hr0_1 hc0_1
 have HR0_2 := am_ hr0_2
 have HC0_2 := am_ hc0_2
 clear hr0_2 hc0_2
 have HR0_3 := am_ hr0_3
 have HC0_3 := am_ hc0_3
 clear hr0_3 hc0_3
 have HR1_1 := am_ hr1_1
 have HC1_1 := am_ hc1_1
 clear hr1_1 hc1_1
 have HR1_2 := am_ hr1_2
 have HC1_2 := am_ hc1_2
 clear hr1_2 hc1_2
 have HR1_3 := am_ hr1_3
 have HC1_3 := am_ hc1_3
 clear hr1_3 hc1_3
 have HB := am_ (Below.refl w.heap.size w)
 have H : ((spec_raGood.f k a0_0 l0_1 l0_2 l0_3).bind fun t187 => (if t187 = true then ((spec_raGood.f k a1_0 l1_1 l1_2 l1_3).bind fun t188 => (if t188 = true then (spec_JoinRanked.j0 k (decide ((wrap64 (a0_0 + a1_0)) > 4096)) a0_0 l0_1 l0_2 l0_3 a1_0 l1_1 l1_2 l1_3) else (spec_JoinRanked.j0 k true a0_0 l0_1 l0_2 l0_3 a1_0 l1_1 l1_2 l1_3))) else (spec_JoinRanked.j0 k true a0_0 l0_1 l0_2 l0_3 a1_0 l1_1 l1_2 l1_3))) = some (r1, r2, r3, r4, r5) := h
 clear h
 have HC3 := am_ H
 clear H
 go_enter Try.func35, Try.ntmps35
 go_upto_region 1 with (first | ((with_reducible refine gate_dst (N := 2) rfl ?_); refine bev_ 2 #[.int .i64 a0_0, .slice A0_1 l0_1.length c0_1, .slice A0_2 l0_2.length c0_2, .slice A0_3 l0_3.length c0_3] 48 rfl rfl ?_; intro gb184 hg w4 hbox hb; have BK184 := am_ (hbox); have GW184 := am_ ((by rw [hg]; exact (below_size (lw_ HB)) : w.heap.size ≤ gb184)); have GE184 := am_ ((by rw [hg]; exact (below_size (lw_ HB)) : w.heap.size ≤ gb184)); replace HB := am_ (below_step (lw_ HB) hb); clear hb hbox hg) | ((with_reducible refine gate_dst (N := 3) rfl ?_); refine bev_ 3 #[.int .i64 a1_0, .slice A1_1 l1_1.length c1_1, .slice A1_2 l1_2.length c1_2, .slice A1_3 l1_3.length c1_3] 48 rfl rfl ?_; intro gb185 hg w5 hbox hb; have BK185 := am_ (hbox); have GW185 := am_ ((by rw [hg]; exact (below_size (lw_ HB)) : w.heap.size ≤ gb185)); have GE185 := am_ ((by rw [hg]; exact (below_size (lw_ HB)) : w.heap.size ≤ gb185)); have NB184_185 := am_ ((by rw [hg]; exact Nat.ne_of_lt (blk_lt (g := gb184) (lb_ BK184)) : gb184 ≠ gb185)); have NB185_184 := am_ ((by rw [hg]; exact Nat.ne_of_gt (blk_lt (g := gb184) (lb_ BK184)) : gb185 ≠ gb184)); replace BK184 := am_ (blk_below (g := gb184) (lb_ BK184) hb); replace HB := am_ (below_step (lw_ HB) hb); clear hb hbox hg) | ((with_reducible refine gate_dst (N := 4) rfl ?_); refine bev_ 4 #[.int .i64 0, .slice none 0 0, .slice none 0 0, .slice none 0 0] 48 rfl rfl ?_; intro gb186 hg w6 hbox hb; have BK186 := am_ (hbox); have GW186 := am_ ((by rw [hg]; exact (below_size (lw_ HB)) : w.heap.size ≤ gb186)); have GE186 := am_ ((by rw [hg]; exact (below_size (lw_ HB)) : w.heap.size ≤ gb186)); have NB184_186 := am_ ((by rw [hg]; exact Nat.ne_of_lt (blk_lt (g := gb184) (lb_ BK184)) : gb184 ≠ gb186)); have NB186_184 := am_ ((by rw [hg]; exact Nat.ne_of_gt (blk_lt (g := gb184) (lb_ BK184)) : gb186 ≠ gb184)); have NB185_186 := am_ ((by rw [hg]; exact Nat.ne_of_lt (blk_lt (g := gb185) (lb_ BK185)) : gb185 ≠ gb186)); have NB186_185 := am_ ((by rw [hg]; exact Nat.ne_of_gt (blk_lt (g := gb185) (lb_ BK185)) : gb186 ≠ gb185)); replace BK184 := am_ (blk_below (g := gb184) (lb_ BK184) hb); replace BK185 := am_ (blk_below (g := gb185) (lb_ BK185) hb); replace HB := am_ (below_step (lw_ HB) hb); clear hb hbox hg))
 (try simp only [Act.put, List.setIfInBounds_toArray, List.set_cons_zero, List.set_cons_succ])
 go_cut [23] (fun v23 wc => ∃ (kq : Nat) (x23_2 : Bool), v23 = .bool x23_2 ∧ Aside0 (spec_JoinRanked.j0 kq x23_2 a0_0 l0_1 l0_2 l0_3 a1_0 l1_1 l1_2 l1_3 = some (r1, r2, r3, r4, r5)) ∧ Aside0 (kq ≤ k) ∧ Aside0 (wc.heap[gb184]? = some (.cells #[.int .i64 a0_0, (.slice A0_1 l0_1.length c0_1), (.slice A0_2 l0_2.length c0_2), (.slice A0_3 l0_3.length c0_3)] 48 (0, 0))) ∧ Aside0 (wc.heap[gb185]? = some (.cells #[.int .i64 a1_0, (.slice A1_1 l1_1.length c1_1), (.slice A1_2 l1_2.length c1_2), (.slice A1_3 l1_3.length c1_3)] 48 (0, 0))) ∧ Aside0 (wc.heap[gb186]? = some (.cells #[.int .i64 0, (.slice none 0 0), (.slice none 0 0), (.slice none 0 0)] 48 (0, 0))) ∧ Aside0 (Below w.heap.size w wc))
 case first =>
  have H := HC3.out
  clear HC3
  replace H := Option.bind_eq_some_iff.mp H
  obtain ⟨t187, A70, H⟩ := H
  replace H : (if t187 = true then ((spec_raGood.f k a1_0 l1_1 l1_2 l1_3).bind fun t188 => (if t188 = true then (spec_JoinRanked.j0 k (decide ((wrap64 (a0_0 + a1_0)) > 4096)) a0_0 l0_1 l0_2 l0_3 a1_0 l1_1 l1_2 l1_3) else (spec_JoinRanked.j0 k true a0_0 l0_1 l0_2 l0_3 a1_0 l1_1 l1_2 l1_3))) else (spec_JoinRanked.j0 k true a0_0 l0_1 l0_2 l0_3 a1_0 l1_1 l1_2 l1_3)) = some (r1, r2, r3, r4, r5) := H
  have A7 := am_ A70
  clear A70
  by_cases c8 : t187 = true
  ·subst c8
   have H1 : ((spec_raGood.f k a1_0 l1_1 l1_2 l1_3).bind fun t188 => (if t188 = true then (spec_JoinRanked.j0 k (decide ((wrap64 (a0_0 + a1_0)) > 4096)) a0_0 l0_1 l0_2 l0_3 a1_0 l1_1 l1_2 l1_3) else (spec_JoinRanked.j0 k true a0_0 l0_1 l0_2 l0_3 a1_0 l1_1 l1_2 l1_3))) = some (r1, r2, r3, r4, r5) := by rw [if_pos rfl] at H; exact H
   clear H
   have H := H1
   clear H1
   replace H := Option.bind_eq_some_iff.mp H
   obtain ⟨t188, A90, H⟩ := H
   replace H : (if t188 = true then (spec_JoinRanked.j0 k (decide ((wrap64 (a0_0 + a1_0)) > 4096)) a0_0 l0_1 l0_2 l0_3 a1_0 l1_1 l1_2 l1_3) else (spec_JoinRanked.j0 k true a0_0 l0_1 l0_2 l0_3 a1_0 l1_1 l1_2 l1_3)) = some (r1, r2, r3, r4, r5) := H
   have A9 := am_ A90
   clear A90
   by_cases c10 : t188 = true
   ·subst c10
    have H1 : (spec_JoinRanked.j0 k (decide ((wrap64 (a0_0 + a1_0)) > 4096)) a0_0 l0_1 l0_2 l0_3 a1_0 l1_1 l1_2 l1_3) = some (r1, r2, r3, r4, r5) := by rw [if_pos rfl] at H; exact H
    clear H
    have H := H1
    clear H1
    have H' := am_ H
    clear H
    have hnb11 := NB184_185.out
    have hnc11 := NB185_184.out
    have hnb12 := NB184_186.out
    have hnc12 := NB186_184.out
    obtain ⟨hcz13_0, hcz13_1, hcz13_2, hcz13_3, hfz13_0, hfz13_1, hfz13_2, hfz13_3⟩ := bx4_ BK184.out
    go_wp2_with (first | ((with_reducible refine gate_callee (f := 94) rfl ?_); refine goesL_ (some 7) rfl rfl Try.func94 (by kernel_rfl) rfl #[.agg #[.int .i64 a0_0, .slice A0_1 l0_1.length c0_1, .slice A0_2 l0_2.length c0_2, .slice A0_3 l0_3.length c0_3]] rfl lm_ ?_; (with_reducible refine (spec_raGood.calls k a0_0 _ _ l0_1 _ _ l0_2 _ _ l0_3 true _ ?side1 ?side2 ?side3 ?side4 ?side5 ?side6 A7.out).mono ?_); (case side1 => exact lc_ (Kd.C_below HR0_1.out HB.out)); (case side2 => exact HC0_1.out); (case side3 => exact lc_ (Kd.C_below HR0_2.out HB.out)); (case side4 => exact HC0_2.out); (case side5 => exact lc_ (Kd.C_below HR0_3.out HB.out)); (case side6 => exact HC0_3.out); rintro e w14 ⟨rfl, hb⟩; refine ⟨_, rfl, ?_⟩; replace BK184 := am_ (blk_below (g := gb184) (lb_ BK184) hb); replace BK185 := am_ (blk_below (g := gb185) (lb_ BK185) hb); replace BK186 := am_ (blk_below (g := gb186) (lb_ BK186) hb); replace HB := am_ (below_step (lw_ HB) hb); (try clear hb); (try clear hb2); (try clear hk); (try clear hi); have hnb15 := NB185_186.out; have hnc15 := NB186_185.out; obtain ⟨hcz16_0, hcz16_1, hcz16_2, hcz16_3, hfz16_0, hfz16_1, hfz16_2, hfz16_3⟩ := bx4_ BK185.out) | (go_at_call 94; (with_reducible refine (spec_raGood.calls k a1_0 _ _ l1_1 _ _ l1_2 _ _ l1_3 true _ ?side1 ?side2 ?side3 ?side4 ?side5 ?side6 A9.out).mono ?_); (case side1 => exact lc_ (Kd.C_below HR1_1.out HB.out)); (case side2 => exact HC1_1.out); (case side3 => exact lc_ (Kd.C_below HR1_2.out HB.out)); (case side4 => exact HC1_2.out); (case side5 => exact lc_ (Kd.C_below HR1_3.out HB.out)); (case side6 => exact HC1_3.out); rintro e w17 ⟨rfl, hb⟩; replace BK184 := am_ (blk_below (g := gb184) (lb_ BK184) hb); replace BK185 := am_ (blk_below (g := gb185) (lb_ BK185) hb); replace BK186 := am_ (blk_below (g := gb186) (lb_ BK186) hb); replace HB := am_ (below_step (lw_ HB) hb); (try clear hb); (try clear hb2); (try clear hk); (try clear hi); obtain ⟨hcz18_0, hcz18_1, hcz18_2, hcz18_3, hfz18_0, hfz18_1, hfz18_2, hfz18_3⟩ := bx4_ BK184.out; obtain ⟨hcz19_0, hcz19_1, hcz19_2, hcz19_3, hfz19_0, hfz19_1, hfz19_2, hfz19_3⟩ := bx4_ BK185.out))
    go_meet
    case rel => exact ⟨_, (decide ((wrap64 (a0_0 + a1_0)) > 4096)), sr_, H', ⟨by first | omega | exact Nat.le_refl _⟩, ⟨lb_ BK184⟩, ⟨lb_ BK185⟩, ⟨lb_ BK186⟩, ⟨lw_ HB⟩⟩
   ·replace c10 := Bool.eq_false_iff.mpr c10
    subst c10
    have H1 : (spec_JoinRanked.j0 k true a0_0 l0_1 l0_2 l0_3 a1_0 l1_1 l1_2 l1_3) = some (r1, r2, r3, r4, r5) := by rw [if_neg (show ¬ (false = true) by decide)] at H; exact H
    clear H
    have H := H1
    clear H1
    have H' := am_ H
    clear H
    have hnb20 := NB184_185.out
    have hnc20 := NB185_184.out
    have hnb21 := NB184_186.out
    have hnc21 := NB186_184.out
    obtain ⟨hcz22_0, hcz22_1, hcz22_2, hcz22_3, hfz22_0, hfz22_1, hfz22_2, hfz22_3⟩ := bx4_ BK184.out
    go_wp2_with (first | ((with_reducible refine gate_callee (f := 94) rfl ?_); refine goesL_ (some 7) rfl rfl Try.func94 (by kernel_rfl) rfl #[.agg #[.int .i64 a0_0, .slice A0_1 l0_1.length c0_1, .slice A0_2 l0_2.length c0_2, .slice A0_3 l0_3.length c0_3]] rfl lm_ ?_; (with_reducible refine (spec_raGood.calls k a0_0 _ _ l0_1 _ _ l0_2 _ _ l0_3 true _ ?side1 ?side2 ?side3 ?side4 ?side5 ?side6 A7.out).mono ?_); (case side1 => exact lc_ (Kd.C_below HR0_1.out HB.out)); (case side2 => exact HC0_1.out); (case side3 => exact lc_ (Kd.C_below HR0_2.out HB.out)); (case side4 => exact HC0_2.out); (case side5 => exact lc_ (Kd.C_below HR0_3.out HB.out)); (case side6 => exact HC0_3.out); rintro e w23 ⟨rfl, hb⟩; refine ⟨_, rfl, ?_⟩; replace BK184 := am_ (blk_below (g := gb184) (lb_ BK184) hb); replace BK185 := am_ (blk_below (g := gb185) (lb_ BK185) hb); replace BK186 := am_ (blk_below (g := gb186) (lb_ BK186) hb); replace HB := am_ (below_step (lw_ HB) hb); (try clear hb); (try clear hb2); (try clear hk); (try clear hi); have hnb24 := NB185_186.out; have hnc24 := NB186_185.out; obtain ⟨hcz25_0, hcz25_1, hcz25_2, hcz25_3, hfz25_0, hfz25_1, hfz25_2, hfz25_3⟩ := bx4_ BK185.out) | (go_at_call 94; (with_reducible refine (spec_raGood.calls k a1_0 _ _ l1_1 _ _ l1_2 _ _ l1_3 false _ ?side1 ?side2 ?side3 ?side4 ?side5 ?side6 A9.out).mono ?_); (case side1 => exact lc_ (Kd.C_below HR1_1.out HB.out)); (case side2 => exact HC1_1.out); (case side3 => exact lc_ (Kd.C_below HR1_2.out HB.out)); (case side4 => exact HC1_2.out); (case side5 => exact lc_ (Kd.C_below HR1_3.out HB.out)); (case side6 => exact HC1_3.out); rintro e w26 ⟨rfl, hb⟩; replace BK184 := am_ (blk_below (g := gb184) (lb_ BK184) hb); replace BK185 := am_ (blk_below (g := gb185) (lb_ BK185) hb); replace BK186 := am_ (blk_below (g := gb186) (lb_ BK186) hb); replace HB := am_ (below_step (lw_ HB) hb); (try clear hb); (try clear hb2); (try clear hk); (try clear hi)))
    go_meet
    case rel => exact ⟨_, (true), sr_, H', ⟨by first | omega | exact Nat.le_refl _⟩, ⟨lb_ BK184⟩, ⟨lb_ BK185⟩, ⟨lb_ BK186⟩, ⟨lw_ HB⟩⟩
  ·replace c8 := Bool.eq_false_iff.mpr c8
   subst c8
   have H1 : (spec_JoinRanked.j0 k true a0_0 l0_1 l0_2 l0_3 a1_0 l1_1 l1_2 l1_3) = some (r1, r2, r3, r4, r5) := by rw [if_neg (show ¬ (false = true) by decide)] at H; exact H
   clear H
   have H := H1
   clear H1
   have H' := am_ H
   clear H
   have hnb27 := NB184_185.out
   have hnc27 := NB185_184.out
   have hnb28 := NB184_186.out
   have hnc28 := NB186_184.out
   obtain ⟨hcz29_0, hcz29_1, hcz29_2, hcz29_3, hfz29_0, hfz29_1, hfz29_2, hfz29_3⟩ := bx4_ BK184.out
   go_wp2_with (first | ((with_reducible refine gate_callee (f := 94) rfl ?_); refine goesL_ (some 7) rfl rfl Try.func94 (by kernel_rfl) rfl #[.agg #[.int .i64 a0_0, .slice A0_1 l0_1.length c0_1, .slice A0_2 l0_2.length c0_2, .slice A0_3 l0_3.length c0_3]] rfl lm_ ?_; (with_reducible refine (spec_raGood.calls k a0_0 _ _ l0_1 _ _ l0_2 _ _ l0_3 false _ ?side1 ?side2 ?side3 ?side4 ?side5 ?side6 A7.out).mono ?_); (case side1 => exact lc_ (Kd.C_below HR0_1.out HB.out)); (case side2 => exact HC0_1.out); (case side3 => exact lc_ (Kd.C_below HR0_2.out HB.out)); (case side4 => exact HC0_2.out); (case side5 => exact lc_ (Kd.C_below HR0_3.out HB.out)); (case side6 => exact HC0_3.out); rintro e w30 ⟨rfl, hb⟩; refine ⟨_, rfl, ?_⟩; replace BK184 := am_ (blk_below (g := gb184) (lb_ BK184) hb); replace BK185 := am_ (blk_below (g := gb185) (lb_ BK185) hb); replace BK186 := am_ (blk_below (g := gb186) (lb_ BK186) hb); replace HB := am_ (below_step (lw_ HB) hb); (try clear hb); (try clear hb2); (try clear hk); (try clear hi)))
   go_meet
   case rel => exact ⟨_, (true), sr_, H', ⟨by first | omega | exact Nat.le_refl _⟩, ⟨lb_ BK184⟩, ⟨lb_ BK185⟩, ⟨lb_ BK186⟩, ⟨lw_ HB⟩⟩
 case rest =>
  clear HC3
  try clear c1
  try clear c2
  try clear p2
  try clear c3
  try clear p6
  try clear c8
  try clear c9
  try clear c10
  try clear c11
  try clear c12
  try clear c15
  try clear c20
  try clear c21
  try clear c24
  try clear c27
  try clear c28
  try clear hcz13_0
  try clear hcz13_1
  try clear hcz13_2
  try clear hcz13_3
  try clear hcz16_0
  try clear hcz16_1
  try clear hcz16_2
  try clear hcz16_3
  try clear hcz18_0
  try clear hcz18_1
  try clear hcz18_2
  try clear hcz18_3
  try clear hcz19_0
  try clear hcz19_1
  try clear hcz19_2
  try clear hcz19_3
  try clear hcz22_0
  try clear hcz22_1
  try clear hcz22_2
  try clear hcz22_3
  try clear hcz25_0
  try clear hcz25_1
  try clear hcz25_2
  try clear hcz25_3
  try clear hcz29_0
  try clear hcz29_1
  try clear hcz29_2
  try clear hcz29_3
  try clear hfz13_0
  try clear hfz13_1
  try clear hfz13_2
  try clear hfz13_3
  try clear hfz16_0
  try clear hfz16_1
  try clear hfz16_2
  try clear hfz16_3
  try clear hfz18_0
  try clear hfz18_1
  try clear hfz18_2
  try clear hfz18_3
  try clear hfz19_0
  try clear hfz19_1
  try clear hfz19_2
  try clear hfz19_3
  try clear hfz22_0
  try clear hfz22_1
  try clear hfz22_2
  try clear hfz22_3
  try clear hfz25_0
  try clear hfz25_1
  try clear hfz25_2
  try clear hfz25_3
  try clear hfz29_0
  try clear hfz29_1
  try clear hfz29_2
  try clear hfz29_3
  obtain ⟨kq, x23_2, rfl, HA, HJ2, BK184, BK185, BK186, HB⟩ := hcut
  cases kq with
  | zero => exact absurd HA.out (by simp [spec_JoinRanked.j0])
  | succ kj2 =>
   have H := HA.out
   clear HA
   simp only [spec_JoinRanked.j0] at H
   by_cases c31 : x23_2 = true
   ·subst c31
    have H1 : (some (0, ([] : List Int), ([] : List Int), ([] : List Int), false)) = some (r1, r2, r3, r4, r5) := by rw [if_pos rfl] at H; exact H
    clear H
    have H := H1
    clear H1
    simp only [Option.some.injEq, Prod.mk.injEq] at H
    obtain ⟨rfl, rfl, rfl, rfl, rfl⟩ := H
    have hnb32 := NB186_184.out
    have hnc32 := NB184_186.out
    have hnb33 := NB186_185.out
    have hnc33 := NB185_186.out
    obtain ⟨hcz34_0, hcz34_1, hcz34_2, hcz34_3, hfz34_0, hfz34_1, hfz34_2, hfz34_3⟩ := bx4_ BK186.out
    go_wp2
    refine bodyPost_ret (results_ct rfl _ _ gb186 48 #[.int .i64 0, .slice none 0 0, .slice none 0 0, .slice none 0 0] (0, 0) _ rfl (lq_ BK186) Try.underlying48 rfl (by kernel_rfl)) rfl ?_
    exact ⟨_, _, _, er_, by first | exact Kd.R_nil _ _ _ _ _ | exact Kd.N_nil _ _ _ _ _ | exact Kd.V_nil _ _ _ _ _ | exact Kd.Q_nil _ _ _ _ _ | exact Kd.S_nil _ _ _ _ _, by first | exact Kd.R_nil _ _ _ _ _ | exact Kd.N_nil _ _ _ _ _ | exact Kd.V_nil _ _ _ _ _ | exact Kd.Q_nil _ _ _ _ _ | exact Kd.S_nil _ _ _ _ _, by first | exact Kd.R_nil _ _ _ _ _ | exact Kd.N_nil _ _ _ _ _ | exact Kd.V_nil _ _ _ _ _ | exact Kd.Q_nil _ _ _ _ _ | exact Kd.S_nil _ _ _ _ _, lw_ HB⟩
   ·replace c31 := Bool.eq_false_iff.mpr c31
    subst c31
    have H1 : ((spec_biList.f kj2 a0_0 l0_1).bind fun t189 => ((spec_biList.f kj2 a1_0 l1_1).bind fun t192 => (if t189.length + t192.length < 140737488355328 then ((spec_biSome.f kj2 (t189 ++ t192)).bind fun bt198 => ((spec_raOf.f kj2 bt198.1 bt198.2).bind fun bt202 => (some (bt202.1, bt202.2.1, bt202.2.2.1, bt202.2.2.2, true)))) else (none)))) = some (r1, r2, r3, r4, r5) := by rw [if_neg (show ¬ (false = true) by decide)] at H; exact H
    clear H
    have H := H1
    clear H1
    replace H := Option.bind_eq_some_iff.mp H
    obtain ⟨t189, A350, H⟩ := H
    replace H : ((spec_biList.f kj2 a1_0 l1_1).bind fun t192 => (if t189.length + t192.length < 140737488355328 then ((spec_biSome.f kj2 (t189 ++ t192)).bind fun bt198 => ((spec_raOf.f kj2 bt198.1 bt198.2).bind fun bt202 => (some (bt202.1, bt202.2.1, bt202.2.2.1, bt202.2.2.2, true)))) else (none))) = some (r1, r2, r3, r4, r5) := H
    have A35 := am_ A350
    clear A350
    replace H := Option.bind_eq_some_iff.mp H
    obtain ⟨t192, A360, H⟩ := H
    replace H : (if t189.length + t192.length < 140737488355328 then ((spec_biSome.f kj2 (t189 ++ t192)).bind fun bt198 => ((spec_raOf.f kj2 bt198.1 bt198.2).bind fun bt202 => (some (bt202.1, bt202.2.1, bt202.2.2.1, bt202.2.2.2, true)))) else (none)) = some (r1, r2, r3, r4, r5) := H
    have A36 := am_ A360
    clear A360
    by_cases c37 : t189.length + t192.length < 140737488355328
    ·rw [if_pos c37] at H
     have LMc37 := am_ c37
     clear c37
     obtain ⟨y195, hy195⟩ : ∃ y_ : List Bool, y_ = (t189 ++ t192) := ⟨_, rfl⟩
     replace H : ((spec_biSome.f kj2 y195).bind fun bt198 => ((spec_raOf.f kj2 bt198.1 bt198.2).bind fun bt202 => (some (bt202.1, bt202.2.1, bt202.2.2.1, bt202.2.2.2, true)))) = some (r1, r2, r3, r4, r5) := by first | (rw [hy195]; with_reducible exact H) | (have H2_ := (Option.bind_some _ _).symm.trans H; rw [hy195]; with_reducible exact H2_) | (have H2_ := (Option.bind_some _ _).symm.trans H; with_reducible exact H2_) | with_reducible exact H | (rw [hy195]; exact H) | exact H
     have Ny195 := am_ hy195
     clear hy195
     replace H := Option.bind_eq_some_iff.mp H
     obtain ⟨⟨t198, t199⟩, A380, H⟩ := H
     replace H : ((spec_raOf.f kj2 t198 t199).bind fun bt202 => (some (bt202.1, bt202.2.1, bt202.2.2.1, bt202.2.2.2, true))) = some (r1, r2, r3, r4, r5) := H
     have A38 := am_ A380
     clear A380
     replace H := Option.bind_eq_some_iff.mp H
     obtain ⟨⟨t202, t203, t206, t209⟩, A390, H⟩ := H
     replace H : (some (t202, t203, t206, t209, true)) = some (r1, r2, r3, r4, r5) := H
     have A39 := am_ A390
     clear A390
     simp only [Option.some.injEq, Prod.mk.injEq] at H
     obtain ⟨rfl, rfl, rfl, rfl, rfl⟩ := H
     try go_wp2
     replace BK184 := am_ (blk_drew BK184.out); replace BK185 := am_ (blk_drew BK185.out); replace BK186 := am_ (blk_drew BK186.out); replace HB := am_ (below_drew1 HB.out)
     refine start_ (n := 11) (S := fun w' => w'.cell? ⟨gb184, 0, none⟩ = some (.int .i64 a0_0) ∧ w'.cell? ⟨gb184, 1, none⟩ = some (.slice A0_1 l0_1.length c0_1) ∧ w'.cell? ⟨gb184, 2, none⟩ = some (.slice A0_2 l0_2.length c0_2) ∧ w'.cell? ⟨gb184, 3, none⟩ = some (.slice A0_3 l0_3.length c0_3) ∧ w'.cell? ⟨gb185, 0, none⟩ = some (.int .i64 a1_0) ∧ w'.cell? ⟨gb185, 1, none⟩ = some (.slice A1_1 l1_1.length c1_1) ∧ w'.cell? ⟨gb185, 2, none⟩ = some (.slice A1_2 l1_2.length c1_2) ∧ w'.cell? ⟨gb185, 3, none⟩ = some (.slice A1_3 l1_3.length c1_3)) (ds := []) #[false, false, false, false, false, false, false, false, false, false, false] (by kernel_rfl) rfl rfl ⟨(blk_cell BK184.out 0).trans rfl, (blk_cell BK184.out 1).trans rfl, (blk_cell BK184.out 2).trans rfl, (blk_cell BK184.out 3).trans rfl, (blk_cell BK185.out 0).trans rfl, (blk_cell BK185.out 1).trans rfl, (blk_cell BK185.out 2).trans rfl, (blk_cell BK185.out 3).trans rfl⟩ (fun hHeld => ?_); refine with_tabW spec_JoinRanked.tab3 spec_JoinRanked.bits3 (fun HT_ HW_ => ?_)
     generalize wc.drew = w40 at BK184 BK185 BK186 HB hHeld ⊢
     refine pure_ (i := 0) (N := some 25) (v := ?_) (a' := ?_) #[true, false, false, false, false, false, false, false, false, false, false] rfl rfl (any_of HT_.out (by kernel_rfl)) (fun _ _ _ h => h) (Or.inl ⟨by rfl, ?_⟩) ?_ ?_
     rotate_left
     ·intro w'
      go_simp
      with_reducible rfl
     rotate_left
     ·simp only [Act.put, List.setIfInBounds_toArray, List.set_cons_zero, List.set_cons_succ, i64_w, i32_w]
      rfl
     refine pure_ (i := 3) (N := some 28) (v := ?_) (a' := ?_) #[true, false, false, true, false, false, false, false, false, false, false] rfl rfl (any_of HT_.out (by kernel_rfl)) (fun _ _ _ h => h) (Or.inl ⟨by rfl, ?_⟩) ?_ ?_
     rotate_left
     ·intro w'
      go_simp
      with_reducible rfl
     rotate_left
     ·simp only [Act.put, List.setIfInBounds_toArray, List.set_cons_zero, List.set_cons_succ, i64_w, i32_w]
      rfl
     refine take_ (i := 1) (N := some 26) (v := ?_) (a' := ?_) #[true, true, false, true, false, false, false, false, false, false, false] rfl rfl (take_ofW HT_.out HW_.out (by kernel_rfl)) (fun _ _ _ h => h) (Or.inl ⟨by rfl, ?_⟩) hHeld ?_ ?_
     rotate_left
     ·rintro w' ⟨s0, s1, s2, s3, s4, s5, s6, s7⟩
      go_simp
      with_reducible rfl
     rotate_left
     ·simp only [Act.put, List.setIfInBounds_toArray, List.set_cons_zero, List.set_cons_succ, i64_w, i32_w]
      rfl
     refine take_ (i := 4) (N := some 29) (v := ?_) (a' := ?_) #[true, true, false, true, true, false, false, false, false, false, false] rfl rfl (take_ofW HT_.out HW_.out (by kernel_rfl)) (fun _ _ _ h => h) (Or.inl ⟨by rfl, ?_⟩) hHeld ?_ ?_
     rotate_left
     ·rintro w' ⟨s0, s1, s2, s3, s4, s5, s6, s7⟩
      go_simp
      with_reducible rfl
     rotate_left
     ·simp only [Act.put, List.setIfInBounds_toArray, List.set_cons_zero, List.set_cons_succ, i64_w, i32_w]
      rfl
     refine one_ (i := 2) (N := some 27) #[true, true, true, true, true, false, false, false, false, false, false] rfl rfl (one_of HT_.out (by kernel_rfl)) (by decide) (fun K hK => ?_)
     refine goes_ Try.func71 (by kernel_rfl) rfl #[.agg #[.int .i64 a0_0, .slice A0_1 l0_1.length c0_1]] (by rfl) rfl rfl lm_ ?_
     with_reducible refine (spec_biList.calls kj2 a0_0 _ _ l0_1 t189 _ ?side1 ?side2 A35.out).mono ?_
     (case side1 => exact lc_ (Kd.C_below HR0_1.out HB.out))
     (case side2 => exact HC0_1.out)
     rintro e w41 ⟨v190, rfl, ho0, hb⟩
     refine ⟨_, rfl, ?_⟩
     have HO191 := am_ (Kd.R_lower ho0 (below_size (lw_ HB))); replace BK184 := am_ (blk_below (g := gb184) (lb_ BK184) hb); replace BK185 := am_ (blk_below (g := gb185) (lb_ BK185) hb); replace BK186 := am_ (blk_below (g := gb186) (lb_ BK186) hb); replace HB := am_ (below_step (lw_ HB) hb)
     (try clear hb)
     (try clear hb2)
     (try clear hk)
     (try clear hi)
     (try clear ho0)
     refine hK.out _ _ ⟨(blk_cell BK184.out 0).trans rfl, (blk_cell BK184.out 1).trans rfl, (blk_cell BK184.out 2).trans rfl, (blk_cell BK184.out 3).trans rfl, (blk_cell BK185.out 0).trans rfl, (blk_cell BK185.out 1).trans rfl, (blk_cell BK185.out 2).trans rfl, (blk_cell BK185.out 3).trans rfl⟩ (fun hHeld => ?_)
     clear hK K
     refine norm_ (a' := ?_) ?_ ?_
     rotate_left
     ·show Act.put _ (some 27) _ = _
      simp only [Act.put, List.setIfInBounds_toArray, List.set_cons_zero, List.set_cons_succ, i64_w, i32_w]
      rfl
     refine one_ (i := 5) (N := some 30) #[true, true, true, true, true, true, false, false, false, false, false] rfl rfl (one_of HT_.out (by kernel_rfl)) (by decide) (fun K hK => ?_)
     refine goes_ Try.func71 (by kernel_rfl) rfl #[.agg #[.int .i64 a1_0, .slice A1_1 l1_1.length c1_1]] (by rfl) rfl rfl lm_ ?_
     with_reducible refine (spec_biList.calls kj2 a1_0 _ _ l1_1 t192 _ ?side1 ?side2 A36.out).mono ?_
     (case side1 => exact lc_ (Kd.C_below HR1_1.out HB.out))
     (case side2 => exact HC1_1.out)
     rintro e w42 ⟨v193, rfl, ho0, hb⟩
     refine ⟨_, rfl, ?_⟩
     have HO194 := am_ (Kd.R_lower (nw_ ho0 HO191) (below_size (lw_ HB))); replace HO191 := am_ (Kd.R_elder' (lf_ HO191) (Kd.R_base ho0) hb); replace BK184 := am_ (blk_below (g := gb184) (lb_ BK184) hb); replace BK185 := am_ (blk_below (g := gb185) (lb_ BK185) hb); replace BK186 := am_ (blk_below (g := gb186) (lb_ BK186) hb); replace HB := am_ (below_step (lw_ HB) hb)
     (try clear hb)
     (try clear hb2)
     (try clear hk)
     (try clear hi)
     (try clear ho0)
     obtain ⟨Ao44, co44, eo44⟩ := Kd.R_slice HO194.out
     (first | subst eo44 | (injection eo44 with f1_ f2_ f3_; have f4_ := f1_.symm; have f5_ := f3_.symm; clear f1_ f2_ f3_; subst f4_; subst f5_))
     refine hK.out _ _ ⟨(blk_cell BK184.out 0).trans rfl, (blk_cell BK184.out 1).trans rfl, (blk_cell BK184.out 2).trans rfl, (blk_cell BK184.out 3).trans rfl, (blk_cell BK185.out 0).trans rfl, (blk_cell BK185.out 1).trans rfl, (blk_cell BK185.out 2).trans rfl, (blk_cell BK185.out 3).trans rfl⟩ (fun hHeld => ?_)
     clear hK K
     refine norm_ (a' := ?_) ?_ ?_
     rotate_left
     ·show Act.put _ (some 30) _ = _
      simp only [Act.put, List.setIfInBounds_toArray, List.set_cons_zero, List.set_cons_succ, i64_w, i32_w]
      rfl
     refine one_ (i := 6) (N := some 31) #[true, true, true, true, true, true, true, false, false, false, false] rfl rfl (one_of HT_.out (by kernel_rfl)) (by decide) (fun K hK => ?_)
     refine Kd.R_append_rows_step Kd.bool (w0 := w) w.heap.size (by rfl) (.tmp 27) (.tmp 30) 88 4 (.bool false) 1 rfl Try.underlying88 info4 rfl (by decide) (by omega) v190 t189 t192 _ _ _ (fun k_ => ns_ k_ Ao44 t192 co44) (fun _ => False) rfl rfl ?aO ?aR (fun _ _ h => h) (fun _ h => h.elim) ?aF ?aB ?aS ?aL ?_
     (case aR => exact lc_ (Kd.R_reads' HO194.out).2.2)
     (case aB => exact (lw_ HB))
     (case aF => exact (fun k_ hk => Kd.fresh' (Kd.R_lt (lf_ HO194)) k_ hk))
     (case aO => exact (lt_ (m2_ HO191.out)))
     (case aS => exact (below_size (lw_ HB)))
     (case aL => have := LMc37.out; omega)
     intro v196 w43 ho hb hg hat
     rw [← Ny195.out] at ho
     have HO197 := am_ (ho); replace BK184 := am_ (blk_grown (g := gb184) (lb_ BK184) hg (Kd.R_ne HO191.out BK184.out (by decide))); replace BK185 := am_ (blk_grown (g := gb185) (lb_ BK185) hg (Kd.R_ne HO191.out BK185.out (by decide))); replace BK186 := am_ (blk_grown (g := gb186) (lb_ BK186) hg (Kd.R_ne HO191.out BK186.out (by decide))); replace HO194 := am_ (Kd.R_after (ok := (fun _ => True)) (lf_ HO194) hg hat); replace HB := am_ (hb); clear HO191
     clear ho hb hg hat
     obtain ⟨Ao45, co45, eo45⟩ := Kd.R_slice HO197.out
     (first | subst eo45 | (injection eo45 with f1_ f2_ f3_; have f4_ := f1_.symm; have f5_ := f3_.symm; clear f1_ f2_ f3_; subst f4_; subst f5_))
     refine hK.out _ _ ⟨(blk_cell BK184.out 0).trans rfl, (blk_cell BK184.out 1).trans rfl, (blk_cell BK184.out 2).trans rfl, (blk_cell BK184.out 3).trans rfl, (blk_cell BK185.out 0).trans rfl, (blk_cell BK185.out 1).trans rfl, (blk_cell BK185.out 2).trans rfl, (blk_cell BK185.out 3).trans rfl⟩ (fun hHeld => ?_)
     clear hK K
     refine norm_ (a' := ?_) ?_ ?_
     rotate_left
     ·show Act.put _ (some 31) _ = _
      simp only [Act.put, List.setIfInBounds_toArray, List.set_cons_zero, List.set_cons_succ, i64_w, i32_w]
      rfl
     refine one_ (i := 7) (N := some 32) #[true, true, true, true, true, true, true, true, false, false, false] rfl rfl (one_of HT_.out (by kernel_rfl)) (by decide) (fun K hK => ?_)
     refine goes_ Try.func72 (by kernel_rfl) rfl #[.slice Ao45 y195.length co45] (by rfl) rfl rfl lm_ ?_
     with_reducible refine (spec_biSome.calls kj2 _ _ y195 t198 t199 _ ?side1 ?side2 A38.out).mono ?_
     (case side1 => exact lc_ (Kd.R_reads' HO197.out).2.2)
     (case side2 => exact (Kd.R_reads' HO197.out).2.1)
     rintro e w46 ⟨v200, rfl, ho0, hb⟩
     refine ⟨_, rfl, ?_⟩
     have HO201 := am_ (Kd.R_lower ho0 (below_size (lw_ HB))); replace HO194 := am_ (Kd.R_below (lf_ HO194) hb); replace HO197 := am_ (Kd.R_below (lf_ HO197) hb); replace BK184 := am_ (blk_below (g := gb184) (lb_ BK184) hb); replace BK185 := am_ (blk_below (g := gb185) (lb_ BK185) hb); replace BK186 := am_ (blk_below (g := gb186) (lb_ BK186) hb); replace HB := am_ (below_step (lw_ HB) hb)
     (try clear hb)
     (try clear hb2)
     (try clear hk)
     (try clear hi)
     (try clear ho0)
     obtain ⟨Ao47, co47, eo47⟩ := Kd.R_slice HO201.out
     (first | subst eo47 | (injection eo47 with f1_ f2_ f3_; have f4_ := f1_.symm; have f5_ := f3_.symm; clear f1_ f2_ f3_; subst f4_; subst f5_))
     refine hK.out _ _ ⟨(blk_cell BK184.out 0).trans rfl, (blk_cell BK184.out 1).trans rfl, (blk_cell BK184.out 2).trans rfl, (blk_cell BK184.out 3).trans rfl, (blk_cell BK185.out 0).trans rfl, (blk_cell BK185.out 1).trans rfl, (blk_cell BK185.out 2).trans rfl, (blk_cell BK185.out 3).trans rfl⟩ (fun hHeld => ?_)
     clear hK K
     refine norm_ (a' := ?_) ?_ ?_
     rotate_left
     ·show Act.put _ (some 32) _ = _
      simp only [Act.put, List.setIfInBounds_toArray, List.set_cons_zero, List.set_cons_succ, i64_w, i32_w]
      rfl
     refine one_ (i := 8) (N := some 33) #[true, true, true, true, true, true, true, true, true, false, false] rfl rfl (one_of HT_.out (by kernel_rfl)) (by decide) (fun K hK => ?_)
     refine goes_ Try.func95 (by kernel_rfl) rfl #[.agg #[.int .i64 t198, .slice Ao47 t199.length co47]] (by rfl) rfl rfl lm_ ?_
     with_reducible refine (spec_raOf.calls kj2 t198 _ _ t199 t202 t203 t206 t209 _ ?side1 ?side2 A39.out).mono ?_
     (case side1 => exact lc_ (Kd.R_reads' HO201.out).2.2)
     (case side2 => exact (Kd.R_reads' HO201.out).2.1)
     rintro e w48 ⟨v204, v207, v210, rfl, ho0, ho1, ho2, hb⟩
     refine ⟨_, rfl, ?_⟩
     have HO205 := am_ (Kd.R_lower (nw_ ho0 HO201) (below_size (lw_ HB))); have HO208 := am_ (Kd.R_lower (nw_ ho1 HO201) (below_size (lw_ HB))); have HO211 := am_ (Kd.R_lower (nw_ ho2 HO201) (below_size (lw_ HB))); replace HO194 := am_ (Kd.R_below (lf_ HO194) hb); replace HO197 := am_ (Kd.R_below (lf_ HO197) hb); replace HO201 := am_ (m1_ (td_ (td_ (td_ (Kd.R_old (lf_ HO201) hb) ho0) ho1) ho2)); replace BK184 := am_ (blk_below (g := gb184) (lb_ BK184) hb); replace BK185 := am_ (blk_below (g := gb185) (lb_ BK185) hb); replace BK186 := am_ (blk_below (g := gb186) (lb_ BK186) hb); replace HB := am_ (below_step (lw_ HB) hb)
     (try clear hb)
     (try clear hb2)
     (try clear hk)
     (try clear hi)
     (try clear ho0)
     (try clear ho1)
     (try clear ho2)
     obtain ⟨Ao50, co50, eo50⟩ := Kd.R_slice HO205.out
     (first | subst eo50 | (injection eo50 with f1_ f2_ f3_; have f4_ := f1_.symm; have f5_ := f3_.symm; clear f1_ f2_ f3_; subst f4_; subst f5_))
     obtain ⟨Ao52, co52, eo52⟩ := Kd.R_slice HO208.out
     (first | subst eo52 | (injection eo52 with f1_ f2_ f3_; have f4_ := f1_.symm; have f5_ := f3_.symm; clear f1_ f2_ f3_; subst f4_; subst f5_))
     obtain ⟨Ao54, co54, eo54⟩ := Kd.R_slice HO211.out
     (first | subst eo54 | (injection eo54 with f1_ f2_ f3_; have f4_ := f1_.symm; have f5_ := f3_.symm; clear f1_ f2_ f3_; subst f4_; subst f5_))
     refine hK.out _ _ ⟨(blk_cell BK184.out 0).trans rfl, (blk_cell BK184.out 1).trans rfl, (blk_cell BK184.out 2).trans rfl, (blk_cell BK184.out 3).trans rfl, (blk_cell BK185.out 0).trans rfl, (blk_cell BK185.out 1).trans rfl, (blk_cell BK185.out 2).trans rfl, (blk_cell BK185.out 3).trans rfl⟩ (fun hHeld => ?_)
     clear hK K
     refine norm_ (a' := ?_) ?_ ?_
     rotate_left
     ·show Act.put _ (some 33) _ = _
      simp only [Act.put, List.setIfInBounds_toArray, List.set_cons_zero, List.set_cons_succ, i64_w, i32_w]
      rfl
     refine one_ (i := 9) (N := none) #[true, true, true, true, true, true, true, true, true, true, false] rfl rfl (one_of HT_.out (by kernel_rfl)) (by decide) (fun K hK => ?_)
     have hs49 : w48.cell? ⟨gb186, 0, none⟩ = some (.int .i64 0) := (blk_cell BK186.out 0).trans rfl
     have hfs49 := blk_frozen BK186.out 0
     have hns49_0 := NB184_186.out
     have hns49_1 := NB185_186.out
     have hms49_0 := NB186_184.out
     have hms49_1 := NB186_185.out
     have hs51 : w48.cell? ⟨gb186, 1, none⟩ = some (.slice none 0 0) := (blk_cell BK186.out 1).trans rfl
     have hfs51 := blk_frozen BK186.out 1
     have hns51_0 := NB184_186.out
     have hns51_1 := NB185_186.out
     have hms51_0 := NB186_184.out
     have hms51_1 := NB186_185.out
     have hs53 : w48.cell? ⟨gb186, 2, none⟩ = some (.slice none 0 0) := (blk_cell BK186.out 2).trans rfl
     have hfs53 := blk_frozen BK186.out 2
     have hns53_0 := NB184_186.out
     have hns53_1 := NB185_186.out
     have hms53_0 := NB186_184.out
     have hms53_1 := NB186_185.out
     have hs55 : w48.cell? ⟨gb186, 3, none⟩ = some (.slice none 0 0) := (blk_cell BK186.out 3).trans rfl
     have hfs55 := blk_frozen BK186.out 3
     have hns55_0 := NB184_186.out
     have hns55_1 := NB185_186.out
     have hms55_0 := NB186_184.out
     have hms55_1 := NB186_185.out
     refine skip_ (w1 := ?_) (by rfl) rfl ?_ ?_
     rotate_left
     ·go_simp
      rfl
     refine hK.out _ _ ⟨((cell_far (p := ⟨gb186, _, none⟩) NB184_186.out _).trans (((cell_far (p := ⟨gb186, _, none⟩) NB184_186.out _).trans (((cell_far (p := ⟨gb186, _, none⟩) NB184_186.out _).trans (((cell_far (p := ⟨gb186, _, none⟩) NB184_186.out _).trans (hHeld.1)))))))), ((cell_far (p := ⟨gb186, _, none⟩) NB184_186.out _).trans (((cell_far (p := ⟨gb186, _, none⟩) NB184_186.out _).trans (((cell_far (p := ⟨gb186, _, none⟩) NB184_186.out _).trans (((cell_far (p := ⟨gb186, _, none⟩) NB184_186.out _).trans (hHeld.2.1)))))))), ((cell_far (p := ⟨gb186, _, none⟩) NB184_186.out _).trans (((cell_far (p := ⟨gb186, _, none⟩) NB184_186.out _).trans (((cell_far (p := ⟨gb186, _, none⟩) NB184_186.out _).trans (((cell_far (p := ⟨gb186, _, none⟩) NB184_186.out _).trans (hHeld.2.2.1)))))))), ((cell_far (p := ⟨gb186, _, none⟩) NB184_186.out _).trans (((cell_far (p := ⟨gb186, _, none⟩) NB184_186.out _).trans (((cell_far (p := ⟨gb186, _, none⟩) NB184_186.out _).trans (((cell_far (p := ⟨gb186, _, none⟩) NB184_186.out _).trans (hHeld.2.2.2.1)))))))), ((cell_far (p := ⟨gb186, _, none⟩) NB185_186.out _).trans (((cell_far (p := ⟨gb186, _, none⟩) NB185_186.out _).trans (((cell_far (p := ⟨gb186, _, none⟩) NB185_186.out _).trans (((cell_far (p := ⟨gb186, _, none⟩) NB185_186.out _).trans (hHeld.2.2.2.2.1)))))))), ((cell_far (p := ⟨gb186, _, none⟩) NB185_186.out _).trans (((cell_far (p := ⟨gb186, _, none⟩) NB185_186.out _).trans (((cell_far (p := ⟨gb186, _, none⟩) NB185_186.out _).trans (((cell_far (p := ⟨gb186, _, none⟩) NB185_186.out _).trans (hHeld.2.2.2.2.2.1)))))))), ((cell_far (p := ⟨gb186, _, none⟩) NB185_186.out _).trans (((cell_far (p := ⟨gb186, _, none⟩) NB185_186.out _).trans (((cell_far (p := ⟨gb186, _, none⟩) NB185_186.out _).trans (((cell_far (p := ⟨gb186, _, none⟩) NB185_186.out _).trans (hHeld.2.2.2.2.2.2.1)))))))), ((cell_far (p := ⟨gb186, _, none⟩) NB185_186.out _).trans (((cell_far (p := ⟨gb186, _, none⟩) NB185_186.out _).trans (((cell_far (p := ⟨gb186, _, none⟩) NB185_186.out _).trans (((cell_far (p := ⟨gb186, _, none⟩) NB185_186.out _).trans (hHeld.2.2.2.2.2.2.2))))))))⟩ (fun hHeld => ?_)
     clear hK K
     refine pure_ (i := 10) (N := some 5) (v := ?_) (a' := ?_) #[true, true, true, true, true, true, true, true, true, true, true] rfl rfl (any_of HT_.out (by kernel_rfl)) (fun _ _ _ h => h) (Or.inl ⟨by rfl, ?_⟩) ?_ ?_
     rotate_left
     ·intro w'
      go_simp
      with_reducible rfl
     rotate_left
     ·simp only [Act.put, List.setIfInBounds_toArray, List.set_cons_zero, List.set_cons_succ, i64_w, i32_w]
      rfl
     refine done_ (done_of HT_.out (by kernel_rfl)) ?_
     try go_wp2
     refine bodyPost_ret (results_ct rfl _ _ gb186 48 #[.int .i64 t202, .slice Ao50 t203.length co50, .slice Ao52 t206.length co52, .slice Ao54 t209.length co54] (0, 0) _ rfl (lq_ BK186) Try.underlying48 rfl (by kernel_rfl)) rfl ?_
     exact ⟨_, _, _, er_, lo2_ (fr4_ HO205.out BK186.out (.int .i64 t202) (.slice Ao50 t203.length co50) (.slice Ao52 t206.length co52) (.slice Ao54 t209.length co54)), lo2_ (fr4_ HO208.out BK186.out (.int .i64 t202) (.slice Ao50 t203.length co50) (.slice Ao52 t206.length co52) (.slice Ao54 t209.length co54)), lo2_ (fr4_ HO211.out BK186.out (.int .i64 t202) (.slice Ao50 t203.length co50) (.slice Ao52 t206.length co52) (.slice Ao54 t209.length co54)), lw_ HB⟩
    ·rw [if_neg c37] at H
     exact absurd H (by simp)

end Go.Proofs.Ytkmhjgejficclaa.PFnExactJoinRanked
