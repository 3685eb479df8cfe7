-- Laid by a program of this session: the print of the kit with additions of ours (wip/tools/patchprint.py). Nothing of it is trusted: Lean checks it.
import Derived.Test.YtkmhjgejficclaaPFnExactUnpackDirectoryx0
import Derived.Test.YtkmhjgejficclaaPFnExactUnpackDirectoryx1
namespace Go.Proofs.Ytkmhjgejficclaa.PFnExactUnpackDirectory
open Go.RowKit Go.Proofs.YtkmhjgejficclaaW.PrintWords Go.Proofs.YtkmhjgejficclaaW.PrintLast Go.Proofs.YtkmhjgejficclaaW.PrintMore
attribute [local go_sem] max2_int min2_int max_two min_two max_three min_three max_four min_four   -- for this text's walks alone
set_option linter.unusedVariables false
set_option linter.unusedSimpArgs false

/-! ### laws_heldBits: function 22 -/
def laws_heldBits.f (k : Nat) (a0_0 : Int) (l0_1 : List Int) (a1 : Int) : Option (Int) := (laws_heldIntS.f k l0_1 a1).bind fun t137 => (if t137 < 0 then (some (-1)) else (some t137))
theorem laws_heldBits.mono : ∀ a0 a1 a2 k, LeO (laws_heldBits.f k a0 a1 a2) (laws_heldBits.f (k + 1) a0 a1 a2) := by
 intro a0 a1 a2 k
 unfold laws_heldBits.f
 repeat' first
   | (with_reducible exact laws_heldIntS.mono _ _ _)
   | (with_reducible exact LeO.refl _)
   | (with_reducible exact LeO.none _)
   | (with_reducible refine LeO.ite ?_ ?_)
   | (with_reducible refine LeO.bind ?_ (fun _ => ?_))
   | exact laws_heldIntS.mono _ _ _
   | exact LeO.none _
   | refine LeO.ite ?_ ?_
   | refine LeO.bind ?_ (fun _ => ?_)
set_option maxHeartbeats 8000000 in
set_option maxRecDepth 100000 in
theorem laws_heldBits.calls (k : Nat) (a0_0 : Int) (A0_1 : Option Addr) (c0_1 : Nat) (l0_1 : List Int) (a1 : Int) (r : Int) (w : World) (hr0_1 : Kd.C (Kd.int .i64) w A0_1 l0_1.length l0_1) (hc0_1 : l0_1.length ≤ c0_1) (h : laws_heldBits.f k a0_0 l0_1 a1 = some r) :
  Calls Try.prog 22 #[.agg #[.int .i64 a0_0, .slice A0_1 l0_1.length c0_1], .int .i64 a1] w fun e w' => e = .returned (.int .i64 r) ∧ Below w.heap.size w w' := by
 have hu26 := Try.underlying26
 have HR0_1 := am_ hr0_1
 have HC0_1 := am_ hc0_1
 clear hr0_1 hc0_1
 have HB := am_ (Below.refl w.heap.size w)
 have H : ((laws_heldIntS.f k l0_1 a1).bind fun t137 => (if t137 < 0 then (some (-1)) else (some t137))) = some r := h
 clear h
 replace H := Option.bind_eq_some_iff.mp H
 obtain ⟨t137, A30, H⟩ := H
 replace H : (if t137 < 0 then (some (-1)) else (some t137)) = some r := H
 have A3 := am_ A30
 clear A30
 by_cases c4 : t137 < 0
 ·rw [if_pos c4] at H
  have c4b0 : decide (t137 < 0) = true := decide_eq_true c4
  clear c4
  obtain rfl := Option.some.inj H
  go_enter Try.func22, Try.ntmps22
  go_wp2_with (first | ((with_reducible refine gate_dst (N := 2) rfl ?_); refine bev_ 2 #[.int .i64 a0_0, .slice A0_1 l0_1.length c0_1] 26 rfl rfl ?_; intro gb136 hg w5 hbox hb; have BK136 := am_ (hbox); have GW136 := am_ ((by rw [hg]; exact (below_size (lw_ HB)) : w.heap.size ≤ gb136)); have GE136 := am_ ((by rw [hg]; exact (below_size (lw_ HB)) : w.heap.size ≤ gb136)); replace HB := am_ (below_step (lw_ HB) hb); clear hb hbox hg; obtain ⟨hcz6_0, hcz6_1, hfz6_0, hfz6_1⟩ := bx2_ BK136.out) | ((with_reducible refine gate_callee (f := 77) rfl ?_); refine goesL_ (some 8) rfl rfl Try.func77 (by kernel_rfl) rfl #[.slice A0_1 l0_1.length c0_1, .int .i64 a1] rfl lm_ ?_; (with_reducible refine (laws_heldIntS.calls k _ _ l0_1 a1 t137 _ ?side1 ?side2 A3.out).mono ?_); (case side1 => exact lc_ (Kd.C_below HR0_1.out HB.out)); (case side2 => exact HC0_1.out); rintro e w' ⟨rfl, ⟨nd, rfl⟩⟩; refine ⟨_, rfl, ?_⟩))
  go_ret
  exact ⟨er_, lw_ HB⟩
 ·rw [if_neg c4] at H
  have c4b0 : decide (t137 < 0) = false := decide_eq_false c4
  clear c4
  obtain rfl := Option.some.inj H
  go_enter Try.func22, Try.ntmps22
  go_wp2_with (first | ((with_reducible refine gate_dst (N := 2) rfl ?_); refine bev_ 2 #[.int .i64 a0_0, .slice A0_1 l0_1.length c0_1] 26 rfl rfl ?_; intro gb136 hg w7 hbox hb; have BK136 := am_ (hbox); have GW136 := am_ ((by rw [hg]; exact (below_size (lw_ HB)) : w.heap.size ≤ gb136)); have GE136 := am_ ((by rw [hg]; exact (below_size (lw_ HB)) : w.heap.size ≤ gb136)); replace HB := am_ (below_step (lw_ HB) hb); clear hb hbox hg; obtain ⟨hcz8_0, hcz8_1, hfz8_0, hfz8_1⟩ := bx2_ BK136.out) | ((with_reducible refine gate_callee (f := 77) rfl ?_); refine goesL_ (some 8) rfl rfl Try.func77 (by kernel_rfl) rfl #[.slice A0_1 l0_1.length c0_1, .int .i64 a1] rfl lm_ ?_; (with_reducible refine (laws_heldIntS.calls k _ _ l0_1 a1 t137 _ ?side1 ?side2 A3.out).mono ?_); (case side1 => exact lc_ (Kd.C_below HR0_1.out HB.out)); (case side2 => exact HC0_1.out); rintro e w' ⟨rfl, ⟨nd, rfl⟩⟩; refine ⟨_, rfl, ?_⟩))
  go_ret
  exact ⟨er_, lw_ HB⟩

/-! ### laws_heldRanked: function 40 -/
def laws_heldRanked.f (k : Nat) (a0_0 : Int) (l0_1 : List Int) (l0_2 : List Int) (l0_3 : List Int) (a1 : Int) : Option (Int) := (laws_heldBits.f k a0_0 l0_1 a1).bind fun t139 => (if t139 < 0 then (some (-1)) else ((laws_heldIntS.f k l0_2 t139).bind fun t140 => (if t140 < 0 then (some (-1)) else ((laws_heldIntS.f k l0_3 t140).bind fun t141 => (if t141 < 0 then (some (-1)) else (some t141))))))
theorem laws_heldRanked.mono : ∀ a0 a1 a2 a3 a4 k, LeO (laws_heldRanked.f k a0 a1 a2 a3 a4) (laws_heldRanked.f (k + 1) a0 a1 a2 a3 a4) := by
 intro a0 a1 a2 a3 a4 k
 unfold laws_heldRanked.f
 repeat' first
   | (with_reducible exact laws_heldBits.mono _ _ _ _)
   | (with_reducible exact laws_heldIntS.mono _ _ _)
   | (with_reducible exact LeO.refl _)
   | (with_reducible exact LeO.none _)
   | (with_reducible refine LeO.ite ?_ ?_)
   | (with_reducible refine LeO.bind ?_ (fun _ => ?_))
   | exact laws_heldBits.mono _ _ _ _
   | exact laws_heldIntS.mono _ _ _
   | exact LeO.none _
   | refine LeO.ite ?_ ?_
   | refine LeO.bind ?_ (fun _ => ?_)
set_option maxHeartbeats 8000000 in
set_option maxRecDepth 100000 in
theorem laws_heldRanked.calls (k : Nat) (a0_0 : Int) (A0_1 : Option Addr) (c0_1 : Nat) (l0_1 : List Int) (A0_2 : Option Addr) (c0_2 : Nat) (l0_2 : List Int) (A0_3 : Option Addr) (c0_3 : Nat) (l0_3 : List Int) (a1 : Int) (r : Int) (w : World) (hr0_1 : Kd.C (Kd.int .i64) w A0_1 l0_1.length l0_1) (hc0_1 : l0_1.length ≤ c0_1) (hr0_2 : Kd.C (Kd.int .i64) w A0_2 l0_2.length l0_2) (hc0_2 : l0_2.length ≤ c0_2) (hr0_3 : Kd.C (Kd.int .i64) w A0_3 l0_3.length l0_3) (hc0_3 : l0_3.length ≤ c0_3) (h : laws_heldRanked.f k a0_0 l0_1 l0_2 l0_3 a1 = some r) :
  Calls Try.prog 40 #[.agg #[.int .i64 a0_0, .slice A0_1 l0_1.length c0_1, .slice A0_2 l0_2.length c0_2, .slice A0_3 l0_3.length c0_3], .int .i64 a1] w fun e w' => e = .returned (.int .i64 r) ∧ Below w.heap.size w w' := by
 have hu48 := Try.underlying48
 have hu26 := Try.underlying26
 have HR0_1 := am_ hr0_1
 have HC0_1 := am_ hc0_1
 clear hr0_1 hc0_1
 have HR0_2 := am_ hr0_2
 have HC0_2 := am_ hc0_2
 clear hr0_2 hc0_2
 have HR0_3 := am_ hr0_3
 have HC0_3 := am_ hc0_3
 clear hr0_3 hc0_3
 have HB := am_ (Below.refl w.heap.size w)
 have H : ((laws_heldBits.f k a0_0 l0_1 a1).bind fun t139 => (if t139 < 0 then (some (-1)) else ((laws_heldIntS.f k l0_2 t139).bind fun t140 => (if t140 < 0 then (some (-1)) else ((laws_heldIntS.f k l0_3 t140).bind fun t141 => (if t141 < 0 then (some (-1)) else (some t141))))))) = some r := h
 clear h
 replace H := Option.bind_eq_some_iff.mp H
 obtain ⟨t139, A30, H⟩ := H
 replace H : (if t139 < 0 then (some (-1)) else ((laws_heldIntS.f k l0_2 t139).bind fun t140 => (if t140 < 0 then (some (-1)) else ((laws_heldIntS.f k l0_3 t140).bind fun t141 => (if t141 < 0 then (some (-1)) else (some t141)))))) = some r := H
 have A3 := am_ A30
 clear A30
 by_cases c4 : t139 < 0
 ·rw [if_pos c4] at H
  have c4b0 : decide (t139 < 0) = true := decide_eq_true c4
  clear c4
  obtain rfl := Option.some.inj H
  go_enter Try.func40, Try.ntmps40
  go_wp2_with (first | ((with_reducible refine gate_dst (N := 2) rfl ?_); refine bev_ 2 #[.int .i64 a0_0, .slice A0_1 l0_1.length c0_1, .slice A0_2 l0_2.length c0_2, .slice A0_3 l0_3.length c0_3] 48 rfl rfl ?_; intro gb138 hg w5 hbox hb; have BK138 := am_ (hbox); have GW138 := am_ ((by rw [hg]; exact (below_size (lw_ HB)) : w.heap.size ≤ gb138)); have GE138 := am_ ((by rw [hg]; exact (below_size (lw_ HB)) : w.heap.size ≤ gb138)); replace HB := am_ (below_step (lw_ HB) hb); clear hb hbox hg; obtain ⟨hcz6_0, hcz6_1, hcz6_2, hcz6_3, hfz6_0, hfz6_1, hfz6_2, hfz6_3⟩ := bx4_ BK138.out) | ((with_reducible refine gate_callee (f := 22) rfl ?_); refine goesL_ (some 8) rfl rfl Try.func22 (by kernel_rfl) rfl #[.agg #[.int .i64 a0_0, .slice A0_1 l0_1.length c0_1], .int .i64 a1] rfl lm_ ?_; (with_reducible refine (laws_heldBits.calls k a0_0 _ _ l0_1 a1 t139 _ ?side1 ?side2 A3.out).mono ?_); (case side1 => exact lc_ (Kd.C_below HR0_1.out HB.out)); (case side2 => exact HC0_1.out); rintro e w7 ⟨rfl, hb⟩; refine ⟨_, rfl, ?_⟩; replace BK138 := am_ (blk_below (g := gb138) (lb_ BK138) hb); replace HB := am_ (below_step (lw_ HB) hb); (try clear hb); (try clear hb2); (try clear hk); (try clear hi)))
  go_ret
  exact ⟨er_, lw_ HB⟩
 ·rw [if_neg c4] at H
  have c4b0 : decide (t139 < 0) = false := decide_eq_false c4
  clear c4
  replace H := Option.bind_eq_some_iff.mp H
  obtain ⟨t140, A80, H⟩ := H
  replace H : (if t140 < 0 then (some (-1)) else ((laws_heldIntS.f k l0_3 t140).bind fun t141 => (if t141 < 0 then (some (-1)) else (some t141)))) = some r := H
  have A8 := am_ A80
  clear A80
  by_cases c9 : t140 < 0
  ·rw [if_pos c9] at H
   have c9b0 : decide (t140 < 0) = true := decide_eq_true c9
   clear c9
   obtain rfl := Option.some.inj H
   go_enter Try.func40, Try.ntmps40
   go_wp2_with (first | ((with_reducible refine gate_dst (N := 2) rfl ?_); refine bev_ 2 #[.int .i64 a0_0, .slice A0_1 l0_1.length c0_1, .slice A0_2 l0_2.length c0_2, .slice A0_3 l0_3.length c0_3] 48 rfl rfl ?_; intro gb138 hg w10 hbox hb; have BK138 := am_ (hbox); have GW138 := am_ ((by rw [hg]; exact (below_size (lw_ HB)) : w.heap.size ≤ gb138)); have GE138 := am_ ((by rw [hg]; exact (below_size (lw_ HB)) : w.heap.size ≤ gb138)); replace HB := am_ (below_step (lw_ HB) hb); clear hb hbox hg; obtain ⟨hcz11_0, hcz11_1, hcz11_2, hcz11_3, hfz11_0, hfz11_1, hfz11_2, hfz11_3⟩ := bx4_ BK138.out) | ((with_reducible refine gate_callee (f := 22) rfl ?_); refine goesL_ (some 8) rfl rfl Try.func22 (by kernel_rfl) rfl #[.agg #[.int .i64 a0_0, .slice A0_1 l0_1.length c0_1], .int .i64 a1] rfl lm_ ?_; (with_reducible refine (laws_heldBits.calls k a0_0 _ _ l0_1 a1 t139 _ ?side1 ?side2 A3.out).mono ?_); (case side1 => exact lc_ (Kd.C_below HR0_1.out HB.out)); (case side2 => exact HC0_1.out); rintro e w12 ⟨rfl, hb⟩; refine ⟨_, rfl, ?_⟩; replace BK138 := am_ (blk_below (g := gb138) (lb_ BK138) hb); replace HB := am_ (below_step (lw_ HB) hb); (try clear hb); (try clear hb2); (try clear hk); (try clear hi); obtain ⟨hcz13_0, hcz13_1, hcz13_2, hcz13_3, hfz13_0, hfz13_1, hfz13_2, hfz13_3⟩ := bx4_ BK138.out) | ((with_reducible refine gate_callee (f := 77) rfl ?_); refine goesL_ (some 14) rfl rfl Try.func77 (by kernel_rfl) rfl #[.slice A0_2 l0_2.length c0_2, .int .i64 t139] rfl lm_ ?_; (with_reducible refine (laws_heldIntS.calls k _ _ l0_2 t139 t140 _ ?side1 ?side2 A8.out).mono ?_); (case side1 => exact lc_ (Kd.C_below HR0_2.out HB.out)); (case side2 => exact HC0_2.out); rintro e w' ⟨rfl, ⟨nd, rfl⟩⟩; refine ⟨_, rfl, ?_⟩))
   go_ret
   exact ⟨er_, lw_ HB⟩
  ·rw [if_neg c9] at H
   have c9b0 : decide (t140 < 0) = false := decide_eq_false c9
   clear c9
   replace H := Option.bind_eq_some_iff.mp H
   obtain ⟨t141, A140, H⟩ := H
   replace H : (if t141 < 0 then (some (-1)) else (some t141)) = some r := H
   have A14 := am_ A140
   clear A140
   by_cases c15 : t141 < 0
   ·rw [if_pos c15] at H
    have c15b0 : decide (t141 < 0) = true := decide_eq_true c15
    clear c15
    obtain rfl := Option.some.inj H
    go_enter Try.func40, Try.ntmps40
    go_wp2_with (first | ((with_reducible refine gate_dst (N := 2) rfl ?_); refine bev_ 2 #[.int .i64 a0_0, .slice A0_1 l0_1.length c0_1, .slice A0_2 l0_2.length c0_2, .slice A0_3 l0_3.length c0_3] 48 rfl rfl ?_; intro gb138 hg w16 hbox hb; have BK138 := am_ (hbox); have GW138 := am_ ((by rw [hg]; exact (below_size (lw_ HB)) : w.heap.size ≤ gb138)); have GE138 := am_ ((by rw [hg]; exact (below_size (lw_ HB)) : w.heap.size ≤ gb138)); replace HB := am_ (below_step (lw_ HB) hb); clear hb hbox hg; obtain ⟨hcz17_0, hcz17_1, hcz17_2, hcz17_3, hfz17_0, hfz17_1, hfz17_2, hfz17_3⟩ := bx4_ BK138.out) | ((with_reducible refine gate_callee (f := 22) rfl ?_); refine goesL_ (some 8) rfl rfl Try.func22 (by kernel_rfl) rfl #[.agg #[.int .i64 a0_0, .slice A0_1 l0_1.length c0_1], .int .i64 a1] rfl lm_ ?_; (with_reducible refine (laws_heldBits.calls k a0_0 _ _ l0_1 a1 t139 _ ?side1 ?side2 A3.out).mono ?_); (case side1 => exact lc_ (Kd.C_below HR0_1.out HB.out)); (case side2 => exact HC0_1.out); rintro e w18 ⟨rfl, hb⟩; refine ⟨_, rfl, ?_⟩; replace BK138 := am_ (blk_below (g := gb138) (lb_ BK138) hb); replace HB := am_ (below_step (lw_ HB) hb); (try clear hb); (try clear hb2); (try clear hk); (try clear hi); obtain ⟨hcz19_0, hcz19_1, hcz19_2, hcz19_3, hfz19_0, hfz19_1, hfz19_2, hfz19_3⟩ := bx4_ BK138.out) | ((with_reducible refine gate_callee (f := 77) rfl ?_); refine goesL_ (some 14) rfl rfl Try.func77 (by kernel_rfl) rfl #[.slice A0_2 l0_2.length c0_2, .int .i64 t139] rfl lm_ ?_; (with_reducible refine (laws_heldIntS.calls k _ _ l0_2 t139 t140 _ ?side1 ?side2 A8.out).mono ?_); (case side1 => exact lc_ (Kd.C_below HR0_2.out HB.out)); (case side2 => exact HC0_2.out); rintro e w' ⟨rfl, ⟨nd, rfl⟩⟩; refine ⟨_, rfl, ?_⟩) | ((with_reducible refine gate_callee (f := 77) rfl ?_); refine goesL_ (some 20) rfl rfl Try.func77 (by kernel_rfl) rfl #[.slice A0_3 l0_3.length c0_3, .int .i64 t140] rfl lm_ ?_; (with_reducible refine (laws_heldIntS.calls k _ _ l0_3 t140 t141 _ ?side1 ?side2 A14.out).mono ?_); (case side1 => exact lc_ (Kd.C_below HR0_3.out (lw_ HB))); (case side2 => exact HC0_3.out); rintro e w' ⟨rfl, ⟨nd, rfl⟩⟩; refine ⟨_, rfl, ?_⟩))
    go_ret
    exact ⟨er_, lw_ HB⟩
   ·rw [if_neg c15] at H
    have c15b0 : decide (t141 < 0) = false := decide_eq_false c15
    clear c15
    obtain rfl := Option.some.inj H
    go_enter Try.func40, Try.ntmps40
    go_wp2_with (first | ((with_reducible refine gate_dst (N := 2) rfl ?_); refine bev_ 2 #[.int .i64 a0_0, .slice A0_1 l0_1.length c0_1, .slice A0_2 l0_2.length c0_2, .slice A0_3 l0_3.length c0_3] 48 rfl rfl ?_; intro gb138 hg w20 hbox hb; have BK138 := am_ (hbox); have GW138 := am_ ((by rw [hg]; exact (below_size (lw_ HB)) : w.heap.size ≤ gb138)); have GE138 := am_ ((by rw [hg]; exact (below_size (lw_ HB)) : w.heap.size ≤ gb138)); replace HB := am_ (below_step (lw_ HB) hb); clear hb hbox hg; obtain ⟨hcz21_0, hcz21_1, hcz21_2, hcz21_3, hfz21_0, hfz21_1, hfz21_2, hfz21_3⟩ := bx4_ BK138.out) | ((with_reducible refine gate_callee (f := 22) rfl ?_); refine goesL_ (some 8) rfl rfl Try.func22 (by kernel_rfl) rfl #[.agg #[.int .i64 a0_0, .slice A0_1 l0_1.length c0_1], .int .i64 a1] rfl lm_ ?_; (with_reducible refine (laws_heldBits.calls k a0_0 _ _ l0_1 a1 t139 _ ?side1 ?side2 A3.out).mono ?_); (case side1 => exact lc_ (Kd.C_below HR0_1.out HB.out)); (case side2 => exact HC0_1.out); rintro e w22 ⟨rfl, hb⟩; refine ⟨_, rfl, ?_⟩; replace BK138 := am_ (blk_below (g := gb138) (lb_ BK138) hb); replace HB := am_ (below_step (lw_ HB) hb); (try clear hb); (try clear hb2); (try clear hk); (try clear hi); obtain ⟨hcz23_0, hcz23_1, hcz23_2, hcz23_3, hfz23_0, hfz23_1, hfz23_2, hfz23_3⟩ := bx4_ BK138.out) | ((with_reducible refine gate_callee (f := 77) rfl ?_); refine goesL_ (some 14) rfl rfl Try.func77 (by kernel_rfl) rfl #[.slice A0_2 l0_2.length c0_2, .int .i64 t139] rfl lm_ ?_; (with_reducible refine (laws_heldIntS.calls k _ _ l0_2 t139 t140 _ ?side1 ?side2 A8.out).mono ?_); (case side1 => exact lc_ (Kd.C_below HR0_2.out HB.out)); (case side2 => exact HC0_2.out); rintro e w' ⟨rfl, ⟨nd, rfl⟩⟩; refine ⟨_, rfl, ?_⟩) | ((with_reducible refine gate_callee (f := 77) rfl ?_); refine goesL_ (some 20) rfl rfl Try.func77 (by kernel_rfl) rfl #[.slice A0_3 l0_3.length c0_3, .int .i64 t140] rfl lm_ ?_; (with_reducible refine (laws_heldIntS.calls k _ _ l0_3 t140 t141 _ ?side1 ?side2 A14.out).mono ?_); (case side1 => exact lc_ (Kd.C_below HR0_3.out (lw_ HB))); (case side2 => exact HC0_3.out); rintro e w' ⟨rfl, ⟨nd, rfl⟩⟩; refine ⟨_, rfl, ?_⟩))
    go_ret
    exact ⟨er_, lw_ HB⟩

/-! ### spec_l1In: function 86 -/
def spec_l1In.f (a0 : Int) (a1 : Int) (a2 : Int) : Option (Bool) := if a0 ≥ a1 then (some (decide (a0 ≤ a2))) else (some false)
set_option maxHeartbeats 8000000 in
set_option maxRecDepth 100000 in
theorem spec_l1In.calls (a0 : Int) (a1 : Int) (a2 : Int) (r : Bool) (w : World) (h : spec_l1In.f a0 a1 a2 = some r) :
  Calls Try.prog 86 #[.int .i64 a0, .int .i64 a1, .int .i64 a2] w fun e w' => e = .returned (.bool r) ∧ Drawn0 w w' := by
 have H : (if a0 ≥ a1 then (some (decide (a0 ≤ a2))) else (some false)) = some r := h
 clear h
 by_cases c4 : a0 ≥ a1
 ·rw [if_pos c4] at H
  have c4b0 : decide (a1 ≤ a0) = true := decide_eq_true c4
  clear c4
  obtain rfl := Option.some.inj H
  go_enter Try.func86, Try.ntmps86
  go_wp2
  go_ret
  exact ⟨by first | rfl | (simp; done) | (simp [*]; done), by repeat (first | exact Drawn0.refl _ | apply Drawn0.step)⟩
 ·rw [if_neg c4] at H
  have c4b0 : decide (a1 ≤ a0) = false := decide_eq_false c4
  clear c4
  obtain rfl := Option.some.inj H
  go_enter Try.func86, Try.ntmps86
  go_wp2
  go_ret
  exact ⟨by first | rfl | (simp; done) | (simp [*]; done), by repeat (first | exact Drawn0.refl _ | apply Drawn0.step)⟩

/-! ### spec_l1All: function 125 -/
def spec_l1All.l0 : Nat → Int → Int → List Int → Int → Int → Option (Bool)
 | 0, _, _, _, _, _ => none
 | k + 1, x1, x2, x9, x10, x11 => if x11 < x10 then (if 0 ≤ x11 then (if x11 < (x9.length : Int) then ((spec_l1In.f (rd x9 x11) x1 x2).bind fun t143 => (if t143 = true then (spec_l1All.l0 k x1 x2 x9 x10 (wrap64 (x11 + 1))) else (some false))) else (none)) else (none)) else (some true)
def spec_l1All.f (k : Nat) (l0 : List Int) (a1 : Int) (a2 : Int) : Option (Bool) := spec_l1All.l0 k a1 a2 l0 (l0.length : Int) 0
theorem spec_l1All.mono_l : ∀ k, (∀ y0 y1 y2 y3 y4, LeO (spec_l1All.l0 k y0 y1 y2 y3 y4) (spec_l1All.l0 (k + 1) y0 y1 y2 y3 y4))
 | 0 => fun _ _ _ _ _ r h => by simp [spec_l1All.l0] at h
 | k + 1 => by
  have ih0 := spec_l1All.mono_l k
  ·intro y0 y1 y2 y3 y4
   unfold spec_l1All.l0
   repeat' first
   | (with_reducible exact ih0 _ _ _ _ _)
   | (with_reducible exact LeO.refl _)
   | (with_reducible exact LeO.none _)
   | (with_reducible refine LeO.ite ?_ ?_)
   | (with_reducible refine LeO.bind ?_ (fun _ => ?_))
   | exact ih0 _ _ _ _ _
   | exact LeO.none _
   | refine LeO.ite ?_ ?_
   | refine LeO.bind ?_ (fun _ => ?_)
theorem spec_l1All.mono : ∀ a0 a1 a2 k, LeO (spec_l1All.f k a0 a1 a2) (spec_l1All.f (k + 1) a0 a1 a2) := by
 intro a0 a1 a2 k
 have ih0 := spec_l1All.mono_l k
 unfold spec_l1All.f
 repeat' first
   | (with_reducible exact ih0 _ _ _ _ _)
   | (with_reducible exact LeO.refl _)
   | (with_reducible exact LeO.none _)
   | (with_reducible refine LeO.ite ?_ ?_)
   | (with_reducible refine LeO.bind ?_ (fun _ => ?_))
   | exact ih0 _ _ _ _ _
   | exact LeO.none _
   | refine LeO.ite ?_ ?_
   | refine LeO.bind ?_ (fun _ => ?_)
set_option maxHeartbeats 8000000 in
set_option maxRecDepth 100000 in
theorem spec_l1All.calls (k : Nat) (A0 : Option Addr) (c0 : Nat) (l0 : List Int) (a1 : Int) (a2 : Int) (r : Bool) (w : World) (hr0 : Kd.C (Kd.int .i64) w A0 l0.length l0) (hc0 : l0.length ≤ c0) (h : spec_l1All.f k l0 a1 a2 = some r) :
  Calls Try.prog 125 #[.slice A0 l0.length c0, .int .i64 a1, .int .i64 a2] w fun e w' => e = .returned (.bool r) ∧ Drawn0 w w' := by
 have HR0 := am_ hr0
 have HC0 := am_ hc0
 clear hr0 hc0
 have H : (spec_l1All.l0 k a1 a2 l0 (l0.length : Int) 0) = some r := h
 clear h
 have H' := am_ H
 clear H
 go_enter Try.func125, Try.ntmps125
 go_wp2
 go_loopg [11] k (fun kq v11 w' => ∃ (x11_1 : Int), v11 = .int .i64 x11_1 ∧ Aside0 (spec_l1All.l0 kq a1 a2 l0 (l0.length : Int) x11_1 = some r) ∧ Aside0 (kq ≤ k) ∧ Drawn0 w w')
 case atStart => exact ⟨(0), sr_, H', ⟨Nat.le_refl _⟩, by repeat (first | exact Drawn0.refl _ | apply Drawn0.step)⟩
 case round =>
  clear H'
  try clear c1
  try clear p2
  obtain ⟨x11_1, rfl, HA, HK1, ⟨m1, rfl⟩⟩ := hrel
  cases gk with
  | zero => exact absurd HA.out (by simp [spec_l1All.l0])
  | succ k1 =>
   have H := HA.out
   clear HA
   simp only [spec_l1All.l0] at H
   by_cases c4 : x11_1 < (l0.length : Int)
   ·rw [if_pos c4] at H
    have c4b0 : decide (x11_1 < (l0.length : Int)) = true := decide_eq_true c4
    clear c4
    by_cases c5 : 0 ≤ x11_1
    ·rw [if_pos c5] at H
     have c5b0 : decide (0 ≤ x11_1) = true := decide_eq_true c5
     clear c5
     by_cases c6 : x11_1 < (l0.length : Int)
     ·rw [if_pos c6] at H
      have c6b0 : decide (x11_1 < (l0.length : Int)) = true := decide_eq_true c6
      clear c6
      replace H := Option.bind_eq_some_iff.mp H
      obtain ⟨t143, A70, H⟩ := H
      replace H : (if t143 = true then (spec_l1All.l0 k1 a1 a2 l0 (l0.length : Int) (wrap64 (x11_1 + 1))) else (some false)) = some r := H
      have A7 := am_ A70
      clear A70
      by_cases c8 : t143 = true
      ·subst c8
       have H1 : (spec_l1All.l0 k1 a1 a2 l0 (l0.length : Int) (wrap64 (x11_1 + 1))) = some r := by rw [if_pos rfl] at H; exact H
       clear H
       have H := H1
       clear H1
       have H' := am_ H
       clear H
       have p142 : 0 ≤ (x11_1 : Int) := of_decide_eq_true (by first | (with_reducible assumption) | assumption)
       have q142 : x11_1 < (l0.length : Int) := of_decide_eq_true (by first | (with_reducible assumption) | assumption)
       obtain ⟨ad142, e142, hx142_0⟩ := Kd.at_int HR0.out x11_1 p142 q142
       cases e142
       replace p142 := eq_true p142
       replace q142 := eq_true q142
       go_wp2_with (first | ((with_reducible refine gate_callee (f := 86) rfl ?_); refine goesL_ (some 18) rfl rfl Try.func86 (by kernel_rfl) rfl #[.int .i64 (rd l0 x11_1), .int .i64 a1, .int .i64 a2] rfl lm_ ?_; (with_reducible refine (spec_l1In.calls (rd l0 x11_1) a1 a2 true _ A7.out).mono ?_); rintro e w' ⟨rfl, ⟨nd, rfl⟩⟩; refine ⟨_, rfl, ?_⟩))
       go_roundg k1
       case measure => have := HK1.out; omega
       case rel => exact ⟨(wrap64 (x11_1 + 1)), sr_, H', ⟨by have := HK1.out; omega⟩, by repeat (first | exact Drawn0.refl _ | apply Drawn0.step)⟩
      ·replace c8 := Bool.eq_false_iff.mpr c8
       subst c8
       have H1 : (some false) = some r := by rw [if_neg (show ¬ (false = true) by decide)] at H; exact H
       clear H
       have H := H1
       clear H1
       obtain rfl := Option.some.inj H
       have p142 : 0 ≤ (x11_1 : Int) := of_decide_eq_true (by first | (with_reducible assumption) | assumption)
       have q142 : x11_1 < (l0.length : Int) := of_decide_eq_true (by first | (with_reducible assumption) | assumption)
       obtain ⟨ad142, e142, hx142_0⟩ := Kd.at_int HR0.out x11_1 p142 q142
       cases e142
       replace p142 := eq_true p142
       replace q142 := eq_true q142
       go_wp2_with (first | ((with_reducible refine gate_callee (f := 86) rfl ?_); refine goesL_ (some 18) rfl rfl Try.func86 (by kernel_rfl) rfl #[.int .i64 (rd l0 x11_1), .int .i64 a1, .int .i64 a2] rfl lm_ ?_; (with_reducible refine (spec_l1In.calls (rd l0 x11_1) a1 a2 false _ A7.out).mono ?_); rintro e w' ⟨rfl, ⟨nd, rfl⟩⟩; refine ⟨_, rfl, ?_⟩))
       go_ret
       exact ⟨by first | rfl | (simp; done) | (simp [*]; done), by repeat (first | exact Drawn0.refl _ | apply Drawn0.step)⟩
     ·rw [if_neg c6] at H
      exact absurd H (by simp)
    ·rw [if_neg c5] at H
     exact absurd H (by simp)
   ·rw [if_neg c4] at H
    have c4b0 : decide (x11_1 < (l0.length : Int)) = false := decide_eq_false c4
    clear c4
    obtain rfl := Option.some.inj H
    go_wp2
    go_ret
    exact ⟨by first | rfl | (simp; done) | (simp [*]; done), by repeat (first | exact Drawn0.refl _ | apply Drawn0.step)⟩

/-! ### spec_biGood: function 83 -/
def spec_biGood.f (k : Nat) (a0_0 : Int) (l0_1 : List Int) : Option (Bool) := (spec_l1In.f a0_0 0 4096).bind fun t145 => (if t145 = true then (if (l0_1.length : Int) = (wrap64 (Int.tdiv (wrap64 (a0_0 + 15)) 16)) then ((spec_l1All.f k l0_1 0 65535).bind fun t146 => (if t146 = true then (if (Int.tmod a0_0 16) = 0 then (some true) else (if 0 ≤ (wrap64 ((l0_1.length : Int) - 1)) then (if (wrap64 ((l0_1.length : Int) - 1)) < (l0_1.length : Int) then (if 0 ≤ (Int.tmod a0_0 16) then (some ((shr .i64 (rd l0_1 (wrap64 ((l0_1.length : Int) - 1))) (Int.tmod a0_0 16)) == 0)) else (none)) else (none)) else (none))) else (some false))) else (some false)) else (some false))
theorem spec_biGood.mono : ∀ a0 a1 k, LeO (spec_biGood.f k a0 a1) (spec_biGood.f (k + 1) a0 a1) := by
 intro a0 a1 k
 unfold spec_biGood.f
 repeat' first
   | (with_reducible exact spec_l1All.mono _ _ _ _)
   | (with_reducible exact LeO.refl _)
   | (with_reducible exact LeO.none _)
   | (with_reducible refine LeO.ite ?_ ?_)
   | (with_reducible refine LeO.bind ?_ (fun _ => ?_))
   | exact spec_l1All.mono _ _ _ _
   | exact LeO.none _
   | refine LeO.ite ?_ ?_
   | refine LeO.bind ?_ (fun _ => ?_)
set_option maxHeartbeats 8000000 in
set_option maxRecDepth 100000 in
theorem spec_biGood.calls (k : Nat) (a0_0 : Int) (A0_1 : Option Addr) (c0_1 : Nat) (l0_1 : List Int) (r : Bool) (w : World) (hr0_1 : Kd.C (Kd.int .i64) w A0_1 l0_1.length l0_1) (hc0_1 : l0_1.length ≤ c0_1) (h : spec_biGood.f k a0_0 l0_1 = some r) :
  Calls Try.prog 83 #[.agg #[.int .i64 a0_0, .slice A0_1 l0_1.length c0_1]] w fun e w' => e = .returned (.bool r) ∧ Below w.heap.size w w' := by
 have hu26 := Try.underlying26
 have HR0_1 := am_ hr0_1
 have HC0_1 := am_ hc0_1
 clear hr0_1 hc0_1
 have HB := am_ (Below.refl w.heap.size w)
 have H : ((spec_l1In.f a0_0 0 4096).bind fun t145 => (if t145 = true then (if (l0_1.length : Int) = (wrap64 (Int.tdiv (wrap64 (a0_0 + 15)) 16)) then ((spec_l1All.f k l0_1 0 65535).bind fun t146 => (if t146 = true then (if (Int.tmod a0_0 16) = 0 then (some true) else (if 0 ≤ (wrap64 ((l0_1.length : Int) - 1)) then (if (wrap64 ((l0_1.length : Int) - 1)) < (l0_1.length : Int) then (if 0 ≤ (Int.tmod a0_0 16) then (some ((shr .i64 (rd l0_1 (wrap64 ((l0_1.length : Int) - 1))) (Int.tmod a0_0 16)) == 0)) else (none)) else (none)) else (none))) else (some false))) else (some false)) else (some false))) = some r := h
 clear h
 replace H := Option.bind_eq_some_iff.mp H
 obtain ⟨t145, A20, H⟩ := H
 replace H : (if t145 = true then (if (l0_1.length : Int) = (wrap64 (Int.tdiv (wrap64 (a0_0 + 15)) 16)) then ((spec_l1All.f k l0_1 0 65535).bind fun t146 => (if t146 = true then (if (Int.tmod a0_0 16) = 0 then (some true) else (if 0 ≤ (wrap64 ((l0_1.length : Int) - 1)) then (if (wrap64 ((l0_1.length : Int) - 1)) < (l0_1.length : Int) then (if 0 ≤ (Int.tmod a0_0 16) then (some ((shr .i64 (rd l0_1 (wrap64 ((l0_1.length : Int) - 1))) (Int.tmod a0_0 16)) == 0)) else (none)) else (none)) else (none))) else (some false))) else (some false)) else (some false)) = some r := H
 have A2 := am_ A20
 clear A20
 by_cases c3 : t145 = true
 ·subst c3
  have H1 : (if (l0_1.length : Int) = (wrap64 (Int.tdiv (wrap64 (a0_0 + 15)) 16)) then ((spec_l1All.f k l0_1 0 65535).bind fun t146 => (if t146 = true then (if (Int.tmod a0_0 16) = 0 then (some true) else (if 0 ≤ (wrap64 ((l0_1.length : Int) - 1)) then (if (wrap64 ((l0_1.length : Int) - 1)) < (l0_1.length : Int) then (if 0 ≤ (Int.tmod a0_0 16) then (some ((shr .i64 (rd l0_1 (wrap64 ((l0_1.length : Int) - 1))) (Int.tmod a0_0 16)) == 0)) else (none)) else (none)) else (none))) else (some false))) else (some false)) = some r := by rw [if_pos rfl] at H; exact H
  clear H
  have H := H1
  clear H1
  by_cases c4 : (l0_1.length : Int) = (wrap64 (Int.tdiv (wrap64 (a0_0 + 15)) 16))
  ·rw [if_pos c4] at H
   have c4b0 : ((l0_1.length : Int) == (wrap64 (Int.tdiv (wrap64 (a0_0 + 15)) 16))) = true := beq_iff_eq.mpr c4
   have c4b1 : ((l0_1.length : Int) != (wrap64 (Int.tdiv (wrap64 (a0_0 + 15)) 16))) = false := bne_eq_false_iff_eq.mpr c4
   clear c4
   replace H := Option.bind_eq_some_iff.mp H
   obtain ⟨t146, A50, H⟩ := H
   replace H : (if t146 = true then (if (Int.tmod a0_0 16) = 0 then (some true) else (if 0 ≤ (wrap64 ((l0_1.length : Int) - 1)) then (if (wrap64 ((l0_1.length : Int) - 1)) < (l0_1.length : Int) then (if 0 ≤ (Int.tmod a0_0 16) then (some ((shr .i64 (rd l0_1 (wrap64 ((l0_1.length : Int) - 1))) (Int.tmod a0_0 16)) == 0)) else (none)) else (none)) else (none))) else (some false)) = some r := H
   have A5 := am_ A50
   clear A50
   by_cases c6 : t146 = true
   ·subst c6
    have H1 : (if (Int.tmod a0_0 16) = 0 then (some true) else (if 0 ≤ (wrap64 ((l0_1.length : Int) - 1)) then (if (wrap64 ((l0_1.length : Int) - 1)) < (l0_1.length : Int) then (if 0 ≤ (Int.tmod a0_0 16) then (some ((shr .i64 (rd l0_1 (wrap64 ((l0_1.length : Int) - 1))) (Int.tmod a0_0 16)) == 0)) else (none)) else (none)) else (none))) = some r := by rw [if_pos rfl] at H; exact H
    clear H
    have H := H1
    clear H1
    by_cases c7 : (Int.tmod a0_0 16) = 0
    ·rw [if_pos c7] at H
     have c7b0 : ((Int.tmod a0_0 16) == 0) = true := beq_iff_eq.mpr c7
     have c7b1 : ((Int.tmod a0_0 16) != 0) = false := bne_eq_false_iff_eq.mpr c7
     clear c7
     obtain rfl := Option.some.inj H
     go_enter Try.func83, Try.ntmps83
     go_wp2_with (first | ((with_reducible refine gate_dst (N := 1) rfl ?_); (try (refine gate_guard (by rfl) ?_; dsimp only)); refine bev_ 1 #[.int .i64 a0_0, .slice A0_1 l0_1.length c0_1] 26 rfl rfl ?_; intro gb144 hg w8 hbox hb; have BK144 := am_ (hbox); have GW144 := am_ ((by rw [hg]; exact (below_size (lw_ HB)) : w.heap.size ≤ gb144)); have GE144 := am_ ((by rw [hg]; exact (below_size (lw_ HB)) : w.heap.size ≤ gb144)); replace HB := am_ (below_step (lw_ HB) hb); clear hb hbox hg; obtain ⟨hcz9_0, hcz9_1, hfz9_0, hfz9_1⟩ := bx2_ BK144.out) | (go_at_call 86; (with_reducible refine (spec_l1In.calls a0_0 0 4096 true _ A2.out).mono ?_); rintro e w' ⟨rfl, ⟨nd, rfl⟩⟩; (try first | exact ⟨rfl, _, World.drewN_drewN _ _ _⟩ | exact ⟨rfl, _, Eq.trans (World.drewN_drewN _ _ _) (congrArg (World.drewN _) (Nat.add_assoc _ _ _))⟩)) | (go_at_call 125; (with_reducible refine (spec_l1All.calls k _ _ l0_1 0 65535 true _ ?side1 ?side2 A5.out).mono ?_); (case side1 => exact lc_ (Kd.C_below HR0_1.out (lw_ HB))); (case side2 => exact HC0_1.out); rintro e w' ⟨rfl, ⟨nd, rfl⟩⟩; (try first | exact ⟨rfl, _, World.drewN_drewN _ _ _⟩ | exact ⟨rfl, _, Eq.trans (World.drewN_drewN _ _ _) (congrArg (World.drewN _) (Nat.add_assoc _ _ _))⟩)))
     repeat (go_quiet (first | ((with_reducible refine gate_dst (N := 1) rfl ?_); (try (refine gate_guard (by rfl) ?_; dsimp only)); refine bev_ 1 #[.int .i64 a0_0, .slice A0_1 l0_1.length c0_1] 26 rfl rfl ?_; intro gb144 hg w8 hbox hb; have BK144 := am_ (hbox); have GW144 := am_ ((by rw [hg]; exact (below_size (lw_ HB)) : w.heap.size ≤ gb144)); have GE144 := am_ ((by rw [hg]; exact (below_size (lw_ HB)) : w.heap.size ≤ gb144)); replace HB := am_ (below_step (lw_ HB) hb); clear hb hbox hg; obtain ⟨hcz9_0, hcz9_1, hfz9_0, hfz9_1⟩ := bx2_ BK144.out) | (go_at_call 86; (with_reducible refine (spec_l1In.calls a0_0 0 4096 true _ A2.out).mono ?_); rintro e w' ⟨rfl, ⟨nd, rfl⟩⟩; (try first | exact ⟨rfl, _, World.drewN_drewN _ _ _⟩ | exact ⟨rfl, _, Eq.trans (World.drewN_drewN _ _ _) (congrArg (World.drewN _) (Nat.add_assoc _ _ _))⟩)) | (go_at_call 125; (with_reducible refine (spec_l1All.calls k _ _ l0_1 0 65535 true _ ?side1 ?side2 A5.out).mono ?_); (case side1 => exact lc_ (Kd.C_below HR0_1.out (lw_ HB))); (case side2 => exact HC0_1.out); rintro e w' ⟨rfl, ⟨nd, rfl⟩⟩; (try first | exact ⟨rfl, _, World.drewN_drewN _ _ _⟩ | exact ⟨rfl, _, Eq.trans (World.drewN_drewN _ _ _) (congrArg (World.drewN _) (Nat.add_assoc _ _ _))⟩))); try go_wp2_with (first | ((with_reducible refine gate_dst (N := 1) rfl ?_); (try (refine gate_guard (by rfl) ?_; dsimp only)); refine bev_ 1 #[.int .i64 a0_0, .slice A0_1 l0_1.length c0_1] 26 rfl rfl ?_; intro gb144 hg w8 hbox hb; have BK144 := am_ (hbox); have GW144 := am_ ((by rw [hg]; exact (below_size (lw_ HB)) : w.heap.size ≤ gb144)); have GE144 := am_ ((by rw [hg]; exact (below_size (lw_ HB)) : w.heap.size ≤ gb144)); replace HB := am_ (below_step (lw_ HB) hb); clear hb hbox hg; obtain ⟨hcz9_0, hcz9_1, hfz9_0, hfz9_1⟩ := bx2_ BK144.out) | (go_at_call 86; (with_reducible refine (spec_l1In.calls a0_0 0 4096 true _ A2.out).mono ?_); rintro e w' ⟨rfl, ⟨nd, rfl⟩⟩; (try first | exact ⟨rfl, _, World.drewN_drewN _ _ _⟩ | exact ⟨rfl, _, Eq.trans (World.drewN_drewN _ _ _) (congrArg (World.drewN _) (Nat.add_assoc _ _ _))⟩)) | (go_at_call 125; (with_reducible refine (spec_l1All.calls k _ _ l0_1 0 65535 true _ ?side1 ?side2 A5.out).mono ?_); (case side1 => exact lc_ (Kd.C_below HR0_1.out (lw_ HB))); (case side2 => exact HC0_1.out); rintro e w' ⟨rfl, ⟨nd, rfl⟩⟩; (try first | exact ⟨rfl, _, World.drewN_drewN _ _ _⟩ | exact ⟨rfl, _, Eq.trans (World.drewN_drewN _ _ _) (congrArg (World.drewN _) (Nat.add_assoc _ _ _))⟩))))
     go_ret
     exact ⟨er_, lw_ HB⟩
    ·rw [if_neg c7] at H
     have c7b0 : ((Int.tmod a0_0 16) == 0) = false := beq_eq_false_iff_ne.mpr c7
     have c7b1 : ((Int.tmod a0_0 16) != 0) = true := bne_iff_ne.mpr c7
     obtain ⟨ji10, hji10⟩ : ∃ j_ : Int, (wrap64 ((l0_1.length : Int) - 1)) = j_ := ⟨_, rfl⟩
     replace H : (if 0 ≤ (ji10) then (if (ji10) < (l0_1.length : Int) then (if 0 ≤ (Int.tmod a0_0 16) then (some ((shr .i64 (rd l0_1 (ji10)) (Int.tmod a0_0 16)) == 0)) else (none)) else (none)) else (none)) = some r := by first | (rw [hji10] at H; exact H) | (simp only [hji10] at H ⊢; exact H)
     (try rw [hji10] at A2)
     (try rw [hji10] at A5)
     have hji10w : (IntKind.i64.wrap ((l0_1.length : Int) - 1)) = ji10 := (i64_w _).trans hji10
     by_cases c11 : 0 ≤ (ji10)
     ·rw [if_pos c11] at H
      have c11b0 : decide (0 ≤ (ji10)) = true := decide_eq_true c11
      clear c11
      by_cases c12 : (ji10) < (l0_1.length : Int)
      ·rw [if_pos c12] at H
       have c12b0 : decide ((ji10) < (l0_1.length : Int)) = true := decide_eq_true c12
       clear c12
       obtain ⟨ji13, hji13⟩ : ∃ j_ : Int, (Int.tmod a0_0 16) = j_ := ⟨_, rfl⟩
       replace H : (if 0 ≤ (ji13) then (some ((shr .i64 (rd l0_1 (ji10)) (ji13)) == 0)) else (none)) = some r := by first | (rw [hji13] at H; exact H) | (simp only [hji13] at H ⊢; exact H)
       (try rw [hji13] at c7b0)
       (try rw [hji13] at c7b1)
       (try rw [hji13] at A2)
       (try rw [hji13] at A5)
       by_cases c14 : 0 ≤ (ji13)
       ·rw [if_pos c14] at H
        have c14b0 := eq_true c14
        have c14b1 : decide (0 ≤ (ji13)) = true := decide_eq_true c14
        clear c14
        obtain ⟨ji15, hji15⟩ : ∃ j_ : Int, (shr .i64 (rd l0_1 (ji10)) (ji13)) = j_ := ⟨_, rfl⟩
        replace H : (some ((ji15) == 0)) = some r := by first | (rw [hji15] at H; exact H) | (simp only [hji15] at H ⊢; exact H)
        (try rw [hji15] at A2)
        (try rw [hji15] at A5)
        have hji15_ : ((rd l0_1 (ji10)) / 2 ^ min (ji13).toNat 64) = ji15 := hji15
        have hji15z : (ji13) ≤ 64 → ((rd l0_1 (ji10)) / 2 ^ (ji13).toNat) = ji15 := shr_small hji15
        obtain rfl := Option.some.inj H
        go_enter Try.func83, Try.ntmps83
        go_wp2_with (first | ((with_reducible refine gate_dst (N := 1) rfl ?_); (try (refine gate_guard (by rfl) ?_; dsimp only)); refine bev_ 1 #[.int .i64 a0_0, .slice A0_1 l0_1.length c0_1] 26 rfl rfl ?_; intro gb144 hg w16 hbox hb; have BK144 := am_ (hbox); have GW144 := am_ ((by rw [hg]; exact (below_size (lw_ HB)) : w.heap.size ≤ gb144)); have GE144 := am_ ((by rw [hg]; exact (below_size (lw_ HB)) : w.heap.size ≤ gb144)); replace HB := am_ (below_step (lw_ HB) hb); clear hb hbox hg; obtain ⟨hcz17_0, hcz17_1, hfz17_0, hfz17_1⟩ := bx2_ BK144.out) | (go_at_call 86; (with_reducible refine (spec_l1In.calls a0_0 0 4096 true _ A2.out).mono ?_); rintro e w' ⟨rfl, ⟨nd, rfl⟩⟩; (try first | exact ⟨rfl, _, World.drewN_drewN _ _ _⟩ | exact ⟨rfl, _, Eq.trans (World.drewN_drewN _ _ _) (congrArg (World.drewN _) (Nat.add_assoc _ _ _))⟩)) | (go_at_call 125; (with_reducible refine (spec_l1All.calls k _ _ l0_1 0 65535 true _ ?side1 ?side2 A5.out).mono ?_); (case side1 => exact lc_ (Kd.C_below HR0_1.out (lw_ HB))); (case side2 => exact HC0_1.out); rintro e w' ⟨rfl, ⟨nd, rfl⟩⟩; (try first | exact ⟨rfl, _, World.drewN_drewN _ _ _⟩ | exact ⟨rfl, _, Eq.trans (World.drewN_drewN _ _ _) (congrArg (World.drewN _) (Nat.add_assoc _ _ _))⟩); have p147 : 0 ≤ ((ji10) : Int) := of_decide_eq_true (by first | (with_reducible assumption) | assumption); have q147 : (ji10) < (l0_1.length : Int) := of_decide_eq_true (by first | (with_reducible assumption) | assumption); obtain ⟨ad147, e147, hx147_0⟩ := Kd.at_int HR0_1.out (ji10) p147 q147; cases e147; replace hx147_0 := (HB.out.cell (World.block_lt_of_cell? w _ hx147_0)).trans hx147_0; replace p147 := eq_true p147; replace q147 := eq_true q147))
        repeat (go_quiet (first | ((with_reducible refine gate_dst (N := 1) rfl ?_); (try (refine gate_guard (by rfl) ?_; dsimp only)); refine bev_ 1 #[.int .i64 a0_0, .slice A0_1 l0_1.length c0_1] 26 rfl rfl ?_; intro gb144 hg w16 hbox hb; have BK144 := am_ (hbox); have GW144 := am_ ((by rw [hg]; exact (below_size (lw_ HB)) : w.heap.size ≤ gb144)); have GE144 := am_ ((by rw [hg]; exact (below_size (lw_ HB)) : w.heap.size ≤ gb144)); replace HB := am_ (below_step (lw_ HB) hb); clear hb hbox hg; obtain ⟨hcz17_0, hcz17_1, hfz17_0, hfz17_1⟩ := bx2_ BK144.out) | (go_at_call 86; (with_reducible refine (spec_l1In.calls a0_0 0 4096 true _ A2.out).mono ?_); rintro e w' ⟨rfl, ⟨nd, rfl⟩⟩; (try first | exact ⟨rfl, _, World.drewN_drewN _ _ _⟩ | exact ⟨rfl, _, Eq.trans (World.drewN_drewN _ _ _) (congrArg (World.drewN _) (Nat.add_assoc _ _ _))⟩)) | (go_at_call 125; (with_reducible refine (spec_l1All.calls k _ _ l0_1 0 65535 true _ ?side1 ?side2 A5.out).mono ?_); (case side1 => exact lc_ (Kd.C_below HR0_1.out (lw_ HB))); (case side2 => exact HC0_1.out); rintro e w' ⟨rfl, ⟨nd, rfl⟩⟩; (try first | exact ⟨rfl, _, World.drewN_drewN _ _ _⟩ | exact ⟨rfl, _, Eq.trans (World.drewN_drewN _ _ _) (congrArg (World.drewN _) (Nat.add_assoc _ _ _))⟩); have p147 : 0 ≤ ((ji10) : Int) := of_decide_eq_true (by first | (with_reducible assumption) | assumption); have q147 : (ji10) < (l0_1.length : Int) := of_decide_eq_true (by first | (with_reducible assumption) | assumption); obtain ⟨ad147, e147, hx147_0⟩ := Kd.at_int HR0_1.out (ji10) p147 q147; cases e147; replace hx147_0 := (HB.out.cell (World.block_lt_of_cell? w _ hx147_0)).trans hx147_0; replace p147 := eq_true p147; replace q147 := eq_true q147)); try go_wp2_with (first | ((with_reducible refine gate_dst (N := 1) rfl ?_); (try (refine gate_guard (by rfl) ?_; dsimp only)); refine bev_ 1 #[.int .i64 a0_0, .slice A0_1 l0_1.length c0_1] 26 rfl rfl ?_; intro gb144 hg w16 hbox hb; have BK144 := am_ (hbox); have GW144 := am_ ((by rw [hg]; exact (below_size (lw_ HB)) : w.heap.size ≤ gb144)); have GE144 := am_ ((by rw [hg]; exact (below_size (lw_ HB)) : w.heap.size ≤ gb144)); replace HB := am_ (below_step (lw_ HB) hb); clear hb hbox hg; obtain ⟨hcz17_0, hcz17_1, hfz17_0, hfz17_1⟩ := bx2_ BK144.out) | (go_at_call 86; (with_reducible refine (spec_l1In.calls a0_0 0 4096 true _ A2.out).mono ?_); rintro e w' ⟨rfl, ⟨nd, rfl⟩⟩; (try first | exact ⟨rfl, _, World.drewN_drewN _ _ _⟩ | exact ⟨rfl, _, Eq.trans (World.drewN_drewN _ _ _) (congrArg (World.drewN _) (Nat.add_assoc _ _ _))⟩)) | (go_at_call 125; (with_reducible refine (spec_l1All.calls k _ _ l0_1 0 65535 true _ ?side1 ?side2 A5.out).mono ?_); (case side1 => exact lc_ (Kd.C_below HR0_1.out (lw_ HB))); (case side2 => exact HC0_1.out); rintro e w' ⟨rfl, ⟨nd, rfl⟩⟩; (try first | exact ⟨rfl, _, World.drewN_drewN _ _ _⟩ | exact ⟨rfl, _, Eq.trans (World.drewN_drewN _ _ _) (congrArg (World.drewN _) (Nat.add_assoc _ _ _))⟩); have p147 : 0 ≤ ((ji10) : Int) := of_decide_eq_true (by first | (with_reducible assumption) | assumption); have q147 : (ji10) < (l0_1.length : Int) := of_decide_eq_true (by first | (with_reducible assumption) | assumption); obtain ⟨ad147, e147, hx147_0⟩ := Kd.at_int HR0_1.out (ji10) p147 q147; cases e147; replace hx147_0 := (HB.out.cell (World.block_lt_of_cell? w _ hx147_0)).trans hx147_0; replace p147 := eq_true p147; replace q147 := eq_true q147)))
        go_ret
        exact ⟨by first | rfl | (simp [errW_none, errW_some] <;> rfl) | (simp only [← hji10, ← hji13, ← hji15]; first | rfl | (simp [errW_none, errW_some] <;> rfl)) | (simp [*, errW_none, errW_some] <;> rfl), lw_ HB⟩
       ·rw [if_neg c14] at H
        exact absurd H (by simp)
      ·rw [if_neg c12] at H
       exact absurd H (by simp)
     ·rw [if_neg c11] at H
      exact absurd H (by simp)
   ·replace c6 := Bool.eq_false_iff.mpr c6
    subst c6
    have H1 : (some false) = some r := by rw [if_neg (show ¬ (false = true) by decide)] at H; exact H
    clear H
    have H := H1
    clear H1
    obtain rfl := Option.some.inj H
    go_enter Try.func83, Try.ntmps83
    go_wp2_with (first | ((with_reducible refine gate_dst (N := 1) rfl ?_); (try (refine gate_guard (by rfl) ?_; dsimp only)); refine bev_ 1 #[.int .i64 a0_0, .slice A0_1 l0_1.length c0_1] 26 rfl rfl ?_; intro gb144 hg w18 hbox hb; have BK144 := am_ (hbox); have GW144 := am_ ((by rw [hg]; exact (below_size (lw_ HB)) : w.heap.size ≤ gb144)); have GE144 := am_ ((by rw [hg]; exact (below_size (lw_ HB)) : w.heap.size ≤ gb144)); replace HB := am_ (below_step (lw_ HB) hb); clear hb hbox hg; obtain ⟨hcz19_0, hcz19_1, hfz19_0, hfz19_1⟩ := bx2_ BK144.out) | (go_at_call 86; (with_reducible refine (spec_l1In.calls a0_0 0 4096 true _ A2.out).mono ?_); rintro e w' ⟨rfl, ⟨nd, rfl⟩⟩; (try first | exact ⟨rfl, _, World.drewN_drewN _ _ _⟩ | exact ⟨rfl, _, Eq.trans (World.drewN_drewN _ _ _) (congrArg (World.drewN _) (Nat.add_assoc _ _ _))⟩)) | (go_at_call 125; (with_reducible refine (spec_l1All.calls k _ _ l0_1 0 65535 false _ ?side1 ?side2 A5.out).mono ?_); (case side1 => exact lc_ (Kd.C_below HR0_1.out (lw_ HB))); (case side2 => exact HC0_1.out); rintro e w' ⟨rfl, ⟨nd, rfl⟩⟩; (try first | exact ⟨rfl, _, World.drewN_drewN _ _ _⟩ | exact ⟨rfl, _, Eq.trans (World.drewN_drewN _ _ _) (congrArg (World.drewN _) (Nat.add_assoc _ _ _))⟩)))
    repeat (go_quiet (first | ((with_reducible refine gate_dst (N := 1) rfl ?_); (try (refine gate_guard (by rfl) ?_; dsimp only)); refine bev_ 1 #[.int .i64 a0_0, .slice A0_1 l0_1.length c0_1] 26 rfl rfl ?_; intro gb144 hg w18 hbox hb; have BK144 := am_ (hbox); have GW144 := am_ ((by rw [hg]; exact (below_size (lw_ HB)) : w.heap.size ≤ gb144)); have GE144 := am_ ((by rw [hg]; exact (below_size (lw_ HB)) : w.heap.size ≤ gb144)); replace HB := am_ (below_step (lw_ HB) hb); clear hb hbox hg; obtain ⟨hcz19_0, hcz19_1, hfz19_0, hfz19_1⟩ := bx2_ BK144.out) | (go_at_call 86; (with_reducible refine (spec_l1In.calls a0_0 0 4096 true _ A2.out).mono ?_); rintro e w' ⟨rfl, ⟨nd, rfl⟩⟩; (try first | exact ⟨rfl, _, World.drewN_drewN _ _ _⟩ | exact ⟨rfl, _, Eq.trans (World.drewN_drewN _ _ _) (congrArg (World.drewN _) (Nat.add_assoc _ _ _))⟩)) | (go_at_call 125; (with_reducible refine (spec_l1All.calls k _ _ l0_1 0 65535 false _ ?side1 ?side2 A5.out).mono ?_); (case side1 => exact lc_ (Kd.C_below HR0_1.out (lw_ HB))); (case side2 => exact HC0_1.out); rintro e w' ⟨rfl, ⟨nd, rfl⟩⟩; (try first | exact ⟨rfl, _, World.drewN_drewN _ _ _⟩ | exact ⟨rfl, _, Eq.trans (World.drewN_drewN _ _ _) (congrArg (World.drewN _) (Nat.add_assoc _ _ _))⟩))); try go_wp2_with (first | ((with_reducible refine gate_dst (N := 1) rfl ?_); (try (refine gate_guard (by rfl) ?_; dsimp only)); refine bev_ 1 #[.int .i64 a0_0, .slice A0_1 l0_1.length c0_1] 26 rfl rfl ?_; intro gb144 hg w18 hbox hb; have BK144 := am_ (hbox); have GW144 := am_ ((by rw [hg]; exact (below_size (lw_ HB)) : w.heap.size ≤ gb144)); have GE144 := am_ ((by rw [hg]; exact (below_size (lw_ HB)) : w.heap.size ≤ gb144)); replace HB := am_ (below_step (lw_ HB) hb); clear hb hbox hg; obtain ⟨hcz19_0, hcz19_1, hfz19_0, hfz19_1⟩ := bx2_ BK144.out) | (go_at_call 86; (with_reducible refine (spec_l1In.calls a0_0 0 4096 true _ A2.out).mono ?_); rintro e w' ⟨rfl, ⟨nd, rfl⟩⟩; (try first | exact ⟨rfl, _, World.drewN_drewN _ _ _⟩ | exact ⟨rfl, _, Eq.trans (World.drewN_drewN _ _ _) (congrArg (World.drewN _) (Nat.add_assoc _ _ _))⟩)) | (go_at_call 125; (with_reducible refine (spec_l1All.calls k _ _ l0_1 0 65535 false _ ?side1 ?side2 A5.out).mono ?_); (case side1 => exact lc_ (Kd.C_below HR0_1.out (lw_ HB))); (case side2 => exact HC0_1.out); rintro e w' ⟨rfl, ⟨nd, rfl⟩⟩; (try first | exact ⟨rfl, _, World.drewN_drewN _ _ _⟩ | exact ⟨rfl, _, Eq.trans (World.drewN_drewN _ _ _) (congrArg (World.drewN _) (Nat.add_assoc _ _ _))⟩))))
    go_ret
    exact ⟨er_, lw_ HB⟩
  ·rw [if_neg c4] at H
   have c4b0 : ((l0_1.length : Int) == (wrap64 (Int.tdiv (wrap64 (a0_0 + 15)) 16))) = false := beq_eq_false_iff_ne.mpr c4
   have c4b1 : ((l0_1.length : Int) != (wrap64 (Int.tdiv (wrap64 (a0_0 + 15)) 16))) = true := bne_iff_ne.mpr c4
   obtain rfl := Option.some.inj H
   go_enter Try.func83, Try.ntmps83
   go_wp2_with (first | ((with_reducible refine gate_dst (N := 1) rfl ?_); (try (refine gate_guard (by rfl) ?_; dsimp only)); refine bev_ 1 #[.int .i64 a0_0, .slice A0_1 l0_1.length c0_1] 26 rfl rfl ?_; intro gb144 hg w20 hbox hb; have BK144 := am_ (hbox); have GW144 := am_ ((by rw [hg]; exact (below_size (lw_ HB)) : w.heap.size ≤ gb144)); have GE144 := am_ ((by rw [hg]; exact (below_size (lw_ HB)) : w.heap.size ≤ gb144)); replace HB := am_ (below_step (lw_ HB) hb); clear hb hbox hg; obtain ⟨hcz21_0, hcz21_1, hfz21_0, hfz21_1⟩ := bx2_ BK144.out) | (go_at_call 86; (with_reducible refine (spec_l1In.calls a0_0 0 4096 true _ A2.out).mono ?_); rintro e w' ⟨rfl, ⟨nd, rfl⟩⟩; (try first | exact ⟨rfl, _, World.drewN_drewN _ _ _⟩ | exact ⟨rfl, _, Eq.trans (World.drewN_drewN _ _ _) (congrArg (World.drewN _) (Nat.add_assoc _ _ _))⟩)))
   repeat (go_quiet (first | ((with_reducible refine gate_dst (N := 1) rfl ?_); (try (refine gate_guard (by rfl) ?_; dsimp only)); refine bev_ 1 #[.int .i64 a0_0, .slice A0_1 l0_1.length c0_1] 26 rfl rfl ?_; intro gb144 hg w20 hbox hb; have BK144 := am_ (hbox); have GW144 := am_ ((by rw [hg]; exact (below_size (lw_ HB)) : w.heap.size ≤ gb144)); have GE144 := am_ ((by rw [hg]; exact (below_size (lw_ HB)) : w.heap.size ≤ gb144)); replace HB := am_ (below_step (lw_ HB) hb); clear hb hbox hg; obtain ⟨hcz21_0, hcz21_1, hfz21_0, hfz21_1⟩ := bx2_ BK144.out) | (go_at_call 86; (with_reducible refine (spec_l1In.calls a0_0 0 4096 true _ A2.out).mono ?_); rintro e w' ⟨rfl, ⟨nd, rfl⟩⟩; (try first | exact ⟨rfl, _, World.drewN_drewN _ _ _⟩ | exact ⟨rfl, _, Eq.trans (World.drewN_drewN _ _ _) (congrArg (World.drewN _) (Nat.add_assoc _ _ _))⟩))); try go_wp2_with (first | ((with_reducible refine gate_dst (N := 1) rfl ?_); (try (refine gate_guard (by rfl) ?_; dsimp only)); refine bev_ 1 #[.int .i64 a0_0, .slice A0_1 l0_1.length c0_1] 26 rfl rfl ?_; intro gb144 hg w20 hbox hb; have BK144 := am_ (hbox); have GW144 := am_ ((by rw [hg]; exact (below_size (lw_ HB)) : w.heap.size ≤ gb144)); have GE144 := am_ ((by rw [hg]; exact (below_size (lw_ HB)) : w.heap.size ≤ gb144)); replace HB := am_ (below_step (lw_ HB) hb); clear hb hbox hg; obtain ⟨hcz21_0, hcz21_1, hfz21_0, hfz21_1⟩ := bx2_ BK144.out) | (go_at_call 86; (with_reducible refine (spec_l1In.calls a0_0 0 4096 true _ A2.out).mono ?_); rintro e w' ⟨rfl, ⟨nd, rfl⟩⟩; (try first | exact ⟨rfl, _, World.drewN_drewN _ _ _⟩ | exact ⟨rfl, _, Eq.trans (World.drewN_drewN _ _ _) (congrArg (World.drewN _) (Nat.add_assoc _ _ _))⟩))))
   go_ret
   exact ⟨er_, lw_ HB⟩
 ·replace c3 := Bool.eq_false_iff.mpr c3
  subst c3
  have H1 : (some false) = some r := by rw [if_neg (show ¬ (false = true) by decide)] at H; exact H
  clear H
  have H := H1
  clear H1
  obtain rfl := Option.some.inj H
  go_enter Try.func83, Try.ntmps83
  go_wp2_with (first | ((with_reducible refine gate_dst (N := 1) rfl ?_); (try (refine gate_guard (by rfl) ?_; dsimp only)); refine bev_ 1 #[.int .i64 a0_0, .slice A0_1 l0_1.length c0_1] 26 rfl rfl ?_; intro gb144 hg w22 hbox hb; have BK144 := am_ (hbox); have GW144 := am_ ((by rw [hg]; exact (below_size (lw_ HB)) : w.heap.size ≤ gb144)); have GE144 := am_ ((by rw [hg]; exact (below_size (lw_ HB)) : w.heap.size ≤ gb144)); replace HB := am_ (below_step (lw_ HB) hb); clear hb hbox hg; obtain ⟨hcz23_0, hcz23_1, hfz23_0, hfz23_1⟩ := bx2_ BK144.out) | (go_at_call 86; (with_reducible refine (spec_l1In.calls a0_0 0 4096 false _ A2.out).mono ?_); rintro e w' ⟨rfl, ⟨nd, rfl⟩⟩; (try first | exact ⟨rfl, _, World.drewN_drewN _ _ _⟩ | exact ⟨rfl, _, Eq.trans (World.drewN_drewN _ _ _) (congrArg (World.drewN _) (Nat.add_assoc _ _ _))⟩)))
  repeat (go_quiet (first | ((with_reducible refine gate_dst (N := 1) rfl ?_); (try (refine gate_guard (by rfl) ?_; dsimp only)); refine bev_ 1 #[.int .i64 a0_0, .slice A0_1 l0_1.length c0_1] 26 rfl rfl ?_; intro gb144 hg w22 hbox hb; have BK144 := am_ (hbox); have GW144 := am_ ((by rw [hg]; exact (below_size (lw_ HB)) : w.heap.size ≤ gb144)); have GE144 := am_ ((by rw [hg]; exact (below_size (lw_ HB)) : w.heap.size ≤ gb144)); replace HB := am_ (below_step (lw_ HB) hb); clear hb hbox hg; obtain ⟨hcz23_0, hcz23_1, hfz23_0, hfz23_1⟩ := bx2_ BK144.out) | (go_at_call 86; (with_reducible refine (spec_l1In.calls a0_0 0 4096 false _ A2.out).mono ?_); rintro e w' ⟨rfl, ⟨nd, rfl⟩⟩; (try first | exact ⟨rfl, _, World.drewN_drewN _ _ _⟩ | exact ⟨rfl, _, Eq.trans (World.drewN_drewN _ _ _) (congrArg (World.drewN _) (Nat.add_assoc _ _ _))⟩))); try go_wp2_with (first | ((with_reducible refine gate_dst (N := 1) rfl ?_); (try (refine gate_guard (by rfl) ?_; dsimp only)); refine bev_ 1 #[.int .i64 a0_0, .slice A0_1 l0_1.length c0_1] 26 rfl rfl ?_; intro gb144 hg w22 hbox hb; have BK144 := am_ (hbox); have GW144 := am_ ((by rw [hg]; exact (below_size (lw_ HB)) : w.heap.size ≤ gb144)); have GE144 := am_ ((by rw [hg]; exact (below_size (lw_ HB)) : w.heap.size ≤ gb144)); replace HB := am_ (below_step (lw_ HB) hb); clear hb hbox hg; obtain ⟨hcz23_0, hcz23_1, hfz23_0, hfz23_1⟩ := bx2_ BK144.out) | (go_at_call 86; (with_reducible refine (spec_l1In.calls a0_0 0 4096 false _ A2.out).mono ?_); rintro e w' ⟨rfl, ⟨nd, rfl⟩⟩; (try first | exact ⟨rfl, _, World.drewN_drewN _ _ _⟩ | exact ⟨rfl, _, Eq.trans (World.drewN_drewN _ _ _) (congrArg (World.drewN _) (Nat.add_assoc _ _ _))⟩))))
  go_ret
  exact ⟨er_, lw_ HB⟩

/-! ### spec_l1Own: function 137 -/
def spec_l1Own.f (l0 : List Int) : Option (List Int) := (some (([] : List Int) : List Int)).bind fun y148 => (if y148.length + l0.length < 17592186044416 then (some (y148 ++ l0)) else (none))
set_option maxHeartbeats 8000000 in
set_option maxRecDepth 100000 in
theorem spec_l1Own.calls (A0 : Option Addr) (c0 : Nat) (l0 : List Int) (r : List Int) (w : World) (hr0 : Kd.C (Kd.int .i64) w A0 l0.length l0) (hc0 : l0.length ≤ c0) (h : spec_l1Own.f l0 = some r) :
  Calls Try.prog 137 #[.slice A0 l0.length c0] w fun e w' => ∃ v0_ : Value, e = .returned (v0_) ∧ Kd.R (Kd.int .i64) 3 w' w.heap.size (fun _ => True) v0_ r ∧ Below w.heap.size w w' := by
 have HR0 := am_ hr0
 have HC0 := am_ hc0
 clear hr0 hc0
 have HB := am_ (Below.refl w.heap.size w)
 have H : ((some (([] : List Int) : List Int)).bind fun y148 => (if y148.length + l0.length < 17592186044416 then (some (y148 ++ l0)) else (none))) = some r := h
 clear h
 obtain ⟨y148, hy148⟩ : ∃ y_ : List Int, y_ = (([] : List Int)) := ⟨_, rfl⟩
 replace H : (if y148.length + l0.length < 17592186044416 then (some (y148 ++ l0)) else (none)) = some r := by first | (rw [hy148]; with_reducible exact H) | (have H2_ := (Option.bind_some _ _).symm.trans H; rw [hy148]; with_reducible exact H2_) | (have H2_ := (Option.bind_some _ _).symm.trans H; with_reducible exact H2_) | with_reducible exact H | (rw [hy148]; exact H) | exact H
 have Ny148 := am_ hy148
 clear hy148
 by_cases c2 : y148.length + l0.length < 17592186044416
 ·rw [if_pos c2] at H
  have LMc2 := am_ c2
  clear c2
  obtain ⟨y151, hy151⟩ : ∃ y_ : List Int, y_ = (y148 ++ l0) := ⟨_, rfl⟩
  replace H : (some y151) = some r := by first | (rw [hy151]; with_reducible exact H) | (have H2_ := (Option.bind_some _ _).symm.trans H; rw [hy151]; with_reducible exact H2_) | (have H2_ := (Option.bind_some _ _).symm.trans H; with_reducible exact H2_) | with_reducible exact H | (rw [hy151]; exact H) | exact H
  have Ny151 := am_ hy151
  clear hy151
  obtain rfl := Option.some.inj H
  go_enter Try.func137, Try.ntmps137
  go_wp2_with (first | ((with_reducible refine gate_dst (N := 3) rfl ?_); refine Kd.R_lit (Kd.int .i64) _ 3 ?hg (N := 3) ?hd (xs := ([] : List Int)) (inner := []) (ok := fun _ => True) (okp := fun _ => True) ?hr ?hp (fun _ hk => hk) trivial (Below.refl _ _) (Nat.le_refl _) (by simp) ?_; (case hd => rfl); (case hg => rfl); (case hr => first | (go_simp; done) | (go_simp; rfl)); (case hp => exact (Reps.none _ _)); intro v149 w3 ho4 hb hg_ hnew_; clear hg_ hnew_; (first | rw [← Ny148.out] at ho4 | (simp only [Int.reduceToNat] at ho4; rw [← Ny148.out] at ho4)); have HO150 := am_ (Kd.R_lower ho4 (below_size (lw_ HB))); replace HB := am_ (below_step (lw_ HB) hb); clear hb ho4) | ((with_reducible refine gate_builtin (b := .append) (xs := #[.tmp 3, .tmp 4]) rfl ?_); at_builtin; refine Kd.R_append_rows (Kd.int .i64) (w0 := w) w.heap.size rfl (.tmp 3) (.tmp 4) 22 3 (.int .i64 0) 8 rfl Try.underlying22 info3 rfl (by decide) (by omega) v149 y148 l0 _ _ _ (fun _ => True) (fun _ => False) rfl rfl ?aO ?aR (fun _ _ h => h) (fun _ h => h.elim) ?aF ?aB ?aS ?aL ?_; (case aR => exact lc_ (Kd.C_below HR0.out HB.out)); (case aB => exact (lw_ HB)); (case aF => exact (fun _ _ => trivial)); (case aO => exact (lf_ HO150)); (case aS => exact (below_size (lw_ HB))); (case aL => have := LMc2.out; omega); intro v152 w5 ho hb hg hat; rw [← Ny151.out] at ho; have HO153 := am_ (ho); replace HB := am_ (hb); clear HO150; clear ho hb hg hat))
  go_ret
  exact ⟨_, er_, lf_ HO153, lw_ HB⟩
 ·rw [if_neg c2] at H
  exact absurd H (by simp)

/-! ### spec_biOwn: function 128 -/
def spec_biOwn.f (a0_0 : Int) (l0_1 : List Int) : Option (Int × List Int) := (spec_l1Own.f l0_1).bind fun t156 => (some (a0_0, t156))
set_option maxHeartbeats 8000000 in
set_option maxRecDepth 100000 in
theorem spec_biOwn.calls (a0_0 : Int) (A0_1 : Option Addr) (c0_1 : Nat) (l0_1 : List Int) (r1 : Int) (r2 : List Int) (w : World) (hr0_1 : Kd.C (Kd.int .i64) w A0_1 l0_1.length l0_1) (hc0_1 : l0_1.length ≤ c0_1) (h : spec_biOwn.f a0_0 l0_1 = some (r1, r2)) :
  Calls Try.prog 128 #[.agg #[.int .i64 a0_0, .slice A0_1 l0_1.length c0_1]] w fun e w' => ∃ v1_ : Value, e = .returned (.agg #[.int .i64 r1, v1_]) ∧ Kd.R (Kd.int .i64) 3 w' w.heap.size (fun _ => True) v1_ r2 ∧ Below w.heap.size w w' := by
 have hu26 := Try.underlying26
 have HR0_1 := am_ hr0_1
 have HC0_1 := am_ hc0_1
 clear hr0_1 hc0_1
 have HB := am_ (Below.refl w.heap.size w)
 have H : ((spec_l1Own.f l0_1).bind fun t156 => (some (a0_0, t156))) = some (r1, r2) := h
 clear h
 replace H := Option.bind_eq_some_iff.mp H
 obtain ⟨t156, A20, H⟩ := H
 replace H : (some (a0_0, t156)) = some (r1, r2) := H
 have A2 := am_ A20
 clear A20
 simp only [Option.some.injEq, Prod.mk.injEq] at H
 obtain ⟨rfl, rfl⟩ := H
 go_enter Try.func128, Try.ntmps128
 try go_wp2_with (first | ((with_reducible refine gate_dst (N := 1) rfl ?_); refine bev_ 1 #[.int .i64 a0_0, .slice A0_1 l0_1.length c0_1] 26 rfl rfl ?_; intro gb154 hg w3 hbox hb; have BK154 := am_ (hbox); have GW154 := am_ ((by rw [hg]; exact (below_size (lw_ HB)) : w.heap.size ≤ gb154)); have GE154 := am_ ((by rw [hg]; exact (below_size (lw_ HB)) : w.heap.size ≤ gb154)); replace HB := am_ (below_step (lw_ HB) hb); clear hb hbox hg) | ((with_reducible refine gate_dst (N := 2) rfl ?_); refine bev_ 2 #[.int .i64 0, .slice none 0 0] 26 rfl rfl ?_; intro gb155 hg w4 hbox hb; have BK155 := am_ (hbox); have GW155 := am_ ((by rw [hg]; exact (below_size (lw_ HB)) : w.heap.size ≤ gb155)); have GE155 := am_ ((by rw [hg]; exact (below_size (lw_ HB)) : w.heap.size ≤ gb155)); have NB154_155 := am_ ((by rw [hg]; exact Nat.ne_of_lt (blk_lt (g := gb154) (lb_ BK154)) : gb154 ≠ gb155)); have NB155_154 := am_ ((by rw [hg]; exact Nat.ne_of_gt (blk_lt (g := gb154) (lb_ BK154)) : gb155 ≠ gb154)); replace BK154 := am_ (blk_below (g := gb154) (lb_ BK154) hb); replace HB := am_ (below_step (lw_ HB) hb); clear hb hbox hg))
 replace BK154 := am_ (blk_drew BK154.out); replace BK155 := am_ (blk_drew BK155.out); replace HB := am_ (below_drew1 HB.out)
 refine start_ (n := 7) (S := fun w' => w'.cell? ⟨gb154, 0, none⟩ = some (.int .i64 a0_0) ∧ w'.cell? ⟨gb154, 1, none⟩ = some (.slice A0_1 l0_1.length c0_1)) (ds := []) #[false, false, false, false, false, false, false] (by kernel_rfl) rfl rfl ⟨(blk_cell BK154.out 0).trans rfl, (blk_cell BK154.out 1).trans rfl⟩ (fun hHeld => ?_)
 generalize w4.drew = w5 at BK154 BK155 HB hHeld ⊢
 refine pure_ (i := 0) (N := some 3) (v := ?_) (a' := ?_) #[true, false, false, false, false, false, false] rfl rfl (by kernel_rfl) (fun _ _ _ h => h) (Or.inl ⟨by rfl, ?_⟩) ?_ ?_
 rotate_left
 ·intro w'
  go_simp
  with_reducible rfl
 rotate_left
 ·simp only [Act.put, List.setIfInBounds_toArray, List.set_cons_zero, List.set_cons_succ, i64_w, i32_w]
  rfl
 refine pure_ (i := 2) (N := some 5) (v := ?_) (a' := ?_) #[true, false, true, false, false, false, false] rfl rfl (by kernel_rfl) (fun _ _ _ h => h) (Or.inl ⟨by rfl, ?_⟩) ?_ ?_
 rotate_left
 ·intro w'
  go_simp
  with_reducible rfl
 rotate_left
 ·simp only [Act.put, List.setIfInBounds_toArray, List.set_cons_zero, List.set_cons_succ, i64_w, i32_w]
  rfl
 refine take_ (i := 1) (N := some 4) (v := ?_) (a' := ?_) #[true, true, true, false, false, false, false] rfl rfl (by kernel_rfl) (fun _ _ _ h => h) (Or.inl ⟨by rfl, ?_⟩) hHeld ?_ ?_
 rotate_left
 ·rintro w' ⟨s0, s1⟩
  go_simp
  with_reducible rfl
 rotate_left
 ·simp only [Act.put, List.setIfInBounds_toArray, List.set_cons_zero, List.set_cons_succ, i64_w, i32_w]
  rfl
 refine take_ (i := 3) (N := some 6) (v := ?_) (a' := ?_) #[true, true, true, true, false, false, false] rfl rfl (by kernel_rfl) (fun _ _ _ h => h) (Or.inl ⟨by rfl, ?_⟩) hHeld ?_ ?_
 rotate_left
 ·rintro w' ⟨s0, s1⟩
  go_simp
  with_reducible rfl
 rotate_left
 ·simp only [Act.put, List.setIfInBounds_toArray, List.set_cons_zero, List.set_cons_succ, i64_w, i32_w]
  rfl
 refine one_ (i := 4) (N := some 7) #[true, true, true, true, true, false, false] rfl rfl (by kernel_rfl) (by decide) (fun K hK => ?_)
 refine goes_ Try.func137 (by kernel_rfl) rfl #[.slice A0_1 l0_1.length c0_1] (by rfl) rfl rfl lm_ ?_
 with_reducible refine (spec_l1Own.calls _ _ l0_1 t156 _ ?side1 ?side2 A2.out).mono ?_
 (case side1 => exact lc_ (Kd.C_below HR0_1.out HB.out))
 (case side2 => exact HC0_1.out)
 rintro e w6 ⟨v157, rfl, ho0, hb⟩
 refine ⟨_, rfl, ?_⟩
 have HO158 := am_ (Kd.R_lower ho0 (below_size (lw_ HB))); replace BK154 := am_ (blk_below (g := gb154) (lb_ BK154) hb); replace BK155 := am_ (blk_below (g := gb155) (lb_ BK155) hb); replace HB := am_ (below_step (lw_ HB) hb)
 (try clear hb)
 (try clear hb2)
 (try clear hk)
 (try clear hi)
 (try clear ho0)
 obtain ⟨Ao7, co7, eo7⟩ := Kd.R_slice HO158.out
 (first | subst eo7 | (injection eo7 with f1_ f2_ f3_; have f4_ := f1_.symm; have f5_ := f3_.symm; clear f1_ f2_ f3_; subst f4_; subst f5_))
 refine hK.out _ _ ⟨(blk_cell BK154.out 0).trans rfl, (blk_cell BK154.out 1).trans rfl⟩ (fun hHeld => ?_)
 clear hK K
 refine norm_ (a' := ?_) ?_ ?_
 rotate_left
 ·show Act.put _ (some 7) _ = _
  simp only [Act.put, List.setIfInBounds_toArray, List.set_cons_zero, List.set_cons_succ, i64_w, i32_w]
  rfl
 refine pure_ (i := 5) (N := some 8) (v := ?_) (a' := ?_) #[true, true, true, true, true, true, false] rfl rfl (by kernel_rfl) (fun _ _ _ h => h) (Or.inl ⟨by rfl, ?_⟩) ?_ ?_
 rotate_left
 ·intro w'
  go_simp
  with_reducible rfl
 rotate_left
 ·simp only [Act.put, List.setIfInBounds_toArray, List.set_cons_zero, List.set_cons_succ, i64_w, i32_w]
  rfl
 refine one_ (i := 6) (N := none) #[true, true, true, true, true, true, true] rfl rfl (by kernel_rfl) (by decide) (fun K hK => ?_)
 have hs8 : w6.cell? ⟨gb155, 0, none⟩ = some (.int .i64 0) := (blk_cell BK155.out 0).trans rfl
 have hfs8 := blk_frozen BK155.out 0
 have hns8_0 := NB154_155.out
 have hms8_0 := NB155_154.out
 have hs9 : w6.cell? ⟨gb155, 1, none⟩ = some (.slice none 0 0) := (blk_cell BK155.out 1).trans rfl
 have hfs9 := blk_frozen BK155.out 1
 have hns9_0 := NB154_155.out
 have hms9_0 := NB155_154.out
 refine skip_ (w1 := ?_) (by rfl) rfl ?_ ?_
 rotate_left
 ·go_simp
  rfl
 refine hK.out _ _ ⟨((cell_far (p := ⟨gb155, _, none⟩) NB154_155.out _).trans (((cell_far (p := ⟨gb155, _, none⟩) NB154_155.out _).trans (hHeld.1)))), ((cell_far (p := ⟨gb155, _, none⟩) NB154_155.out _).trans (((cell_far (p := ⟨gb155, _, none⟩) NB154_155.out _).trans (hHeld.2))))⟩ (fun hHeld => ?_)
 clear hK K
 refine done_ (by kernel_rfl) ?_
 try go_wp2
 refine bodyPost_ret (results_cell_row rfl _ _ gb155 26 #[.int .i64 a0_0, .slice Ao7 t156.length co7] (0, 0) _ rfl (lq_ BK155) Try.underlying26 rfl (by kernel_rfl)) rfl ?_
 exact ⟨_, er_, lt_ (mt_ (fr2_ HO158.out BK155.out (.int .i64 a0_0) (.slice Ao7 t156.length co7))), lw_ HB⟩

/-! ### spec_biAt: function 122 -/
def spec_biAt.f (a0_0 : Int) (l0_1 : List Int) (a1 : Int) : Option (Bool) := if 0 ≤ (wrap64 (Int.tdiv a1 16)) then (if (wrap64 (Int.tdiv a1 16)) < (l0_1.length : Int) then (if 0 ≤ (Int.tmod a1 16) then (some ((Go.bits .and .i64 (shr .i64 (rd l0_1 (wrap64 (Int.tdiv a1 16))) (Int.tmod a1 16)) 1) == 1)) else (none)) else (none)) else (none)
set_option maxHeartbeats 8000000 in
set_option maxRecDepth 100000 in
theorem spec_biAt.calls (a0_0 : Int) (A0_1 : Option Addr) (c0_1 : Nat) (l0_1 : List Int) (a1 : Int) (r : Bool) (w : World) (hr0_1 : Kd.C (Kd.int .i64) w A0_1 l0_1.length l0_1) (hc0_1 : l0_1.length ≤ c0_1) (h : spec_biAt.f a0_0 l0_1 a1 = some r) :
  Calls Try.prog 122 #[.agg #[.int .i64 a0_0, .slice A0_1 l0_1.length c0_1], .int .i64 a1] w fun e w' => e = .returned (.bool r) ∧ Below w.heap.size w w' := by
 have hu26 := Try.underlying26
 have HR0_1 := am_ hr0_1
 have HC0_1 := am_ hc0_1
 clear hr0_1 hc0_1
 have HB := am_ (Below.refl w.heap.size w)
 have H : (if 0 ≤ (wrap64 (Int.tdiv a1 16)) then (if (wrap64 (Int.tdiv a1 16)) < (l0_1.length : Int) then (if 0 ≤ (Int.tmod a1 16) then (some ((Go.bits .and .i64 (shr .i64 (rd l0_1 (wrap64 (Int.tdiv a1 16))) (Int.tmod a1 16)) 1) == 1)) else (none)) else (none)) else (none)) = some r := h
 clear h
 obtain ⟨ji3, hji3⟩ : ∃ j_ : Int, (wrap64 (Int.tdiv a1 16)) = j_ := ⟨_, rfl⟩
 replace H : (if 0 ≤ (ji3) then (if (ji3) < (l0_1.length : Int) then (if 0 ≤ (Int.tmod a1 16) then (some ((Go.bits .and .i64 (shr .i64 (rd l0_1 (ji3)) (Int.tmod a1 16)) 1) == 1)) else (none)) else (none)) else (none)) = some r := by first | (rw [hji3] at H; exact H) | (simp only [hji3] at H ⊢; exact H)
 have hji3w : (IntKind.i64.wrap (Int.tdiv a1 16)) = ji3 := (i64_w _).trans hji3
 by_cases c4 : 0 ≤ (ji3)
 ·rw [if_pos c4] at H
  have c4b0 : decide (0 ≤ (ji3)) = true := decide_eq_true c4
  clear c4
  by_cases c5 : (ji3) < (l0_1.length : Int)
  ·rw [if_pos c5] at H
   have c5b0 : decide ((ji3) < (l0_1.length : Int)) = true := decide_eq_true c5
   clear c5
   obtain ⟨ji6, hji6⟩ : ∃ j_ : Int, (Int.tmod a1 16) = j_ := ⟨_, rfl⟩
   replace H : (if 0 ≤ (ji6) then (some ((Go.bits .and .i64 (shr .i64 (rd l0_1 (ji3)) (ji6)) 1) == 1)) else (none)) = some r := by first | (rw [hji6] at H; exact H) | (simp only [hji6] at H ⊢; exact H)
   by_cases c7 : 0 ≤ (ji6)
   ·rw [if_pos c7] at H
    have c7b0 := eq_true c7
    have c7b1 : decide (0 ≤ (ji6)) = true := decide_eq_true c7
    clear c7
    obtain ⟨ji8, hji8⟩ : ∃ j_ : Int, (shr .i64 (rd l0_1 (ji3)) (ji6)) = j_ := ⟨_, rfl⟩
    replace H : (some ((Go.bits .and .i64 (ji8) 1) == 1)) = some r := by first | (rw [hji8] at H; exact H) | (simp only [hji8] at H ⊢; exact H)
    have hji8_ : ((rd l0_1 (ji3)) / 2 ^ min (ji6).toNat 64) = ji8 := hji8
    have hji8z : (ji6) ≤ 64 → ((rd l0_1 (ji3)) / 2 ^ (ji6).toNat) = ji8 := shr_small hji8
    obtain rfl := Option.some.inj H
    go_enter Try.func122, Try.ntmps122
    go_wp2_with (first | ((with_reducible refine gate_dst (N := 2) rfl ?_); refine bev_ 2 #[.int .i64 a0_0, .slice A0_1 l0_1.length c0_1] 26 rfl rfl ?_; intro gb159 hg w9 hbox hb; have BK159 := am_ (hbox); have GW159 := am_ ((by rw [hg]; exact (below_size (lw_ HB)) : w.heap.size ≤ gb159)); have GE159 := am_ ((by rw [hg]; exact (below_size (lw_ HB)) : w.heap.size ≤ gb159)); replace HB := am_ (below_step (lw_ HB) hb); clear hb hbox hg; obtain ⟨hcz10_0, hcz10_1, hfz10_0, hfz10_1⟩ := bx2_ BK159.out; have p160 : 0 ≤ ((ji3) : Int) := of_decide_eq_true (by first | (with_reducible assumption) | assumption); have q160 : (ji3) < (l0_1.length : Int) := of_decide_eq_true (by first | (with_reducible assumption) | assumption); obtain ⟨ad160, e160, hx160_0⟩ := Kd.at_int HR0_1.out (ji3) p160 q160; cases e160; replace hx160_0 := (HB.out.cell (World.block_lt_of_cell? w _ hx160_0)).trans hx160_0; replace p160 := eq_true p160; replace q160 := eq_true q160))
    go_ret
    exact ⟨by first | rfl | (simp [errW_none, errW_some] <;> rfl) | (simp only [← hji3, ← hji6, ← hji8]; first | rfl | (simp [errW_none, errW_some] <;> rfl)) | (simp [*, errW_none, errW_some] <;> rfl), lw_ HB⟩
   ·rw [if_neg c7] at H
    exact absurd H (by simp)
  ·rw [if_neg c5] at H
   exact absurd H (by simp)
 ·rw [if_neg c4] at H
  exact absurd H (by simp)

/-! ### spec_biCount: function 129 -/
def spec_biCount.l0 : Nat → Int → Int → Int → Int → List Int → Option (Int)
 | 0, _, _, _, _, _ => none
 | k + 1, x2, x7, x8, x162000, x162001 => if x8 < x2 then ((spec_biAt.f x162000 x162001 x8).bind fun t162 => (if t162 = true then (spec_biCount.l0 k x2 (wrap64 (x7 + 1)) (wrap64 (x8 + 1)) x162000 x162001) else (spec_biCount.l0 k x2 x7 (wrap64 (x8 + 1)) x162000 x162001))) else (some x7)
def spec_biCount.f (k : Nat) (a0_0 : Int) (l0_1 : List Int) (a1 : Int) (a2 : Int) : Option (Int) := spec_biCount.l0 k a2 0 a1 a0_0 l0_1
theorem spec_biCount.mono_l : ∀ k, (∀ y0 y1 y2 y3 y4, LeO (spec_biCount.l0 k y0 y1 y2 y3 y4) (spec_biCount.l0 (k + 1) y0 y1 y2 y3 y4))
 | 0 => fun _ _ _ _ _ r h => by simp [spec_biCount.l0] at h
 | k + 1 => by
  have ih0 := spec_biCount.mono_l k
  ·intro y0 y1 y2 y3 y4
   unfold spec_biCount.l0
   repeat' first
   | (with_reducible exact ih0 _ _ _ _ _)
   | (with_reducible exact LeO.refl _)
   | (with_reducible exact LeO.none _)
   | (with_reducible refine LeO.ite ?_ ?_)
   | (with_reducible refine LeO.bind ?_ (fun _ => ?_))
   | exact ih0 _ _ _ _ _
   | exact LeO.none _
   | refine LeO.ite ?_ ?_
   | refine LeO.bind ?_ (fun _ => ?_)
theorem spec_biCount.mono : ∀ a0 a1 a2 a3 k, LeO (spec_biCount.f k a0 a1 a2 a3) (spec_biCount.f (k + 1) a0 a1 a2 a3) := by
 intro a0 a1 a2 a3 k
 have ih0 := spec_biCount.mono_l k
 unfold spec_biCount.f
 repeat' first
   | (with_reducible exact ih0 _ _ _ _ _)
   | (with_reducible exact LeO.refl _)
   | (with_reducible exact LeO.none _)
   | (with_reducible refine LeO.ite ?_ ?_)
   | (with_reducible refine LeO.bind ?_ (fun _ => ?_))
   | exact ih0 _ _ _ _ _
   | exact LeO.none _
   | refine LeO.ite ?_ ?_
   | refine LeO.bind ?_ (fun _ => ?_)
set_option maxHeartbeats 8000000 in
set_option maxRecDepth 100000 in
theorem spec_biCount.calls (k : Nat) (a0_0 : Int) (A0_1 : Option Addr) (c0_1 : Nat) (l0_1 : List Int) (a1 : Int) (a2 : Int) (r : Int) (w : World) (hr0_1 : Kd.C (Kd.int .i64) w A0_1 l0_1.length l0_1) (hc0_1 : l0_1.length ≤ c0_1) (h : spec_biCount.f k a0_0 l0_1 a1 a2 = some r) :
  Calls Try.prog 129 #[.agg #[.int .i64 a0_0, .slice A0_1 l0_1.length c0_1], .int .i64 a1, .int .i64 a2] w fun e w' => e = .returned (.int .i64 r) ∧ Below w.heap.size w w' := by
 have hu26 := Try.underlying26
 have HR0_1 := am_ hr0_1
 have HC0_1 := am_ hc0_1
 clear hr0_1 hc0_1
 have HB := am_ (Below.refl w.heap.size w)
 have H : (spec_biCount.l0 k a2 0 a1 a0_0 l0_1) = some r := h
 clear h
 have H' := am_ H
 clear H
 go_enter Try.func129, Try.ntmps129
 go_wp2_with (first | ((with_reducible refine gate_dst (N := 3) rfl ?_); refine bev_ 3 #[.int .i64 a0_0, .slice A0_1 l0_1.length c0_1] 26 rfl rfl ?_; intro gb161 hg w4 hbox hb; have BK161 := am_ (hbox); have GW161 := am_ ((by rw [hg]; exact (below_size (lw_ HB)) : w.heap.size ≤ gb161)); have GE161 := am_ ((by rw [hg]; exact (below_size (lw_ HB)) : w.heap.size ≤ gb161)); replace HB := am_ (below_step (lw_ HB) hb); clear hb hbox hg))
 go_loopg [7, 8] k (fun kq v7 v8 w' => ∃ (x7_1 : Int) (x8_1 : Int), v7 = .int .i64 x7_1 ∧ v8 = .int .i64 x8_1 ∧ Aside0 (spec_biCount.l0 kq a2 x7_1 x8_1 a0_0 l0_1 = some r) ∧ Aside0 (kq ≤ k) ∧ Aside0 (w'.heap[gb161]? = some (.cells #[.int .i64 a0_0, (.slice A0_1 l0_1.length c0_1)] 26 (0, 0))) ∧ Aside0 (Below w.heap.size w w'))
 case atStart => exact ⟨(0), (a1), sr_, sr_, H', ⟨Nat.le_refl _⟩, ⟨lb_ BK161⟩, ⟨lw_ HB⟩⟩
 case round =>
  clear H'
  try clear c1
  try clear p2
  obtain ⟨x7_1, x8_1, rfl, rfl, HA, HK1, BK161, HB⟩ := hrel
  cases gk with
  | zero => exact absurd HA.out (by simp [spec_biCount.l0])
  | succ k1 =>
   have H := HA.out
   clear HA
   simp only [spec_biCount.l0] at H
   by_cases c5 : x8_1 < a2
   ·rw [if_pos c5] at H
    have c5b0 : decide (x8_1 < a2) = true := decide_eq_true c5
    clear c5
    replace H := Option.bind_eq_some_iff.mp H
    obtain ⟨t162, A60, H⟩ := H
    replace H : (if t162 = true then (spec_biCount.l0 k1 a2 (wrap64 (x7_1 + 1)) (wrap64 (x8_1 + 1)) a0_0 l0_1) else (spec_biCount.l0 k1 a2 x7_1 (wrap64 (x8_1 + 1)) a0_0 l0_1)) = some r := H
    have A6 := am_ A60
    clear A60
    by_cases c7 : t162 = true
    ·subst c7
     have H1 : (spec_biCount.l0 k1 a2 (wrap64 (x7_1 + 1)) (wrap64 (x8_1 + 1)) a0_0 l0_1) = some r := by rw [if_pos rfl] at H; exact H
     clear H
     have H := H1
     clear H1
     have H' := am_ H
     clear H
     obtain ⟨hcz8_0, hcz8_1, hfz8_0, hfz8_1⟩ := bx2_ BK161.out
     go_wp2_with (first | ((with_reducible refine gate_callee (f := 122) rfl ?_); refine goesL_ (some 17) rfl rfl Try.func122 (by kernel_rfl) rfl #[.agg #[.int .i64 a0_0, .slice A0_1 l0_1.length c0_1], .int .i64 x8_1] rfl lm_ ?_; (with_reducible refine (spec_biAt.calls a0_0 _ _ l0_1 x8_1 true _ ?side1 ?side2 A6.out).mono ?_); (case side1 => exact lc_ (Kd.C_below HR0_1.out HB.out)); (case side2 => exact HC0_1.out); rintro e w9 ⟨rfl, hb⟩; refine ⟨_, rfl, ?_⟩; replace BK161 := am_ (blk_below (g := gb161) (lb_ BK161) hb); replace HB := am_ (below_step (lw_ HB) hb); (try clear hb); (try clear hb2); (try clear hk); (try clear hi)))
     go_roundg k1
     case measure => have := HK1.out; omega
     case rel => exact ⟨(wrap64 (x7_1 + 1)), (wrap64 (x8_1 + 1)), sr_, sr_, H', ⟨by have := HK1.out; omega⟩, ⟨lb_ BK161⟩, ⟨lw_ HB⟩⟩
    ·replace c7 := Bool.eq_false_iff.mpr c7
     subst c7
     have H1 : (spec_biCount.l0 k1 a2 x7_1 (wrap64 (x8_1 + 1)) a0_0 l0_1) = some r := by rw [if_neg (show ¬ (false = true) by decide)] at H; exact H
     clear H
     have H := H1
     clear H1
     have H' := am_ H
     clear H
     obtain ⟨hcz10_0, hcz10_1, hfz10_0, hfz10_1⟩ := bx2_ BK161.out
     go_wp2_with (first | ((with_reducible refine gate_callee (f := 122) rfl ?_); refine goesL_ (some 17) rfl rfl Try.func122 (by kernel_rfl) rfl #[.agg #[.int .i64 a0_0, .slice A0_1 l0_1.length c0_1], .int .i64 x8_1] rfl lm_ ?_; (with_reducible refine (spec_biAt.calls a0_0 _ _ l0_1 x8_1 false _ ?side1 ?side2 A6.out).mono ?_); (case side1 => exact lc_ (Kd.C_below HR0_1.out HB.out)); (case side2 => exact HC0_1.out); rintro e w11 ⟨rfl, hb⟩; refine ⟨_, rfl, ?_⟩; replace BK161 := am_ (blk_below (g := gb161) (lb_ BK161) hb); replace HB := am_ (below_step (lw_ HB) hb); (try clear hb); (try clear hb2); (try clear hk); (try clear hi)))
     go_roundg k1
     case measure => have := HK1.out; omega
     case rel => exact ⟨(x7_1), (wrap64 (x8_1 + 1)), sr_, sr_, H', ⟨by have := HK1.out; omega⟩, ⟨lb_ BK161⟩, ⟨lw_ HB⟩⟩
   ·rw [if_neg c5] at H
    have c5b0 : decide (x8_1 < a2) = false := decide_eq_false c5
    clear c5
    obtain rfl := Option.some.inj H
    go_wp2
    go_ret
    exact ⟨er_, lw_ HB⟩

end Go.Proofs.Ytkmhjgejficclaa.PFnExactUnpackDirectory
