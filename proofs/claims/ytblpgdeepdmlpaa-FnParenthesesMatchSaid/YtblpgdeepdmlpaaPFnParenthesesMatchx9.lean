-- Laid by a program of this session: the print of the kit with additions of ours (wip/tools/patchprint.py). Nothing of it is trusted: Lean checks it.
import Derived.Test.YtblpgdeepdmlpaaPFnParenthesesMatchx0
import Derived.Test.YtblpgdeepdmlpaaPFnParenthesesMatchx1
import Derived.Test.YtblpgdeepdmlpaaPFnParenthesesMatchx5
import Derived.Test.YtblpgdeepdmlpaaPFnParenthesesMatchx6
import Derived.Test.YtblpgdeepdmlpaaPFnParenthesesMatchx7
import Derived.Test.YtblpgdeepdmlpaaPFnParenthesesMatchx8
namespace Go.Proofs.Ytblpgdeepdmlpaa.PFnParenthesesMatch
open Go.RowKit Go.Proofs.YtblpgdeepdmlpaaW.PrintWords Go.Proofs.YtblpgdeepdmlpaaW.PrintLast Go.Proofs.YtblpgdeepdmlpaaW.PrintMore
attribute [local go_sem] max2_int min2_int max_two min_two max_three min_three max_four min_four   -- for this text's walks alone
set_option linter.unusedVariables false
set_option linter.unusedSimpArgs false

theorem am23_ {p : Prop} (h : p) : Aside0 p := ⟨h⟩
theorem lm23_ {P : Prop} (h : P := by (try simp only [List.map_toArray, List.map_cons, List.map_nil]); first | done | rfl | (simp only [List.length_drop, List.length_take]; rfl)) : P := h
theorem lc23_ {P Q : Prop} (h : P) (f : P → Q := by intro h_; repeat (first | exact h_ | (with_reducible refine Kd.C_alloc ?_ _) | (with_reducible refine Kd.C_drewN ?_ _) | (with_reducible refine Kd.C_drew ?_))) : Q := f h
theorem lt23_ {P Q : Prop} (h : P) (f : P → Q := by intro h_; (with_reducible repeat (first | apply Kd.R_alloc | apply Kd.R_drewN | apply Kd.R_drew)); exact h_) : Q := f h
theorem lf23_ {P Q : Prop} (h : Aside0 P) (f : P → Q := by intro h_; (with_reducible repeat (first | apply Kd.R_alloc | apply Kd.R_drewN | apply Kd.R_drew)); exact h_) : Q := f h.out
theorem lb23_ {P Q : Prop} (h : Aside0 P) (f : P → Q := by intro h_; (with_reducible repeat (first | refine blk_drewN ?_ _ | refine blk_drew ?_ | refine blk_alloc ?_ _)); exact h_) : Q := f h.out
theorem lw23_ {P Q : Prop} (h : Aside0 P) (f : P → Q := by intro h_; repeat (first | (with_reducible first | exact h_ | apply below_alloc | apply pw_below_drewN | apply below_drew1 | refine below_set ?_ (Aside0.out (by assumption))) | exact h_)) : Q := f h.out
/-! ### laws_FnParenthesesMatch: function 4 -/
mutual
def laws_FnParenthesesMatch.j0 : Nat → Bool → Bool → Int → List Int → Option (Bool)
 | 0, _, _, _, _ => none
 | k + 1, x6, x49, x392000, x392001 => if x49 = true then (none) else (if x6 = true then (laws_FnParenthesesMatch.j1 k (decide (x392000 > 300)) x392000 x392001) else (laws_FnParenthesesMatch.j1 k true x392000 x392001))
def laws_FnParenthesesMatch.j1 : Nat → Bool → Int → List Int → Option (Bool)
 | 0, _, _, _ => none
 | k + 1, x56, x392000, x392001 => if x56 = true then (some true) else (laws_FnParenthesesMatch.l0 k 0 x392000 x392001)
def laws_FnParenthesesMatch.l0 : Nat → Int → Int → List Int → Option (Bool)
 | 0, _, _, _ => none
 | k + 1, x10, x392000, x392001 => if x10 < x392000 then ((impl_CloseOf.f k x392000 x392001 x10).bind fun bt396 => ((impl_BitAt.f k x392000 x392001 x10).bind fun bt398 => (if bt398.2 = true then (laws_FnParenthesesMatch.j3 k x10 bt396.1 bt396.2 (bt396.2 != bt398.1) x392000 x392001) else (none)))) else (some true)
def laws_FnParenthesesMatch.j3 : Nat → Int → Int → Bool → Bool → Int → List Int → Option (Bool)
 | 0, _, _, _, _, _, _ => none
 | k + 1, x10, x11, x12, x81, x392000, x392001 => if x81 = true then (none) else (if x12 = true then ((impl_OpenOf.f k x392000 x392001 x11).bind fun bt400 => ((impl_DepthOf.f k x392000 x392001 x10).bind fun bt402 => ((impl_ExcessAt.f k x392000 x392001 x10).bind fun bt404 => (if bt400.2 = true then (if bt402.2 = true then (if bt404.2 = true then (if bt400.1 = x10 then (if x11 ≤ x10 then (none) else (laws_FnParenthesesMatch.j4 k x10 x11 bt402.1 (bt402.1 != bt404.1) x392000 x392001)) else (none)) else (none)) else (none)) else (none))))) else (laws_FnParenthesesMatch.l0 k (wrap64 (x10 + 1)) x392000 x392001))
def laws_FnParenthesesMatch.j4 : Nat → Int → Int → Int → Bool → Int → List Int → Option (Bool)
 | 0, _, _, _, _, _, _ => none
 | k + 1, x10, x11, x17, x126, x392000, x392001 => if x126 = true then (none) else ((impl_EnclosingOf.f k x392000 x392001 x10).bind fun bt406 => (if (bt406.2 != (decide (x17 > 0))) = true then (none) else (if bt406.2 = true then ((impl_CloseOf.f k x392000 x392001 bt406.1).bind fun bt408 => ((impl_DepthOf.f k x392000 x392001 bt406.1).bind fun bt410 => (if bt408.2 = true then (if bt410.2 = true then (if bt406.1 ≥ x10 then (none) else (if bt408.1 ≤ x11 then (none) else (if bt410.1 = (wrap64 (x17 - 1)) then (laws_FnParenthesesMatch.l0 k (wrap64 (x10 + 1)) x392000 x392001) else (none)))) else (none)) else (none)))) else (laws_FnParenthesesMatch.l0 k (wrap64 (x10 + 1)) x392000 x392001))))
end
def laws_FnParenthesesMatch.f (k : Nat) (l0 : List Int) (l1 : List Int) : Option (Bool) := (laws_big.f l0 l1).bind fun t386 => (if t386 = true then (some true) else ((spec_DrawIsBalanced.f k l0).bind fun bt387 => ((impl_IsBalanced.f k bt387.1 bt387.2).bind fun bt392 => ((spec_IsBalanced.f k bt387.1 bt387.2).bind fun bt394 => (if (bt392.2 != bt394.2) = true then (none) else (laws_FnParenthesesMatch.j0 k bt392.1 (bt392.1 != bt394.1) bt387.1 bt387.2))))))
theorem laws_FnParenthesesMatch.mono_l : ∀ k, (∀ y0 y1 y2 y3, LeO (laws_FnParenthesesMatch.j0 k y0 y1 y2 y3) (laws_FnParenthesesMatch.j0 (k + 1) y0 y1 y2 y3)) ∧ (∀ y0 y1 y2, LeO (laws_FnParenthesesMatch.j1 k y0 y1 y2) (laws_FnParenthesesMatch.j1 (k + 1) y0 y1 y2)) ∧ (∀ y0 y1 y2, LeO (laws_FnParenthesesMatch.l0 k y0 y1 y2) (laws_FnParenthesesMatch.l0 (k + 1) y0 y1 y2)) ∧ (∀ y0 y1 y2 y3 y4 y5, LeO (laws_FnParenthesesMatch.j3 k y0 y1 y2 y3 y4 y5) (laws_FnParenthesesMatch.j3 (k + 1) y0 y1 y2 y3 y4 y5)) ∧ (∀ y0 y1 y2 y3 y4 y5, LeO (laws_FnParenthesesMatch.j4 k y0 y1 y2 y3 y4 y5) (laws_FnParenthesesMatch.j4 (k + 1) y0 y1 y2 y3 y4 y5))
 | 0 => ⟨fun _ _ _ _ r h => by simp [laws_FnParenthesesMatch.j0] at h, fun _ _ _ r h => by simp [laws_FnParenthesesMatch.j1] at h, fun _ _ _ r h => by simp [laws_FnParenthesesMatch.l0] at h, fun _ _ _ _ _ _ r h => by simp [laws_FnParenthesesMatch.j3] at h, fun _ _ _ _ _ _ r h => by simp [laws_FnParenthesesMatch.j4] at h⟩
 | k + 1 => by
  obtain ⟨ih0, ih1, ih2, ih3, ih4⟩ := laws_FnParenthesesMatch.mono_l k
  refine ⟨?_, ?_, ?_, ?_, ?_⟩
  ·intro y0 y1 y2 y3
   unfold laws_FnParenthesesMatch.j0
   repeat' first
   | (with_reducible exact ih0 _ _ _ _)
   | (with_reducible exact ih1 _ _ _)
   | (with_reducible exact ih2 _ _ _)
   | (with_reducible exact ih3 _ _ _ _ _ _)
   | (with_reducible exact ih4 _ _ _ _ _ _)
   | (with_reducible exact impl_BitAt.mono _ _ _ _)
   | (with_reducible exact impl_CloseOf.mono _ _ _ _)
   | (with_reducible exact impl_DepthOf.mono _ _ _ _)
   | (with_reducible exact impl_EnclosingOf.mono _ _ _ _)
   | (with_reducible exact impl_ExcessAt.mono _ _ _ _)
   | (with_reducible exact impl_IsBalanced.mono _ _ _)
   | (with_reducible exact impl_OpenOf.mono _ _ _ _)
   | (with_reducible exact spec_DrawIsBalanced.mono _ _)
   | (with_reducible exact spec_IsBalanced.mono _ _ _)
   | (with_reducible exact LeO.refl _)
   | (with_reducible exact LeO.none _)
   | (with_reducible refine LeO.ite ?_ ?_)
   | (with_reducible refine LeO.bind ?_ (fun _ => ?_))
   | exact ih0 _ _ _ _
   | exact ih1 _ _ _
   | exact ih2 _ _ _
   | exact ih3 _ _ _ _ _ _
   | exact ih4 _ _ _ _ _ _
   | exact impl_BitAt.mono _ _ _ _
   | exact impl_CloseOf.mono _ _ _ _
   | exact impl_DepthOf.mono _ _ _ _
   | exact impl_EnclosingOf.mono _ _ _ _
   | exact impl_ExcessAt.mono _ _ _ _
   | exact impl_IsBalanced.mono _ _ _
   | exact impl_OpenOf.mono _ _ _ _
   | exact spec_DrawIsBalanced.mono _ _
   | exact spec_IsBalanced.mono _ _ _
   | exact LeO.none _
   | refine LeO.ite ?_ ?_
   | refine LeO.bind ?_ (fun _ => ?_)
  ·intro y0 y1 y2
   unfold laws_FnParenthesesMatch.j1
   repeat' first
   | (with_reducible exact ih0 _ _ _ _)
   | (with_reducible exact ih1 _ _ _)
   | (with_reducible exact ih2 _ _ _)
   | (with_reducible exact ih3 _ _ _ _ _ _)
   | (with_reducible exact ih4 _ _ _ _ _ _)
   | (with_reducible exact impl_BitAt.mono _ _ _ _)
   | (with_reducible exact impl_CloseOf.mono _ _ _ _)
   | (with_reducible exact impl_DepthOf.mono _ _ _ _)
   | (with_reducible exact impl_EnclosingOf.mono _ _ _ _)
   | (with_reducible exact impl_ExcessAt.mono _ _ _ _)
   | (with_reducible exact impl_IsBalanced.mono _ _ _)
   | (with_reducible exact impl_OpenOf.mono _ _ _ _)
   | (with_reducible exact spec_DrawIsBalanced.mono _ _)
   | (with_reducible exact spec_IsBalanced.mono _ _ _)
   | (with_reducible exact LeO.refl _)
   | (with_reducible exact LeO.none _)
   | (with_reducible refine LeO.ite ?_ ?_)
   | (with_reducible refine LeO.bind ?_ (fun _ => ?_))
   | exact ih0 _ _ _ _
   | exact ih1 _ _ _
   | exact ih2 _ _ _
   | exact ih3 _ _ _ _ _ _
   | exact ih4 _ _ _ _ _ _
   | exact impl_BitAt.mono _ _ _ _
   | exact impl_CloseOf.mono _ _ _ _
   | exact impl_DepthOf.mono _ _ _ _
   | exact impl_EnclosingOf.mono _ _ _ _
   | exact impl_ExcessAt.mono _ _ _ _
   | exact impl_IsBalanced.mono _ _ _
   | exact impl_OpenOf.mono _ _ _ _
   | exact spec_DrawIsBalanced.mono _ _
   | exact spec_IsBalanced.mono _ _ _
   | exact LeO.none _
   | refine LeO.ite ?_ ?_
   | refine LeO.bind ?_ (fun _ => ?_)
  ·intro y0 y1 y2
   unfold laws_FnParenthesesMatch.l0
   repeat' first
   | (with_reducible exact ih0 _ _ _ _)
   | (with_reducible exact ih1 _ _ _)
   | (with_reducible exact ih2 _ _ _)
   | (with_reducible exact ih3 _ _ _ _ _ _)
   | (with_reducible exact ih4 _ _ _ _ _ _)
   | (with_reducible exact impl_BitAt.mono _ _ _ _)
   | (with_reducible exact impl_CloseOf.mono _ _ _ _)
   | (with_reducible exact impl_DepthOf.mono _ _ _ _)
   | (with_reducible exact impl_EnclosingOf.mono _ _ _ _)
   | (with_reducible exact impl_ExcessAt.mono _ _ _ _)
   | (with_reducible exact impl_IsBalanced.mono _ _ _)
   | (with_reducible exact impl_OpenOf.mono _ _ _ _)
   | (with_reducible exact spec_DrawIsBalanced.mono _ _)
   | (with_reducible exact spec_IsBalanced.mono _ _ _)
   | (with_reducible exact LeO.refl _)
   | (with_reducible exact LeO.none _)
   | (with_reducible refine LeO.ite ?_ ?_)
   | (with_reducible refine LeO.bind ?_ (fun _ => ?_))
   | exact ih0 _ _ _ _
   | exact ih1 _ _ _
   | exact ih2 _ _ _
   | exact ih3 _ _ _ _ _ _
   | exact ih4 _ _ _ _ _ _
   | exact impl_BitAt.mono _ _ _ _
   | exact impl_CloseOf.mono _ _ _ _
   | exact impl_DepthOf.mono _ _ _ _
   | exact impl_EnclosingOf.mono _ _ _ _
   | exact impl_ExcessAt.mono _ _ _ _
   | exact impl_IsBalanced.mono _ _ _
   | exact impl_OpenOf.mono _ _ _ _
   | exact spec_DrawIsBalanced.mono _ _
   | exact spec_IsBalanced.mono _ _ _
   | exact LeO.none _
   | refine LeO.ite ?_ ?_
   | refine LeO.bind ?_ (fun _ => ?_)
  ·intro y0 y1 y2 y3 y4 y5
   unfold laws_FnParenthesesMatch.j3
   repeat' first
   | (with_reducible exact ih0 _ _ _ _)
   | (with_reducible exact ih1 _ _ _)
   | (with_reducible exact ih2 _ _ _)
   | (with_reducible exact ih3 _ _ _ _ _ _)
   | (with_reducible exact ih4 _ _ _ _ _ _)
   | (with_reducible exact impl_BitAt.mono _ _ _ _)
   | (with_reducible exact impl_CloseOf.mono _ _ _ _)
   | (with_reducible exact impl_DepthOf.mono _ _ _ _)
   | (with_reducible exact impl_EnclosingOf.mono _ _ _ _)
   | (with_reducible exact impl_ExcessAt.mono _ _ _ _)
   | (with_reducible exact impl_IsBalanced.mono _ _ _)
   | (with_reducible exact impl_OpenOf.mono _ _ _ _)
   | (with_reducible exact spec_DrawIsBalanced.mono _ _)
   | (with_reducible exact spec_IsBalanced.mono _ _ _)
   | (with_reducible exact LeO.refl _)
   | (with_reducible exact LeO.none _)
   | (with_reducible refine LeO.ite ?_ ?_)
   | (with_reducible refine LeO.bind ?_ (fun _ => ?_))
   | exact ih0 _ _ _ _
   | exact ih1 _ _ _
   | exact ih2 _ _ _
   | exact ih3 _ _ _ _ _ _
   | exact ih4 _ _ _ _ _ _
   | exact impl_BitAt.mono _ _ _ _
   | exact impl_CloseOf.mono _ _ _ _
   | exact impl_DepthOf.mono _ _ _ _
   | exact impl_EnclosingOf.mono _ _ _ _
   | exact impl_ExcessAt.mono _ _ _ _
   | exact impl_IsBalanced.mono _ _ _
   | exact impl_OpenOf.mono _ _ _ _
   | exact spec_DrawIsBalanced.mono _ _
   | exact spec_IsBalanced.mono _ _ _
   | exact LeO.none _
   | refine LeO.ite ?_ ?_
   | refine LeO.bind ?_ (fun _ => ?_)
  ·intro y0 y1 y2 y3 y4 y5
   unfold laws_FnParenthesesMatch.j4
   repeat' first
   | (with_reducible exact ih0 _ _ _ _)
   | (with_reducible exact ih1 _ _ _)
   | (with_reducible exact ih2 _ _ _)
   | (with_reducible exact ih3 _ _ _ _ _ _)
   | (with_reducible exact ih4 _ _ _ _ _ _)
   | (with_reducible exact impl_BitAt.mono _ _ _ _)
   | (with_reducible exact impl_CloseOf.mono _ _ _ _)
   | (with_reducible exact impl_DepthOf.mono _ _ _ _)
   | (with_reducible exact impl_EnclosingOf.mono _ _ _ _)
   | (with_reducible exact impl_ExcessAt.mono _ _ _ _)
   | (with_reducible exact impl_IsBalanced.mono _ _ _)
   | (with_reducible exact impl_OpenOf.mono _ _ _ _)
   | (with_reducible exact spec_DrawIsBalanced.mono _ _)
   | (with_reducible exact spec_IsBalanced.mono _ _ _)
   | (with_reducible exact LeO.refl _)
   | (with_reducible exact LeO.none _)
   | (with_reducible refine LeO.ite ?_ ?_)
   | (with_reducible refine LeO.bind ?_ (fun _ => ?_))
   | exact ih0 _ _ _ _
   | exact ih1 _ _ _
   | exact ih2 _ _ _
   | exact ih3 _ _ _ _ _ _
   | exact ih4 _ _ _ _ _ _
   | exact impl_BitAt.mono _ _ _ _
   | exact impl_CloseOf.mono _ _ _ _
   | exact impl_DepthOf.mono _ _ _ _
   | exact impl_EnclosingOf.mono _ _ _ _
   | exact impl_ExcessAt.mono _ _ _ _
   | exact impl_IsBalanced.mono _ _ _
   | exact impl_OpenOf.mono _ _ _ _
   | exact spec_DrawIsBalanced.mono _ _
   | exact spec_IsBalanced.mono _ _ _
   | exact LeO.none _
   | refine LeO.ite ?_ ?_
   | refine LeO.bind ?_ (fun _ => ?_)
theorem laws_FnParenthesesMatch.mono : ∀ a0 a1 k, LeO (laws_FnParenthesesMatch.f k a0 a1) (laws_FnParenthesesMatch.f (k + 1) a0 a1) := by
 intro a0 a1 k
 obtain ⟨ih0, ih1, ih2, ih3, ih4⟩ := laws_FnParenthesesMatch.mono_l k
 unfold laws_FnParenthesesMatch.f
 repeat' first
   | (with_reducible exact ih0 _ _ _ _)
   | (with_reducible exact ih1 _ _ _)
   | (with_reducible exact ih2 _ _ _)
   | (with_reducible exact ih3 _ _ _ _ _ _)
   | (with_reducible exact ih4 _ _ _ _ _ _)
   | (with_reducible exact impl_BitAt.mono _ _ _ _)
   | (with_reducible exact impl_CloseOf.mono _ _ _ _)
   | (with_reducible exact impl_DepthOf.mono _ _ _ _)
   | (with_reducible exact impl_EnclosingOf.mono _ _ _ _)
   | (with_reducible exact impl_ExcessAt.mono _ _ _ _)
   | (with_reducible exact impl_IsBalanced.mono _ _ _)
   | (with_reducible exact impl_OpenOf.mono _ _ _ _)
   | (with_reducible exact spec_DrawIsBalanced.mono _ _)
   | (with_reducible exact spec_IsBalanced.mono _ _ _)
   | (with_reducible exact LeO.refl _)
   | (with_reducible exact LeO.none _)
   | (with_reducible refine LeO.ite ?_ ?_)
   | (with_reducible refine LeO.bind ?_ (fun _ => ?_))
   | exact ih0 _ _ _ _
   | exact ih1 _ _ _
   | exact ih2 _ _ _
   | exact ih3 _ _ _ _ _ _
   | exact ih4 _ _ _ _ _ _
   | exact impl_BitAt.mono _ _ _ _
   | exact impl_CloseOf.mono _ _ _ _
   | exact impl_DepthOf.mono _ _ _ _
   | exact impl_EnclosingOf.mono _ _ _ _
   | exact impl_ExcessAt.mono _ _ _ _
   | exact impl_IsBalanced.mono _ _ _
   | exact impl_OpenOf.mono _ _ _ _
   | exact spec_DrawIsBalanced.mono _ _
   | exact spec_IsBalanced.mono _ _ _
   | exact LeO.none _
   | refine LeO.ite ?_ ?_
   | refine LeO.bind ?_ (fun _ => ?_)
set_option maxHeartbeats 8000000 in
set_option maxRecDepth 100000 in
theorem laws_FnParenthesesMatch.calls (k : Nat) (A0 : Option Addr) (c0 : Nat) (l0 : List Int) (A1 : Option Addr) (c1 : Nat) (l1 : List Int) (r : Bool) (w : World) (hr0 : Kd.C (Kd.int .u8) w A0 l0.length l0) (hc0 : l0.length ≤ c0) (hr1 : Kd.C (Kd.int .u8) w A1 l1.length l1) (hc1 : l1.length ≤ c1) (h : laws_FnParenthesesMatch.f k l0 l1 = some r) :
  Calls Try.prog 4 #[.slice A0 l0.length c0, .slice A1 l1.length c1] w fun e w' => e = .returned (.bool r) ∧ Below w.heap.size w w' := by
 have hu26 := Try.underlying26
 have HR0 := am23_ hr0
 have HC0 := am23_ hc0
 clear hr0 hc0
 have HR1 := am23_ hr1
 have HC1 := am23_ hc1
 clear hr1 hc1
 have HB := am23_ (Below.refl w.heap.size w)
 have H : ((laws_big.f l0 l1).bind fun t386 => (if t386 = true then (some true) else ((spec_DrawIsBalanced.f k l0).bind fun bt387 => ((impl_IsBalanced.f k bt387.1 bt387.2).bind fun bt392 => ((spec_IsBalanced.f k bt387.1 bt387.2).bind fun bt394 => (if (bt392.2 != bt394.2) = true then (none) else (laws_FnParenthesesMatch.j0 k bt392.1 (bt392.1 != bt394.1) bt387.1 bt387.2))))))) = some r := h
 clear h
 replace H := Option.bind_eq_some_iff.mp H
 obtain ⟨t386, A30, H⟩ := H
 replace H : (if t386 = true then (some true) else ((spec_DrawIsBalanced.f k l0).bind fun bt387 => ((impl_IsBalanced.f k bt387.1 bt387.2).bind fun bt392 => ((spec_IsBalanced.f k bt387.1 bt387.2).bind fun bt394 => (if (bt392.2 != bt394.2) = true then (none) else (laws_FnParenthesesMatch.j0 k bt392.1 (bt392.1 != bt394.1) bt387.1 bt387.2)))))) = some r := H
 have A3 := am23_ A30
 clear A30
 by_cases c4 : t386 = true
 ·subst c4
  have H1 : (some true) = some r := by rw [if_pos rfl] at H; exact H
  clear H
  have H := H1
  clear H1
  obtain rfl := Option.some.inj H
  go_enter Try.func4, Try.ntmps4
  go_wp2_with (first | ((with_reducible refine gate_callee (f := 5) rfl ?_); refine goesL_ (some 29) rfl rfl Try.func5 (by kernel_rfl) rfl #[.slice A0 l0.length c0, .slice A1 l1.length c1] rfl lm23_ ?_; (with_reducible refine (laws_big.calls _ _ l0 _ _ l1 true _ ?side1 ?side2 ?side3 ?side4 A3.out).mono ?_); (case side1 => exact lc23_ HR0.out); (case side2 => exact HC0.out); (case side3 => exact lc23_ HR1.out); (case side4 => exact HC1.out); rintro e w' ⟨rfl, ⟨nd, rfl⟩⟩; refine ⟨_, rfl, ?_⟩))
  go_ret
  exact ⟨by first | rfl | (simp [errW_none, errW_some] <;> rfl) | (simp [*, errW_none, errW_some] <;> rfl), lw23_ HB⟩
 ·replace c4 := Bool.eq_false_iff.mpr c4
  subst c4
  have H1 : ((spec_DrawIsBalanced.f k l0).bind fun bt387 => ((impl_IsBalanced.f k bt387.1 bt387.2).bind fun bt392 => ((spec_IsBalanced.f k bt387.1 bt387.2).bind fun bt394 => (if (bt392.2 != bt394.2) = true then (none) else (laws_FnParenthesesMatch.j0 k bt392.1 (bt392.1 != bt394.1) bt387.1 bt387.2))))) = some r := by rw [if_neg (show ¬ (false = true) by decide)] at H; exact H
  clear H
  have H := H1
  clear H1
  replace H := Option.bind_eq_some_iff.mp H
  obtain ⟨⟨t387, t388⟩, A50, H⟩ := H
  replace H : ((impl_IsBalanced.f k t387 t388).bind fun bt392 => ((spec_IsBalanced.f k t387 t388).bind fun bt394 => (if (bt392.2 != bt394.2) = true then (none) else (laws_FnParenthesesMatch.j0 k bt392.1 (bt392.1 != bt394.1) t387 t388)))) = some r := H
  have A5 := am23_ A50
  clear A50
  replace H := Option.bind_eq_some_iff.mp H
  obtain ⟨⟨t392, t393⟩, A60, H⟩ := H
  replace H : ((spec_IsBalanced.f k t387 t388).bind fun bt394 => (if (t393 != bt394.2) = true then (none) else (laws_FnParenthesesMatch.j0 k t392 (t392 != bt394.1) t387 t388))) = some r := H
  have A6 := am23_ A60
  clear A60
  replace H := Option.bind_eq_some_iff.mp H
  obtain ⟨⟨t394, t395⟩, A70, H⟩ := H
  replace H : (if (t393 != t395) = true then (none) else (laws_FnParenthesesMatch.j0 k t392 (t392 != t394) t387 t388)) = some r := H
  have A7 := am23_ A70
  clear A70
  have HC8 := am23_ H
  clear H
  go_enter Try.func4, Try.ntmps4
  go_upto_region 6 with (first | ((with_reducible refine gate_callee (f := 5) rfl ?_); refine goesL_ (some 29) rfl rfl Try.func5 (by kernel_rfl) rfl #[.slice A0 l0.length c0, .slice A1 l1.length c1] rfl lm23_ ?_; (with_reducible refine (laws_big.calls _ _ l0 _ _ l1 false _ ?side1 ?side2 ?side3 ?side4 A3.out).mono ?_); (case side1 => exact lc23_ HR0.out); (case side2 => exact HC0.out); (case side3 => exact lc23_ HR1.out); (case side4 => exact HC1.out); rintro e w' ⟨rfl, ⟨nd, rfl⟩⟩; refine ⟨_, rfl, ?_⟩) | ((with_reducible refine gate_callee (f := 12) rfl ?_); refine goesL_ (some 31) rfl rfl Try.func12 (by kernel_rfl) rfl #[.slice A0 l0.length c0] rfl lm23_ ?_; (with_reducible refine (spec_DrawIsBalanced.calls k _ _ l0 t387 t388 _ ?side1 ?side2 A5.out).mono ?_); (case side1 => exact lc23_ HR0.out); (case side2 => exact HC0.out); rintro e w9 ⟨v389, rfl, ho0, hb⟩; refine ⟨_, rfl, ?_⟩; have n0_ := am23_ (Kd.R_lower ho0 (below_size (lw23_ HB))); have n1_ := am23_ (below_step (lw23_ HB) hb); clear HB; have HO390 := n0_; have HB := n1_; clear n0_ n1_; (try clear hb); (try clear hb2); (try clear hk); (try clear hi); (try clear ho0)) | ((with_reducible refine gate_dst (N := 5) rfl ?_); refine box_event ?hg (N := 5) ?hd (cs := #[.int .i64 0, .slice none 0 0]) (t := 26) ?hr ?_; (case hd => rfl); (case hg => rfl); (case hr => first | (go_simp; done) | (go_simp; rfl)); intro gb391 hg w10 hbox hb; have n0_ := am23_ (Kd.R_below (lf23_ HO390) hb); have n1_ := am23_ (below_step (lw23_ HB) hb); have n2_ := am23_ (hbox); have n3_ := am23_ ((by rw [hg]; exact (below_size (lw23_ HB)) : w.heap.size ≤ gb391)); have n4_ := am23_ ((by rw [hg]; exact (below_size (lw23_ HB)) : w.heap.size ≤ gb391)); clear HO390; clear HB; have HO390 := n0_; have HB := n1_; have BK391 := n2_; have GW391 := n3_; have GE391 := n4_; clear n0_ n1_ n2_ n3_ n4_; clear hb hbox hg; have hcz11_0 : w10.cell? ⟨gb391, 0, none⟩ = some (.int .i64 0) := (blk_cell BK391.out 0).trans rfl; have hcz11_1 : w10.cell? ⟨gb391, 1, none⟩ = some (.slice none 0 0) := (blk_cell BK391.out 1).trans rfl; have hfz11_0 := blk_frozen BK391.out 0; have hfz11_1 := blk_frozen BK391.out 1; obtain ⟨Ao12, co12, eo12⟩ := Kd.R_slice HO390.out; subst eo12) | ((with_reducible refine gate_callee (f := 13) rfl ?_); refine goesL_ (some 34) rfl rfl Try.func13 (by kernel_rfl) rfl #[.agg #[.int .i64 t387, .slice Ao12 t388.length co12]] rfl lm23_ ?_; (with_reducible refine (impl_IsBalanced.calls k t387 _ _ t388 t392 t393 _ ?side1 ?side2 A6.out).mono ?_); (case side1 => refine (Kd.R_reads' (e := 3) (base := w.heap.size) (ok := fun k_ => True) (n := t388.length) (c := co12) ?_).2.2; exact (lt23_ (Kd.R_mono (Kd.R_far (p := ⟨gb391, 1, none⟩) (Kd.R_far (p := ⟨gb391, 0, none⟩) (Kd.R_types HO390.out BK391.out (by decide)) (fun _ hk => hk.2) (.int .i64 t387)) (fun _ hk => hk.2) (.slice Ao12 t388.length co12)) (fun _ h_ => h_.1)))); (case side2 => exact (Kd.R_reads' HO390.out).2.1); rintro e w13 ⟨rfl, hb⟩; refine ⟨_, rfl, ?_⟩; have n0_ := am23_ (Kd.R_below (lt23_ (Kd.R_mono (Kd.R_far (p := ⟨gb391, 1, none⟩) (Kd.R_far (p := ⟨gb391, 0, none⟩) (Kd.R_types HO390.out BK391.out (by decide)) (fun _ hk => hk.2) (.int .i64 t387)) (fun _ hk => hk.2) (.slice Ao12 t388.length co12)) (fun _ h_ => h_.1))) hb); have n1_ := am23_ (blk_below (g := gb391) (o := .cells #[.int .i64 t387, .slice Ao12 t388.length co12] 26 (0, 0)) (by (with_reducible repeat (first | refine blk_drewN ?_ _ | refine blk_drew ?_ | refine blk_alloc ?_ _)); refine blk_put (cs := #[.int .i64 t387, .slice none 0 0]) ?_ 1 _ rfl; (with_reducible repeat (first | refine blk_drewN ?_ _ | refine blk_drew ?_ | refine blk_alloc ?_ _)); refine blk_put (cs := #[.int .i64 0, .slice none 0 0]) ?_ 0 _ rfl; (with_reducible repeat (first | refine blk_drewN ?_ _ | refine blk_drew ?_ | refine blk_alloc ?_ _)); exact BK391.out) hb); have n2_ := am23_ (below_step (lw23_ HB) hb); clear HO390; clear BK391; clear HB; have HO390 := n0_; have BK391 := n1_; have HB := n2_; clear n0_ n1_ n2_; (try clear hb); (try clear hb2); (try clear hk); (try clear hi); have hcz14_0 : w13.cell? ⟨gb391, 0, none⟩ = some (.int .i64 t387) := (blk_cell BK391.out 0).trans rfl; have hcz14_1 : w13.cell? ⟨gb391, 1, none⟩ = some (.slice Ao12 t388.length co12) := (blk_cell BK391.out 1).trans rfl; have hfz14_0 := blk_frozen BK391.out 0; have hfz14_1 := blk_frozen BK391.out 1) | ((with_reducible refine gate_callee (f := 14) rfl ?_); refine goesL_ (some 39) rfl rfl Try.func14 (by kernel_rfl) rfl #[.agg #[.int .i64 t387, .slice Ao12 t388.length co12]] rfl lm23_ ?_; (with_reducible refine (spec_IsBalanced.calls k t387 _ _ t388 t394 t395 _ ?side1 ?side2 A7.out).mono ?_); (case side1 => exact lc23_ (Kd.R_reads' HO390.out).2.2); (case side2 => exact (Kd.R_reads' HO390.out).2.1); rintro e w15 ⟨rfl, hb⟩; refine ⟨_, rfl, ?_⟩; have n0_ := am23_ (Kd.R_below (lf23_ HO390) hb); have n1_ := am23_ (blk_below (g := gb391) (o := .cells #[.int .i64 t387, .slice Ao12 t388.length co12] 26 (0, 0)) (lb23_ BK391) hb); have n2_ := am23_ (below_step (lw23_ HB) hb); clear HO390; clear BK391; clear HB; have HO390 := n0_; have BK391 := n1_; have HB := n2_; clear n0_ n1_ n2_; (try clear hb); (try clear hb2); (try clear hk); (try clear hi)))
  (try simp only [Act.put, List.setIfInBounds_toArray, List.set_cons_zero, List.set_cons_succ])
  go_cut [49] (fun v49 wc => ∃ (kq : Nat) (x49_7 : Bool), v49 = .bool x49_7 ∧ Aside0 (laws_FnParenthesesMatch.j0 kq t392 x49_7 t387 t388 = some r) ∧ Aside0 (kq ≤ k) ∧ Aside0 (Kd.R (Kd.int .i64) 3 wc w.heap.size (fun _ => True) (.slice Ao12 t388.length co12) t388) ∧ Aside0 (wc.heap[gb391]? = some (.cells #[.int .i64 t387, (.slice Ao12 t388.length co12)] 26 (0, 0))) ∧ Aside0 (Below w.heap.size w wc))
  case first =>
   have H := HC8.out
   clear HC8
   by_cases c16 : (t393 != t395) = true
   ·rw [if_pos c16] at H
    exact absurd H (by simp)
   ·rw [if_neg c16] at H
    have c16b0 : (t393 != t395) = false := by simpa using c16
    (try (have c16b1 : decide (t393 = t395) = true := by simpa using c16))
    (try (have c16b2 : (t393 == t395) = true := by simpa using c16))
    clear c16
    (first | rw [c16b0] | (simp only [i64_w, i32_w]; rw [c16b0]) | skip)
    have H' := am23_ H
    clear H
    go_wp2
    go_meet
    case rel => exact ⟨_, ((t392 != t394)), (by first | rfl | (simp; done) | (simp [*]; done)), H', ⟨by first | omega | exact Nat.le_refl _⟩, ⟨lf23_ HO390⟩, ⟨lb23_ BK391⟩, ⟨lw23_ HB⟩⟩
  case rest =>
   clear HC8
   try clear c1
   try clear p2
   try clear c4
   try clear c5
   try clear c12
   try clear c13
   try clear c14
   try clear c16
   try clear c16b0
   try clear c16b1
   try clear c16b2
   try clear hcz11_0
   try clear hcz11_1
   try clear hcz14_0
   try clear hcz14_1
   try clear hfz11_0
   try clear hfz11_1
   try clear hfz14_0
   try clear hfz14_1
   obtain ⟨kq, x49_7, rfl, HA, HJ7, HO_392001, BK391, HB⟩ := hcut
   cases kq with
   | zero => exact absurd HA.out (by simp [laws_FnParenthesesMatch.j0])
   | succ kj7 =>
    have H := HA.out
    clear HA
    simp only [laws_FnParenthesesMatch.j0] at H
    by_cases c17 : x49_7 = true
    ·subst c17
     have H1 : (none) = some r := by rw [if_pos rfl] at H; exact H
     clear H
     have H := H1
     clear H1
     exact absurd H (by simp)
    ·replace c17 := Bool.eq_false_iff.mpr c17
     subst c17
     have H1 : (if t392 = true then (laws_FnParenthesesMatch.j1 kj7 (decide (t387 > 300)) t387 t388) else (laws_FnParenthesesMatch.j1 kj7 true t387 t388)) = some r := by rw [if_neg (show ¬ (false = true) by decide)] at H; exact H
     clear H
     have H := H1
     clear H1
     have HC18 := am23_ H
     clear H
     go_upto_region 8 with (fail)
     go_cut [56] (fun v56 wc => ∃ (kq : Nat) (x56_17 : Bool), v56 = .bool x56_17 ∧ Aside0 (laws_FnParenthesesMatch.j1 kq x56_17 t387 t388 = some r) ∧ Aside0 (kq ≤ kj7) ∧ Aside0 (Kd.R (Kd.int .i64) 3 wc w.heap.size (fun _ => True) (.slice Ao12 t388.length co12) t388) ∧ Aside0 (wc.heap[gb391]? = some (.cells #[.int .i64 t387, (.slice Ao12 t388.length co12)] 26 (0, 0))) ∧ Aside0 (Below w.heap.size w wc))
     case first =>
      have H := HC18.out
      clear HC18
      by_cases c19 : t392 = true
      ·subst c19
       have H1 : (laws_FnParenthesesMatch.j1 kj7 (decide (t387 > 300)) t387 t388) = some r := by rw [if_pos rfl] at H; exact H
       clear H
       have H := H1
       clear H1
       have H' := am23_ H
       clear H
       have hcz20_0 : wc.cell? ⟨gb391, 0, none⟩ = some (.int .i64 t387) := (blk_cell BK391.out 0).trans rfl
       have hcz20_1 : wc.cell? ⟨gb391, 1, none⟩ = some (.slice Ao12 t388.length co12) := (blk_cell BK391.out 1).trans rfl
       have hfz20_0 := blk_frozen BK391.out 0
       have hfz20_1 := blk_frozen BK391.out 1
       go_wp2
       go_meet
       case rel => exact ⟨_, (decide (t387 > 300)), (by first | rfl | (simp; done) | (simp [*]; done)), H', ⟨by have := HJ7.out; first | omega | exact Nat.le_refl _⟩, ⟨lf23_ HO_392001⟩, ⟨lb23_ BK391⟩, ⟨lw23_ HB⟩⟩
      ·replace c19 := Bool.eq_false_iff.mpr c19
       subst c19
       have H1 : (laws_FnParenthesesMatch.j1 kj7 true t387 t388) = some r := by rw [if_neg (show ¬ (false = true) by decide)] at H; exact H
       clear H
       have H := H1
       clear H1
       have H' := am23_ H
       clear H
       go_wp2
       go_meet
       case rel => exact ⟨_, (true), (by first | rfl | (simp; done) | (simp [*]; done)), H', ⟨by have := HJ7.out; first | omega | exact Nat.le_refl _⟩, ⟨lf23_ HO_392001⟩, ⟨lb23_ BK391⟩, ⟨lw23_ HB⟩⟩
     case rest =>
      clear HC18
      try clear c1
      try clear p2
      try clear c4
      try clear c5
      try clear c12
      try clear c13
      try clear c14
      try clear c16
      try clear c16b0
      try clear c16b1
      try clear c16b2
      try clear c17
      try clear c19
      try clear hcz11_0
      try clear hcz11_1
      try clear hcz14_0
      try clear hcz14_1
      try clear hcz20_0
      try clear hcz20_1
      try clear hfz11_0
      try clear hfz11_1
      try clear hfz14_0
      try clear hfz14_1
      try clear hfz20_0
      try clear hfz20_1
      try clear p2
      obtain ⟨kq, x56_17, rfl, HA, HJ17, HO_392001, BK391, HB⟩ := hcut
      cases kq with
      | zero => exact absurd HA.out (by simp [laws_FnParenthesesMatch.j1])
      | succ kj17 =>
       have H := HA.out
       clear HA
       simp only [laws_FnParenthesesMatch.j1] at H
       by_cases c21 : x56_17 = true
       ·subst c21
        have H1 : (some true) = some r := by rw [if_pos rfl] at H; exact H
        clear H
        have H := H1
        clear H1
        obtain rfl := Option.some.inj H
        go_wp2
        go_ret
        exact ⟨by first | rfl | (simp [errW_none, errW_some] <;> rfl) | (simp [*, errW_none, errW_some] <;> rfl), lw23_ HB⟩
       ·replace c21 := Bool.eq_false_iff.mpr c21
        subst c21
        have H1 : (laws_FnParenthesesMatch.l0 kj17 0 t387 t388) = some r := by rw [if_neg (show ¬ (false = true) by decide)] at H; exact H
        clear H
        have H := H1
        clear H1
        have H' := am23_ H
        clear H
        go_wp2
        go_loopg [10] kj17 (fun kq v10 w' => ∃ (x10_3 : Int), v10 = .int .i64 x10_3 ∧ Aside0 (laws_FnParenthesesMatch.l0 kq x10_3 t387 t388 = some r) ∧ Aside0 (kq ≤ kj17) ∧ Aside0 (Kd.R (Kd.int .i64) 3 w' w.heap.size (fun _ => True) (.slice Ao12 t388.length co12) t388) ∧ Aside0 (w'.heap[gb391]? = some (.cells #[.int .i64 t387, (.slice Ao12 t388.length co12)] 26 (0, 0))) ∧ Aside0 (Below w.heap.size w w'))
        case atStart => exact ⟨(0), (by first | rfl | (simp; done) | (simp [*]; done)), H', ⟨Nat.le_refl _⟩, ⟨lf23_ HO_392001⟩, ⟨lb23_ BK391⟩, ⟨lw23_ HB⟩⟩
        case round =>
         clear H'
         try clear c1
         try clear c2
         try clear p2
         try clear c4
         try clear c5
         try clear c12
         try clear c13
         try clear c14
         try clear c16
         try clear c16b0
         try clear c16b1
         try clear c16b2
         try clear c17
         try clear c19
         try clear c21
         try clear hcz11_0
         try clear hcz11_1
         try clear hcz14_0
         try clear hcz14_1
         try clear hcz20_0
         try clear hcz20_1
         try clear hfz11_0
         try clear hfz11_1
         try clear hfz14_0
         try clear hfz14_1
         try clear hfz20_0
         try clear hfz20_1
         try clear p2
         obtain ⟨x10_3, rfl, HA, HK3, HO_392001, BK391, HB⟩ := hrel
         cases gk with
         | zero => exact absurd HA.out (by simp [laws_FnParenthesesMatch.l0])
         | succ k3 =>
          have H := HA.out
          clear HA
          simp only [laws_FnParenthesesMatch.l0] at H
          by_cases c22 : x10_3 < t387
          ·rw [if_pos c22] at H
           have c22b0 : decide (x10_3 < t387) = true := decide_eq_true c22
           clear c22
           replace H := Option.bind_eq_some_iff.mp H
           obtain ⟨⟨t396, t397⟩, A230, H⟩ := H
           replace H : ((impl_BitAt.f k3 t387 t388 x10_3).bind fun bt398 => (if bt398.2 = true then (laws_FnParenthesesMatch.j3 k3 x10_3 t396 t397 (t397 != bt398.1) t387 t388) else (none))) = some r := H
           have A23 := am23_ A230
           clear A230
           replace H := Option.bind_eq_some_iff.mp H
           obtain ⟨⟨t398, t399⟩, A240, H⟩ := H
           replace H : (if t399 = true then (laws_FnParenthesesMatch.j3 k3 x10_3 t396 t397 (t397 != t398) t387 t388) else (none)) = some r := H
           have A24 := am23_ A240
           clear A240
           have HC25 := am23_ H
           clear H
           have hcz26_0 : wr.cell? ⟨gb391, 0, none⟩ = some (.int .i64 t387) := (blk_cell BK391.out 0).trans rfl
           have hcz26_1 : wr.cell? ⟨gb391, 1, none⟩ = some (.slice Ao12 t388.length co12) := (blk_cell BK391.out 1).trans rfl
           have hfz26_0 := blk_frozen BK391.out 0
           have hfz26_1 := blk_frozen BK391.out 1
           go_upto_region 15 with (first | ((with_reducible refine gate_callee (f := 15) rfl ?_); refine goesL_ (some 66) rfl rfl Try.func15 (by kernel_rfl) rfl #[.agg #[.int .i64 t387, .slice Ao12 t388.length co12], .int .i64 x10_3] rfl lm23_ ?_; (with_reducible refine (impl_CloseOf.calls k3 t387 _ _ t388 x10_3 t396 t397 _ ?side1 ?side2 A23.out).mono ?_); (case side1 => exact lc23_ (Kd.R_reads' HO_392001.out).2.2); (case side2 => exact (Kd.R_reads' HO_392001.out).2.1); rintro e w27 ⟨rfl, hb⟩; refine ⟨_, rfl, ?_⟩; have n0_ := am23_ (Kd.R_below (lf23_ HO_392001) hb); have n1_ := am23_ (blk_below (g := gb391) (o := .cells #[.int .i64 t387, .slice Ao12 t388.length co12] 26 (0, 0)) (lb23_ BK391) hb); have n2_ := am23_ (below_step (lw23_ HB) hb); clear HO_392001; clear BK391; clear HB; have HO_392001 := n0_; have BK391 := n1_; have HB := n2_; clear n0_ n1_ n2_; (try clear hb); (try clear hb2); (try clear hk); (try clear hi); have hcz28_0 : w27.cell? ⟨gb391, 0, none⟩ = some (.int .i64 t387) := (blk_cell BK391.out 0).trans rfl; have hcz28_1 : w27.cell? ⟨gb391, 1, none⟩ = some (.slice Ao12 t388.length co12) := (blk_cell BK391.out 1).trans rfl; have hfz28_0 := blk_frozen BK391.out 0; have hfz28_1 := blk_frozen BK391.out 1) | ((with_reducible refine gate_callee (f := 11) rfl ?_); refine goesL_ (some 72) rfl rfl Try.func11 (by kernel_rfl) rfl #[.agg #[.int .i64 t387, .slice Ao12 t388.length co12], .int .i64 x10_3] rfl lm23_ ?_; (with_reducible refine (impl_BitAt.calls k3 t387 _ _ t388 x10_3 t398 t399 _ ?side1 ?side2 A24.out).mono ?_); (case side1 => exact lc23_ (Kd.R_reads' HO_392001.out).2.2); (case side2 => exact (Kd.R_reads' HO_392001.out).2.1); rintro e w29 ⟨rfl, hb⟩; refine ⟨_, rfl, ?_⟩; have n0_ := am23_ (Kd.R_below (lf23_ HO_392001) hb); have n1_ := am23_ (blk_below (g := gb391) (o := .cells #[.int .i64 t387, .slice Ao12 t388.length co12] 26 (0, 0)) (lb23_ BK391) hb); have n2_ := am23_ (below_step (lw23_ HB) hb); clear HO_392001; clear BK391; clear HB; have HO_392001 := n0_; have BK391 := n1_; have HB := n2_; clear n0_ n1_ n2_; (try clear hb); (try clear hb2); (try clear hk); (try clear hi)))
           (try simp only [Act.put, List.setIfInBounds_toArray, List.set_cons_zero, List.set_cons_succ])
           go_cut [81] (fun v81 wc => ∃ (kq : Nat) (x81_24 : Bool), v81 = .bool x81_24 ∧ Aside0 (laws_FnParenthesesMatch.j3 kq x10_3 t396 t397 x81_24 t387 t388 = some r) ∧ Aside0 (kq ≤ k3) ∧ Aside0 (Kd.R (Kd.int .i64) 3 wc w.heap.size (fun _ => True) (.slice Ao12 t388.length co12) t388) ∧ Aside0 (wc.heap[gb391]? = some (.cells #[.int .i64 t387, (.slice Ao12 t388.length co12)] 26 (0, 0))) ∧ Aside0 (Below w.heap.size w wc))
           case first =>
            have H := HC25.out
            clear HC25
            by_cases c30 : t399 = true
            ·subst c30
             have H1 : (laws_FnParenthesesMatch.j3 k3 x10_3 t396 t397 (t397 != t398) t387 t388) = some r := by rw [if_pos rfl] at H; exact H
             clear H
             have H := H1
             clear H1
             have H' := am23_ H
             clear H
             go_wp2
             go_meet
             case rel => exact ⟨_, ((t397 != t398)), (by first | rfl | (simp; done) | (simp [*]; done)), H', ⟨by have := HJ7.out; have := HJ17.out; have := HK3.out; first | omega | exact Nat.le_refl _⟩, ⟨lf23_ HO_392001⟩, ⟨lb23_ BK391⟩, ⟨lw23_ HB⟩⟩
            ·replace c30 := Bool.eq_false_iff.mpr c30
             subst c30
             have H1 : (none) = some r := by rw [if_neg (show ¬ (false = true) by decide)] at H; exact H
             clear H
             have H := H1
             clear H1
             exact absurd H (by simp)
           case rest =>
            clear HC25
            try clear c1
            try clear c2
            try clear p2
            try clear c3
            try clear c4
            try clear c5
            try clear c11
            try clear c12
            try clear c13
            try clear c14
            try clear c15
            try clear c16
            try clear c16b0
            try clear c16b1
            try clear c16b2
            try clear c17
            try clear c19
            try clear c21
            try clear c22
            try clear c22b0
            try clear c30
            try clear hcz11_0
            try clear hcz11_1
            try clear hcz14_0
            try clear hcz14_1
            try clear hcz20_0
            try clear hcz20_1
            try clear hcz26_0
            try clear hcz26_1
            try clear hcz28_0
            try clear hcz28_1
            try clear hfz11_0
            try clear hfz11_1
            try clear hfz14_0
            try clear hfz14_1
            try clear hfz20_0
            try clear hfz20_1
            try clear hfz26_0
            try clear hfz26_1
            try clear hfz28_0
            try clear hfz28_1
            try clear p2
            obtain ⟨kq, x81_24, rfl, HA, HJ24, HO_392001, BK391, HB⟩ := hcut
            cases kq with
            | zero => exact absurd HA.out (by simp [laws_FnParenthesesMatch.j3])
            | succ kj24 =>
             have H := HA.out
             clear HA
             simp only [laws_FnParenthesesMatch.j3] at H
             by_cases c31 : x81_24 = true
             ·subst c31
              have H1 : (none) = some r := by rw [if_pos rfl] at H; exact H
              clear H
              have H := H1
              clear H1
              exact absurd H (by simp)
             ·replace c31 := Bool.eq_false_iff.mpr c31
              subst c31
              have H1 : (if t397 = true then ((impl_OpenOf.f kj24 t387 t388 t396).bind fun bt400 => ((impl_DepthOf.f kj24 t387 t388 x10_3).bind fun bt402 => ((impl_ExcessAt.f kj24 t387 t388 x10_3).bind fun bt404 => (if bt400.2 = true then (if bt402.2 = true then (if bt404.2 = true then (if bt400.1 = x10_3 then (if t396 ≤ x10_3 then (none) else (laws_FnParenthesesMatch.j4 kj24 x10_3 t396 bt402.1 (bt402.1 != bt404.1) t387 t388)) else (none)) else (none)) else (none)) else (none))))) else (laws_FnParenthesesMatch.l0 kj24 (wrap64 (x10_3 + 1)) t387 t388)) = some r := by rw [if_neg (show ¬ (false = true) by decide)] at H; exact H
              clear H
              have H := H1
              clear H1
              by_cases c32 : t397 = true
              ·subst c32
               have H1 : ((impl_OpenOf.f kj24 t387 t388 t396).bind fun bt400 => ((impl_DepthOf.f kj24 t387 t388 x10_3).bind fun bt402 => ((impl_ExcessAt.f kj24 t387 t388 x10_3).bind fun bt404 => (if bt400.2 = true then (if bt402.2 = true then (if bt404.2 = true then (if bt400.1 = x10_3 then (if t396 ≤ x10_3 then (none) else (laws_FnParenthesesMatch.j4 kj24 x10_3 t396 bt402.1 (bt402.1 != bt404.1) t387 t388)) else (none)) else (none)) else (none)) else (none))))) = some r := by rw [if_pos rfl] at H; exact H
               clear H
               have H := H1
               clear H1
               replace H := Option.bind_eq_some_iff.mp H
               obtain ⟨⟨t400, t401⟩, A330, H⟩ := H
               replace H : ((impl_DepthOf.f kj24 t387 t388 x10_3).bind fun bt402 => ((impl_ExcessAt.f kj24 t387 t388 x10_3).bind fun bt404 => (if t401 = true then (if bt402.2 = true then (if bt404.2 = true then (if t400 = x10_3 then (if t396 ≤ x10_3 then (none) else (laws_FnParenthesesMatch.j4 kj24 x10_3 t396 bt402.1 (bt402.1 != bt404.1) t387 t388)) else (none)) else (none)) else (none)) else (none)))) = some r := H
               have A33 := am23_ A330
               clear A330
               replace H := Option.bind_eq_some_iff.mp H
               obtain ⟨⟨t402, t403⟩, A340, H⟩ := H
               replace H : ((impl_ExcessAt.f kj24 t387 t388 x10_3).bind fun bt404 => (if t401 = true then (if t403 = true then (if bt404.2 = true then (if t400 = x10_3 then (if t396 ≤ x10_3 then (none) else (laws_FnParenthesesMatch.j4 kj24 x10_3 t396 t402 (t402 != bt404.1) t387 t388)) else (none)) else (none)) else (none)) else (none))) = some r := H
               have A34 := am23_ A340
               clear A340
               replace H := Option.bind_eq_some_iff.mp H
               obtain ⟨⟨t404, t405⟩, A350, H⟩ := H
               replace H : (if t401 = true then (if t403 = true then (if t405 = true then (if t400 = x10_3 then (if t396 ≤ x10_3 then (none) else (laws_FnParenthesesMatch.j4 kj24 x10_3 t396 t402 (t402 != t404) t387 t388)) else (none)) else (none)) else (none)) else (none)) = some r := H
               have A35 := am23_ A350
               clear A350
               have HC36 := am23_ H
               clear H
               have hcz37_0 : wc.cell? ⟨gb391, 0, none⟩ = some (.int .i64 t387) := (blk_cell BK391.out 0).trans rfl
               have hcz37_1 : wc.cell? ⟨gb391, 1, none⟩ = some (.slice Ao12 t388.length co12) := (blk_cell BK391.out 1).trans rfl
               have hfz37_0 := blk_frozen BK391.out 0
               have hfz37_1 := blk_frozen BK391.out 1
               go_upto_region 21 with (first | ((with_reducible refine gate_callee (f := 16) rfl ?_); refine goesL_ (some 87) rfl rfl Try.func16 (by kernel_rfl) rfl #[.agg #[.int .i64 t387, .slice Ao12 t388.length co12], .int .i64 t396] rfl lm23_ ?_; (with_reducible refine (impl_OpenOf.calls kj24 t387 _ _ t388 t396 t400 t401 _ ?side1 ?side2 A33.out).mono ?_); (case side1 => exact lc23_ (Kd.R_reads' HO_392001.out).2.2); (case side2 => exact (Kd.R_reads' HO_392001.out).2.1); rintro e w38 ⟨rfl, hb⟩; refine ⟨_, rfl, ?_⟩; have n0_ := am23_ (Kd.R_below (lf23_ HO_392001) hb); have n1_ := am23_ (blk_below (g := gb391) (o := .cells #[.int .i64 t387, .slice Ao12 t388.length co12] 26 (0, 0)) (lb23_ BK391) hb); have n2_ := am23_ (below_step (lw23_ HB) hb); clear HO_392001; clear BK391; clear HB; have HO_392001 := n0_; have BK391 := n1_; have HB := n2_; clear n0_ n1_ n2_; (try clear hb); (try clear hb2); (try clear hk); (try clear hi); have hcz39_0 : w38.cell? ⟨gb391, 0, none⟩ = some (.int .i64 t387) := (blk_cell BK391.out 0).trans rfl; have hcz39_1 : w38.cell? ⟨gb391, 1, none⟩ = some (.slice Ao12 t388.length co12) := (blk_cell BK391.out 1).trans rfl; have hfz39_0 := blk_frozen BK391.out 0; have hfz39_1 := blk_frozen BK391.out 1) | ((with_reducible refine gate_callee (f := 17) rfl ?_); refine goesL_ (some 93) rfl rfl Try.func17 (by kernel_rfl) rfl #[.agg #[.int .i64 t387, .slice Ao12 t388.length co12], .int .i64 x10_3] rfl lm23_ ?_; (with_reducible refine (impl_DepthOf.calls kj24 t387 _ _ t388 x10_3 t402 t403 _ ?side1 ?side2 A34.out).mono ?_); (case side1 => exact lc23_ (Kd.R_reads' HO_392001.out).2.2); (case side2 => exact (Kd.R_reads' HO_392001.out).2.1); rintro e w40 ⟨rfl, hb⟩; refine ⟨_, rfl, ?_⟩; have n0_ := am23_ (Kd.R_below (lf23_ HO_392001) hb); have n1_ := am23_ (blk_below (g := gb391) (o := .cells #[.int .i64 t387, .slice Ao12 t388.length co12] 26 (0, 0)) (lb23_ BK391) hb); have n2_ := am23_ (below_step (lw23_ HB) hb); clear HO_392001; clear BK391; clear HB; have HO_392001 := n0_; have BK391 := n1_; have HB := n2_; clear n0_ n1_ n2_; (try clear hb); (try clear hb2); (try clear hk); (try clear hi); have hcz41_0 : w40.cell? ⟨gb391, 0, none⟩ = some (.int .i64 t387) := (blk_cell BK391.out 0).trans rfl; have hcz41_1 : w40.cell? ⟨gb391, 1, none⟩ = some (.slice Ao12 t388.length co12) := (blk_cell BK391.out 1).trans rfl; have hfz41_0 := blk_frozen BK391.out 0; have hfz41_1 := blk_frozen BK391.out 1) | ((with_reducible refine gate_callee (f := 18) rfl ?_); refine goesL_ (some 99) rfl rfl Try.func18 (by kernel_rfl) rfl #[.agg #[.int .i64 t387, .slice Ao12 t388.length co12], .int .i64 x10_3] rfl lm23_ ?_; (with_reducible refine (impl_ExcessAt.calls kj24 t387 _ _ t388 x10_3 t404 t405 _ ?side1 ?side2 A35.out).mono ?_); (case side1 => exact lc23_ (Kd.R_reads' HO_392001.out).2.2); (case side2 => exact (Kd.R_reads' HO_392001.out).2.1); rintro e w42 ⟨rfl, hb⟩; refine ⟨_, rfl, ?_⟩; have n0_ := am23_ (Kd.R_below (lf23_ HO_392001) hb); have n1_ := am23_ (blk_below (g := gb391) (o := .cells #[.int .i64 t387, .slice Ao12 t388.length co12] 26 (0, 0)) (lb23_ BK391) hb); have n2_ := am23_ (below_step (lw23_ HB) hb); clear HO_392001; clear BK391; clear HB; have HO_392001 := n0_; have BK391 := n1_; have HB := n2_; clear n0_ n1_ n2_; (try clear hb); (try clear hb2); (try clear hk); (try clear hi)))
               (try simp only [Act.put, List.setIfInBounds_toArray, List.set_cons_zero, List.set_cons_succ])
               go_cut [126] (fun v126 wc => ∃ (kq : Nat) (x126_35 : Bool), v126 = .bool x126_35 ∧ Aside0 (laws_FnParenthesesMatch.j4 kq x10_3 t396 t402 x126_35 t387 t388 = some r) ∧ Aside0 (kq ≤ kj24) ∧ Aside0 (Kd.R (Kd.int .i64) 3 wc w.heap.size (fun _ => True) (.slice Ao12 t388.length co12) t388) ∧ Aside0 (wc.heap[gb391]? = some (.cells #[.int .i64 t387, (.slice Ao12 t388.length co12)] 26 (0, 0))) ∧ Aside0 (Below w.heap.size w wc))
               case first =>
                have H := HC36.out
                clear HC36
                by_cases c43 : t401 = true
                ·subst c43
                 have H1 : (if t403 = true then (if t405 = true then (if t400 = x10_3 then (if t396 ≤ x10_3 then (none) else (laws_FnParenthesesMatch.j4 kj24 x10_3 t396 t402 (t402 != t404) t387 t388)) else (none)) else (none)) else (none)) = some r := by rw [if_pos rfl] at H; exact H
                 clear H
                 have H := H1
                 clear H1
                 by_cases c44 : t403 = true
                 ·subst c44
                  have H1 : (if t405 = true then (if t400 = x10_3 then (if t396 ≤ x10_3 then (none) else (laws_FnParenthesesMatch.j4 kj24 x10_3 t396 t402 (t402 != t404) t387 t388)) else (none)) else (none)) = some r := by rw [if_pos rfl] at H; exact H
                  clear H
                  have H := H1
                  clear H1
                  by_cases c45 : t405 = true
                  ·subst c45
                   have H1 : (if t400 = x10_3 then (if t396 ≤ x10_3 then (none) else (laws_FnParenthesesMatch.j4 kj24 x10_3 t396 t402 (t402 != t404) t387 t388)) else (none)) = some r := by rw [if_pos rfl] at H; exact H
                   clear H
                   have H := H1
                   clear H1
                   by_cases c46 : t400 = x10_3
                   ·rw [if_pos c46] at H
                    have c46b0 : (t400 == x10_3) = true := beq_iff_eq.mpr c46
                    have c46b1 : (t400 != x10_3) = false := bne_eq_false_iff_eq.mpr c46
                    clear c46
                    (first | rw [c46b0] | (simp only [i64_w, i32_w]; rw [c46b0]) | skip)
                    by_cases c47 : t396 ≤ x10_3
                    ·rw [if_pos c47] at H
                     exact absurd H (by simp)
                    ·rw [if_neg c47] at H
                     have c47b0 : decide (t396 ≤ x10_3) = false := decide_eq_false c47
                     clear c47
                     have H' := am23_ H
                     clear H
                     go_wp2
                     go_meet
                     case rel => exact ⟨_, ((t402 != t404)), (by first | rfl | (simp; done) | (simp [*]; done)), H', ⟨by have := HJ7.out; have := HJ17.out; have := HK3.out; have := HJ24.out; first | omega | exact Nat.le_refl _⟩, ⟨lf23_ HO_392001⟩, ⟨lb23_ BK391⟩, ⟨lw23_ HB⟩⟩
                   ·rw [if_neg c46] at H
                    exact absurd H (by simp)
                  ·replace c45 := Bool.eq_false_iff.mpr c45
                   subst c45
                   have H1 : (none) = some r := by rw [if_neg (show ¬ (false = true) by decide)] at H; exact H
                   clear H
                   have H := H1
                   clear H1
                   exact absurd H (by simp)
                 ·replace c44 := Bool.eq_false_iff.mpr c44
                  subst c44
                  have H1 : (none) = some r := by rw [if_neg (show ¬ (false = true) by decide)] at H; exact H
                  clear H
                  have H := H1
                  clear H1
                  exact absurd H (by simp)
                ·replace c43 := Bool.eq_false_iff.mpr c43
                 subst c43
                 have H1 : (none) = some r := by rw [if_neg (show ¬ (false = true) by decide)] at H; exact H
                 clear H
                 have H := H1
                 clear H1
                 exact absurd H (by simp)
               case rest =>
                clear HC36
                try clear c1
                try clear c2
                try clear p2
                try clear c3
                try clear c4
                try clear c5
                try clear p6
                try clear c11
                try clear c12
                try clear c13
                try clear c14
                try clear c15
                try clear c16
                try clear c16b0
                try clear c16b1
                try clear c16b2
                try clear c17
                try clear c18
                try clear c19
                try clear c21
                try clear c22
                try clear c22b0
                try clear c30
                try clear c31
                try clear c32
                try clear c43
                try clear c44
                try clear c45
                try clear c46
                try clear c46b0
                try clear c46b1
                try clear c47
                try clear c47b0
                try clear hcz11_0
                try clear hcz11_1
                try clear hcz14_0
                try clear hcz14_1
                try clear hcz20_0
                try clear hcz20_1
                try clear hcz26_0
                try clear hcz26_1
                try clear hcz28_0
                try clear hcz28_1
                try clear hcz37_0
                try clear hcz37_1
                try clear hcz39_0
                try clear hcz39_1
                try clear hcz41_0
                try clear hcz41_1
                try clear hfz11_0
                try clear hfz11_1
                try clear hfz14_0
                try clear hfz14_1
                try clear hfz20_0
                try clear hfz20_1
                try clear hfz26_0
                try clear hfz26_1
                try clear hfz28_0
                try clear hfz28_1
                try clear hfz37_0
                try clear hfz37_1
                try clear hfz39_0
                try clear hfz39_1
                try clear hfz41_0
                try clear hfz41_1
                try clear p2
                obtain ⟨kq, x126_35, rfl, HA, HJ35, HO_392001, BK391, HB⟩ := hcut
                cases kq with
                | zero => exact absurd HA.out (by simp [laws_FnParenthesesMatch.j4])
                | succ kj35 =>
                 have H := HA.out
                 clear HA
                 simp only [laws_FnParenthesesMatch.j4] at H
                 by_cases c48 : x126_35 = true
                 ·subst c48
                  have H1 : (none) = some r := by rw [if_pos rfl] at H; exact H
                  clear H
                  have H := H1
                  clear H1
                  exact absurd H (by simp)
                 ·replace c48 := Bool.eq_false_iff.mpr c48
                  subst c48
                  have H1 : ((impl_EnclosingOf.f kj35 t387 t388 x10_3).bind fun bt406 => (if (bt406.2 != (decide (t402 > 0))) = true then (none) else (if bt406.2 = true then ((impl_CloseOf.f kj35 t387 t388 bt406.1).bind fun bt408 => ((impl_DepthOf.f kj35 t387 t388 bt406.1).bind fun bt410 => (if bt408.2 = true then (if bt410.2 = true then (if bt406.1 ≥ x10_3 then (none) else (if bt408.1 ≤ t396 then (none) else (if bt410.1 = (wrap64 (t402 - 1)) then (laws_FnParenthesesMatch.l0 kj35 (wrap64 (x10_3 + 1)) t387 t388) else (none)))) else (none)) else (none)))) else (laws_FnParenthesesMatch.l0 kj35 (wrap64 (x10_3 + 1)) t387 t388)))) = some r := by rw [if_neg (show ¬ (false = true) by decide)] at H; exact H
                  clear H
                  have H := H1
                  clear H1
                  replace H := Option.bind_eq_some_iff.mp H
                  obtain ⟨⟨t406, t407⟩, A490, H⟩ := H
                  replace H : (if (t407 != (decide (t402 > 0))) = true then (none) else (if t407 = true then ((impl_CloseOf.f kj35 t387 t388 t406).bind fun bt408 => ((impl_DepthOf.f kj35 t387 t388 t406).bind fun bt410 => (if bt408.2 = true then (if bt410.2 = true then (if t406 ≥ x10_3 then (none) else (if bt408.1 ≤ t396 then (none) else (if bt410.1 = (wrap64 (t402 - 1)) then (laws_FnParenthesesMatch.l0 kj35 (wrap64 (x10_3 + 1)) t387 t388) else (none)))) else (none)) else (none)))) else (laws_FnParenthesesMatch.l0 kj35 (wrap64 (x10_3 + 1)) t387 t388))) = some r := H
                  have A49 := am23_ A490
                  clear A490
                  by_cases c50 : (t407 != (decide (t402 > 0))) = true
                  ·rw [if_pos c50] at H
                   exact absurd H (by simp)
                  ·rw [if_neg c50] at H
                   have c50b0 : (t407 != (decide (t402 > 0))) = false := by simpa using c50
                   (try (have c50b1 : decide (t407 = (decide (t402 > 0))) = true := by simpa using c50))
                   (try (have c50b2 : (t407 == (decide (t402 > 0))) = true := by simpa using c50))
                   clear c50
                   by_cases c51 : t407 = true
                   ·subst c51
                    have H1 : ((impl_CloseOf.f kj35 t387 t388 t406).bind fun bt408 => ((impl_DepthOf.f kj35 t387 t388 t406).bind fun bt410 => (if bt408.2 = true then (if bt410.2 = true then (if t406 ≥ x10_3 then (none) else (if bt408.1 ≤ t396 then (none) else (if bt410.1 = (wrap64 (t402 - 1)) then (laws_FnParenthesesMatch.l0 kj35 (wrap64 (x10_3 + 1)) t387 t388) else (none)))) else (none)) else (none)))) = some r := by rw [if_pos rfl] at H; exact H
                    clear H
                    have H := H1
                    clear H1
                    replace H := Option.bind_eq_some_iff.mp H
                    obtain ⟨⟨t408, t409⟩, A520, H⟩ := H
                    replace H : ((impl_DepthOf.f kj35 t387 t388 t406).bind fun bt410 => (if t409 = true then (if bt410.2 = true then (if t406 ≥ x10_3 then (none) else (if t408 ≤ t396 then (none) else (if bt410.1 = (wrap64 (t402 - 1)) then (laws_FnParenthesesMatch.l0 kj35 (wrap64 (x10_3 + 1)) t387 t388) else (none)))) else (none)) else (none))) = some r := H
                    have A52 := am23_ A520
                    clear A520
                    replace H := Option.bind_eq_some_iff.mp H
                    obtain ⟨⟨t410, t411⟩, A530, H⟩ := H
                    replace H : (if t409 = true then (if t411 = true then (if t406 ≥ x10_3 then (none) else (if t408 ≤ t396 then (none) else (if t410 = (wrap64 (t402 - 1)) then (laws_FnParenthesesMatch.l0 kj35 (wrap64 (x10_3 + 1)) t387 t388) else (none)))) else (none)) else (none)) = some r := H
                    have A53 := am23_ A530
                    clear A530
                    by_cases c54 : t409 = true
                    ·subst c54
                     have H1 : (if t411 = true then (if t406 ≥ x10_3 then (none) else (if t408 ≤ t396 then (none) else (if t410 = (wrap64 (t402 - 1)) then (laws_FnParenthesesMatch.l0 kj35 (wrap64 (x10_3 + 1)) t387 t388) else (none)))) else (none)) = some r := by rw [if_pos rfl] at H; exact H
                     clear H
                     have H := H1
                     clear H1
                     by_cases c55 : t411 = true
                     ·subst c55
                      have H1 : (if t406 ≥ x10_3 then (none) else (if t408 ≤ t396 then (none) else (if t410 = (wrap64 (t402 - 1)) then (laws_FnParenthesesMatch.l0 kj35 (wrap64 (x10_3 + 1)) t387 t388) else (none)))) = some r := by rw [if_pos rfl] at H; exact H
                      clear H
                      have H := H1
                      clear H1
                      by_cases c56 : t406 ≥ x10_3
                      ·rw [if_pos c56] at H
                       exact absurd H (by simp)
                      ·rw [if_neg c56] at H
                       have c56b0 : decide (x10_3 ≤ t406) = false := decide_eq_false c56
                       clear c56
                       by_cases c57 : t408 ≤ t396
                       ·rw [if_pos c57] at H
                        exact absurd H (by simp)
                       ·rw [if_neg c57] at H
                        have c57b0 : decide (t408 ≤ t396) = false := decide_eq_false c57
                        clear c57
                        by_cases c58 : t410 = (wrap64 (t402 - 1))
                        ·rw [if_pos c58] at H
                         have c58b0 : (t410 == (wrap64 (t402 - 1))) = true := beq_iff_eq.mpr c58
                         have c58b1 : (t410 != (wrap64 (t402 - 1))) = false := bne_eq_false_iff_eq.mpr c58
                         clear c58
                         have H' := am23_ H
                         clear H
                         have hcz59_0 : wc.cell? ⟨gb391, 0, none⟩ = some (.int .i64 t387) := (blk_cell BK391.out 0).trans rfl
                         have hcz59_1 : wc.cell? ⟨gb391, 1, none⟩ = some (.slice Ao12 t388.length co12) := (blk_cell BK391.out 1).trans rfl
                         have hfz59_0 := blk_frozen BK391.out 0
                         have hfz59_1 := blk_frozen BK391.out 1
                         go_wp2_with (first | ((with_reducible refine gate_callee (f := 19) rfl ?_); refine goesL_ (some 130) rfl rfl Try.func19 (by kernel_rfl) rfl #[.agg #[.int .i64 t387, .slice Ao12 t388.length co12], .int .i64 x10_3] rfl lm23_ ?_; (with_reducible refine (impl_EnclosingOf.calls kj35 t387 _ _ t388 x10_3 t406 true _ ?side1 ?side2 A49.out).mono ?_); (case side1 => exact lc23_ (Kd.R_reads' HO_392001.out).2.2); (case side2 => exact (Kd.R_reads' HO_392001.out).2.1); rintro e w60 ⟨rfl, hb⟩; refine ⟨_, rfl, ?_⟩; have n0_ := am23_ (Kd.R_below (lf23_ HO_392001) hb); have n1_ := am23_ (blk_below (g := gb391) (o := .cells #[.int .i64 t387, .slice Ao12 t388.length co12] 26 (0, 0)) (lb23_ BK391) hb); have n2_ := am23_ (below_step (lw23_ HB) hb); clear HO_392001; clear BK391; clear HB; have HO_392001 := n0_; have BK391 := n1_; have HB := n2_; clear n0_ n1_ n2_; (try clear hb); (try clear hb2); (try clear hk); (try clear hi); have hcz61_0 : w60.cell? ⟨gb391, 0, none⟩ = some (.int .i64 t387) := (blk_cell BK391.out 0).trans rfl; have hcz61_1 : w60.cell? ⟨gb391, 1, none⟩ = some (.slice Ao12 t388.length co12) := (blk_cell BK391.out 1).trans rfl; have hfz61_0 := blk_frozen BK391.out 0; have hfz61_1 := blk_frozen BK391.out 1) | ((with_reducible refine gate_callee (f := 15) rfl ?_); refine goesL_ (some 142) rfl rfl Try.func15 (by kernel_rfl) rfl #[.agg #[.int .i64 t387, .slice Ao12 t388.length co12], .int .i64 t406] rfl lm23_ ?_; (with_reducible refine (impl_CloseOf.calls kj35 t387 _ _ t388 t406 t408 true _ ?side1 ?side2 A52.out).mono ?_); (case side1 => exact lc23_ (Kd.R_reads' HO_392001.out).2.2); (case side2 => exact (Kd.R_reads' HO_392001.out).2.1); rintro e w62 ⟨rfl, hb⟩; refine ⟨_, rfl, ?_⟩; have n0_ := am23_ (Kd.R_below (lf23_ HO_392001) hb); have n1_ := am23_ (blk_below (g := gb391) (o := .cells #[.int .i64 t387, .slice Ao12 t388.length co12] 26 (0, 0)) (lb23_ BK391) hb); have n2_ := am23_ (below_step (lw23_ HB) hb); clear HO_392001; clear BK391; clear HB; have HO_392001 := n0_; have BK391 := n1_; have HB := n2_; clear n0_ n1_ n2_; (try clear hb); (try clear hb2); (try clear hk); (try clear hi); have hcz63_0 : w62.cell? ⟨gb391, 0, none⟩ = some (.int .i64 t387) := (blk_cell BK391.out 0).trans rfl; have hcz63_1 : w62.cell? ⟨gb391, 1, none⟩ = some (.slice Ao12 t388.length co12) := (blk_cell BK391.out 1).trans rfl; have hfz63_0 := blk_frozen BK391.out 0; have hfz63_1 := blk_frozen BK391.out 1) | ((with_reducible refine gate_callee (f := 17) rfl ?_); refine goesL_ (some 148) rfl rfl Try.func17 (by kernel_rfl) rfl #[.agg #[.int .i64 t387, .slice Ao12 t388.length co12], .int .i64 t406] rfl lm23_ ?_; (with_reducible refine (impl_DepthOf.calls kj35 t387 _ _ t388 t406 t410 true _ ?side1 ?side2 A53.out).mono ?_); (case side1 => exact lc23_ (Kd.R_reads' HO_392001.out).2.2); (case side2 => exact (Kd.R_reads' HO_392001.out).2.1); rintro e w64 ⟨rfl, hb⟩; refine ⟨_, rfl, ?_⟩; have n0_ := am23_ (Kd.R_below (lf23_ HO_392001) hb); have n1_ := am23_ (blk_below (g := gb391) (o := .cells #[.int .i64 t387, .slice Ao12 t388.length co12] 26 (0, 0)) (lb23_ BK391) hb); have n2_ := am23_ (below_step (lw23_ HB) hb); clear HO_392001; clear BK391; clear HB; have HO_392001 := n0_; have BK391 := n1_; have HB := n2_; clear n0_ n1_ n2_; (try clear hb); (try clear hb2); (try clear hk); (try clear hi)))
                         go_roundg kj35
                         case measure => have := HJ7.out; have := HJ17.out; have := HK3.out; have := HJ24.out; have := HJ35.out; omega
                         case rel => exact ⟨(wrap64 (x10_3 + 1)), (by first | rfl | (simp; done) | (simp [*]; done)), H', ⟨by have := HJ7.out; have := HJ17.out; have := HK3.out; have := HJ24.out; have := HJ35.out; omega⟩, ⟨lf23_ HO_392001⟩, ⟨lb23_ BK391⟩, ⟨lw23_ HB⟩⟩
                        ·rw [if_neg c58] at H
                         exact absurd H (by simp)
                     ·replace c55 := Bool.eq_false_iff.mpr c55
                      subst c55
                      have H1 : (none) = some r := by rw [if_neg (show ¬ (false = true) by decide)] at H; exact H
                      clear H
                      have H := H1
                      clear H1
                      exact absurd H (by simp)
                    ·replace c54 := Bool.eq_false_iff.mpr c54
                     subst c54
                     have H1 : (none) = some r := by rw [if_neg (show ¬ (false = true) by decide)] at H; exact H
                     clear H
                     have H := H1
                     clear H1
                     exact absurd H (by simp)
                   ·replace c51 := Bool.eq_false_iff.mpr c51
                    subst c51
                    have H1 : (laws_FnParenthesesMatch.l0 kj35 (wrap64 (x10_3 + 1)) t387 t388) = some r := by rw [if_neg (show ¬ (false = true) by decide)] at H; exact H
                    clear H
                    have H := H1
                    clear H1
                    have H' := am23_ H
                    clear H
                    have hcz65_0 : wc.cell? ⟨gb391, 0, none⟩ = some (.int .i64 t387) := (blk_cell BK391.out 0).trans rfl
                    have hcz65_1 : wc.cell? ⟨gb391, 1, none⟩ = some (.slice Ao12 t388.length co12) := (blk_cell BK391.out 1).trans rfl
                    have hfz65_0 := blk_frozen BK391.out 0
                    have hfz65_1 := blk_frozen BK391.out 1
                    go_wp2_with (first | ((with_reducible refine gate_callee (f := 19) rfl ?_); refine goesL_ (some 130) rfl rfl Try.func19 (by kernel_rfl) rfl #[.agg #[.int .i64 t387, .slice Ao12 t388.length co12], .int .i64 x10_3] rfl lm23_ ?_; (with_reducible refine (impl_EnclosingOf.calls kj35 t387 _ _ t388 x10_3 t406 false _ ?side1 ?side2 A49.out).mono ?_); (case side1 => exact lc23_ (Kd.R_reads' HO_392001.out).2.2); (case side2 => exact (Kd.R_reads' HO_392001.out).2.1); rintro e w66 ⟨rfl, hb⟩; refine ⟨_, rfl, ?_⟩; have n0_ := am23_ (Kd.R_below (lf23_ HO_392001) hb); have n1_ := am23_ (blk_below (g := gb391) (o := .cells #[.int .i64 t387, .slice Ao12 t388.length co12] 26 (0, 0)) (lb23_ BK391) hb); have n2_ := am23_ (below_step (lw23_ HB) hb); clear HO_392001; clear BK391; clear HB; have HO_392001 := n0_; have BK391 := n1_; have HB := n2_; clear n0_ n1_ n2_; (try clear hb); (try clear hb2); (try clear hk); (try clear hi)))
                    go_roundg kj35
                    case measure => have := HJ7.out; have := HJ17.out; have := HK3.out; have := HJ24.out; have := HJ35.out; omega
                    case rel => exact ⟨(wrap64 (x10_3 + 1)), (by first | rfl | (simp; done) | (simp [*]; done)), H', ⟨by have := HJ7.out; have := HJ17.out; have := HK3.out; have := HJ24.out; have := HJ35.out; omega⟩, ⟨lf23_ HO_392001⟩, ⟨lb23_ BK391⟩, ⟨lw23_ HB⟩⟩
              ·replace c32 := Bool.eq_false_iff.mpr c32
               subst c32
               have H1 : (laws_FnParenthesesMatch.l0 kj24 (wrap64 (x10_3 + 1)) t387 t388) = some r := by rw [if_neg (show ¬ (false = true) by decide)] at H; exact H
               clear H
               have H := H1
               clear H1
               have H' := am23_ H
               clear H
               go_wp2
               go_roundg kj24
               case measure => have := HJ7.out; have := HJ17.out; have := HK3.out; have := HJ24.out; omega
               case rel => exact ⟨(wrap64 (x10_3 + 1)), (by first | rfl | (simp; done) | (simp [*]; done)), H', ⟨by have := HJ7.out; have := HJ17.out; have := HK3.out; have := HJ24.out; omega⟩, ⟨lf23_ HO_392001⟩, ⟨lb23_ BK391⟩, ⟨lw23_ HB⟩⟩
          ·rw [if_neg c22] at H
           have c22b0 : decide (x10_3 < t387) = false := decide_eq_false c22
           clear c22
           obtain rfl := Option.some.inj H
           have hcz67_0 : wr.cell? ⟨gb391, 0, none⟩ = some (.int .i64 t387) := (blk_cell BK391.out 0).trans rfl
           have hcz67_1 : wr.cell? ⟨gb391, 1, none⟩ = some (.slice Ao12 t388.length co12) := (blk_cell BK391.out 1).trans rfl
           have hfz67_0 := blk_frozen BK391.out 0
           have hfz67_1 := blk_frozen BK391.out 1
           go_wp2
           go_ret
           exact ⟨by first | rfl | (simp [errW_none, errW_some] <;> rfl) | (simp [*, errW_none, errW_some] <;> rfl), lw23_ HB⟩

/-- THE ONE PURE STATEMENT of laws_FnParenthesesMatch: yours. -/
def laws_FnParenthesesMatch.Pure : Prop := ∀ (l0 : List Int) (l1 : List Int), l0.length ≤ maxLen → l0.length * 1 ≤ 140737488351232 → (∀ x ∈ l0, (Lit.int .u8 x).wf = true) → l1.length ≤ maxLen → l1.length * 1 ≤ 140737488351232 → (∀ x ∈ l1, (Lit.int .u8 x).wf = true) → ∃ k, laws_FnParenthesesMatch.f k l0 l1 = some true
theorem laws_FnParenthesesMatch.walk (P : laws_FnParenthesesMatch.Pure) (a0 : Option Addr) (len0 cap0 : Nat) (z0 : List Int) (a1 : Option Addr) (len1 cap1 : Nat) (z1 : List Int) (w : World) (w0 : (a0 = none ∧ len0 = 0 ∧ cap0 = 0 ∧ z0 = []) ∨ ∃ x, a0 = some x ∧ len0 ≤ cap0 ∧ cap0 ≤ maxLen ∧ z0.length = cap0 ∧ (∀ i, i < z0.length → w.cell? (x.add i) = some (.int .u8 (z0.getD i 0))) ∧ ∀ n ∈ z0, (Lit.int .u8 n).wf = true) (y0 : len0 * 1 ≤ 140737488351232) (w1 : (a1 = none ∧ len1 = 0 ∧ cap1 = 0 ∧ z1 = []) ∨ ∃ x, a1 = some x ∧ len1 ≤ cap1 ∧ cap1 ≤ maxLen ∧ z1.length = cap1 ∧ (∀ i, i < z1.length → w.cell? (x.add i) = some (.int .u8 (z1.getD i 0))) ∧ ∀ n ∈ z1, (Lit.int .u8 n).wf = true) (y1 : len1 * 1 ≤ 140737488351232) :
  Calls Try.prog 4 #[.slice a0 len0 cap0, .slice a1 len1 cap1] w fun e w' => e = .returned (.bool true) ∧ Below w.heap.size w w' := by
 obtain ⟨l0, rfl, hr0, hm0, hw0, hc0⟩ := ReadsInt.ofRowC w0
 obtain ⟨l1, rfl, hr1, hm1, hw1, hc1⟩ := ReadsInt.ofRowC w1
 obtain ⟨k, h⟩ := P l0 l1 hm0 y0 hw0 hm1 y1 hw1
 refine (laws_FnParenthesesMatch.calls k _ _ l0 _ _ l1 true w (Kd.C_of_reads (d := (0 : Int)) (h1 := fun _ => rfl) hr0) hc0 (Kd.C_of_reads (d := (0 : Int)) (h1 := fun _ => rfl) hr1) hc1 h).mono ?_
 rintro e w' ⟨rfl, hd⟩
 exact ⟨rfl, hd⟩

end Go.Proofs.Ytblpgdeepdmlpaa.PFnParenthesesMatch
