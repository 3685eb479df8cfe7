-- Laid by a program of this session: the print of the kit with additions of ours (wip/tools/patchprint.py). Nothing of it is trusted: Lean checks it.
import Derived.Test.YtpidlhpjcjaojaaPFnRankUndoesSelectx0
import Derived.Test.YtpidlhpjcjaojaaPFnRankUndoesSelectx2
import Derived.Test.YtpidlhpjcjaojaaPFnRankUndoesSelectx4
import Derived.Test.YtpidlhpjcjaojaaPFnRankUndoesSelectx5
import Derived.Test.YtpidlhpjcjaojaaPFnRankUndoesSelectx8
namespace Go.Proofs.Ytpidlhpjcjaojaa.PFnRankUndoesSelect
open Go.RowKit Go.Proofs.YtpidlhpjcjaojaaW.PrintWords Go.Proofs.YtpidlhpjcjaojaaW.PrintLast Go.Proofs.YtpidlhpjcjaojaaW.PrintMore
attribute [local go_sem] max2_int min2_int max_two min_two max_three min_three max_four min_four   -- for this text's walks alone
set_option linter.unusedVariables false
set_option linter.unusedSimpArgs false

theorem am23_ {p : Prop} (h : p) : Aside0 p := ⟨h⟩
theorem lm23_ {P : Prop} (h : P := by (try simp only [List.map_toArray, List.map_cons, List.map_nil]); first | done | rfl | (simp only [List.length_drop, List.length_take]; rfl)) : P := h
theorem lc23_ {P Q : Prop} (h : P) (f : P → Q := by intro h_; repeat (first | exact h_ | (with_reducible refine Kd.C_alloc ?_ _) | (with_reducible refine Kd.C_drewN ?_ _) | (with_reducible refine Kd.C_drew ?_))) : Q := f h
theorem lt23_ {P Q : Prop} (h : P) (f : P → Q := by intro h_; (with_reducible repeat (first | apply Kd.R_alloc | apply Kd.R_drewN | apply Kd.R_drew)); exact h_) : Q := f h
theorem lf23_ {P Q : Prop} (h : Aside0 P) (f : P → Q := by intro h_; (with_reducible repeat (first | apply Kd.R_alloc | apply Kd.R_drewN | apply Kd.R_drew)); exact h_) : Q := f h.out
theorem lb23_ {P Q : Prop} (h : Aside0 P) (f : P → Q := by intro h_; (with_reducible repeat (first | refine blk_drewN ?_ _ | refine blk_drew ?_ | refine blk_alloc ?_ _)); exact h_) : Q := f h.out
theorem lw23_ {P Q : Prop} (h : Aside0 P) (f : P → Q := by intro h_; repeat (first | (with_reducible first | exact h_ | apply below_alloc | apply pw_below_drewN | apply below_drew1 | refine below_set ?_ (Aside0.out (by assumption))) | exact h_)) : Q := f h.out
/-! ### laws_FnRankUndoesSelect: function 14 -/
mutual
def laws_FnRankUndoesSelect.j0 : Nat → Bool → Bool → Int → List Int → Int → List Int → List Int → List Int → Option (Bool)
 | 0, _, _, _, _, _, _, _, _ => none
 | k + 1, x9, x48, x358000, x358001, x370000, x370001, x370002, x370003 => if x48 = true then (none) else (if x9 = true then (laws_FnRankUndoesSelect.j1 k (decide (x358000 > 400)) x358000 x358001 x370000 x370001 x370002 x370003) else (laws_FnRankUndoesSelect.j1 k true x358000 x358001 x370000 x370001 x370002 x370003))
def laws_FnRankUndoesSelect.j1 : Nat → Bool → Int → List Int → Int → List Int → List Int → List Int → Option (Bool)
 | 0, _, _, _, _, _, _, _ => none
 | k + 1, x55, x358000, x358001, x370000, x370001, x370002, x370003 => if x55 = true then (some true) else (laws_FnRankUndoesSelect.l0 k 0 x358000 x358001 x370000 x370001 x370002 x370003)
def laws_FnRankUndoesSelect.l0 : Nat → Int → Int → List Int → Int → List Int → List Int → List Int → Option (Bool)
 | 0, _, _, _, _, _, _, _ => none
 | k + 1, x10, x358000, x358001, x370000, x370001, x370002, x370003 => if x10 < x358000 then ((impl_BitAt.f k x358000 x358001 x10).bind fun bt389 => ((impl_Rank1.f k x370000 x370001 x370002 x370003 x10).bind fun bt391 => ((impl_Rank0.f k x370000 x370001 x370002 x370003 x10).bind fun bt393 => (if bt389.2 = true then (if bt391.2 = true then (if bt393.2 = true then (laws_FnRankUndoesSelect.j3 k x10 bt389.1 bt391.1 bt393.1 ((wrap64 (bt391.1 + bt393.1)) != x10) x358000 x358001 x370000 x370001 x370002 x370003) else (none)) else (none)) else (none))))) else ((impl_OnesOf.f k x370000 x370001 x370002 x370003).bind fun bt383 => ((impl_Select1.f k x370000 x370001 x370002 x370003 bt383.1).bind fun bt385 => ((impl_Select0.f k x370000 x370001 x370002 x370003 (wrap64 (x358000 - bt383.1))).bind fun bt387 => (if bt383.2 = true then (if bt385.2 = true then (none) else (some (!bt387.2))) else (none)))))
def laws_FnRankUndoesSelect.j3 : Nat → Int → Bool → Int → Int → Bool → Int → List Int → Int → List Int → List Int → List Int → Option (Bool)
 | 0, _, _, _, _, _, _, _, _, _, _, _ => none
 | k + 1, x10, x11, x13, x15, x96, x358000, x358001, x370000, x370001, x370002, x370003 => if x96 = true then (none) else ((impl_Select1.f k x370000 x370001 x370002 x370003 x13).bind fun bt395 => (if x11 = true then (if bt395.2 = true then (if bt395.1 = x10 then (laws_FnRankUndoesSelect.l0 k (wrap64 (x10 + 1)) x358000 x358001 x370000 x370001 x370002 x370003) else (none)) else (none)) else ((impl_Select0.f k x370000 x370001 x370002 x370003 x15).bind fun bt397 => (if bt397.2 = true then (if bt397.1 = x10 then (laws_FnRankUndoesSelect.l0 k (wrap64 (x10 + 1)) x358000 x358001 x370000 x370001 x370002 x370003) else (none)) else (none)))))
end
def laws_FnRankUndoesSelect.f (k : Nat) (l0 : List Int) (l1 : List Int) : Option (Bool) := (laws_big.f l0 l1).bind fun t352 => (if t352 = true then (some true) else ((spec_DrawBuildRanked.f k l0).bind fun bt353 => ((impl_BuildRanked.f k bt353.1 bt353.2).bind fun bt358 => ((spec_BuildRanked.f k bt353.1 bt353.2).bind fun bt370 => (if (bt358.2.2.2.2 != bt370.2.2.2.2) = true then (none) else ((laws_pSameRanked.f k bt358.1 bt358.2.1 bt358.2.2.1 bt358.2.2.2.1 bt370.1 bt370.2.1 bt370.2.2.1 bt370.2.2.2.1).bind fun t382 => (laws_FnRankUndoesSelect.j0 k bt370.2.2.2.2 (!t382) bt353.1 bt353.2 bt358.1 bt358.2.1 bt358.2.2.1 bt358.2.2.2.1)))))))
theorem laws_FnRankUndoesSelect.mono_l : ∀ k, (∀ y0 y1 y2 y3 y4 y5 y6 y7, LeO (laws_FnRankUndoesSelect.j0 k y0 y1 y2 y3 y4 y5 y6 y7) (laws_FnRankUndoesSelect.j0 (k + 1) y0 y1 y2 y3 y4 y5 y6 y7)) ∧ (∀ y0 y1 y2 y3 y4 y5 y6, LeO (laws_FnRankUndoesSelect.j1 k y0 y1 y2 y3 y4 y5 y6) (laws_FnRankUndoesSelect.j1 (k + 1) y0 y1 y2 y3 y4 y5 y6)) ∧ (∀ y0 y1 y2 y3 y4 y5 y6, LeO (laws_FnRankUndoesSelect.l0 k y0 y1 y2 y3 y4 y5 y6) (laws_FnRankUndoesSelect.l0 (k + 1) y0 y1 y2 y3 y4 y5 y6)) ∧ (∀ y0 y1 y2 y3 y4 y5 y6 y7 y8 y9 y10, LeO (laws_FnRankUndoesSelect.j3 k y0 y1 y2 y3 y4 y5 y6 y7 y8 y9 y10) (laws_FnRankUndoesSelect.j3 (k + 1) y0 y1 y2 y3 y4 y5 y6 y7 y8 y9 y10))
 | 0 => ⟨fun _ _ _ _ _ _ _ _ r h => by simp [laws_FnRankUndoesSelect.j0] at h, fun _ _ _ _ _ _ _ r h => by simp [laws_FnRankUndoesSelect.j1] at h, fun _ _ _ _ _ _ _ r h => by simp [laws_FnRankUndoesSelect.l0] at h, fun _ _ _ _ _ _ _ _ _ _ _ r h => by simp [laws_FnRankUndoesSelect.j3] at h⟩
 | k + 1 => by
  obtain ⟨ih0, ih1, ih2, ih3⟩ := laws_FnRankUndoesSelect.mono_l k
  refine ⟨?_, ?_, ?_, ?_⟩
  ·intro y0 y1 y2 y3 y4 y5 y6 y7
   unfold laws_FnRankUndoesSelect.j0
   repeat' first
   | (with_reducible exact ih0 _ _ _ _ _ _ _ _)
   | (with_reducible exact ih1 _ _ _ _ _ _ _)
   | (with_reducible exact ih2 _ _ _ _ _ _ _)
   | (with_reducible exact ih3 _ _ _ _ _ _ _ _ _ _ _)
   | (with_reducible exact impl_BitAt.mono _ _ _ _)
   | (with_reducible exact impl_BuildRanked.mono _ _ _)
   | (with_reducible exact impl_OnesOf.mono _ _ _ _ _)
   | (with_reducible exact impl_Rank0.mono _ _ _ _ _ _)
   | (with_reducible exact impl_Rank1.mono _ _ _ _ _ _)
   | (with_reducible exact impl_Select0.mono _ _ _ _ _ _)
   | (with_reducible exact impl_Select1.mono _ _ _ _ _ _)
   | (with_reducible exact laws_pSameRanked.mono _ _ _ _ _ _ _ _ _)
   | (with_reducible exact spec_BuildRanked.mono _ _ _)
   | (with_reducible exact spec_DrawBuildRanked.mono _ _)
   | (with_reducible exact LeO.refl _)
   | (with_reducible exact LeO.none _)
   | (with_reducible refine LeO.ite ?_ ?_)
   | (with_reducible refine LeO.bind ?_ (fun _ => ?_))
   | exact ih0 _ _ _ _ _ _ _ _
   | exact ih1 _ _ _ _ _ _ _
   | exact ih2 _ _ _ _ _ _ _
   | exact ih3 _ _ _ _ _ _ _ _ _ _ _
   | exact impl_BitAt.mono _ _ _ _
   | exact impl_BuildRanked.mono _ _ _
   | exact impl_OnesOf.mono _ _ _ _ _
   | exact impl_Rank0.mono _ _ _ _ _ _
   | exact impl_Rank1.mono _ _ _ _ _ _
   | exact impl_Select0.mono _ _ _ _ _ _
   | exact impl_Select1.mono _ _ _ _ _ _
   | exact laws_pSameRanked.mono _ _ _ _ _ _ _ _ _
   | exact spec_BuildRanked.mono _ _ _
   | exact spec_DrawBuildRanked.mono _ _
   | exact LeO.none _
   | refine LeO.ite ?_ ?_
   | refine LeO.bind ?_ (fun _ => ?_)
  ·intro y0 y1 y2 y3 y4 y5 y6
   unfold laws_FnRankUndoesSelect.j1
   repeat' first
   | (with_reducible exact ih0 _ _ _ _ _ _ _ _)
   | (with_reducible exact ih1 _ _ _ _ _ _ _)
   | (with_reducible exact ih2 _ _ _ _ _ _ _)
   | (with_reducible exact ih3 _ _ _ _ _ _ _ _ _ _ _)
   | (with_reducible exact impl_BitAt.mono _ _ _ _)
   | (with_reducible exact impl_BuildRanked.mono _ _ _)
   | (with_reducible exact impl_OnesOf.mono _ _ _ _ _)
   | (with_reducible exact impl_Rank0.mono _ _ _ _ _ _)
   | (with_reducible exact impl_Rank1.mono _ _ _ _ _ _)
   | (with_reducible exact impl_Select0.mono _ _ _ _ _ _)
   | (with_reducible exact impl_Select1.mono _ _ _ _ _ _)
   | (with_reducible exact laws_pSameRanked.mono _ _ _ _ _ _ _ _ _)
   | (with_reducible exact spec_BuildRanked.mono _ _ _)
   | (with_reducible exact spec_DrawBuildRanked.mono _ _)
   | (with_reducible exact LeO.refl _)
   | (with_reducible exact LeO.none _)
   | (with_reducible refine LeO.ite ?_ ?_)
   | (with_reducible refine LeO.bind ?_ (fun _ => ?_))
   | exact ih0 _ _ _ _ _ _ _ _
   | exact ih1 _ _ _ _ _ _ _
   | exact ih2 _ _ _ _ _ _ _
   | exact ih3 _ _ _ _ _ _ _ _ _ _ _
   | exact impl_BitAt.mono _ _ _ _
   | exact impl_BuildRanked.mono _ _ _
   | exact impl_OnesOf.mono _ _ _ _ _
   | exact impl_Rank0.mono _ _ _ _ _ _
   | exact impl_Rank1.mono _ _ _ _ _ _
   | exact impl_Select0.mono _ _ _ _ _ _
   | exact impl_Select1.mono _ _ _ _ _ _
   | exact laws_pSameRanked.mono _ _ _ _ _ _ _ _ _
   | exact spec_BuildRanked.mono _ _ _
   | exact spec_DrawBuildRanked.mono _ _
   | exact LeO.none _
   | refine LeO.ite ?_ ?_
   | refine LeO.bind ?_ (fun _ => ?_)
  ·intro y0 y1 y2 y3 y4 y5 y6
   unfold laws_FnRankUndoesSelect.l0
   repeat' first
   | (with_reducible exact ih0 _ _ _ _ _ _ _ _)
   | (with_reducible exact ih1 _ _ _ _ _ _ _)
   | (with_reducible exact ih2 _ _ _ _ _ _ _)
   | (with_reducible exact ih3 _ _ _ _ _ _ _ _ _ _ _)
   | (with_reducible exact impl_BitAt.mono _ _ _ _)
   | (with_reducible exact impl_BuildRanked.mono _ _ _)
   | (with_reducible exact impl_OnesOf.mono _ _ _ _ _)
   | (with_reducible exact impl_Rank0.mono _ _ _ _ _ _)
   | (with_reducible exact impl_Rank1.mono _ _ _ _ _ _)
   | (with_reducible exact impl_Select0.mono _ _ _ _ _ _)
   | (with_reducible exact impl_Select1.mono _ _ _ _ _ _)
   | (with_reducible exact laws_pSameRanked.mono _ _ _ _ _ _ _ _ _)
   | (with_reducible exact spec_BuildRanked.mono _ _ _)
   | (with_reducible exact spec_DrawBuildRanked.mono _ _)
   | (with_reducible exact LeO.refl _)
   | (with_reducible exact LeO.none _)
   | (with_reducible refine LeO.ite ?_ ?_)
   | (with_reducible refine LeO.bind ?_ (fun _ => ?_))
   | exact ih0 _ _ _ _ _ _ _ _
   | exact ih1 _ _ _ _ _ _ _
   | exact ih2 _ _ _ _ _ _ _
   | exact ih3 _ _ _ _ _ _ _ _ _ _ _
   | exact impl_BitAt.mono _ _ _ _
   | exact impl_BuildRanked.mono _ _ _
   | exact impl_OnesOf.mono _ _ _ _ _
   | exact impl_Rank0.mono _ _ _ _ _ _
   | exact impl_Rank1.mono _ _ _ _ _ _
   | exact impl_Select0.mono _ _ _ _ _ _
   | exact impl_Select1.mono _ _ _ _ _ _
   | exact laws_pSameRanked.mono _ _ _ _ _ _ _ _ _
   | exact spec_BuildRanked.mono _ _ _
   | exact spec_DrawBuildRanked.mono _ _
   | exact LeO.none _
   | refine LeO.ite ?_ ?_
   | refine LeO.bind ?_ (fun _ => ?_)
  ·intro y0 y1 y2 y3 y4 y5 y6 y7 y8 y9 y10
   unfold laws_FnRankUndoesSelect.j3
   repeat' first
   | (with_reducible exact ih0 _ _ _ _ _ _ _ _)
   | (with_reducible exact ih1 _ _ _ _ _ _ _)
   | (with_reducible exact ih2 _ _ _ _ _ _ _)
   | (with_reducible exact ih3 _ _ _ _ _ _ _ _ _ _ _)
   | (with_reducible exact impl_BitAt.mono _ _ _ _)
   | (with_reducible exact impl_BuildRanked.mono _ _ _)
   | (with_reducible exact impl_OnesOf.mono _ _ _ _ _)
   | (with_reducible exact impl_Rank0.mono _ _ _ _ _ _)
   | (with_reducible exact impl_Rank1.mono _ _ _ _ _ _)
   | (with_reducible exact impl_Select0.mono _ _ _ _ _ _)
   | (with_reducible exact impl_Select1.mono _ _ _ _ _ _)
   | (with_reducible exact laws_pSameRanked.mono _ _ _ _ _ _ _ _ _)
   | (with_reducible exact spec_BuildRanked.mono _ _ _)
   | (with_reducible exact spec_DrawBuildRanked.mono _ _)
   | (with_reducible exact LeO.refl _)
   | (with_reducible exact LeO.none _)
   | (with_reducible refine LeO.ite ?_ ?_)
   | (with_reducible refine LeO.bind ?_ (fun _ => ?_))
   | exact ih0 _ _ _ _ _ _ _ _
   | exact ih1 _ _ _ _ _ _ _
   | exact ih2 _ _ _ _ _ _ _
   | exact ih3 _ _ _ _ _ _ _ _ _ _ _
   | exact impl_BitAt.mono _ _ _ _
   | exact impl_BuildRanked.mono _ _ _
   | exact impl_OnesOf.mono _ _ _ _ _
   | exact impl_Rank0.mono _ _ _ _ _ _
   | exact impl_Rank1.mono _ _ _ _ _ _
   | exact impl_Select0.mono _ _ _ _ _ _
   | exact impl_Select1.mono _ _ _ _ _ _
   | exact laws_pSameRanked.mono _ _ _ _ _ _ _ _ _
   | exact spec_BuildRanked.mono _ _ _
   | exact spec_DrawBuildRanked.mono _ _
   | exact LeO.none _
   | refine LeO.ite ?_ ?_
   | refine LeO.bind ?_ (fun _ => ?_)
theorem laws_FnRankUndoesSelect.mono : ∀ a0 a1 k, LeO (laws_FnRankUndoesSelect.f k a0 a1) (laws_FnRankUndoesSelect.f (k + 1) a0 a1) := by
 intro a0 a1 k
 obtain ⟨ih0, ih1, ih2, ih3⟩ := laws_FnRankUndoesSelect.mono_l k
 unfold laws_FnRankUndoesSelect.f
 repeat' first
   | (with_reducible exact ih0 _ _ _ _ _ _ _ _)
   | (with_reducible exact ih1 _ _ _ _ _ _ _)
   | (with_reducible exact ih2 _ _ _ _ _ _ _)
   | (with_reducible exact ih3 _ _ _ _ _ _ _ _ _ _ _)
   | (with_reducible exact impl_BitAt.mono _ _ _ _)
   | (with_reducible exact impl_BuildRanked.mono _ _ _)
   | (with_reducible exact impl_OnesOf.mono _ _ _ _ _)
   | (with_reducible exact impl_Rank0.mono _ _ _ _ _ _)
   | (with_reducible exact impl_Rank1.mono _ _ _ _ _ _)
   | (with_reducible exact impl_Select0.mono _ _ _ _ _ _)
   | (with_reducible exact impl_Select1.mono _ _ _ _ _ _)
   | (with_reducible exact laws_pSameRanked.mono _ _ _ _ _ _ _ _ _)
   | (with_reducible exact spec_BuildRanked.mono _ _ _)
   | (with_reducible exact spec_DrawBuildRanked.mono _ _)
   | (with_reducible exact LeO.refl _)
   | (with_reducible exact LeO.none _)
   | (with_reducible refine LeO.ite ?_ ?_)
   | (with_reducible refine LeO.bind ?_ (fun _ => ?_))
   | exact ih0 _ _ _ _ _ _ _ _
   | exact ih1 _ _ _ _ _ _ _
   | exact ih2 _ _ _ _ _ _ _
   | exact ih3 _ _ _ _ _ _ _ _ _ _ _
   | exact impl_BitAt.mono _ _ _ _
   | exact impl_BuildRanked.mono _ _ _
   | exact impl_OnesOf.mono _ _ _ _ _
   | exact impl_Rank0.mono _ _ _ _ _ _
   | exact impl_Rank1.mono _ _ _ _ _ _
   | exact impl_Select0.mono _ _ _ _ _ _
   | exact impl_Select1.mono _ _ _ _ _ _
   | exact laws_pSameRanked.mono _ _ _ _ _ _ _ _ _
   | exact spec_BuildRanked.mono _ _ _
   | exact spec_DrawBuildRanked.mono _ _
   | exact LeO.none _
   | refine LeO.ite ?_ ?_
   | refine LeO.bind ?_ (fun _ => ?_)
set_option maxHeartbeats 8000000 in
set_option maxRecDepth 100000 in
theorem laws_FnRankUndoesSelect.calls (k : Nat) (A0 : Option Addr) (c0 : Nat) (l0 : List Int) (A1 : Option Addr) (c1 : Nat) (l1 : List Int) (r : Bool) (w : World) (hr0 : Kd.C (Kd.int .u8) w A0 l0.length l0) (hc0 : l0.length ≤ c0) (hr1 : Kd.C (Kd.int .u8) w A1 l1.length l1) (hc1 : l1.length ≤ c1) (h : laws_FnRankUndoesSelect.f k l0 l1 = some r) :
  Calls Try.prog 14 #[.slice A0 l0.length c0, .slice A1 l1.length c1] w fun e w' => e = .returned (.bool r) ∧ Below w.heap.size w w' := by
 have hu29 := Try.underlying29
 have hu31 := Try.underlying31
 have HR0 := am23_ hr0
 have HC0 := am23_ hc0
 clear hr0 hc0
 have HR1 := am23_ hr1
 have HC1 := am23_ hc1
 clear hr1 hc1
 have HB := am23_ (Below.refl w.heap.size w)
 have H : ((laws_big.f l0 l1).bind fun t352 => (if t352 = true then (some true) else ((spec_DrawBuildRanked.f k l0).bind fun bt353 => ((impl_BuildRanked.f k bt353.1 bt353.2).bind fun bt358 => ((spec_BuildRanked.f k bt353.1 bt353.2).bind fun bt370 => (if (bt358.2.2.2.2 != bt370.2.2.2.2) = true then (none) else ((laws_pSameRanked.f k bt358.1 bt358.2.1 bt358.2.2.1 bt358.2.2.2.1 bt370.1 bt370.2.1 bt370.2.2.1 bt370.2.2.2.1).bind fun t382 => (laws_FnRankUndoesSelect.j0 k bt370.2.2.2.2 (!t382) bt353.1 bt353.2 bt358.1 bt358.2.1 bt358.2.2.1 bt358.2.2.2.1)))))))) = some r := h
 clear h
 replace H := Option.bind_eq_some_iff.mp H
 obtain ⟨t352, A30, H⟩ := H
 replace H : (if t352 = true then (some true) else ((spec_DrawBuildRanked.f k l0).bind fun bt353 => ((impl_BuildRanked.f k bt353.1 bt353.2).bind fun bt358 => ((spec_BuildRanked.f k bt353.1 bt353.2).bind fun bt370 => (if (bt358.2.2.2.2 != bt370.2.2.2.2) = true then (none) else ((laws_pSameRanked.f k bt358.1 bt358.2.1 bt358.2.2.1 bt358.2.2.2.1 bt370.1 bt370.2.1 bt370.2.2.1 bt370.2.2.2.1).bind fun t382 => (laws_FnRankUndoesSelect.j0 k bt370.2.2.2.2 (!t382) bt353.1 bt353.2 bt358.1 bt358.2.1 bt358.2.2.1 bt358.2.2.2.1))))))) = some r := H
 have A3 := am23_ A30
 clear A30
 by_cases c4 : t352 = true
 ·subst c4
  have H1 : (some true) = some r := by rw [if_pos rfl] at H; exact H
  clear H
  have H := H1
  clear H1
  obtain rfl := Option.some.inj H
  go_enter Try.func14, Try.ntmps14
  go_wp2_with (first | ((with_reducible refine gate_callee (f := 50) rfl ?_); refine goesL_ (some 27) rfl rfl Try.func50 (by kernel_rfl) rfl #[.slice A0 l0.length c0, .slice A1 l1.length c1] rfl lm23_ ?_; (with_reducible refine (laws_big.calls _ _ l0 _ _ l1 true _ ?side1 ?side2 ?side3 ?side4 A3.out).mono ?_); (case side1 => exact lc23_ HR0.out); (case side2 => exact HC0.out); (case side3 => exact lc23_ HR1.out); (case side4 => exact HC1.out); rintro e w' ⟨rfl, ⟨nd, rfl⟩⟩; refine ⟨_, rfl, ?_⟩))
  go_ret
  exact ⟨by first | rfl | (simp [errW_none, errW_some] <;> rfl) | (simp [*, errW_none, errW_some] <;> rfl), lw23_ HB⟩
 ·replace c4 := Bool.eq_false_iff.mpr c4
  subst c4
  have H1 : ((spec_DrawBuildRanked.f k l0).bind fun bt353 => ((impl_BuildRanked.f k bt353.1 bt353.2).bind fun bt358 => ((spec_BuildRanked.f k bt353.1 bt353.2).bind fun bt370 => (if (bt358.2.2.2.2 != bt370.2.2.2.2) = true then (none) else ((laws_pSameRanked.f k bt358.1 bt358.2.1 bt358.2.2.1 bt358.2.2.2.1 bt370.1 bt370.2.1 bt370.2.2.1 bt370.2.2.2.1).bind fun t382 => (laws_FnRankUndoesSelect.j0 k bt370.2.2.2.2 (!t382) bt353.1 bt353.2 bt358.1 bt358.2.1 bt358.2.2.1 bt358.2.2.2.1)))))) = some r := by rw [if_neg (show ¬ (false = true) by decide)] at H; exact H
  clear H
  have H := H1
  clear H1
  replace H := Option.bind_eq_some_iff.mp H
  obtain ⟨⟨t353, t354⟩, A50, H⟩ := H
  replace H : ((impl_BuildRanked.f k t353 t354).bind fun bt358 => ((spec_BuildRanked.f k t353 t354).bind fun bt370 => (if (bt358.2.2.2.2 != bt370.2.2.2.2) = true then (none) else ((laws_pSameRanked.f k bt358.1 bt358.2.1 bt358.2.2.1 bt358.2.2.2.1 bt370.1 bt370.2.1 bt370.2.2.1 bt370.2.2.2.1).bind fun t382 => (laws_FnRankUndoesSelect.j0 k bt370.2.2.2.2 (!t382) t353 t354 bt358.1 bt358.2.1 bt358.2.2.1 bt358.2.2.2.1))))) = some r := H
  have A5 := am23_ A50
  clear A50
  replace H := Option.bind_eq_some_iff.mp H
  obtain ⟨⟨t358, t359, t362, t365, t368⟩, A60, H⟩ := H
  replace H : ((spec_BuildRanked.f k t353 t354).bind fun bt370 => (if (t368 != bt370.2.2.2.2) = true then (none) else ((laws_pSameRanked.f k t358 t359 t362 t365 bt370.1 bt370.2.1 bt370.2.2.1 bt370.2.2.2.1).bind fun t382 => (laws_FnRankUndoesSelect.j0 k bt370.2.2.2.2 (!t382) t353 t354 t358 t359 t362 t365)))) = some r := H
  have A6 := am23_ A60
  clear A60
  replace H := Option.bind_eq_some_iff.mp H
  obtain ⟨⟨t370, t371, t374, t377, t380⟩, A70, H⟩ := H
  replace H : (if (t368 != t380) = true then (none) else ((laws_pSameRanked.f k t358 t359 t362 t365 t370 t371 t374 t377).bind fun t382 => (laws_FnRankUndoesSelect.j0 k t380 (!t382) t353 t354 t358 t359 t362 t365))) = some r := H
  have A7 := am23_ A70
  clear A70
  have HC8 := am23_ H
  clear H
  go_enter Try.func14, Try.ntmps14
  go_upto_region 6 with (first | ((with_reducible refine gate_callee (f := 50) rfl ?_); refine goesL_ (some 27) rfl rfl Try.func50 (by kernel_rfl) rfl #[.slice A0 l0.length c0, .slice A1 l1.length c1] rfl lm23_ ?_; (with_reducible refine (laws_big.calls _ _ l0 _ _ l1 false _ ?side1 ?side2 ?side3 ?side4 A3.out).mono ?_); (case side1 => exact lc23_ HR0.out); (case side2 => exact HC0.out); (case side3 => exact lc23_ HR1.out); (case side4 => exact HC1.out); rintro e w' ⟨rfl, ⟨nd, rfl⟩⟩; refine ⟨_, rfl, ?_⟩) | ((with_reducible refine gate_callee (f := 51) rfl ?_); refine goesL_ (some 29) rfl rfl Try.func51 (by kernel_rfl) rfl #[.slice A0 l0.length c0] rfl lm23_ ?_; (with_reducible refine (spec_DrawBuildRanked.calls k _ _ l0 t353 t354 _ ?side1 ?side2 A5.out).mono ?_); (case side1 => exact lc23_ HR0.out); (case side2 => exact HC0.out); rintro e w9 ⟨v355, rfl, ho0, hb⟩; refine ⟨_, rfl, ?_⟩; have n0_ := am23_ (Kd.R_lower ho0 (below_size (lw23_ HB))); have n1_ := am23_ (below_step (lw23_ HB) hb); clear HB; have HO356 := n0_; have HB := n1_; clear n0_ n1_; (try clear hb); (try clear hb2); (try clear hk); (try clear hi); (try clear ho0)) | ((with_reducible refine gate_dst (N := 5) rfl ?_); refine box_event ?hg (N := 5) ?hd (cs := #[.int .i64 0, .slice none 0 0]) (t := 29) ?hr ?_; (case hd => rfl); (case hg => rfl); (case hr => first | (go_simp; done) | (go_simp; rfl)); intro gb357 hg w10 hbox hb; have n0_ := am23_ (Kd.R_below (lf23_ HO356) hb); have n1_ := am23_ (below_step (lw23_ HB) hb); have n2_ := am23_ (hbox); have n3_ := am23_ ((by rw [hg]; exact (below_size (lw23_ HB)) : w.heap.size ≤ gb357)); have n4_ := am23_ ((by rw [hg]; exact (below_size (lw23_ HB)) : w.heap.size ≤ gb357)); clear HO356; clear HB; have HO356 := n0_; have HB := n1_; have BK357 := n2_; have GW357 := n3_; have GE357 := n4_; clear n0_ n1_ n2_ n3_ n4_; clear hb hbox hg; have hcz11_0 : w10.cell? ⟨gb357, 0, none⟩ = some (.int .i64 0) := (blk_cell BK357.out 0).trans rfl; have hcz11_1 : w10.cell? ⟨gb357, 1, none⟩ = some (.slice none 0 0) := (blk_cell BK357.out 1).trans rfl; have hfz11_0 := blk_frozen BK357.out 0; have hfz11_1 := blk_frozen BK357.out 1; obtain ⟨Ao12, co12, eo12⟩ := Kd.R_slice HO356.out; subst eo12) | ((with_reducible refine gate_callee (f := 23) rfl ?_); refine goesL_ (some 32) rfl rfl Try.func23 (by kernel_rfl) rfl #[.agg #[.int .i64 t353, .slice Ao12 t354.length co12]] rfl lm23_ ?_; (with_reducible refine (impl_BuildRanked.calls k t353 _ _ t354 t358 t359 t362 t365 t368 _ ?side1 ?side2 A6.out).mono ?_); (case side1 => refine (Kd.R_reads' (e := 3) (base := w.heap.size) (ok := fun k_ => True) (n := t354.length) (c := co12) ?_).2.2; exact (lt23_ (Kd.R_mono (Kd.R_far (p := ⟨gb357, 1, none⟩) (Kd.R_far (p := ⟨gb357, 0, none⟩) (Kd.R_types HO356.out BK357.out (by decide)) (fun _ hk => hk.2) (.int .i64 t353)) (fun _ hk => hk.2) (.slice Ao12 t354.length co12)) (fun _ h_ => h_.1)))); (case side2 => exact (Kd.R_reads' HO356.out).2.1); rintro e w13 ⟨v360, v363, v366, rfl, ho0, ho1, ho2, hb⟩; refine ⟨_, rfl, ?_⟩; have n0_ := am23_ (Kd.R_mono (Kd.R_told (Kd.R_told (Kd.R_told (Kd.R_old (lt23_ (Kd.R_mono (Kd.R_far (p := ⟨gb357, 1, none⟩) (Kd.R_far (p := ⟨gb357, 0, none⟩) (Kd.R_types HO356.out BK357.out (by decide)) (fun _ hk => hk.2) (.int .i64 t353)) (fun _ hk => hk.2) (.slice Ao12 t354.length co12)) (fun _ h_ => h_.1))) hb) (Kd.R_base ho0)) (Kd.R_base ho1)) (Kd.R_base ho2)) (fun _ h_ => h_.1)); have n1_ := am23_ (Kd.R_lower (Kd.R_new' ho0 (Kd.R_lt (lt23_ (Kd.R_mono (Kd.R_far (p := ⟨gb357, 1, none⟩) (Kd.R_far (p := ⟨gb357, 0, none⟩) (Kd.R_types HO356.out BK357.out (by decide)) (fun _ hk => hk.2) (.int .i64 t353)) (fun _ hk => hk.2) (.slice Ao12 t354.length co12)) (fun _ h_ => h_.1))))) (below_size (lw23_ HB))); have n2_ := am23_ (Kd.R_lower (Kd.R_new' ho1 (Kd.R_lt (lt23_ (Kd.R_mono (Kd.R_far (p := ⟨gb357, 1, none⟩) (Kd.R_far (p := ⟨gb357, 0, none⟩) (Kd.R_types HO356.out BK357.out (by decide)) (fun _ hk => hk.2) (.int .i64 t353)) (fun _ hk => hk.2) (.slice Ao12 t354.length co12)) (fun _ h_ => h_.1))))) (below_size (lw23_ HB))); have n3_ := am23_ (Kd.R_lower (Kd.R_new' ho2 (Kd.R_lt (lt23_ (Kd.R_mono (Kd.R_far (p := ⟨gb357, 1, none⟩) (Kd.R_far (p := ⟨gb357, 0, none⟩) (Kd.R_types HO356.out BK357.out (by decide)) (fun _ hk => hk.2) (.int .i64 t353)) (fun _ hk => hk.2) (.slice Ao12 t354.length co12)) (fun _ h_ => h_.1))))) (below_size (lw23_ HB))); have n4_ := am23_ (blk_below (g := gb357) (o := .cells #[.int .i64 t353, .slice Ao12 t354.length co12] 29 (0, 0)) (by (with_reducible repeat (first | refine blk_drewN ?_ _ | refine blk_drew ?_ | refine blk_alloc ?_ _)); refine blk_put (cs := #[.int .i64 t353, .slice none 0 0]) ?_ 1 _ rfl; (with_reducible repeat (first | refine blk_drewN ?_ _ | refine blk_drew ?_ | refine blk_alloc ?_ _)); refine blk_put (cs := #[.int .i64 0, .slice none 0 0]) ?_ 0 _ rfl; (with_reducible repeat (first | refine blk_drewN ?_ _ | refine blk_drew ?_ | refine blk_alloc ?_ _)); exact BK357.out) hb); have n5_ := am23_ (below_step (lw23_ HB) hb); clear HO356; clear BK357; clear HB; have HO356 := n0_; have HO361 := n1_; have HO364 := n2_; have HO367 := n3_; have BK357 := n4_; have HB := n5_; clear n0_ n1_ n2_ n3_ n4_ n5_; (try clear hb); (try clear hb2); (try clear hk); (try clear hi); (try clear ho0); (try clear ho1); (try clear ho2)) | ((with_reducible refine gate_dst (N := 6) rfl ?_); refine box_event ?hg (N := 6) ?hd (cs := #[.int .i64 0, .slice none 0 0, .slice none 0 0, .slice none 0 0]) (t := 31) ?hr ?_; (case hd => rfl); (case hg => rfl); (case hr => first | (go_simp; done) | (go_simp; rfl)); intro gb369 hg w14 hbox hb; have n0_ := am23_ (Kd.R_below (lf23_ HO356) hb); have n1_ := am23_ (Kd.R_below (lf23_ HO361) hb); have n2_ := am23_ (Kd.R_below (lf23_ HO364) hb); have n3_ := am23_ (Kd.R_below (lf23_ HO367) hb); have n4_ := am23_ (blk_below (g := gb357) (o := .cells #[.int .i64 t353, .slice Ao12 t354.length co12] 29 (0, 0)) (lb23_ BK357) hb); have n5_ := am23_ (below_step (lw23_ HB) hb); have n6_ := am23_ (hbox); have n7_ := am23_ ((by rw [hg]; exact (below_size (lw23_ HB)) : w.heap.size ≤ gb369)); have n8_ := am23_ ((by rw [hg]; exact (below_size (lw23_ HB)) : w.heap.size ≤ gb369)); have n9_ := am23_ ((by rw [hg]; exact Nat.ne_of_lt (blk_lt (g := gb357) (lb23_ BK357)) : gb357 ≠ gb369)); have n10_ := am23_ ((by rw [hg]; exact Nat.ne_of_gt (blk_lt (g := gb357) (lb23_ BK357)) : gb369 ≠ gb357)); clear HO356; clear HO361; clear HO364; clear HO367; clear BK357; clear HB; have HO356 := n0_; have HO361 := n1_; have HO364 := n2_; have HO367 := n3_; have BK357 := n4_; have HB := n5_; have BK369 := n6_; have GW369 := n7_; have GE369 := n8_; have NB357_369 := n9_; have NB369_357 := n10_; clear n0_ n1_ n2_ n3_ n4_ n5_ n6_ n7_ n8_ n9_ n10_; clear hb hbox hg; have hnb15 := NB369_357.out; have hnc15 := NB357_369.out; have hcz16_0 : w14.cell? ⟨gb369, 0, none⟩ = some (.int .i64 0) := (blk_cell BK369.out 0).trans rfl; have hcz16_1 : w14.cell? ⟨gb369, 1, none⟩ = some (.slice none 0 0) := (blk_cell BK369.out 1).trans rfl; have hcz16_2 : w14.cell? ⟨gb369, 2, none⟩ = some (.slice none 0 0) := (blk_cell BK369.out 2).trans rfl; have hcz16_3 : w14.cell? ⟨gb369, 3, none⟩ = some (.slice none 0 0) := (blk_cell BK369.out 3).trans rfl; have hfz16_0 := blk_frozen BK369.out 0; have hfz16_1 := blk_frozen BK369.out 1; have hfz16_2 := blk_frozen BK369.out 2; have hfz16_3 := blk_frozen BK369.out 3; obtain ⟨Ao17, co17, eo17⟩ := Kd.R_slice HO361.out; subst eo17; obtain ⟨Ao18, co18, eo18⟩ := Kd.R_slice HO364.out; subst eo18; obtain ⟨Ao19, co19, eo19⟩ := Kd.R_slice HO367.out; subst eo19; have hcz20_0 : w14.cell? ⟨gb357, 0, none⟩ = some (.int .i64 t353) := (blk_cell BK357.out 0).trans rfl; have hcz20_1 : w14.cell? ⟨gb357, 1, none⟩ = some (.slice Ao12 t354.length co12) := (blk_cell BK357.out 1).trans rfl; have hfz20_0 := blk_frozen BK357.out 0; have hfz20_1 := blk_frozen BK357.out 1) | ((with_reducible refine gate_callee (f := 21) rfl ?_); refine goesL_ (some 37) rfl rfl Try.func21 (by kernel_rfl) rfl #[.agg #[.int .i64 t353, .slice Ao12 t354.length co12]] rfl lm23_ ?_; (with_reducible refine (spec_BuildRanked.calls k t353 _ _ t354 t370 t371 t374 t377 t380 _ ?side1 ?side2 A7.out).mono ?_); (case side1 => refine (Kd.R_reads' (e := 3) (base := w.heap.size) (ok := fun k_ => (((True ∧ some k_ ≠ (.slice Ao17 t359.length co17 : Value).ownBlock) ∧ some k_ ≠ (.slice Ao18 t362.length co18 : Value).ownBlock) ∧ some k_ ≠ (.slice Ao19 t365.length co19 : Value).ownBlock)) (n := t354.length) (c := co12) ?_).2.2; exact (lt23_ (Kd.R_mono (Kd.R_far (p := ⟨gb369, 3, none⟩) (Kd.R_far (p := ⟨gb369, 2, none⟩) (Kd.R_far (p := ⟨gb369, 1, none⟩) (Kd.R_far (p := ⟨gb369, 0, none⟩) (Kd.R_types HO356.out BK369.out (by decide)) (fun _ hk => hk.2) (.int .i64 t358)) (fun _ hk => hk.2) (.slice Ao17 t359.length co17)) (fun _ hk => hk.2) (.slice Ao18 t362.length co18)) (fun _ hk => hk.2) (.slice Ao19 t365.length co19)) (fun _ h_ => h_.1)))); (case side2 => exact (Kd.R_reads' HO356.out).2.1); rintro e w21 ⟨v372, v375, v378, rfl, ho0, ho1, ho2, hb⟩; refine ⟨_, rfl, ?_⟩; have n0_ := am23_ (Kd.R_mono (Kd.R_told (Kd.R_told (Kd.R_told (Kd.R_old (lt23_ (Kd.R_mono (Kd.R_far (p := ⟨gb369, 3, none⟩) (Kd.R_far (p := ⟨gb369, 2, none⟩) (Kd.R_far (p := ⟨gb369, 1, none⟩) (Kd.R_far (p := ⟨gb369, 0, none⟩) (Kd.R_types HO356.out BK369.out (by decide)) (fun _ hk => hk.2) (.int .i64 t358)) (fun _ hk => hk.2) (.slice Ao17 t359.length co17)) (fun _ hk => hk.2) (.slice Ao18 t362.length co18)) (fun _ hk => hk.2) (.slice Ao19 t365.length co19)) (fun _ h_ => h_.1))) hb) (Kd.R_base ho0)) (Kd.R_base ho1)) (Kd.R_base ho2)) (fun _ h_ => h_.1)); have n1_ := am23_ (Kd.R_mono (Kd.R_told (Kd.R_told (Kd.R_told (Kd.R_old (lt23_ (Kd.R_mono (Kd.R_far (p := ⟨gb369, 3, none⟩) (Kd.R_far (p := ⟨gb369, 2, none⟩) (Kd.R_far (p := ⟨gb369, 1, none⟩) (Kd.R_far (p := ⟨gb369, 0, none⟩) (Kd.R_types HO361.out BK369.out (by decide)) (fun _ hk => hk.2) (.int .i64 t358)) (fun _ hk => hk.2) (.slice Ao17 t359.length co17)) (fun _ hk => hk.2) (.slice Ao18 t362.length co18)) (fun _ hk => hk.2) (.slice Ao19 t365.length co19)) (fun _ h_ => h_.1))) hb) (Kd.R_base ho0)) (Kd.R_base ho1)) (Kd.R_base ho2)) (fun _ h_ => h_.1)); have n2_ := am23_ (Kd.R_mono (Kd.R_told (Kd.R_told (Kd.R_told (Kd.R_old (lt23_ (Kd.R_mono (Kd.R_far (p := ⟨gb369, 3, none⟩) (Kd.R_far (p := ⟨gb369, 2, none⟩) (Kd.R_far (p := ⟨gb369, 1, none⟩) (Kd.R_far (p := ⟨gb369, 0, none⟩) (Kd.R_types HO364.out BK369.out (by decide)) (fun _ hk => hk.2) (.int .i64 t358)) (fun _ hk => hk.2) (.slice Ao17 t359.length co17)) (fun _ hk => hk.2) (.slice Ao18 t362.length co18)) (fun _ hk => hk.2) (.slice Ao19 t365.length co19)) (fun _ h_ => h_.1))) hb) (Kd.R_base ho0)) (Kd.R_base ho1)) (Kd.R_base ho2)) (fun _ h_ => h_.1)); have n3_ := am23_ (Kd.R_mono (Kd.R_told (Kd.R_told (Kd.R_told (Kd.R_old (lt23_ (Kd.R_mono (Kd.R_far (p := ⟨gb369, 3, none⟩) (Kd.R_far (p := ⟨gb369, 2, none⟩) (Kd.R_far (p := ⟨gb369, 1, none⟩) (Kd.R_far (p := ⟨gb369, 0, none⟩) (Kd.R_types HO367.out BK369.out (by decide)) (fun _ hk => hk.2) (.int .i64 t358)) (fun _ hk => hk.2) (.slice Ao17 t359.length co17)) (fun _ hk => hk.2) (.slice Ao18 t362.length co18)) (fun _ hk => hk.2) (.slice Ao19 t365.length co19)) (fun _ h_ => h_.1))) hb) (Kd.R_base ho0)) (Kd.R_base ho1)) (Kd.R_base ho2)) (fun _ h_ => h_.1)); have n4_ := am23_ (Kd.R_lower (Kd.R_new' (Kd.R_new' (Kd.R_new' (Kd.R_new' ho0 (Kd.R_lt (lt23_ (Kd.R_mono (Kd.R_far (p := ⟨gb369, 3, none⟩) (Kd.R_far (p := ⟨gb369, 2, none⟩) (Kd.R_far (p := ⟨gb369, 1, none⟩) (Kd.R_far (p := ⟨gb369, 0, none⟩) (Kd.R_types HO356.out BK369.out (by decide)) (fun _ hk => hk.2) (.int .i64 t358)) (fun _ hk => hk.2) (.slice Ao17 t359.length co17)) (fun _ hk => hk.2) (.slice Ao18 t362.length co18)) (fun _ hk => hk.2) (.slice Ao19 t365.length co19)) (fun _ h_ => h_.1))))) (Kd.R_lt (lt23_ (Kd.R_mono (Kd.R_far (p := ⟨gb369, 3, none⟩) (Kd.R_far (p := ⟨gb369, 2, none⟩) (Kd.R_far (p := ⟨gb369, 1, none⟩) (Kd.R_far (p := ⟨gb369, 0, none⟩) (Kd.R_types HO361.out BK369.out (by decide)) (fun _ hk => hk.2) (.int .i64 t358)) (fun _ hk => hk.2) (.slice Ao17 t359.length co17)) (fun _ hk => hk.2) (.slice Ao18 t362.length co18)) (fun _ hk => hk.2) (.slice Ao19 t365.length co19)) (fun _ h_ => h_.1))))) (Kd.R_lt (lt23_ (Kd.R_mono (Kd.R_far (p := ⟨gb369, 3, none⟩) (Kd.R_far (p := ⟨gb369, 2, none⟩) (Kd.R_far (p := ⟨gb369, 1, none⟩) (Kd.R_far (p := ⟨gb369, 0, none⟩) (Kd.R_types HO364.out BK369.out (by decide)) (fun _ hk => hk.2) (.int .i64 t358)) (fun _ hk => hk.2) (.slice Ao17 t359.length co17)) (fun _ hk => hk.2) (.slice Ao18 t362.length co18)) (fun _ hk => hk.2) (.slice Ao19 t365.length co19)) (fun _ h_ => h_.1))))) (Kd.R_lt (lt23_ (Kd.R_mono (Kd.R_far (p := ⟨gb369, 3, none⟩) (Kd.R_far (p := ⟨gb369, 2, none⟩) (Kd.R_far (p := ⟨gb369, 1, none⟩) (Kd.R_far (p := ⟨gb369, 0, none⟩) (Kd.R_types HO367.out BK369.out (by decide)) (fun _ hk => hk.2) (.int .i64 t358)) (fun _ hk => hk.2) (.slice Ao17 t359.length co17)) (fun _ hk => hk.2) (.slice Ao18 t362.length co18)) (fun _ hk => hk.2) (.slice Ao19 t365.length co19)) (fun _ h_ => h_.1))))) (below_size (lw23_ HB))); have n5_ := am23_ (Kd.R_lower (Kd.R_new' (Kd.R_new' (Kd.R_new' (Kd.R_new' ho1 (Kd.R_lt (lt23_ (Kd.R_mono (Kd.R_far (p := ⟨gb369, 3, none⟩) (Kd.R_far (p := ⟨gb369, 2, none⟩) (Kd.R_far (p := ⟨gb369, 1, none⟩) (Kd.R_far (p := ⟨gb369, 0, none⟩) (Kd.R_types HO356.out BK369.out (by decide)) (fun _ hk => hk.2) (.int .i64 t358)) (fun _ hk => hk.2) (.slice Ao17 t359.length co17)) (fun _ hk => hk.2) (.slice Ao18 t362.length co18)) (fun _ hk => hk.2) (.slice Ao19 t365.length co19)) (fun _ h_ => h_.1))))) (Kd.R_lt (lt23_ (Kd.R_mono (Kd.R_far (p := ⟨gb369, 3, none⟩) (Kd.R_far (p := ⟨gb369, 2, none⟩) (Kd.R_far (p := ⟨gb369, 1, none⟩) (Kd.R_far (p := ⟨gb369, 0, none⟩) (Kd.R_types HO361.out BK369.out (by decide)) (fun _ hk => hk.2) (.int .i64 t358)) (fun _ hk => hk.2) (.slice Ao17 t359.length co17)) (fun _ hk => hk.2) (.slice Ao18 t362.length co18)) (fun _ hk => hk.2) (.slice Ao19 t365.length co19)) (fun _ h_ => h_.1))))) (Kd.R_lt (lt23_ (Kd.R_mono (Kd.R_far (p := ⟨gb369, 3, none⟩) (Kd.R_far (p := ⟨gb369, 2, none⟩) (Kd.R_far (p := ⟨gb369, 1, none⟩) (Kd.R_far (p := ⟨gb369, 0, none⟩) (Kd.R_types HO364.out BK369.out (by decide)) (fun _ hk => hk.2) (.int .i64 t358)) (fun _ hk => hk.2) (.slice Ao17 t359.length co17)) (fun _ hk => hk.2) (.slice Ao18 t362.length co18)) (fun _ hk => hk.2) (.slice Ao19 t365.length co19)) (fun _ h_ => h_.1))))) (Kd.R_lt (lt23_ (Kd.R_mono (Kd.R_far (p := ⟨gb369, 3, none⟩) (Kd.R_far (p := ⟨gb369, 2, none⟩) (Kd.R_far (p := ⟨gb369, 1, none⟩) (Kd.R_far (p := ⟨gb369, 0, none⟩) (Kd.R_types HO367.out BK369.out (by decide)) (fun _ hk => hk.2) (.int .i64 t358)) (fun _ hk => hk.2) (.slice Ao17 t359.length co17)) (fun _ hk => hk.2) (.slice Ao18 t362.length co18)) (fun _ hk => hk.2) (.slice Ao19 t365.length co19)) (fun _ h_ => h_.1))))) (below_size (lw23_ HB))); have n6_ := am23_ (Kd.R_lower (Kd.R_new' (Kd.R_new' (Kd.R_new' (Kd.R_new' ho2 (Kd.R_lt (lt23_ (Kd.R_mono (Kd.R_far (p := ⟨gb369, 3, none⟩) (Kd.R_far (p := ⟨gb369, 2, none⟩) (Kd.R_far (p := ⟨gb369, 1, none⟩) (Kd.R_far (p := ⟨gb369, 0, none⟩) (Kd.R_types HO356.out BK369.out (by decide)) (fun _ hk => hk.2) (.int .i64 t358)) (fun _ hk => hk.2) (.slice Ao17 t359.length co17)) (fun _ hk => hk.2) (.slice Ao18 t362.length co18)) (fun _ hk => hk.2) (.slice Ao19 t365.length co19)) (fun _ h_ => h_.1))))) (Kd.R_lt (lt23_ (Kd.R_mono (Kd.R_far (p := ⟨gb369, 3, none⟩) (Kd.R_far (p := ⟨gb369, 2, none⟩) (Kd.R_far (p := ⟨gb369, 1, none⟩) (Kd.R_far (p := ⟨gb369, 0, none⟩) (Kd.R_types HO361.out BK369.out (by decide)) (fun _ hk => hk.2) (.int .i64 t358)) (fun _ hk => hk.2) (.slice Ao17 t359.length co17)) (fun _ hk => hk.2) (.slice Ao18 t362.length co18)) (fun _ hk => hk.2) (.slice Ao19 t365.length co19)) (fun _ h_ => h_.1))))) (Kd.R_lt (lt23_ (Kd.R_mono (Kd.R_far (p := ⟨gb369, 3, none⟩) (Kd.R_far (p := ⟨gb369, 2, none⟩) (Kd.R_far (p := ⟨gb369, 1, none⟩) (Kd.R_far (p := ⟨gb369, 0, none⟩) (Kd.R_types HO364.out BK369.out (by decide)) (fun _ hk => hk.2) (.int .i64 t358)) (fun _ hk => hk.2) (.slice Ao17 t359.length co17)) (fun _ hk => hk.2) (.slice Ao18 t362.length co18)) (fun _ hk => hk.2) (.slice Ao19 t365.length co19)) (fun _ h_ => h_.1))))) (Kd.R_lt (lt23_ (Kd.R_mono (Kd.R_far (p := ⟨gb369, 3, none⟩) (Kd.R_far (p := ⟨gb369, 2, none⟩) (Kd.R_far (p := ⟨gb369, 1, none⟩) (Kd.R_far (p := ⟨gb369, 0, none⟩) (Kd.R_types HO367.out BK369.out (by decide)) (fun _ hk => hk.2) (.int .i64 t358)) (fun _ hk => hk.2) (.slice Ao17 t359.length co17)) (fun _ hk => hk.2) (.slice Ao18 t362.length co18)) (fun _ hk => hk.2) (.slice Ao19 t365.length co19)) (fun _ h_ => h_.1))))) (below_size (lw23_ HB))); have n7_ := am23_ (blk_below (g := gb357) (o := .cells #[.int .i64 t353, .slice Ao12 t354.length co12] 29 (0, 0)) (by (with_reducible repeat (first | refine blk_drewN ?_ _ | refine blk_drew ?_ | refine blk_alloc ?_ _)); refine blk_far ?_ NB357_369.out _; (with_reducible repeat (first | refine blk_drewN ?_ _ | refine blk_drew ?_ | refine blk_alloc ?_ _)); refine blk_far ?_ NB357_369.out _; (with_reducible repeat (first | refine blk_drewN ?_ _ | refine blk_drew ?_ | refine blk_alloc ?_ _)); refine blk_far ?_ NB357_369.out _; (with_reducible repeat (first | refine blk_drewN ?_ _ | refine blk_drew ?_ | refine blk_alloc ?_ _)); refine blk_far ?_ NB357_369.out _; (with_reducible repeat (first | refine blk_drewN ?_ _ | refine blk_drew ?_ | refine blk_alloc ?_ _)); exact BK357.out) hb); have n8_ := am23_ (blk_below (g := gb369) (o := .cells #[.int .i64 t358, .slice Ao17 t359.length co17, .slice Ao18 t362.length co18, .slice Ao19 t365.length co19] 31 (0, 0)) (by (with_reducible repeat (first | refine blk_drewN ?_ _ | refine blk_drew ?_ | refine blk_alloc ?_ _)); refine blk_put (cs := #[.int .i64 t358, .slice Ao17 t359.length co17, .slice Ao18 t362.length co18, .slice none 0 0]) ?_ 3 _ rfl; (with_reducible repeat (first | refine blk_drewN ?_ _ | refine blk_drew ?_ | refine blk_alloc ?_ _)); refine blk_put (cs := #[.int .i64 t358, .slice Ao17 t359.length co17, .slice none 0 0, .slice none 0 0]) ?_ 2 _ rfl; (with_reducible repeat (first | refine blk_drewN ?_ _ | refine blk_drew ?_ | refine blk_alloc ?_ _)); refine blk_put (cs := #[.int .i64 t358, .slice none 0 0, .slice none 0 0, .slice none 0 0]) ?_ 1 _ rfl; (with_reducible repeat (first | refine blk_drewN ?_ _ | refine blk_drew ?_ | refine blk_alloc ?_ _)); refine blk_put (cs := #[.int .i64 0, .slice none 0 0, .slice none 0 0, .slice none 0 0]) ?_ 0 _ rfl; (with_reducible repeat (first | refine blk_drewN ?_ _ | refine blk_drew ?_ | refine blk_alloc ?_ _)); exact BK369.out) hb); have n9_ := am23_ (below_step (lw23_ HB) hb); clear HO356; clear HO361; clear HO364; clear HO367; clear BK357; clear BK369; clear HB; have HO356 := n0_; have HO361 := n1_; have HO364 := n2_; have HO367 := n3_; have HO373 := n4_; have HO376 := n5_; have HO379 := n6_; have BK357 := n7_; have BK369 := n8_; have HB := n9_; clear n0_ n1_ n2_ n3_ n4_ n5_ n6_ n7_ n8_ n9_; (try clear hb); (try clear hb2); (try clear hk); (try clear hi); (try clear ho0); (try clear ho1); (try clear ho2)) | ((with_reducible refine gate_dst (N := 8) rfl ?_); refine box_event ?hg (N := 8) ?hd (cs := #[.int .i64 0, .slice none 0 0, .slice none 0 0, .slice none 0 0]) (t := 31) ?hr ?_; (case hd => rfl); (case hg => rfl); (case hr => first | (go_simp; done) | (go_simp; rfl)); intro gb381 hg w22 hbox hb; have n0_ := am23_ (Kd.R_below (lf23_ HO356) hb); have n1_ := am23_ (Kd.R_below (lf23_ HO361) hb); have n2_ := am23_ (Kd.R_below (lf23_ HO364) hb); have n3_ := am23_ (Kd.R_below (lf23_ HO367) hb); have n4_ := am23_ (Kd.R_below (lf23_ HO373) hb); have n5_ := am23_ (Kd.R_below (lf23_ HO376) hb); have n6_ := am23_ (Kd.R_below (lf23_ HO379) hb); have n7_ := am23_ (blk_below (g := gb357) (o := .cells #[.int .i64 t353, .slice Ao12 t354.length co12] 29 (0, 0)) (lb23_ BK357) hb); have n8_ := am23_ (blk_below (g := gb369) (o := .cells #[.int .i64 t358, .slice Ao17 t359.length co17, .slice Ao18 t362.length co18, .slice Ao19 t365.length co19] 31 (0, 0)) (lb23_ BK369) hb); have n9_ := am23_ (below_step (lw23_ HB) hb); have n10_ := am23_ (hbox); have n11_ := am23_ ((by rw [hg]; exact (below_size (lw23_ HB)) : w.heap.size ≤ gb381)); have n12_ := am23_ ((by rw [hg]; exact (below_size (lw23_ HB)) : w.heap.size ≤ gb381)); have n13_ := am23_ ((by rw [hg]; exact Nat.ne_of_lt (blk_lt (g := gb357) (lb23_ BK357)) : gb357 ≠ gb381)); have n14_ := am23_ ((by rw [hg]; exact Nat.ne_of_gt (blk_lt (g := gb357) (lb23_ BK357)) : gb381 ≠ gb357)); have n15_ := am23_ ((by rw [hg]; exact Nat.ne_of_lt (blk_lt (g := gb369) (lb23_ BK369)) : gb369 ≠ gb381)); have n16_ := am23_ ((by rw [hg]; exact Nat.ne_of_gt (blk_lt (g := gb369) (lb23_ BK369)) : gb381 ≠ gb369)); clear HO356; clear HO361; clear HO364; clear HO367; clear HO373; clear HO376; clear HO379; clear BK357; clear BK369; clear HB; have HO356 := n0_; have HO361 := n1_; have HO364 := n2_; have HO367 := n3_; have HO373 := n4_; have HO376 := n5_; have HO379 := n6_; have BK357 := n7_; have BK369 := n8_; have HB := n9_; have BK381 := n10_; have GW381 := n11_; have GE381 := n12_; have NB357_381 := n13_; have NB381_357 := n14_; have NB369_381 := n15_; have NB381_369 := n16_; clear n0_ n1_ n2_ n3_ n4_ n5_ n6_ n7_ n8_ n9_ n10_ n11_ n12_ n13_ n14_ n15_ n16_; clear hb hbox hg; have hnb23 := NB381_357.out; have hnc23 := NB357_381.out; have hnb24 := NB381_369.out; have hnc24 := NB369_381.out; have hcz25_0 : w22.cell? ⟨gb381, 0, none⟩ = some (.int .i64 0) := (blk_cell BK381.out 0).trans rfl; have hcz25_1 : w22.cell? ⟨gb381, 1, none⟩ = some (.slice none 0 0) := (blk_cell BK381.out 1).trans rfl; have hcz25_2 : w22.cell? ⟨gb381, 2, none⟩ = some (.slice none 0 0) := (blk_cell BK381.out 2).trans rfl; have hcz25_3 : w22.cell? ⟨gb381, 3, none⟩ = some (.slice none 0 0) := (blk_cell BK381.out 3).trans rfl; have hfz25_0 := blk_frozen BK381.out 0; have hfz25_1 := blk_frozen BK381.out 1; have hfz25_2 := blk_frozen BK381.out 2; have hfz25_3 := blk_frozen BK381.out 3; obtain ⟨Ao26, co26, eo26⟩ := Kd.R_slice HO373.out; subst eo26; obtain ⟨Ao27, co27, eo27⟩ := Kd.R_slice HO376.out; subst eo27; obtain ⟨Ao28, co28, eo28⟩ := Kd.R_slice HO379.out; subst eo28))
  (try simp only [Act.put, List.setIfInBounds_toArray, List.set_cons_zero, List.set_cons_succ])
  go_cut [48] (fun v48 wc => ∃ (kq : Nat) (x48_7 : Bool), v48 = .bool x48_7 ∧ Aside0 (laws_FnRankUndoesSelect.j0 kq t380 x48_7 t353 t354 t358 t359 t362 t365 = some r) ∧ Aside0 (kq ≤ k) ∧ Aside0 (Kd.R (Kd.int .i64) 3 wc w.heap.size (fun k_ => some k_ ≠ ((.slice Ao17 t359.length co17) : Value).ownBlock ∧ some k_ ≠ ((.slice Ao18 t362.length co18) : Value).ownBlock ∧ some k_ ≠ ((.slice Ao19 t365.length co19) : Value).ownBlock ∧ some k_ ≠ ((.slice Ao26 t371.length co26) : Value).ownBlock ∧ some k_ ≠ ((.slice Ao27 t374.length co27) : Value).ownBlock ∧ some k_ ≠ ((.slice Ao28 t377.length co28) : Value).ownBlock) (.slice Ao12 t354.length co12) t354) ∧ Aside0 (Kd.R (Kd.int .i64) 3 wc w.heap.size (fun k_ => some k_ ≠ ((.slice Ao12 t354.length co12) : Value).ownBlock ∧ some k_ ≠ ((.slice Ao18 t362.length co18) : Value).ownBlock ∧ some k_ ≠ ((.slice Ao19 t365.length co19) : Value).ownBlock ∧ some k_ ≠ ((.slice Ao26 t371.length co26) : Value).ownBlock ∧ some k_ ≠ ((.slice Ao27 t374.length co27) : Value).ownBlock ∧ some k_ ≠ ((.slice Ao28 t377.length co28) : Value).ownBlock) (.slice Ao17 t359.length co17) t359) ∧ Aside0 (Kd.R (Kd.int .i64) 3 wc w.heap.size (fun k_ => some k_ ≠ ((.slice Ao12 t354.length co12) : Value).ownBlock ∧ some k_ ≠ ((.slice Ao17 t359.length co17) : Value).ownBlock ∧ some k_ ≠ ((.slice Ao19 t365.length co19) : Value).ownBlock ∧ some k_ ≠ ((.slice Ao26 t371.length co26) : Value).ownBlock ∧ some k_ ≠ ((.slice Ao27 t374.length co27) : Value).ownBlock ∧ some k_ ≠ ((.slice Ao28 t377.length co28) : Value).ownBlock) (.slice Ao18 t362.length co18) t362) ∧ Aside0 (Kd.R (Kd.int .i64) 3 wc w.heap.size (fun k_ => some k_ ≠ ((.slice Ao12 t354.length co12) : Value).ownBlock ∧ some k_ ≠ ((.slice Ao17 t359.length co17) : Value).ownBlock ∧ some k_ ≠ ((.slice Ao18 t362.length co18) : Value).ownBlock ∧ some k_ ≠ ((.slice Ao26 t371.length co26) : Value).ownBlock ∧ some k_ ≠ ((.slice Ao27 t374.length co27) : Value).ownBlock ∧ some k_ ≠ ((.slice Ao28 t377.length co28) : Value).ownBlock) (.slice Ao19 t365.length co19) t365) ∧ Aside0 (Kd.R (Kd.int .i64) 3 wc w.heap.size (fun k_ => some k_ ≠ ((.slice Ao12 t354.length co12) : Value).ownBlock ∧ some k_ ≠ ((.slice Ao17 t359.length co17) : Value).ownBlock ∧ some k_ ≠ ((.slice Ao18 t362.length co18) : Value).ownBlock ∧ some k_ ≠ ((.slice Ao19 t365.length co19) : Value).ownBlock ∧ some k_ ≠ ((.slice Ao27 t374.length co27) : Value).ownBlock ∧ some k_ ≠ ((.slice Ao28 t377.length co28) : Value).ownBlock) (.slice Ao26 t371.length co26) t371) ∧ Aside0 (Kd.R (Kd.int .i64) 3 wc w.heap.size (fun k_ => some k_ ≠ ((.slice Ao12 t354.length co12) : Value).ownBlock ∧ some k_ ≠ ((.slice Ao17 t359.length co17) : Value).ownBlock ∧ some k_ ≠ ((.slice Ao18 t362.length co18) : Value).ownBlock ∧ some k_ ≠ ((.slice Ao19 t365.length co19) : Value).ownBlock ∧ some k_ ≠ ((.slice Ao26 t371.length co26) : Value).ownBlock ∧ some k_ ≠ ((.slice Ao28 t377.length co28) : Value).ownBlock) (.slice Ao27 t374.length co27) t374) ∧ Aside0 (Kd.R (Kd.int .i64) 3 wc w.heap.size (fun k_ => some k_ ≠ ((.slice Ao12 t354.length co12) : Value).ownBlock ∧ some k_ ≠ ((.slice Ao17 t359.length co17) : Value).ownBlock ∧ some k_ ≠ ((.slice Ao18 t362.length co18) : Value).ownBlock ∧ some k_ ≠ ((.slice Ao19 t365.length co19) : Value).ownBlock ∧ some k_ ≠ ((.slice Ao26 t371.length co26) : Value).ownBlock ∧ some k_ ≠ ((.slice Ao27 t374.length co27) : Value).ownBlock) (.slice Ao28 t377.length co28) t377) ∧ Aside0 (wc.heap[gb357]? = some (.cells #[.int .i64 t353, (.slice Ao12 t354.length co12)] 29 (0, 0))) ∧ Aside0 (wc.heap[gb369]? = some (.cells #[.int .i64 t358, (.slice Ao17 t359.length co17), (.slice Ao18 t362.length co18), (.slice Ao19 t365.length co19)] 31 (0, 0))) ∧ Aside0 (wc.heap[gb381]? = some (.cells #[.int .i64 t370, (.slice Ao26 t371.length co26), (.slice Ao27 t374.length co27), (.slice Ao28 t377.length co28)] 31 (0, 0))) ∧ Aside0 (Below w.heap.size w wc))
  case first =>
   have H := HC8.out
   clear HC8
   by_cases c29 : (t368 != t380) = true
   ·rw [if_pos c29] at H
    exact absurd H (by simp)
   ·rw [if_neg c29] at H
    have c29b0 : (t368 != t380) = false := by simpa using c29
    (try (have c29b1 : decide (t368 = t380) = true := by simpa using c29))
    (try (have c29b2 : (t368 == t380) = true := by simpa using c29))
    clear c29
    (first | rw [c29b0] | (simp only [i64_w, i32_w]; rw [c29b0]) | skip)
    replace H := Option.bind_eq_some_iff.mp H
    obtain ⟨t382, A300, H⟩ := H
    replace H : (laws_FnRankUndoesSelect.j0 k t380 (!t382) t353 t354 t358 t359 t362 t365) = some r := H
    have A30 := am23_ A300
    clear A300
    have H' := am23_ H
    clear H
    have hnb31 := NB369_357.out
    have hnc31 := NB357_369.out
    have hnb32 := NB369_381.out
    have hnc32 := NB381_369.out
    have hcz33_0 : w22.cell? ⟨gb369, 0, none⟩ = some (.int .i64 t358) := (blk_cell BK369.out 0).trans rfl
    have hcz33_1 : w22.cell? ⟨gb369, 1, none⟩ = some (.slice Ao17 t359.length co17) := (blk_cell BK369.out 1).trans rfl
    have hcz33_2 : w22.cell? ⟨gb369, 2, none⟩ = some (.slice Ao18 t362.length co18) := (blk_cell BK369.out 2).trans rfl
    have hcz33_3 : w22.cell? ⟨gb369, 3, none⟩ = some (.slice Ao19 t365.length co19) := (blk_cell BK369.out 3).trans rfl
    have hfz33_0 := blk_frozen BK369.out 0
    have hfz33_1 := blk_frozen BK369.out 1
    have hfz33_2 := blk_frozen BK369.out 2
    have hfz33_3 := blk_frozen BK369.out 3
    have hnb34 := NB381_357.out
    have hnc34 := NB357_381.out
    have hcz35_0 : w22.cell? ⟨gb381, 0, none⟩ = some (.int .i64 0) := (blk_cell BK381.out 0).trans rfl
    have hcz35_1 : w22.cell? ⟨gb381, 1, none⟩ = some (.slice none 0 0) := (blk_cell BK381.out 1).trans rfl
    have hcz35_2 : w22.cell? ⟨gb381, 2, none⟩ = some (.slice none 0 0) := (blk_cell BK381.out 2).trans rfl
    have hcz35_3 : w22.cell? ⟨gb381, 3, none⟩ = some (.slice none 0 0) := (blk_cell BK381.out 3).trans rfl
    have hfz35_0 := blk_frozen BK381.out 0
    have hfz35_1 := blk_frozen BK381.out 1
    have hfz35_2 := blk_frozen BK381.out 2
    have hfz35_3 := blk_frozen BK381.out 3
    have Z6_ := am23_ (Kd.R_far (p := ⟨gb381, 3, none⟩) (Kd.R_far (p := ⟨gb381, 2, none⟩) (Kd.R_far (p := ⟨gb381, 1, none⟩) (Kd.R_far (p := ⟨gb381, 0, none⟩) (Kd.R_types HO379.out BK381.out (by decide)) (fun _ hk => hk.2) (.int .i64 t370)) (fun _ hk => hk.2) (.slice Ao26 t371.length co26)) (fun _ hk => hk.2) (.slice Ao27 t374.length co27)) (fun _ hk => hk.2) (.slice Ao28 t377.length co28))
    have Z5_ := am23_ (Kd.R_far (p := ⟨gb381, 3, none⟩) (Kd.R_far (p := ⟨gb381, 2, none⟩) (Kd.R_far (p := ⟨gb381, 1, none⟩) (Kd.R_far (p := ⟨gb381, 0, none⟩) (Kd.R_types HO376.out BK381.out (by decide)) (fun _ hk => hk.2) (.int .i64 t370)) (fun _ hk => hk.2) (.slice Ao26 t371.length co26)) (fun _ hk => hk.2) (.slice Ao27 t374.length co27)) (fun _ hk => hk.2) (.slice Ao28 t377.length co28))
    have Z4_ := am23_ (Kd.R_far (p := ⟨gb381, 3, none⟩) (Kd.R_far (p := ⟨gb381, 2, none⟩) (Kd.R_far (p := ⟨gb381, 1, none⟩) (Kd.R_far (p := ⟨gb381, 0, none⟩) (Kd.R_types HO373.out BK381.out (by decide)) (fun _ hk => hk.2) (.int .i64 t370)) (fun _ hk => hk.2) (.slice Ao26 t371.length co26)) (fun _ hk => hk.2) (.slice Ao27 t374.length co27)) (fun _ hk => hk.2) (.slice Ao28 t377.length co28))
    have Z3_ := am23_ (Kd.R_far (p := ⟨gb381, 3, none⟩) (Kd.R_far (p := ⟨gb381, 2, none⟩) (Kd.R_far (p := ⟨gb381, 1, none⟩) (Kd.R_far (p := ⟨gb381, 0, none⟩) (Kd.R_types HO367.out BK381.out (by decide)) (fun _ hk => hk.2) (.int .i64 t370)) (fun _ hk => hk.2) (.slice Ao26 t371.length co26)) (fun _ hk => hk.2) (.slice Ao27 t374.length co27)) (fun _ hk => hk.2) (.slice Ao28 t377.length co28))
    have Z2_ := am23_ (Kd.R_far (p := ⟨gb381, 3, none⟩) (Kd.R_far (p := ⟨gb381, 2, none⟩) (Kd.R_far (p := ⟨gb381, 1, none⟩) (Kd.R_far (p := ⟨gb381, 0, none⟩) (Kd.R_types HO364.out BK381.out (by decide)) (fun _ hk => hk.2) (.int .i64 t370)) (fun _ hk => hk.2) (.slice Ao26 t371.length co26)) (fun _ hk => hk.2) (.slice Ao27 t374.length co27)) (fun _ hk => hk.2) (.slice Ao28 t377.length co28))
    have Z1_ := am23_ (Kd.R_far (p := ⟨gb381, 3, none⟩) (Kd.R_far (p := ⟨gb381, 2, none⟩) (Kd.R_far (p := ⟨gb381, 1, none⟩) (Kd.R_far (p := ⟨gb381, 0, none⟩) (Kd.R_types HO361.out BK381.out (by decide)) (fun _ hk => hk.2) (.int .i64 t370)) (fun _ hk => hk.2) (.slice Ao26 t371.length co26)) (fun _ hk => hk.2) (.slice Ao27 t374.length co27)) (fun _ hk => hk.2) (.slice Ao28 t377.length co28))
    go_wp2_with (first | (go_at_call 52; (with_reducible refine (laws_pSameRanked.calls k t358 _ _ t359 _ _ t362 _ _ t365 t370 _ _ t371 _ _ t374 _ _ t377 t382 _ ?side1 ?side2 ?side3 ?side4 ?side5 ?side6 ?side7 ?side8 ?side9 ?side10 ?side11 ?side12 A30.out).mono ?_); (case side1 => refine (Kd.R_reads' (e := 3) (base := w.heap.size) (ok := fun k_ => (((((some k_ ≠ (.slice Ao18 t362.length co18 : Value).ownBlock ∧ some k_ ≠ (.slice Ao19 t365.length co19 : Value).ownBlock) ∧ some k_ ≠ (.slice Ao12 t354.length co12 : Value).ownBlock) ∧ some k_ ≠ (.slice Ao26 t371.length co26 : Value).ownBlock) ∧ some k_ ≠ (.slice Ao27 t374.length co27 : Value).ownBlock) ∧ some k_ ≠ (.slice Ao28 t377.length co28 : Value).ownBlock)) (n := t359.length) (c := co17) ?_).2.2; exact (lt23_ (Kd.R_mono Z1_.out (fun _ h_ => h_.1)))); (case side2 => exact (Kd.R_reads' HO361.out).2.1); (case side3 => refine (Kd.R_reads' (e := 3) (base := w.heap.size) (ok := fun k_ => (((((some k_ ≠ (.slice Ao17 t359.length co17 : Value).ownBlock ∧ some k_ ≠ (.slice Ao19 t365.length co19 : Value).ownBlock) ∧ some k_ ≠ (.slice Ao12 t354.length co12 : Value).ownBlock) ∧ some k_ ≠ (.slice Ao26 t371.length co26 : Value).ownBlock) ∧ some k_ ≠ (.slice Ao27 t374.length co27 : Value).ownBlock) ∧ some k_ ≠ (.slice Ao28 t377.length co28 : Value).ownBlock)) (n := t362.length) (c := co18) ?_).2.2; exact (lt23_ (Kd.R_mono Z2_.out (fun _ h_ => h_.1)))); (case side4 => exact (Kd.R_reads' HO364.out).2.1); (case side5 => refine (Kd.R_reads' (e := 3) (base := w.heap.size) (ok := fun k_ => (((((some k_ ≠ (.slice Ao17 t359.length co17 : Value).ownBlock ∧ some k_ ≠ (.slice Ao18 t362.length co18 : Value).ownBlock) ∧ some k_ ≠ (.slice Ao12 t354.length co12 : Value).ownBlock) ∧ some k_ ≠ (.slice Ao26 t371.length co26 : Value).ownBlock) ∧ some k_ ≠ (.slice Ao27 t374.length co27 : Value).ownBlock) ∧ some k_ ≠ (.slice Ao28 t377.length co28 : Value).ownBlock)) (n := t365.length) (c := co19) ?_).2.2; exact (lt23_ (Kd.R_mono Z3_.out (fun _ h_ => h_.1)))); (case side6 => exact (Kd.R_reads' HO367.out).2.1); (case side7 => refine (Kd.R_reads' (e := 3) (base := w.heap.size) (ok := fun k_ => (((((some k_ ≠ (.slice Ao27 t374.length co27 : Value).ownBlock ∧ some k_ ≠ (.slice Ao28 t377.length co28 : Value).ownBlock) ∧ some k_ ≠ (.slice Ao12 t354.length co12 : Value).ownBlock) ∧ some k_ ≠ (.slice Ao17 t359.length co17 : Value).ownBlock) ∧ some k_ ≠ (.slice Ao18 t362.length co18 : Value).ownBlock) ∧ some k_ ≠ (.slice Ao19 t365.length co19 : Value).ownBlock)) (n := t371.length) (c := co26) ?_).2.2; exact (lt23_ (Kd.R_mono Z4_.out (fun _ h_ => h_.1)))); (case side8 => exact (Kd.R_reads' HO373.out).2.1); (case side9 => refine (Kd.R_reads' (e := 3) (base := w.heap.size) (ok := fun k_ => (((((some k_ ≠ (.slice Ao26 t371.length co26 : Value).ownBlock ∧ some k_ ≠ (.slice Ao28 t377.length co28 : Value).ownBlock) ∧ some k_ ≠ (.slice Ao12 t354.length co12 : Value).ownBlock) ∧ some k_ ≠ (.slice Ao17 t359.length co17 : Value).ownBlock) ∧ some k_ ≠ (.slice Ao18 t362.length co18 : Value).ownBlock) ∧ some k_ ≠ (.slice Ao19 t365.length co19 : Value).ownBlock)) (n := t374.length) (c := co27) ?_).2.2; exact (lt23_ (Kd.R_mono Z5_.out (fun _ h_ => h_.1)))); (case side10 => exact (Kd.R_reads' HO376.out).2.1); (case side11 => refine (Kd.R_reads' (e := 3) (base := w.heap.size) (ok := fun k_ => (((((some k_ ≠ (.slice Ao26 t371.length co26 : Value).ownBlock ∧ some k_ ≠ (.slice Ao27 t374.length co27 : Value).ownBlock) ∧ some k_ ≠ (.slice Ao12 t354.length co12 : Value).ownBlock) ∧ some k_ ≠ (.slice Ao17 t359.length co17 : Value).ownBlock) ∧ some k_ ≠ (.slice Ao18 t362.length co18 : Value).ownBlock) ∧ some k_ ≠ (.slice Ao19 t365.length co19 : Value).ownBlock)) (n := t377.length) (c := co28) ?_).2.2; exact (lt23_ (Kd.R_mono Z6_.out (fun _ h_ => h_.1)))); (case side12 => exact (Kd.R_reads' HO379.out).2.1); rintro e w36 ⟨rfl, hb⟩; have n0_ := am23_ (Kd.R_below (lt23_ (Kd.R_mono (Kd.R_far (p := ⟨gb381, 3, none⟩) (Kd.R_far (p := ⟨gb381, 2, none⟩) (Kd.R_far (p := ⟨gb381, 1, none⟩) (Kd.R_far (p := ⟨gb381, 0, none⟩) (Kd.R_types HO356.out BK381.out (by decide)) (fun _ hk => hk.2) (.int .i64 t370)) (fun _ hk => hk.2) (.slice Ao26 t371.length co26)) (fun _ hk => hk.2) (.slice Ao27 t374.length co27)) (fun _ hk => hk.2) (.slice Ao28 t377.length co28)) (fun _ h_ => h_.1))) hb); have n1_ := am23_ (Kd.R_below (lt23_ (Kd.R_mono Z1_.out (fun _ h_ => h_.1))) hb); have n2_ := am23_ (Kd.R_below (lt23_ (Kd.R_mono Z2_.out (fun _ h_ => h_.1))) hb); have n3_ := am23_ (Kd.R_below (lt23_ (Kd.R_mono Z3_.out (fun _ h_ => h_.1))) hb); have n4_ := am23_ (Kd.R_below (lt23_ (Kd.R_mono Z4_.out (fun _ h_ => h_.1))) hb); have n5_ := am23_ (Kd.R_below (lt23_ (Kd.R_mono Z5_.out (fun _ h_ => h_.1))) hb); have n6_ := am23_ (Kd.R_below (lt23_ (Kd.R_mono Z6_.out (fun _ h_ => h_.1))) hb); have n7_ := am23_ (blk_below (g := gb357) (o := .cells #[.int .i64 t353, .slice Ao12 t354.length co12] 29 (0, 0)) (by (with_reducible repeat (first | refine blk_drewN ?_ _ | refine blk_drew ?_ | refine blk_alloc ?_ _)); refine blk_far ?_ NB357_381.out _; (with_reducible repeat (first | refine blk_drewN ?_ _ | refine blk_drew ?_ | refine blk_alloc ?_ _)); refine blk_far ?_ NB357_381.out _; (with_reducible repeat (first | refine blk_drewN ?_ _ | refine blk_drew ?_ | refine blk_alloc ?_ _)); refine blk_far ?_ NB357_381.out _; (with_reducible repeat (first | refine blk_drewN ?_ _ | refine blk_drew ?_ | refine blk_alloc ?_ _)); refine blk_far ?_ NB357_381.out _; (with_reducible repeat (first | refine blk_drewN ?_ _ | refine blk_drew ?_ | refine blk_alloc ?_ _)); exact BK357.out) hb); have n8_ := am23_ (blk_below (g := gb369) (o := .cells #[.int .i64 t358, .slice Ao17 t359.length co17, .slice Ao18 t362.length co18, .slice Ao19 t365.length co19] 31 (0, 0)) (by (with_reducible repeat (first | refine blk_drewN ?_ _ | refine blk_drew ?_ | refine blk_alloc ?_ _)); refine blk_far ?_ NB369_381.out _; (with_reducible repeat (first | refine blk_drewN ?_ _ | refine blk_drew ?_ | refine blk_alloc ?_ _)); refine blk_far ?_ NB369_381.out _; (with_reducible repeat (first | refine blk_drewN ?_ _ | refine blk_drew ?_ | refine blk_alloc ?_ _)); refine blk_far ?_ NB369_381.out _; (with_reducible repeat (first | refine blk_drewN ?_ _ | refine blk_drew ?_ | refine blk_alloc ?_ _)); refine blk_far ?_ NB369_381.out _; (with_reducible repeat (first | refine blk_drewN ?_ _ | refine blk_drew ?_ | refine blk_alloc ?_ _)); exact BK369.out) hb); have n9_ := am23_ (blk_below (g := gb381) (o := .cells #[.int .i64 t370, .slice Ao26 t371.length co26, .slice Ao27 t374.length co27, .slice Ao28 t377.length co28] 31 (0, 0)) (by (with_reducible repeat (first | refine blk_drewN ?_ _ | refine blk_drew ?_ | refine blk_alloc ?_ _)); refine blk_put (cs := #[.int .i64 t370, .slice Ao26 t371.length co26, .slice Ao27 t374.length co27, .slice none 0 0]) ?_ 3 _ rfl; (with_reducible repeat (first | refine blk_drewN ?_ _ | refine blk_drew ?_ | refine blk_alloc ?_ _)); refine blk_put (cs := #[.int .i64 t370, .slice Ao26 t371.length co26, .slice none 0 0, .slice none 0 0]) ?_ 2 _ rfl; (with_reducible repeat (first | refine blk_drewN ?_ _ | refine blk_drew ?_ | refine blk_alloc ?_ _)); refine blk_put (cs := #[.int .i64 t370, .slice none 0 0, .slice none 0 0, .slice none 0 0]) ?_ 1 _ rfl; (with_reducible repeat (first | refine blk_drewN ?_ _ | refine blk_drew ?_ | refine blk_alloc ?_ _)); refine blk_put (cs := #[.int .i64 0, .slice none 0 0, .slice none 0 0, .slice none 0 0]) ?_ 0 _ rfl; (with_reducible repeat (first | refine blk_drewN ?_ _ | refine blk_drew ?_ | refine blk_alloc ?_ _)); exact BK381.out) hb); have n10_ := am23_ (below_step (lw23_ HB) hb); clear HO356; clear HO361; clear HO364; clear HO367; clear HO373; clear HO376; clear HO379; clear BK357; clear BK369; clear BK381; clear HB; have HO356 := n0_; have HO361 := n1_; have HO364 := n2_; have HO367 := n3_; have HO373 := n4_; have HO376 := n5_; have HO379 := n6_; have BK357 := n7_; have BK369 := n8_; have BK381 := n9_; have HB := n10_; clear n0_ n1_ n2_ n3_ n4_ n5_ n6_ n7_ n8_ n9_ n10_; (try clear hb); (try clear hb2); (try clear hk); (try clear hi)))
    go_meet
    case rel => exact ⟨_, (!t382), (by first | rfl | (simp; done) | (simp [*]; done)), H', ⟨by first | omega | exact Nat.le_refl _⟩, ⟨by (with_reducible repeat (first | apply Kd.R_alloc | apply Kd.R_drewN | apply Kd.R_drew)); exact Kd.R_mono HO356.out (fun _ hk => ⟨hk.1.1.1.1.1.2, ⟨hk.1.1.1.1.2, ⟨hk.1.1.1.2, ⟨hk.1.1.2, ⟨hk.1.2, hk.2⟩⟩⟩⟩⟩)⟩, ⟨by (with_reducible repeat (first | apply Kd.R_alloc | apply Kd.R_drewN | apply Kd.R_drew)); exact Kd.R_mono HO361.out (fun _ hk => ⟨hk.1.1.1.2, ⟨hk.1.1.1.1.1, ⟨hk.1.1.1.1.2, ⟨hk.1.1.2, ⟨hk.1.2, hk.2⟩⟩⟩⟩⟩)⟩, ⟨by (with_reducible repeat (first | apply Kd.R_alloc | apply Kd.R_drewN | apply Kd.R_drew)); exact Kd.R_mono HO364.out (fun _ hk => ⟨hk.1.1.1.2, ⟨hk.1.1.1.1.1, ⟨hk.1.1.1.1.2, ⟨hk.1.1.2, ⟨hk.1.2, hk.2⟩⟩⟩⟩⟩)⟩, ⟨by (with_reducible repeat (first | apply Kd.R_alloc | apply Kd.R_drewN | apply Kd.R_drew)); exact Kd.R_mono HO367.out (fun _ hk => ⟨hk.1.1.1.2, ⟨hk.1.1.1.1.1, ⟨hk.1.1.1.1.2, ⟨hk.1.1.2, ⟨hk.1.2, hk.2⟩⟩⟩⟩⟩)⟩, ⟨by (with_reducible repeat (first | apply Kd.R_alloc | apply Kd.R_drewN | apply Kd.R_drew)); exact Kd.R_mono HO373.out (fun _ hk => ⟨hk.1.1.1.2, ⟨hk.1.1.2, ⟨hk.1.2, ⟨hk.2, ⟨hk.1.1.1.1.1, hk.1.1.1.1.2⟩⟩⟩⟩⟩)⟩, ⟨by (with_reducible repeat (first | apply Kd.R_alloc | apply Kd.R_drewN | apply Kd.R_drew)); exact Kd.R_mono HO376.out (fun _ hk => ⟨hk.1.1.1.2, ⟨hk.1.1.2, ⟨hk.1.2, ⟨hk.2, ⟨hk.1.1.1.1.1, hk.1.1.1.1.2⟩⟩⟩⟩⟩)⟩, ⟨by (with_reducible repeat (first | apply Kd.R_alloc | apply Kd.R_drewN | apply Kd.R_drew)); exact Kd.R_mono HO379.out (fun _ hk => ⟨hk.1.1.1.2, ⟨hk.1.1.2, ⟨hk.1.2, ⟨hk.2, ⟨hk.1.1.1.1.1, hk.1.1.1.1.2⟩⟩⟩⟩⟩)⟩, ⟨lb23_ BK357⟩, ⟨lb23_ BK369⟩, ⟨lb23_ BK381⟩, ⟨lw23_ HB⟩⟩
  case rest =>
   clear HC8
   try clear c1
   try clear c2
   try clear p2
   try clear c3
   try clear c4
   try clear c5
   try clear c14
   try clear c15
   try clear c21
   try clear c23
   try clear c24
   try clear c29
   try clear c29b0
   try clear c29b1
   try clear c29b2
   try clear c31
   try clear c32
   try clear c34
   try clear hcz11_0
   try clear hcz11_1
   try clear hcz16_0
   try clear hcz16_1
   try clear hcz16_2
   try clear hcz16_3
   try clear hcz20_0
   try clear hcz20_1
   try clear hcz25_0
   try clear hcz25_1
   try clear hcz25_2
   try clear hcz25_3
   try clear hcz33_0
   try clear hcz33_1
   try clear hcz33_2
   try clear hcz33_3
   try clear hcz35_0
   try clear hcz35_1
   try clear hcz35_2
   try clear hcz35_3
   try clear hfz11_0
   try clear hfz11_1
   try clear hfz16_0
   try clear hfz16_1
   try clear hfz16_2
   try clear hfz16_3
   try clear hfz20_0
   try clear hfz20_1
   try clear hfz25_0
   try clear hfz25_1
   try clear hfz25_2
   try clear hfz25_3
   try clear hfz33_0
   try clear hfz33_1
   try clear hfz33_2
   try clear hfz33_3
   try clear hfz35_0
   try clear hfz35_1
   try clear hfz35_2
   try clear hfz35_3
   obtain ⟨kq, x48_7, rfl, HA, HJ7, HO_358001, HO_370001, HO_370002, HO_370003, HO_382001, HO_382002, HO_382003, BK357, BK369, BK381, HB⟩ := hcut
   cases kq with
   | zero => exact absurd HA.out (by simp [laws_FnRankUndoesSelect.j0])
   | succ kj7 =>
    have H := HA.out
    clear HA
    simp only [laws_FnRankUndoesSelect.j0] at H
    by_cases c37 : x48_7 = true
    ·subst c37
     have H1 : (none) = some r := by rw [if_pos rfl] at H; exact H
     clear H
     have H := H1
     clear H1
     exact absurd H (by simp)
    ·replace c37 := Bool.eq_false_iff.mpr c37
     subst c37
     have H1 : (if t380 = true then (laws_FnRankUndoesSelect.j1 kj7 (decide (t353 > 400)) t353 t354 t358 t359 t362 t365) else (laws_FnRankUndoesSelect.j1 kj7 true t353 t354 t358 t359 t362 t365)) = some r := by rw [if_neg (show ¬ (false = true) by decide)] at H; exact H
     clear H
     have H := H1
     clear H1
     have HC38 := am23_ H
     clear H
     go_upto_region 8 with (fail)
     go_cut [55] (fun v55 wc => ∃ (kq : Nat) (x55_37 : Bool), v55 = .bool x55_37 ∧ Aside0 (laws_FnRankUndoesSelect.j1 kq x55_37 t353 t354 t358 t359 t362 t365 = some r) ∧ Aside0 (kq ≤ kj7) ∧ Aside0 (Kd.R (Kd.int .i64) 3 wc w.heap.size (fun k_ => some k_ ≠ ((.slice Ao17 t359.length co17) : Value).ownBlock ∧ some k_ ≠ ((.slice Ao18 t362.length co18) : Value).ownBlock ∧ some k_ ≠ ((.slice Ao19 t365.length co19) : Value).ownBlock ∧ some k_ ≠ ((.slice Ao26 t371.length co26) : Value).ownBlock ∧ some k_ ≠ ((.slice Ao27 t374.length co27) : Value).ownBlock ∧ some k_ ≠ ((.slice Ao28 t377.length co28) : Value).ownBlock) (.slice Ao12 t354.length co12) t354) ∧ Aside0 (Kd.R (Kd.int .i64) 3 wc w.heap.size (fun k_ => some k_ ≠ ((.slice Ao12 t354.length co12) : Value).ownBlock ∧ some k_ ≠ ((.slice Ao18 t362.length co18) : Value).ownBlock ∧ some k_ ≠ ((.slice Ao19 t365.length co19) : Value).ownBlock ∧ some k_ ≠ ((.slice Ao26 t371.length co26) : Value).ownBlock ∧ some k_ ≠ ((.slice Ao27 t374.length co27) : Value).ownBlock ∧ some k_ ≠ ((.slice Ao28 t377.length co28) : Value).ownBlock) (.slice Ao17 t359.length co17) t359) ∧ Aside0 (Kd.R (Kd.int .i64) 3 wc w.heap.size (fun k_ => some k_ ≠ ((.slice Ao12 t354.length co12) : Value).ownBlock ∧ some k_ ≠ ((.slice Ao17 t359.length co17) : Value).ownBlock ∧ some k_ ≠ ((.slice Ao19 t365.length co19) : Value).ownBlock ∧ some k_ ≠ ((.slice Ao26 t371.length co26) : Value).ownBlock ∧ some k_ ≠ ((.slice Ao27 t374.length co27) : Value).ownBlock ∧ some k_ ≠ ((.slice Ao28 t377.length co28) : Value).ownBlock) (.slice Ao18 t362.length co18) t362) ∧ Aside0 (Kd.R (Kd.int .i64) 3 wc w.heap.size (fun k_ => some k_ ≠ ((.slice Ao12 t354.length co12) : Value).ownBlock ∧ some k_ ≠ ((.slice Ao17 t359.length co17) : Value).ownBlock ∧ some k_ ≠ ((.slice Ao18 t362.length co18) : Value).ownBlock ∧ some k_ ≠ ((.slice Ao26 t371.length co26) : Value).ownBlock ∧ some k_ ≠ ((.slice Ao27 t374.length co27) : Value).ownBlock ∧ some k_ ≠ ((.slice Ao28 t377.length co28) : Value).ownBlock) (.slice Ao19 t365.length co19) t365) ∧ Aside0 (Kd.R (Kd.int .i64) 3 wc w.heap.size (fun k_ => some k_ ≠ ((.slice Ao12 t354.length co12) : Value).ownBlock ∧ some k_ ≠ ((.slice Ao17 t359.length co17) : Value).ownBlock ∧ some k_ ≠ ((.slice Ao18 t362.length co18) : Value).ownBlock ∧ some k_ ≠ ((.slice Ao19 t365.length co19) : Value).ownBlock ∧ some k_ ≠ ((.slice Ao27 t374.length co27) : Value).ownBlock ∧ some k_ ≠ ((.slice Ao28 t377.length co28) : Value).ownBlock) (.slice Ao26 t371.length co26) t371) ∧ Aside0 (Kd.R (Kd.int .i64) 3 wc w.heap.size (fun k_ => some k_ ≠ ((.slice Ao12 t354.length co12) : Value).ownBlock ∧ some k_ ≠ ((.slice Ao17 t359.length co17) : Value).ownBlock ∧ some k_ ≠ ((.slice Ao18 t362.length co18) : Value).ownBlock ∧ some k_ ≠ ((.slice Ao19 t365.length co19) : Value).ownBlock ∧ some k_ ≠ ((.slice Ao26 t371.length co26) : Value).ownBlock ∧ some k_ ≠ ((.slice Ao28 t377.length co28) : Value).ownBlock) (.slice Ao27 t374.length co27) t374) ∧ Aside0 (Kd.R (Kd.int .i64) 3 wc w.heap.size (fun k_ => some k_ ≠ ((.slice Ao12 t354.length co12) : Value).ownBlock ∧ some k_ ≠ ((.slice Ao17 t359.length co17) : Value).ownBlock ∧ some k_ ≠ ((.slice Ao18 t362.length co18) : Value).ownBlock ∧ some k_ ≠ ((.slice Ao19 t365.length co19) : Value).ownBlock ∧ some k_ ≠ ((.slice Ao26 t371.length co26) : Value).ownBlock ∧ some k_ ≠ ((.slice Ao27 t374.length co27) : Value).ownBlock) (.slice Ao28 t377.length co28) t377) ∧ Aside0 (wc.heap[gb357]? = some (.cells #[.int .i64 t353, (.slice Ao12 t354.length co12)] 29 (0, 0))) ∧ Aside0 (wc.heap[gb369]? = some (.cells #[.int .i64 t358, (.slice Ao17 t359.length co17), (.slice Ao18 t362.length co18), (.slice Ao19 t365.length co19)] 31 (0, 0))) ∧ Aside0 (wc.heap[gb381]? = some (.cells #[.int .i64 t370, (.slice Ao26 t371.length co26), (.slice Ao27 t374.length co27), (.slice Ao28 t377.length co28)] 31 (0, 0))) ∧ Aside0 (Below w.heap.size w wc))
     case first =>
      have H := HC38.out
      clear HC38
      by_cases c39 : t380 = true
      ·subst c39
       have H1 : (laws_FnRankUndoesSelect.j1 kj7 (decide (t353 > 400)) t353 t354 t358 t359 t362 t365) = some r := by rw [if_pos rfl] at H; exact H
       clear H
       have H := H1
       clear H1
       have H' := am23_ H
       clear H
       have hnb40 := NB357_369.out
       have hnc40 := NB369_357.out
       have hnb41 := NB357_381.out
       have hnc41 := NB381_357.out
       have hcz42_0 : wc.cell? ⟨gb357, 0, none⟩ = some (.int .i64 t353) := (blk_cell BK357.out 0).trans rfl
       have hcz42_1 : wc.cell? ⟨gb357, 1, none⟩ = some (.slice Ao12 t354.length co12) := (blk_cell BK357.out 1).trans rfl
       have hfz42_0 := blk_frozen BK357.out 0
       have hfz42_1 := blk_frozen BK357.out 1
       go_wp2
       go_meet
       case rel => exact ⟨_, (decide (t353 > 400)), (by first | rfl | (simp; done) | (simp [*]; done)), H', ⟨by have := HJ7.out; first | omega | exact Nat.le_refl _⟩, ⟨lf23_ HO_358001⟩, ⟨lf23_ HO_370001⟩, ⟨lf23_ HO_370002⟩, ⟨lf23_ HO_370003⟩, ⟨lf23_ HO_382001⟩, ⟨lf23_ HO_382002⟩, ⟨lf23_ HO_382003⟩, ⟨lb23_ BK357⟩, ⟨lb23_ BK369⟩, ⟨lb23_ BK381⟩, ⟨lw23_ HB⟩⟩
      ·replace c39 := Bool.eq_false_iff.mpr c39
       subst c39
       have H1 : (laws_FnRankUndoesSelect.j1 kj7 true t353 t354 t358 t359 t362 t365) = some r := by rw [if_neg (show ¬ (false = true) by decide)] at H; exact H
       clear H
       have H := H1
       clear H1
       have H' := am23_ H
       clear H
       go_wp2
       go_meet
       case rel => exact ⟨_, (true), (by first | rfl | (simp; done) | (simp [*]; done)), H', ⟨by have := HJ7.out; first | omega | exact Nat.le_refl _⟩, ⟨lf23_ HO_358001⟩, ⟨lf23_ HO_370001⟩, ⟨lf23_ HO_370002⟩, ⟨lf23_ HO_370003⟩, ⟨lf23_ HO_382001⟩, ⟨lf23_ HO_382002⟩, ⟨lf23_ HO_382003⟩, ⟨lb23_ BK357⟩, ⟨lb23_ BK369⟩, ⟨lb23_ BK381⟩, ⟨lw23_ HB⟩⟩
     case rest =>
      clear HC38
      try clear c1
      try clear c2
      try clear p2
      try clear c3
      try clear c4
      try clear c5
      try clear c14
      try clear c15
      try clear c21
      try clear c23
      try clear c24
      try clear c29
      try clear c29b0
      try clear c29b1
      try clear c29b2
      try clear c31
      try clear c32
      try clear c34
      try clear c37
      try clear c39
      try clear c40
      try clear c41
      try clear hcz11_0
      try clear hcz11_1
      try clear hcz16_0
      try clear hcz16_1
      try clear hcz16_2
      try clear hcz16_3
      try clear hcz20_0
      try clear hcz20_1
      try clear hcz25_0
      try clear hcz25_1
      try clear hcz25_2
      try clear hcz25_3
      try clear hcz33_0
      try clear hcz33_1
      try clear hcz33_2
      try clear hcz33_3
      try clear hcz35_0
      try clear hcz35_1
      try clear hcz35_2
      try clear hcz35_3
      try clear hcz42_0
      try clear hcz42_1
      try clear hfz11_0
      try clear hfz11_1
      try clear hfz16_0
      try clear hfz16_1
      try clear hfz16_2
      try clear hfz16_3
      try clear hfz20_0
      try clear hfz20_1
      try clear hfz25_0
      try clear hfz25_1
      try clear hfz25_2
      try clear hfz25_3
      try clear hfz33_0
      try clear hfz33_1
      try clear hfz33_2
      try clear hfz33_3
      try clear hfz35_0
      try clear hfz35_1
      try clear hfz35_2
      try clear hfz35_3
      try clear hfz42_0
      try clear hfz42_1
      try clear p2
      obtain ⟨kq, x55_37, rfl, HA, HJ37, HO_358001, HO_370001, HO_370002, HO_370003, HO_382001, HO_382002, HO_382003, BK357, BK369, BK381, HB⟩ := hcut
      cases kq with
      | zero => exact absurd HA.out (by simp [laws_FnRankUndoesSelect.j1])
      | succ kj37 =>
       have H := HA.out
       clear HA
       simp only [laws_FnRankUndoesSelect.j1] at H
       by_cases c43 : x55_37 = true
       ·subst c43
        have H1 : (some true) = some r := by rw [if_pos rfl] at H; exact H
        clear H
        have H := H1
        clear H1
        obtain rfl := Option.some.inj H
        go_wp2
        go_ret
        exact ⟨by first | rfl | (simp [errW_none, errW_some] <;> rfl) | (simp [*, errW_none, errW_some] <;> rfl), lw23_ HB⟩
       ·replace c43 := Bool.eq_false_iff.mpr c43
        subst c43
        have H1 : (laws_FnRankUndoesSelect.l0 kj37 0 t353 t354 t358 t359 t362 t365) = some r := by rw [if_neg (show ¬ (false = true) by decide)] at H; exact H
        clear H
        have H := H1
        clear H1
        have H' := am23_ H
        clear H
        go_wp2
        go_loopg [10] kj37 (fun kq v10 w' => ∃ (x10_3 : Int), v10 = .int .i64 x10_3 ∧ Aside0 (laws_FnRankUndoesSelect.l0 kq x10_3 t353 t354 t358 t359 t362 t365 = some r) ∧ Aside0 (kq ≤ kj37) ∧ Aside0 (Kd.R (Kd.int .i64) 3 w' w.heap.size (fun k_ => some k_ ≠ ((.slice Ao17 t359.length co17) : Value).ownBlock ∧ some k_ ≠ ((.slice Ao18 t362.length co18) : Value).ownBlock ∧ some k_ ≠ ((.slice Ao19 t365.length co19) : Value).ownBlock ∧ some k_ ≠ ((.slice Ao26 t371.length co26) : Value).ownBlock ∧ some k_ ≠ ((.slice Ao27 t374.length co27) : Value).ownBlock ∧ some k_ ≠ ((.slice Ao28 t377.length co28) : Value).ownBlock) (.slice Ao12 t354.length co12) t354) ∧ Aside0 (Kd.R (Kd.int .i64) 3 w' w.heap.size (fun k_ => some k_ ≠ ((.slice Ao12 t354.length co12) : Value).ownBlock ∧ some k_ ≠ ((.slice Ao18 t362.length co18) : Value).ownBlock ∧ some k_ ≠ ((.slice Ao19 t365.length co19) : Value).ownBlock ∧ some k_ ≠ ((.slice Ao26 t371.length co26) : Value).ownBlock ∧ some k_ ≠ ((.slice Ao27 t374.length co27) : Value).ownBlock ∧ some k_ ≠ ((.slice Ao28 t377.length co28) : Value).ownBlock) (.slice Ao17 t359.length co17) t359) ∧ Aside0 (Kd.R (Kd.int .i64) 3 w' w.heap.size (fun k_ => some k_ ≠ ((.slice Ao12 t354.length co12) : Value).ownBlock ∧ some k_ ≠ ((.slice Ao17 t359.length co17) : Value).ownBlock ∧ some k_ ≠ ((.slice Ao19 t365.length co19) : Value).ownBlock ∧ some k_ ≠ ((.slice Ao26 t371.length co26) : Value).ownBlock ∧ some k_ ≠ ((.slice Ao27 t374.length co27) : Value).ownBlock ∧ some k_ ≠ ((.slice Ao28 t377.length co28) : Value).ownBlock) (.slice Ao18 t362.length co18) t362) ∧ Aside0 (Kd.R (Kd.int .i64) 3 w' w.heap.size (fun k_ => some k_ ≠ ((.slice Ao12 t354.length co12) : Value).ownBlock ∧ some k_ ≠ ((.slice Ao17 t359.length co17) : Value).ownBlock ∧ some k_ ≠ ((.slice Ao18 t362.length co18) : Value).ownBlock ∧ some k_ ≠ ((.slice Ao26 t371.length co26) : Value).ownBlock ∧ some k_ ≠ ((.slice Ao27 t374.length co27) : Value).ownBlock ∧ some k_ ≠ ((.slice Ao28 t377.length co28) : Value).ownBlock) (.slice Ao19 t365.length co19) t365) ∧ Aside0 (Kd.R (Kd.int .i64) 3 w' w.heap.size (fun k_ => some k_ ≠ ((.slice Ao12 t354.length co12) : Value).ownBlock ∧ some k_ ≠ ((.slice Ao17 t359.length co17) : Value).ownBlock ∧ some k_ ≠ ((.slice Ao18 t362.length co18) : Value).ownBlock ∧ some k_ ≠ ((.slice Ao19 t365.length co19) : Value).ownBlock ∧ some k_ ≠ ((.slice Ao27 t374.length co27) : Value).ownBlock ∧ some k_ ≠ ((.slice Ao28 t377.length co28) : Value).ownBlock) (.slice Ao26 t371.length co26) t371) ∧ Aside0 (Kd.R (Kd.int .i64) 3 w' w.heap.size (fun k_ => some k_ ≠ ((.slice Ao12 t354.length co12) : Value).ownBlock ∧ some k_ ≠ ((.slice Ao17 t359.length co17) : Value).ownBlock ∧ some k_ ≠ ((.slice Ao18 t362.length co18) : Value).ownBlock ∧ some k_ ≠ ((.slice Ao19 t365.length co19) : Value).ownBlock ∧ some k_ ≠ ((.slice Ao26 t371.length co26) : Value).ownBlock ∧ some k_ ≠ ((.slice Ao28 t377.length co28) : Value).ownBlock) (.slice Ao27 t374.length co27) t374) ∧ Aside0 (Kd.R (Kd.int .i64) 3 w' w.heap.size (fun k_ => some k_ ≠ ((.slice Ao12 t354.length co12) : Value).ownBlock ∧ some k_ ≠ ((.slice Ao17 t359.length co17) : Value).ownBlock ∧ some k_ ≠ ((.slice Ao18 t362.length co18) : Value).ownBlock ∧ some k_ ≠ ((.slice Ao19 t365.length co19) : Value).ownBlock ∧ some k_ ≠ ((.slice Ao26 t371.length co26) : Value).ownBlock ∧ some k_ ≠ ((.slice Ao27 t374.length co27) : Value).ownBlock) (.slice Ao28 t377.length co28) t377) ∧ Aside0 (w'.heap[gb357]? = some (.cells #[.int .i64 t353, (.slice Ao12 t354.length co12)] 29 (0, 0))) ∧ Aside0 (w'.heap[gb369]? = some (.cells #[.int .i64 t358, (.slice Ao17 t359.length co17), (.slice Ao18 t362.length co18), (.slice Ao19 t365.length co19)] 31 (0, 0))) ∧ Aside0 (w'.heap[gb381]? = some (.cells #[.int .i64 t370, (.slice Ao26 t371.length co26), (.slice Ao27 t374.length co27), (.slice Ao28 t377.length co28)] 31 (0, 0))) ∧ Aside0 (Below w.heap.size w w'))
        case atStart => exact ⟨(0), (by first | rfl | (simp; done) | (simp [*]; done)), H', ⟨Nat.le_refl _⟩, ⟨lf23_ HO_358001⟩, ⟨lf23_ HO_370001⟩, ⟨lf23_ HO_370002⟩, ⟨lf23_ HO_370003⟩, ⟨lf23_ HO_382001⟩, ⟨lf23_ HO_382002⟩, ⟨lf23_ HO_382003⟩, ⟨lb23_ BK357⟩, ⟨lb23_ BK369⟩, ⟨lb23_ BK381⟩, ⟨lw23_ HB⟩⟩
        case round =>
         clear H'
         try clear c1
         try clear c2
         try clear p2
         try clear c3
         try clear c4
         try clear c5
         try clear c14
         try clear c15
         try clear c21
         try clear c23
         try clear c24
         try clear c29
         try clear c29b0
         try clear c29b1
         try clear c29b2
         try clear c31
         try clear c32
         try clear c34
         try clear c37
         try clear c39
         try clear c40
         try clear c41
         try clear c43
         try clear hcz11_0
         try clear hcz11_1
         try clear hcz16_0
         try clear hcz16_1
         try clear hcz16_2
         try clear hcz16_3
         try clear hcz20_0
         try clear hcz20_1
         try clear hcz25_0
         try clear hcz25_1
         try clear hcz25_2
         try clear hcz25_3
         try clear hcz33_0
         try clear hcz33_1
         try clear hcz33_2
         try clear hcz33_3
         try clear hcz35_0
         try clear hcz35_1
         try clear hcz35_2
         try clear hcz35_3
         try clear hcz42_0
         try clear hcz42_1
         try clear hfz11_0
         try clear hfz11_1
         try clear hfz16_0
         try clear hfz16_1
         try clear hfz16_2
         try clear hfz16_3
         try clear hfz20_0
         try clear hfz20_1
         try clear hfz25_0
         try clear hfz25_1
         try clear hfz25_2
         try clear hfz25_3
         try clear hfz33_0
         try clear hfz33_1
         try clear hfz33_2
         try clear hfz33_3
         try clear hfz35_0
         try clear hfz35_1
         try clear hfz35_2
         try clear hfz35_3
         try clear hfz42_0
         try clear hfz42_1
         try clear p2
         obtain ⟨x10_3, rfl, HA, HK3, HO_358001, HO_370001, HO_370002, HO_370003, HO_382001, HO_382002, HO_382003, BK357, BK369, BK381, HB⟩ := hrel
         cases gk with
         | zero => exact absurd HA.out (by simp [laws_FnRankUndoesSelect.l0])
         | succ k3 =>
          have H := HA.out
          clear HA
          simp only [laws_FnRankUndoesSelect.l0] at H
          by_cases c44 : x10_3 < t353
          ·rw [if_pos c44] at H
           have c44b0 : decide (x10_3 < t353) = true := decide_eq_true c44
           clear c44
           replace H := Option.bind_eq_some_iff.mp H
           obtain ⟨⟨t389, t390⟩, A450, H⟩ := H
           replace H : ((impl_Rank1.f k3 t358 t359 t362 t365 x10_3).bind fun bt391 => ((impl_Rank0.f k3 t358 t359 t362 t365 x10_3).bind fun bt393 => (if t390 = true then (if bt391.2 = true then (if bt393.2 = true then (laws_FnRankUndoesSelect.j3 k3 x10_3 t389 bt391.1 bt393.1 ((wrap64 (bt391.1 + bt393.1)) != x10_3) t353 t354 t358 t359 t362 t365) else (none)) else (none)) else (none)))) = some r := H
           have A45 := am23_ A450
           clear A450
           replace H := Option.bind_eq_some_iff.mp H
           obtain ⟨⟨t391, t392⟩, A460, H⟩ := H
           replace H : ((impl_Rank0.f k3 t358 t359 t362 t365 x10_3).bind fun bt393 => (if t390 = true then (if t392 = true then (if bt393.2 = true then (laws_FnRankUndoesSelect.j3 k3 x10_3 t389 t391 bt393.1 ((wrap64 (t391 + bt393.1)) != x10_3) t353 t354 t358 t359 t362 t365) else (none)) else (none)) else (none))) = some r := H
           have A46 := am23_ A460
           clear A460
           replace H := Option.bind_eq_some_iff.mp H
           obtain ⟨⟨t393, t394⟩, A470, H⟩ := H
           replace H : (if t390 = true then (if t392 = true then (if t394 = true then (laws_FnRankUndoesSelect.j3 k3 x10_3 t389 t391 t393 ((wrap64 (t391 + t393)) != x10_3) t353 t354 t358 t359 t362 t365) else (none)) else (none)) else (none)) = some r := H
           have A47 := am23_ A470
           clear A470
           have HC48 := am23_ H
           clear H
           have hnb49 := NB357_369.out
           have hnc49 := NB369_357.out
           have hnb50 := NB357_381.out
           have hnc50 := NB381_357.out
           have hcz51_0 : wr.cell? ⟨gb357, 0, none⟩ = some (.int .i64 t353) := (blk_cell BK357.out 0).trans rfl
           have hcz51_1 : wr.cell? ⟨gb357, 1, none⟩ = some (.slice Ao12 t354.length co12) := (blk_cell BK357.out 1).trans rfl
           have hfz51_0 := blk_frozen BK357.out 0
           have hfz51_1 := blk_frozen BK357.out 1
           go_upto_region 16 with (first | ((with_reducible refine gate_callee (f := 53) rfl ?_); refine goesL_ (some 65) rfl rfl Try.func53 (by kernel_rfl) rfl #[.agg #[.int .i64 t353, .slice Ao12 t354.length co12], .int .i64 x10_3] rfl lm23_ ?_; (with_reducible refine (impl_BitAt.calls k3 t353 _ _ t354 x10_3 t389 t390 _ ?side1 ?side2 A45.out).mono ?_); (case side1 => exact lc23_ (Kd.R_reads' HO_358001.out).2.2); (case side2 => exact (Kd.R_reads' HO_358001.out).2.1); rintro e w52 ⟨rfl, hb⟩; refine ⟨_, rfl, ?_⟩; have n0_ := am23_ (Kd.R_below (lf23_ HO_358001) hb); have n1_ := am23_ (Kd.R_below (lf23_ HO_370001) hb); have n2_ := am23_ (Kd.R_below (lf23_ HO_370002) hb); have n3_ := am23_ (Kd.R_below (lf23_ HO_370003) hb); have n4_ := am23_ (Kd.R_below (lf23_ HO_382001) hb); have n5_ := am23_ (Kd.R_below (lf23_ HO_382002) hb); have n6_ := am23_ (Kd.R_below (lf23_ HO_382003) hb); have n7_ := am23_ (blk_below (g := gb357) (o := .cells #[.int .i64 t353, .slice Ao12 t354.length co12] 29 (0, 0)) (lb23_ BK357) hb); have n8_ := am23_ (blk_below (g := gb369) (o := .cells #[.int .i64 t358, .slice Ao17 t359.length co17, .slice Ao18 t362.length co18, .slice Ao19 t365.length co19] 31 (0, 0)) (lb23_ BK369) hb); have n9_ := am23_ (blk_below (g := gb381) (o := .cells #[.int .i64 t370, .slice Ao26 t371.length co26, .slice Ao27 t374.length co27, .slice Ao28 t377.length co28] 31 (0, 0)) (lb23_ BK381) hb); have n10_ := am23_ (below_step (lw23_ HB) hb); clear HO_358001; clear HO_370001; clear HO_370002; clear HO_370003; clear HO_382001; clear HO_382002; clear HO_382003; clear BK357; clear BK369; clear BK381; clear HB; have HO_358001 := n0_; have HO_370001 := n1_; have HO_370002 := n2_; have HO_370003 := n3_; have HO_382001 := n4_; have HO_382002 := n5_; have HO_382003 := n6_; have BK357 := n7_; have BK369 := n8_; have BK381 := n9_; have HB := n10_; clear n0_ n1_ n2_ n3_ n4_ n5_ n6_ n7_ n8_ n9_ n10_; (try clear hb); (try clear hb2); (try clear hk); (try clear hi); have hnb53 := NB369_381.out; have hnc53 := NB381_369.out; have hcz54_0 : w52.cell? ⟨gb369, 0, none⟩ = some (.int .i64 t358) := (blk_cell BK369.out 0).trans rfl; have hcz54_1 : w52.cell? ⟨gb369, 1, none⟩ = some (.slice Ao17 t359.length co17) := (blk_cell BK369.out 1).trans rfl; have hcz54_2 : w52.cell? ⟨gb369, 2, none⟩ = some (.slice Ao18 t362.length co18) := (blk_cell BK369.out 2).trans rfl; have hcz54_3 : w52.cell? ⟨gb369, 3, none⟩ = some (.slice Ao19 t365.length co19) := (blk_cell BK369.out 3).trans rfl; have hfz54_0 := blk_frozen BK369.out 0; have hfz54_1 := blk_frozen BK369.out 1; have hfz54_2 := blk_frozen BK369.out 2; have hfz54_3 := blk_frozen BK369.out 3) | ((with_reducible refine gate_callee (f := 31) rfl ?_); refine goesL_ (some 71) rfl rfl Try.func31 (by kernel_rfl) rfl #[.agg #[.int .i64 t358, .slice Ao17 t359.length co17, .slice Ao18 t362.length co18, .slice Ao19 t365.length co19], .int .i64 x10_3] rfl lm23_ ?_; (with_reducible refine (impl_Rank1.calls k3 t358 _ _ t359 _ _ t362 _ _ t365 x10_3 t391 t392 _ ?side1 ?side2 ?side3 ?side4 ?side5 ?side6 A46.out).mono ?_); (case side1 => exact lc23_ (Kd.R_reads' HO_370001.out).2.2); (case side2 => exact (Kd.R_reads' HO_370001.out).2.1); (case side3 => exact lc23_ (Kd.R_reads' HO_370002.out).2.2); (case side4 => exact (Kd.R_reads' HO_370002.out).2.1); (case side5 => exact lc23_ (Kd.R_reads' HO_370003.out).2.2); (case side6 => exact (Kd.R_reads' HO_370003.out).2.1); rintro e w55 ⟨rfl, hb⟩; refine ⟨_, rfl, ?_⟩; have n0_ := am23_ (Kd.R_below (lf23_ HO_358001) hb); have n1_ := am23_ (Kd.R_below (lf23_ HO_370001) hb); have n2_ := am23_ (Kd.R_below (lf23_ HO_370002) hb); have n3_ := am23_ (Kd.R_below (lf23_ HO_370003) hb); have n4_ := am23_ (Kd.R_below (lf23_ HO_382001) hb); have n5_ := am23_ (Kd.R_below (lf23_ HO_382002) hb); have n6_ := am23_ (Kd.R_below (lf23_ HO_382003) hb); have n7_ := am23_ (blk_below (g := gb357) (o := .cells #[.int .i64 t353, .slice Ao12 t354.length co12] 29 (0, 0)) (lb23_ BK357) hb); have n8_ := am23_ (blk_below (g := gb369) (o := .cells #[.int .i64 t358, .slice Ao17 t359.length co17, .slice Ao18 t362.length co18, .slice Ao19 t365.length co19] 31 (0, 0)) (lb23_ BK369) hb); have n9_ := am23_ (blk_below (g := gb381) (o := .cells #[.int .i64 t370, .slice Ao26 t371.length co26, .slice Ao27 t374.length co27, .slice Ao28 t377.length co28] 31 (0, 0)) (lb23_ BK381) hb); have n10_ := am23_ (below_step (lw23_ HB) hb); clear HO_358001; clear HO_370001; clear HO_370002; clear HO_370003; clear HO_382001; clear HO_382002; clear HO_382003; clear BK357; clear BK369; clear BK381; clear HB; have HO_358001 := n0_; have HO_370001 := n1_; have HO_370002 := n2_; have HO_370003 := n3_; have HO_382001 := n4_; have HO_382002 := n5_; have HO_382003 := n6_; have BK357 := n7_; have BK369 := n8_; have BK381 := n9_; have HB := n10_; clear n0_ n1_ n2_ n3_ n4_ n5_ n6_ n7_ n8_ n9_ n10_; (try clear hb); (try clear hb2); (try clear hk); (try clear hi); have hcz56_0 : w55.cell? ⟨gb369, 0, none⟩ = some (.int .i64 t358) := (blk_cell BK369.out 0).trans rfl; have hcz56_1 : w55.cell? ⟨gb369, 1, none⟩ = some (.slice Ao17 t359.length co17) := (blk_cell BK369.out 1).trans rfl; have hcz56_2 : w55.cell? ⟨gb369, 2, none⟩ = some (.slice Ao18 t362.length co18) := (blk_cell BK369.out 2).trans rfl; have hcz56_3 : w55.cell? ⟨gb369, 3, none⟩ = some (.slice Ao19 t365.length co19) := (blk_cell BK369.out 3).trans rfl; have hfz56_0 := blk_frozen BK369.out 0; have hfz56_1 := blk_frozen BK369.out 1; have hfz56_2 := blk_frozen BK369.out 2; have hfz56_3 := blk_frozen BK369.out 3) | ((with_reducible refine gate_callee (f := 33) rfl ?_); refine goesL_ (some 77) rfl rfl Try.func33 (by kernel_rfl) rfl #[.agg #[.int .i64 t358, .slice Ao17 t359.length co17, .slice Ao18 t362.length co18, .slice Ao19 t365.length co19], .int .i64 x10_3] rfl lm23_ ?_; (with_reducible refine (impl_Rank0.calls k3 t358 _ _ t359 _ _ t362 _ _ t365 x10_3 t393 t394 _ ?side1 ?side2 ?side3 ?side4 ?side5 ?side6 A47.out).mono ?_); (case side1 => exact lc23_ (Kd.R_reads' HO_370001.out).2.2); (case side2 => exact (Kd.R_reads' HO_370001.out).2.1); (case side3 => exact lc23_ (Kd.R_reads' HO_370002.out).2.2); (case side4 => exact (Kd.R_reads' HO_370002.out).2.1); (case side5 => exact lc23_ (Kd.R_reads' HO_370003.out).2.2); (case side6 => exact (Kd.R_reads' HO_370003.out).2.1); rintro e w57 ⟨rfl, hb⟩; refine ⟨_, rfl, ?_⟩; have n0_ := am23_ (Kd.R_below (lf23_ HO_358001) hb); have n1_ := am23_ (Kd.R_below (lf23_ HO_370001) hb); have n2_ := am23_ (Kd.R_below (lf23_ HO_370002) hb); have n3_ := am23_ (Kd.R_below (lf23_ HO_370003) hb); have n4_ := am23_ (Kd.R_below (lf23_ HO_382001) hb); have n5_ := am23_ (Kd.R_below (lf23_ HO_382002) hb); have n6_ := am23_ (Kd.R_below (lf23_ HO_382003) hb); have n7_ := am23_ (blk_below (g := gb357) (o := .cells #[.int .i64 t353, .slice Ao12 t354.length co12] 29 (0, 0)) (lb23_ BK357) hb); have n8_ := am23_ (blk_below (g := gb369) (o := .cells #[.int .i64 t358, .slice Ao17 t359.length co17, .slice Ao18 t362.length co18, .slice Ao19 t365.length co19] 31 (0, 0)) (lb23_ BK369) hb); have n9_ := am23_ (blk_below (g := gb381) (o := .cells #[.int .i64 t370, .slice Ao26 t371.length co26, .slice Ao27 t374.length co27, .slice Ao28 t377.length co28] 31 (0, 0)) (lb23_ BK381) hb); have n10_ := am23_ (below_step (lw23_ HB) hb); clear HO_358001; clear HO_370001; clear HO_370002; clear HO_370003; clear HO_382001; clear HO_382002; clear HO_382003; clear BK357; clear BK369; clear BK381; clear HB; have HO_358001 := n0_; have HO_370001 := n1_; have HO_370002 := n2_; have HO_370003 := n3_; have HO_382001 := n4_; have HO_382002 := n5_; have HO_382003 := n6_; have BK357 := n7_; have BK369 := n8_; have BK381 := n9_; have HB := n10_; clear n0_ n1_ n2_ n3_ n4_ n5_ n6_ n7_ n8_ n9_ n10_; (try clear hb); (try clear hb2); (try clear hk); (try clear hi)))
           (try simp only [Act.put, List.setIfInBounds_toArray, List.set_cons_zero, List.set_cons_succ])
           go_cut [96] (fun v96 wc => ∃ (kq : Nat) (x96_47 : Bool), v96 = .bool x96_47 ∧ Aside0 (laws_FnRankUndoesSelect.j3 kq x10_3 t389 t391 t393 x96_47 t353 t354 t358 t359 t362 t365 = some r) ∧ Aside0 (kq ≤ k3) ∧ Aside0 (Kd.R (Kd.int .i64) 3 wc w.heap.size (fun k_ => some k_ ≠ ((.slice Ao17 t359.length co17) : Value).ownBlock ∧ some k_ ≠ ((.slice Ao18 t362.length co18) : Value).ownBlock ∧ some k_ ≠ ((.slice Ao19 t365.length co19) : Value).ownBlock ∧ some k_ ≠ ((.slice Ao26 t371.length co26) : Value).ownBlock ∧ some k_ ≠ ((.slice Ao27 t374.length co27) : Value).ownBlock ∧ some k_ ≠ ((.slice Ao28 t377.length co28) : Value).ownBlock) (.slice Ao12 t354.length co12) t354) ∧ Aside0 (Kd.R (Kd.int .i64) 3 wc w.heap.size (fun k_ => some k_ ≠ ((.slice Ao12 t354.length co12) : Value).ownBlock ∧ some k_ ≠ ((.slice Ao18 t362.length co18) : Value).ownBlock ∧ some k_ ≠ ((.slice Ao19 t365.length co19) : Value).ownBlock ∧ some k_ ≠ ((.slice Ao26 t371.length co26) : Value).ownBlock ∧ some k_ ≠ ((.slice Ao27 t374.length co27) : Value).ownBlock ∧ some k_ ≠ ((.slice Ao28 t377.length co28) : Value).ownBlock) (.slice Ao17 t359.length co17) t359) ∧ Aside0 (Kd.R (Kd.int .i64) 3 wc w.heap.size (fun k_ => some k_ ≠ ((.slice Ao12 t354.length co12) : Value).ownBlock ∧ some k_ ≠ ((.slice Ao17 t359.length co17) : Value).ownBlock ∧ some k_ ≠ ((.slice Ao19 t365.length co19) : Value).ownBlock ∧ some k_ ≠ ((.slice Ao26 t371.length co26) : Value).ownBlock ∧ some k_ ≠ ((.slice Ao27 t374.length co27) : Value).ownBlock ∧ some k_ ≠ ((.slice Ao28 t377.length co28) : Value).ownBlock) (.slice Ao18 t362.length co18) t362) ∧ Aside0 (Kd.R (Kd.int .i64) 3 wc w.heap.size (fun k_ => some k_ ≠ ((.slice Ao12 t354.length co12) : Value).ownBlock ∧ some k_ ≠ ((.slice Ao17 t359.length co17) : Value).ownBlock ∧ some k_ ≠ ((.slice Ao18 t362.length co18) : Value).ownBlock ∧ some k_ ≠ ((.slice Ao26 t371.length co26) : Value).ownBlock ∧ some k_ ≠ ((.slice Ao27 t374.length co27) : Value).ownBlock ∧ some k_ ≠ ((.slice Ao28 t377.length co28) : Value).ownBlock) (.slice Ao19 t365.length co19) t365) ∧ Aside0 (Kd.R (Kd.int .i64) 3 wc w.heap.size (fun k_ => some k_ ≠ ((.slice Ao12 t354.length co12) : Value).ownBlock ∧ some k_ ≠ ((.slice Ao17 t359.length co17) : Value).ownBlock ∧ some k_ ≠ ((.slice Ao18 t362.length co18) : Value).ownBlock ∧ some k_ ≠ ((.slice Ao19 t365.length co19) : Value).ownBlock ∧ some k_ ≠ ((.slice Ao27 t374.length co27) : Value).ownBlock ∧ some k_ ≠ ((.slice Ao28 t377.length co28) : Value).ownBlock) (.slice Ao26 t371.length co26) t371) ∧ Aside0 (Kd.R (Kd.int .i64) 3 wc w.heap.size (fun k_ => some k_ ≠ ((.slice Ao12 t354.length co12) : Value).ownBlock ∧ some k_ ≠ ((.slice Ao17 t359.length co17) : Value).ownBlock ∧ some k_ ≠ ((.slice Ao18 t362.length co18) : Value).ownBlock ∧ some k_ ≠ ((.slice Ao19 t365.length co19) : Value).ownBlock ∧ some k_ ≠ ((.slice Ao26 t371.length co26) : Value).ownBlock ∧ some k_ ≠ ((.slice Ao28 t377.length co28) : Value).ownBlock) (.slice Ao27 t374.length co27) t374) ∧ Aside0 (Kd.R (Kd.int .i64) 3 wc w.heap.size (fun k_ => some k_ ≠ ((.slice Ao12 t354.length co12) : Value).ownBlock ∧ some k_ ≠ ((.slice Ao17 t359.length co17) : Value).ownBlock ∧ some k_ ≠ ((.slice Ao18 t362.length co18) : Value).ownBlock ∧ some k_ ≠ ((.slice Ao19 t365.length co19) : Value).ownBlock ∧ some k_ ≠ ((.slice Ao26 t371.length co26) : Value).ownBlock ∧ some k_ ≠ ((.slice Ao27 t374.length co27) : Value).ownBlock) (.slice Ao28 t377.length co28) t377) ∧ Aside0 (wc.heap[gb357]? = some (.cells #[.int .i64 t353, (.slice Ao12 t354.length co12)] 29 (0, 0))) ∧ Aside0 (wc.heap[gb369]? = some (.cells #[.int .i64 t358, (.slice Ao17 t359.length co17), (.slice Ao18 t362.length co18), (.slice Ao19 t365.length co19)] 31 (0, 0))) ∧ Aside0 (wc.heap[gb381]? = some (.cells #[.int .i64 t370, (.slice Ao26 t371.length co26), (.slice Ao27 t374.length co27), (.slice Ao28 t377.length co28)] 31 (0, 0))) ∧ Aside0 (Below w.heap.size w wc))
           case first =>
            have H := HC48.out
            clear HC48
            by_cases c58 : t390 = true
            ·subst c58
             have H1 : (if t392 = true then (if t394 = true then (laws_FnRankUndoesSelect.j3 k3 x10_3 t389 t391 t393 ((wrap64 (t391 + t393)) != x10_3) t353 t354 t358 t359 t362 t365) else (none)) else (none)) = some r := by rw [if_pos rfl] at H; exact H
             clear H
             have H := H1
             clear H1
             by_cases c59 : t392 = true
             ·subst c59
              have H1 : (if t394 = true then (laws_FnRankUndoesSelect.j3 k3 x10_3 t389 t391 t393 ((wrap64 (t391 + t393)) != x10_3) t353 t354 t358 t359 t362 t365) else (none)) = some r := by rw [if_pos rfl] at H; exact H
              clear H
              have H := H1
              clear H1
              by_cases c60 : t394 = true
              ·subst c60
               have H1 : (laws_FnRankUndoesSelect.j3 k3 x10_3 t389 t391 t393 ((wrap64 (t391 + t393)) != x10_3) t353 t354 t358 t359 t362 t365) = some r := by rw [if_pos rfl] at H; exact H
               clear H
               have H := H1
               clear H1
               have H' := am23_ H
               clear H
               go_wp2
               go_meet
               case rel => exact ⟨_, (((wrap64 (t391 + t393)) != x10_3)), (by first | rfl | (simp; done) | (simp [*]; done)), H', ⟨by have := HJ7.out; have := HJ37.out; have := HK3.out; first | omega | exact Nat.le_refl _⟩, ⟨lf23_ HO_358001⟩, ⟨lf23_ HO_370001⟩, ⟨lf23_ HO_370002⟩, ⟨lf23_ HO_370003⟩, ⟨lf23_ HO_382001⟩, ⟨lf23_ HO_382002⟩, ⟨lf23_ HO_382003⟩, ⟨lb23_ BK357⟩, ⟨lb23_ BK369⟩, ⟨lb23_ BK381⟩, ⟨lw23_ HB⟩⟩
              ·replace c60 := Bool.eq_false_iff.mpr c60
               subst c60
               have H1 : (none) = some r := by rw [if_neg (show ¬ (false = true) by decide)] at H; exact H
               clear H
               have H := H1
               clear H1
               exact absurd H (by simp)
             ·replace c59 := Bool.eq_false_iff.mpr c59
              subst c59
              have H1 : (none) = some r := by rw [if_neg (show ¬ (false = true) by decide)] at H; exact H
              clear H
              have H := H1
              clear H1
              exact absurd H (by simp)
            ·replace c58 := Bool.eq_false_iff.mpr c58
             subst c58
             have H1 : (none) = some r := by rw [if_neg (show ¬ (false = true) by decide)] at H; exact H
             clear H
             have H := H1
             clear H1
             exact absurd H (by simp)
           case rest =>
            clear HC48
            try clear c1
            try clear c2
            try clear p2
            try clear c3
            try clear c4
            try clear c5
            try clear c6
            try clear p6
            try clear c14
            try clear c15
            try clear c21
            try clear c23
            try clear c24
            try clear c29
            try clear c29b0
            try clear c29b1
            try clear c29b2
            try clear c31
            try clear c32
            try clear c33
            try clear c34
            try clear c37
            try clear c39
            try clear c40
            try clear c41
            try clear c43
            try clear c44
            try clear c44b0
            try clear c49
            try clear c50
            try clear c51
            try clear c53
            try clear c58
            try clear c59
            try clear c60
            try clear hcz11_0
            try clear hcz11_1
            try clear hcz16_0
            try clear hcz16_1
            try clear hcz16_2
            try clear hcz16_3
            try clear hcz20_0
            try clear hcz20_1
            try clear hcz25_0
            try clear hcz25_1
            try clear hcz25_2
            try clear hcz25_3
            try clear hcz33_0
            try clear hcz33_1
            try clear hcz33_2
            try clear hcz33_3
            try clear hcz35_0
            try clear hcz35_1
            try clear hcz35_2
            try clear hcz35_3
            try clear hcz42_0
            try clear hcz42_1
            try clear hcz51_0
            try clear hcz51_1
            try clear hcz54_0
            try clear hcz54_1
            try clear hcz54_2
            try clear hcz54_3
            try clear hcz56_0
            try clear hcz56_1
            try clear hcz56_2
            try clear hcz56_3
            try clear hfz11_0
            try clear hfz11_1
            try clear hfz16_0
            try clear hfz16_1
            try clear hfz16_2
            try clear hfz16_3
            try clear hfz20_0
            try clear hfz20_1
            try clear hfz25_0
            try clear hfz25_1
            try clear hfz25_2
            try clear hfz25_3
            try clear hfz33_0
            try clear hfz33_1
            try clear hfz33_2
            try clear hfz33_3
            try clear hfz35_0
            try clear hfz35_1
            try clear hfz35_2
            try clear hfz35_3
            try clear hfz42_0
            try clear hfz42_1
            try clear hfz51_0
            try clear hfz51_1
            try clear hfz54_0
            try clear hfz54_1
            try clear hfz54_2
            try clear hfz54_3
            try clear hfz56_0
            try clear hfz56_1
            try clear hfz56_2
            try clear hfz56_3
            try clear p2
            obtain ⟨kq, x96_47, rfl, HA, HJ47, HO_358001, HO_370001, HO_370002, HO_370003, HO_382001, HO_382002, HO_382003, BK357, BK369, BK381, HB⟩ := hcut
            cases kq with
            | zero => exact absurd HA.out (by simp [laws_FnRankUndoesSelect.j3])
            | succ kj47 =>
             have H := HA.out
             clear HA
             simp only [laws_FnRankUndoesSelect.j3] at H
             by_cases c61 : x96_47 = true
             ·subst c61
              have H1 : (none) = some r := by rw [if_pos rfl] at H; exact H
              clear H
              have H := H1
              clear H1
              exact absurd H (by simp)
             ·replace c61 := Bool.eq_false_iff.mpr c61
              subst c61
              have H1 : ((impl_Select1.f kj47 t358 t359 t362 t365 t391).bind fun bt395 => (if t389 = true then (if bt395.2 = true then (if bt395.1 = x10_3 then (laws_FnRankUndoesSelect.l0 kj47 (wrap64 (x10_3 + 1)) t353 t354 t358 t359 t362 t365) else (none)) else (none)) else ((impl_Select0.f kj47 t358 t359 t362 t365 t393).bind fun bt397 => (if bt397.2 = true then (if bt397.1 = x10_3 then (laws_FnRankUndoesSelect.l0 kj47 (wrap64 (x10_3 + 1)) t353 t354 t358 t359 t362 t365) else (none)) else (none))))) = some r := by rw [if_neg (show ¬ (false = true) by decide)] at H; exact H
              clear H
              have H := H1
              clear H1
              replace H := Option.bind_eq_some_iff.mp H
              obtain ⟨⟨t395, t396⟩, A620, H⟩ := H
              replace H : (if t389 = true then (if t396 = true then (if t395 = x10_3 then (laws_FnRankUndoesSelect.l0 kj47 (wrap64 (x10_3 + 1)) t353 t354 t358 t359 t362 t365) else (none)) else (none)) else ((impl_Select0.f kj47 t358 t359 t362 t365 t393).bind fun bt397 => (if bt397.2 = true then (if bt397.1 = x10_3 then (laws_FnRankUndoesSelect.l0 kj47 (wrap64 (x10_3 + 1)) t353 t354 t358 t359 t362 t365) else (none)) else (none)))) = some r := H
              have A62 := am23_ A620
              clear A620
              by_cases c63 : t389 = true
              ·subst c63
               have H1 : (if t396 = true then (if t395 = x10_3 then (laws_FnRankUndoesSelect.l0 kj47 (wrap64 (x10_3 + 1)) t353 t354 t358 t359 t362 t365) else (none)) else (none)) = some r := by rw [if_pos rfl] at H; exact H
               clear H
               have H := H1
               clear H1
               by_cases c64 : t396 = true
               ·subst c64
                have H1 : (if t395 = x10_3 then (laws_FnRankUndoesSelect.l0 kj47 (wrap64 (x10_3 + 1)) t353 t354 t358 t359 t362 t365) else (none)) = some r := by rw [if_pos rfl] at H; exact H
                clear H
                have H := H1
                clear H1
                by_cases c65 : t395 = x10_3
                ·rw [if_pos c65] at H
                 have c65b0 : (t395 == x10_3) = true := beq_iff_eq.mpr c65
                 have c65b1 : (t395 != x10_3) = false := bne_eq_false_iff_eq.mpr c65
                 clear c65
                 have H' := am23_ H
                 clear H
                 have hnb66 := NB369_357.out
                 have hnc66 := NB357_369.out
                 have hnb67 := NB369_381.out
                 have hnc67 := NB381_369.out
                 have hcz68_0 : wc.cell? ⟨gb369, 0, none⟩ = some (.int .i64 t358) := (blk_cell BK369.out 0).trans rfl
                 have hcz68_1 : wc.cell? ⟨gb369, 1, none⟩ = some (.slice Ao17 t359.length co17) := (blk_cell BK369.out 1).trans rfl
                 have hcz68_2 : wc.cell? ⟨gb369, 2, none⟩ = some (.slice Ao18 t362.length co18) := (blk_cell BK369.out 2).trans rfl
                 have hcz68_3 : wc.cell? ⟨gb369, 3, none⟩ = some (.slice Ao19 t365.length co19) := (blk_cell BK369.out 3).trans rfl
                 have hfz68_0 := blk_frozen BK369.out 0
                 have hfz68_1 := blk_frozen BK369.out 1
                 have hfz68_2 := blk_frozen BK369.out 2
                 have hfz68_3 := blk_frozen BK369.out 3
                 go_wp2_with (first | ((with_reducible refine gate_callee (f := 39) rfl ?_); refine goesL_ (some 100) rfl rfl Try.func39 (by kernel_rfl) rfl #[.agg #[.int .i64 t358, .slice Ao17 t359.length co17, .slice Ao18 t362.length co18, .slice Ao19 t365.length co19], .int .i64 t391] rfl lm23_ ?_; (with_reducible refine (impl_Select1.calls kj47 t358 _ _ t359 _ _ t362 _ _ t365 t391 t395 true _ ?side1 ?side2 ?side3 ?side4 ?side5 ?side6 A62.out).mono ?_); (case side1 => exact lc23_ (Kd.R_reads' HO_370001.out).2.2); (case side2 => exact (Kd.R_reads' HO_370001.out).2.1); (case side3 => exact lc23_ (Kd.R_reads' HO_370002.out).2.2); (case side4 => exact (Kd.R_reads' HO_370002.out).2.1); (case side5 => exact lc23_ (Kd.R_reads' HO_370003.out).2.2); (case side6 => exact (Kd.R_reads' HO_370003.out).2.1); rintro e w69 ⟨rfl, hb⟩; refine ⟨_, rfl, ?_⟩; have n0_ := am23_ (Kd.R_below (lf23_ HO_358001) hb); have n1_ := am23_ (Kd.R_below (lf23_ HO_370001) hb); have n2_ := am23_ (Kd.R_below (lf23_ HO_370002) hb); have n3_ := am23_ (Kd.R_below (lf23_ HO_370003) hb); have n4_ := am23_ (Kd.R_below (lf23_ HO_382001) hb); have n5_ := am23_ (Kd.R_below (lf23_ HO_382002) hb); have n6_ := am23_ (Kd.R_below (lf23_ HO_382003) hb); have n7_ := am23_ (blk_below (g := gb357) (o := .cells #[.int .i64 t353, .slice Ao12 t354.length co12] 29 (0, 0)) (lb23_ BK357) hb); have n8_ := am23_ (blk_below (g := gb369) (o := .cells #[.int .i64 t358, .slice Ao17 t359.length co17, .slice Ao18 t362.length co18, .slice Ao19 t365.length co19] 31 (0, 0)) (lb23_ BK369) hb); have n9_ := am23_ (blk_below (g := gb381) (o := .cells #[.int .i64 t370, .slice Ao26 t371.length co26, .slice Ao27 t374.length co27, .slice Ao28 t377.length co28] 31 (0, 0)) (lb23_ BK381) hb); have n10_ := am23_ (below_step (lw23_ HB) hb); clear HO_358001; clear HO_370001; clear HO_370002; clear HO_370003; clear HO_382001; clear HO_382002; clear HO_382003; clear BK357; clear BK369; clear BK381; clear HB; have HO_358001 := n0_; have HO_370001 := n1_; have HO_370002 := n2_; have HO_370003 := n3_; have HO_382001 := n4_; have HO_382002 := n5_; have HO_382003 := n6_; have BK357 := n7_; have BK369 := n8_; have BK381 := n9_; have HB := n10_; clear n0_ n1_ n2_ n3_ n4_ n5_ n6_ n7_ n8_ n9_ n10_; (try clear hb); (try clear hb2); (try clear hk); (try clear hi)))
                 go_roundg kj47
                 case measure => have := HJ7.out; have := HJ37.out; have := HK3.out; have := HJ47.out; omega
                 case rel => exact ⟨(wrap64 (x10_3 + 1)), (by first | rfl | (simp; done) | (simp [*]; done)), H', ⟨by have := HJ7.out; have := HJ37.out; have := HK3.out; have := HJ47.out; omega⟩, ⟨lf23_ HO_358001⟩, ⟨lf23_ HO_370001⟩, ⟨lf23_ HO_370002⟩, ⟨lf23_ HO_370003⟩, ⟨lf23_ HO_382001⟩, ⟨lf23_ HO_382002⟩, ⟨lf23_ HO_382003⟩, ⟨lb23_ BK357⟩, ⟨lb23_ BK369⟩, ⟨lb23_ BK381⟩, ⟨lw23_ HB⟩⟩
                ·rw [if_neg c65] at H
                 exact absurd H (by simp)
               ·replace c64 := Bool.eq_false_iff.mpr c64
                subst c64
                have H1 : (none) = some r := by rw [if_neg (show ¬ (false = true) by decide)] at H; exact H
                clear H
                have H := H1
                clear H1
                exact absurd H (by simp)
              ·replace c63 := Bool.eq_false_iff.mpr c63
               subst c63
               have H1 : ((impl_Select0.f kj47 t358 t359 t362 t365 t393).bind fun bt397 => (if bt397.2 = true then (if bt397.1 = x10_3 then (laws_FnRankUndoesSelect.l0 kj47 (wrap64 (x10_3 + 1)) t353 t354 t358 t359 t362 t365) else (none)) else (none))) = some r := by rw [if_neg (show ¬ (false = true) by decide)] at H; exact H
               clear H
               have H := H1
               clear H1
               replace H := Option.bind_eq_some_iff.mp H
               obtain ⟨⟨t397, t398⟩, A700, H⟩ := H
               replace H : (if t398 = true then (if t397 = x10_3 then (laws_FnRankUndoesSelect.l0 kj47 (wrap64 (x10_3 + 1)) t353 t354 t358 t359 t362 t365) else (none)) else (none)) = some r := H
               have A70 := am23_ A700
               clear A700
               by_cases c71 : t398 = true
               ·subst c71
                have H1 : (if t397 = x10_3 then (laws_FnRankUndoesSelect.l0 kj47 (wrap64 (x10_3 + 1)) t353 t354 t358 t359 t362 t365) else (none)) = some r := by rw [if_pos rfl] at H; exact H
                clear H
                have H := H1
                clear H1
                by_cases c72 : t397 = x10_3
                ·rw [if_pos c72] at H
                 have c72b0 : (t397 == x10_3) = true := beq_iff_eq.mpr c72
                 have c72b1 : (t397 != x10_3) = false := bne_eq_false_iff_eq.mpr c72
                 clear c72
                 have H' := am23_ H
                 clear H
                 have hnb73 := NB369_357.out
                 have hnc73 := NB357_369.out
                 have hnb74 := NB369_381.out
                 have hnc74 := NB381_369.out
                 have hcz75_0 : wc.cell? ⟨gb369, 0, none⟩ = some (.int .i64 t358) := (blk_cell BK369.out 0).trans rfl
                 have hcz75_1 : wc.cell? ⟨gb369, 1, none⟩ = some (.slice Ao17 t359.length co17) := (blk_cell BK369.out 1).trans rfl
                 have hcz75_2 : wc.cell? ⟨gb369, 2, none⟩ = some (.slice Ao18 t362.length co18) := (blk_cell BK369.out 2).trans rfl
                 have hcz75_3 : wc.cell? ⟨gb369, 3, none⟩ = some (.slice Ao19 t365.length co19) := (blk_cell BK369.out 3).trans rfl
                 have hfz75_0 := blk_frozen BK369.out 0
                 have hfz75_1 := blk_frozen BK369.out 1
                 have hfz75_2 := blk_frozen BK369.out 2
                 have hfz75_3 := blk_frozen BK369.out 3
                 go_wp2_with (first | ((with_reducible refine gate_callee (f := 39) rfl ?_); refine goesL_ (some 100) rfl rfl Try.func39 (by kernel_rfl) rfl #[.agg #[.int .i64 t358, .slice Ao17 t359.length co17, .slice Ao18 t362.length co18, .slice Ao19 t365.length co19], .int .i64 t391] rfl lm23_ ?_; (with_reducible refine (impl_Select1.calls kj47 t358 _ _ t359 _ _ t362 _ _ t365 t391 t395 t396 _ ?side1 ?side2 ?side3 ?side4 ?side5 ?side6 A62.out).mono ?_); (case side1 => exact lc23_ (Kd.R_reads' HO_370001.out).2.2); (case side2 => exact (Kd.R_reads' HO_370001.out).2.1); (case side3 => exact lc23_ (Kd.R_reads' HO_370002.out).2.2); (case side4 => exact (Kd.R_reads' HO_370002.out).2.1); (case side5 => exact lc23_ (Kd.R_reads' HO_370003.out).2.2); (case side6 => exact (Kd.R_reads' HO_370003.out).2.1); rintro e w76 ⟨rfl, hb⟩; refine ⟨_, rfl, ?_⟩; have n0_ := am23_ (Kd.R_below (lf23_ HO_358001) hb); have n1_ := am23_ (Kd.R_below (lf23_ HO_370001) hb); have n2_ := am23_ (Kd.R_below (lf23_ HO_370002) hb); have n3_ := am23_ (Kd.R_below (lf23_ HO_370003) hb); have n4_ := am23_ (Kd.R_below (lf23_ HO_382001) hb); have n5_ := am23_ (Kd.R_below (lf23_ HO_382002) hb); have n6_ := am23_ (Kd.R_below (lf23_ HO_382003) hb); have n7_ := am23_ (blk_below (g := gb357) (o := .cells #[.int .i64 t353, .slice Ao12 t354.length co12] 29 (0, 0)) (lb23_ BK357) hb); have n8_ := am23_ (blk_below (g := gb369) (o := .cells #[.int .i64 t358, .slice Ao17 t359.length co17, .slice Ao18 t362.length co18, .slice Ao19 t365.length co19] 31 (0, 0)) (lb23_ BK369) hb); have n9_ := am23_ (blk_below (g := gb381) (o := .cells #[.int .i64 t370, .slice Ao26 t371.length co26, .slice Ao27 t374.length co27, .slice Ao28 t377.length co28] 31 (0, 0)) (lb23_ BK381) hb); have n10_ := am23_ (below_step (lw23_ HB) hb); clear HO_358001; clear HO_370001; clear HO_370002; clear HO_370003; clear HO_382001; clear HO_382002; clear HO_382003; clear BK357; clear BK369; clear BK381; clear HB; have HO_358001 := n0_; have HO_370001 := n1_; have HO_370002 := n2_; have HO_370003 := n3_; have HO_382001 := n4_; have HO_382002 := n5_; have HO_382003 := n6_; have BK357 := n7_; have BK369 := n8_; have BK381 := n9_; have HB := n10_; clear n0_ n1_ n2_ n3_ n4_ n5_ n6_ n7_ n8_ n9_ n10_; (try clear hb); (try clear hb2); (try clear hk); (try clear hi); have hcz77_0 : w76.cell? ⟨gb369, 0, none⟩ = some (.int .i64 t358) := (blk_cell BK369.out 0).trans rfl; have hcz77_1 : w76.cell? ⟨gb369, 1, none⟩ = some (.slice Ao17 t359.length co17) := (blk_cell BK369.out 1).trans rfl; have hcz77_2 : w76.cell? ⟨gb369, 2, none⟩ = some (.slice Ao18 t362.length co18) := (blk_cell BK369.out 2).trans rfl; have hcz77_3 : w76.cell? ⟨gb369, 3, none⟩ = some (.slice Ao19 t365.length co19) := (blk_cell BK369.out 3).trans rfl; have hfz77_0 := blk_frozen BK369.out 0; have hfz77_1 := blk_frozen BK369.out 1; have hfz77_2 := blk_frozen BK369.out 2; have hfz77_3 := blk_frozen BK369.out 3) | ((with_reducible refine gate_callee (f := 37) rfl ?_); refine goesL_ (some 108) rfl rfl Try.func37 (by kernel_rfl) rfl #[.agg #[.int .i64 t358, .slice Ao17 t359.length co17, .slice Ao18 t362.length co18, .slice Ao19 t365.length co19], .int .i64 t393] rfl lm23_ ?_; (with_reducible refine (impl_Select0.calls kj47 t358 _ _ t359 _ _ t362 _ _ t365 t393 t397 true _ ?side1 ?side2 ?side3 ?side4 ?side5 ?side6 A70.out).mono ?_); (case side1 => exact lc23_ (Kd.R_reads' HO_370001.out).2.2); (case side2 => exact (Kd.R_reads' HO_370001.out).2.1); (case side3 => exact lc23_ (Kd.R_reads' HO_370002.out).2.2); (case side4 => exact (Kd.R_reads' HO_370002.out).2.1); (case side5 => exact lc23_ (Kd.R_reads' HO_370003.out).2.2); (case side6 => exact (Kd.R_reads' HO_370003.out).2.1); rintro e w78 ⟨rfl, hb⟩; refine ⟨_, rfl, ?_⟩; have n0_ := am23_ (Kd.R_below (lf23_ HO_358001) hb); have n1_ := am23_ (Kd.R_below (lf23_ HO_370001) hb); have n2_ := am23_ (Kd.R_below (lf23_ HO_370002) hb); have n3_ := am23_ (Kd.R_below (lf23_ HO_370003) hb); have n4_ := am23_ (Kd.R_below (lf23_ HO_382001) hb); have n5_ := am23_ (Kd.R_below (lf23_ HO_382002) hb); have n6_ := am23_ (Kd.R_below (lf23_ HO_382003) hb); have n7_ := am23_ (blk_below (g := gb357) (o := .cells #[.int .i64 t353, .slice Ao12 t354.length co12] 29 (0, 0)) (lb23_ BK357) hb); have n8_ := am23_ (blk_below (g := gb369) (o := .cells #[.int .i64 t358, .slice Ao17 t359.length co17, .slice Ao18 t362.length co18, .slice Ao19 t365.length co19] 31 (0, 0)) (lb23_ BK369) hb); have n9_ := am23_ (blk_below (g := gb381) (o := .cells #[.int .i64 t370, .slice Ao26 t371.length co26, .slice Ao27 t374.length co27, .slice Ao28 t377.length co28] 31 (0, 0)) (lb23_ BK381) hb); have n10_ := am23_ (below_step (lw23_ HB) hb); clear HO_358001; clear HO_370001; clear HO_370002; clear HO_370003; clear HO_382001; clear HO_382002; clear HO_382003; clear BK357; clear BK369; clear BK381; clear HB; have HO_358001 := n0_; have HO_370001 := n1_; have HO_370002 := n2_; have HO_370003 := n3_; have HO_382001 := n4_; have HO_382002 := n5_; have HO_382003 := n6_; have BK357 := n7_; have BK369 := n8_; have BK381 := n9_; have HB := n10_; clear n0_ n1_ n2_ n3_ n4_ n5_ n6_ n7_ n8_ n9_ n10_; (try clear hb); (try clear hb2); (try clear hk); (try clear hi)))
                 go_roundg kj47
                 case measure => have := HJ7.out; have := HJ37.out; have := HK3.out; have := HJ47.out; omega
                 case rel => exact ⟨(wrap64 (x10_3 + 1)), (by first | rfl | (simp; done) | (simp [*]; done)), H', ⟨by have := HJ7.out; have := HJ37.out; have := HK3.out; have := HJ47.out; omega⟩, ⟨lf23_ HO_358001⟩, ⟨lf23_ HO_370001⟩, ⟨lf23_ HO_370002⟩, ⟨lf23_ HO_370003⟩, ⟨lf23_ HO_382001⟩, ⟨lf23_ HO_382002⟩, ⟨lf23_ HO_382003⟩, ⟨lb23_ BK357⟩, ⟨lb23_ BK369⟩, ⟨lb23_ BK381⟩, ⟨lw23_ HB⟩⟩
                ·rw [if_neg c72] at H
                 exact absurd H (by simp)
               ·replace c71 := Bool.eq_false_iff.mpr c71
                subst c71
                have H1 : (none) = some r := by rw [if_neg (show ¬ (false = true) by decide)] at H; exact H
                clear H
                have H := H1
                clear H1
                exact absurd H (by simp)
          ·rw [if_neg c44] at H
           have c44b0 : decide (x10_3 < t353) = false := decide_eq_false c44
           clear c44
           replace H := Option.bind_eq_some_iff.mp H
           obtain ⟨⟨t383, t384⟩, A790, H⟩ := H
           replace H : ((impl_Select1.f k3 t358 t359 t362 t365 t383).bind fun bt385 => ((impl_Select0.f k3 t358 t359 t362 t365 (wrap64 (t353 - t383))).bind fun bt387 => (if t384 = true then (if bt385.2 = true then (none) else (some (!bt387.2))) else (none)))) = some r := H
           have A79 := am23_ A790
           clear A790
           replace H := Option.bind_eq_some_iff.mp H
           obtain ⟨⟨t385, t386⟩, A800, H⟩ := H
           replace H : ((impl_Select0.f k3 t358 t359 t362 t365 (wrap64 (t353 - t383))).bind fun bt387 => (if t384 = true then (if t386 = true then (none) else (some (!bt387.2))) else (none))) = some r := H
           have A80 := am23_ A800
           clear A800
           replace H := Option.bind_eq_some_iff.mp H
           obtain ⟨⟨t387, t388⟩, A810, H⟩ := H
           replace H : (if t384 = true then (if t386 = true then (none) else (some (!t388))) else (none)) = some r := H
           have A81 := am23_ A810
           clear A810
           by_cases c82 : t384 = true
           ·subst c82
            have H1 : (if t386 = true then (none) else (some (!t388))) = some r := by rw [if_pos rfl] at H; exact H
            clear H
            have H := H1
            clear H1
            by_cases c83 : t386 = true
            ·subst c83
             have H1 : (none) = some r := by rw [if_pos rfl] at H; exact H
             clear H
             have H := H1
             clear H1
             exact absurd H (by simp)
            ·replace c83 := Bool.eq_false_iff.mpr c83
             subst c83
             have H1 : (some (!t388)) = some r := by rw [if_neg (show ¬ (false = true) by decide)] at H; exact H
             clear H
             have H := H1
             clear H1
             obtain rfl := Option.some.inj H
             have hnb84 := NB357_369.out
             have hnc84 := NB369_357.out
             have hnb85 := NB357_381.out
             have hnc85 := NB381_357.out
             have hcz86_0 : wr.cell? ⟨gb357, 0, none⟩ = some (.int .i64 t353) := (blk_cell BK357.out 0).trans rfl
             have hcz86_1 : wr.cell? ⟨gb357, 1, none⟩ = some (.slice Ao12 t354.length co12) := (blk_cell BK357.out 1).trans rfl
             have hfz86_0 := blk_frozen BK357.out 0
             have hfz86_1 := blk_frozen BK357.out 1
             have hnb87 := NB369_381.out
             have hnc87 := NB381_369.out
             have hcz88_0 : wr.cell? ⟨gb369, 0, none⟩ = some (.int .i64 t358) := (blk_cell BK369.out 0).trans rfl
             have hcz88_1 : wr.cell? ⟨gb369, 1, none⟩ = some (.slice Ao17 t359.length co17) := (blk_cell BK369.out 1).trans rfl
             have hcz88_2 : wr.cell? ⟨gb369, 2, none⟩ = some (.slice Ao18 t362.length co18) := (blk_cell BK369.out 2).trans rfl
             have hcz88_3 : wr.cell? ⟨gb369, 3, none⟩ = some (.slice Ao19 t365.length co19) := (blk_cell BK369.out 3).trans rfl
             have hfz88_0 := blk_frozen BK369.out 0
             have hfz88_1 := blk_frozen BK369.out 1
             have hfz88_2 := blk_frozen BK369.out 2
             have hfz88_3 := blk_frozen BK369.out 3
             go_wp2_with (first | ((with_reducible refine gate_callee (f := 29) rfl ?_); refine goesL_ (some 120) rfl rfl Try.func29 (by kernel_rfl) rfl #[.agg #[.int .i64 t358, .slice Ao17 t359.length co17, .slice Ao18 t362.length co18, .slice Ao19 t365.length co19]] rfl lm23_ ?_; (with_reducible refine (impl_OnesOf.calls k3 t358 _ _ t359 _ _ t362 _ _ t365 t383 true _ ?side1 ?side2 ?side3 ?side4 ?side5 ?side6 A79.out).mono ?_); (case side1 => exact lc23_ (Kd.R_reads' HO_370001.out).2.2); (case side2 => exact (Kd.R_reads' HO_370001.out).2.1); (case side3 => exact lc23_ (Kd.R_reads' HO_370002.out).2.2); (case side4 => exact (Kd.R_reads' HO_370002.out).2.1); (case side5 => exact lc23_ (Kd.R_reads' HO_370003.out).2.2); (case side6 => exact (Kd.R_reads' HO_370003.out).2.1); rintro e w89 ⟨rfl, hb⟩; refine ⟨_, rfl, ?_⟩; have n0_ := am23_ (Kd.R_below (lf23_ HO_358001) hb); have n1_ := am23_ (Kd.R_below (lf23_ HO_370001) hb); have n2_ := am23_ (Kd.R_below (lf23_ HO_370002) hb); have n3_ := am23_ (Kd.R_below (lf23_ HO_370003) hb); have n4_ := am23_ (Kd.R_below (lf23_ HO_382001) hb); have n5_ := am23_ (Kd.R_below (lf23_ HO_382002) hb); have n6_ := am23_ (Kd.R_below (lf23_ HO_382003) hb); have n7_ := am23_ (blk_below (g := gb357) (o := .cells #[.int .i64 t353, .slice Ao12 t354.length co12] 29 (0, 0)) (lb23_ BK357) hb); have n8_ := am23_ (blk_below (g := gb369) (o := .cells #[.int .i64 t358, .slice Ao17 t359.length co17, .slice Ao18 t362.length co18, .slice Ao19 t365.length co19] 31 (0, 0)) (lb23_ BK369) hb); have n9_ := am23_ (blk_below (g := gb381) (o := .cells #[.int .i64 t370, .slice Ao26 t371.length co26, .slice Ao27 t374.length co27, .slice Ao28 t377.length co28] 31 (0, 0)) (lb23_ BK381) hb); have n10_ := am23_ (below_step (lw23_ HB) hb); clear HO_358001; clear HO_370001; clear HO_370002; clear HO_370003; clear HO_382001; clear HO_382002; clear HO_382003; clear BK357; clear BK369; clear BK381; clear HB; have HO_358001 := n0_; have HO_370001 := n1_; have HO_370002 := n2_; have HO_370003 := n3_; have HO_382001 := n4_; have HO_382002 := n5_; have HO_382003 := n6_; have BK357 := n7_; have BK369 := n8_; have BK381 := n9_; have HB := n10_; clear n0_ n1_ n2_ n3_ n4_ n5_ n6_ n7_ n8_ n9_ n10_; (try clear hb); (try clear hb2); (try clear hk); (try clear hi); have hcz90_0 : w89.cell? ⟨gb369, 0, none⟩ = some (.int .i64 t358) := (blk_cell BK369.out 0).trans rfl; have hcz90_1 : w89.cell? ⟨gb369, 1, none⟩ = some (.slice Ao17 t359.length co17) := (blk_cell BK369.out 1).trans rfl; have hcz90_2 : w89.cell? ⟨gb369, 2, none⟩ = some (.slice Ao18 t362.length co18) := (blk_cell BK369.out 2).trans rfl; have hcz90_3 : w89.cell? ⟨gb369, 3, none⟩ = some (.slice Ao19 t365.length co19) := (blk_cell BK369.out 3).trans rfl; have hfz90_0 := blk_frozen BK369.out 0; have hfz90_1 := blk_frozen BK369.out 1; have hfz90_2 := blk_frozen BK369.out 2; have hfz90_3 := blk_frozen BK369.out 3) | ((with_reducible refine gate_callee (f := 39) rfl ?_); refine goesL_ (some 126) rfl rfl Try.func39 (by kernel_rfl) rfl #[.agg #[.int .i64 t358, .slice Ao17 t359.length co17, .slice Ao18 t362.length co18, .slice Ao19 t365.length co19], .int .i64 t383] rfl lm23_ ?_; (with_reducible refine (impl_Select1.calls k3 t358 _ _ t359 _ _ t362 _ _ t365 t383 t385 false _ ?side1 ?side2 ?side3 ?side4 ?side5 ?side6 A80.out).mono ?_); (case side1 => exact lc23_ (Kd.R_reads' HO_370001.out).2.2); (case side2 => exact (Kd.R_reads' HO_370001.out).2.1); (case side3 => exact lc23_ (Kd.R_reads' HO_370002.out).2.2); (case side4 => exact (Kd.R_reads' HO_370002.out).2.1); (case side5 => exact lc23_ (Kd.R_reads' HO_370003.out).2.2); (case side6 => exact (Kd.R_reads' HO_370003.out).2.1); rintro e w91 ⟨rfl, hb⟩; refine ⟨_, rfl, ?_⟩; have n0_ := am23_ (Kd.R_below (lf23_ HO_358001) hb); have n1_ := am23_ (Kd.R_below (lf23_ HO_370001) hb); have n2_ := am23_ (Kd.R_below (lf23_ HO_370002) hb); have n3_ := am23_ (Kd.R_below (lf23_ HO_370003) hb); have n4_ := am23_ (Kd.R_below (lf23_ HO_382001) hb); have n5_ := am23_ (Kd.R_below (lf23_ HO_382002) hb); have n6_ := am23_ (Kd.R_below (lf23_ HO_382003) hb); have n7_ := am23_ (blk_below (g := gb357) (o := .cells #[.int .i64 t353, .slice Ao12 t354.length co12] 29 (0, 0)) (lb23_ BK357) hb); have n8_ := am23_ (blk_below (g := gb369) (o := .cells #[.int .i64 t358, .slice Ao17 t359.length co17, .slice Ao18 t362.length co18, .slice Ao19 t365.length co19] 31 (0, 0)) (lb23_ BK369) hb); have n9_ := am23_ (blk_below (g := gb381) (o := .cells #[.int .i64 t370, .slice Ao26 t371.length co26, .slice Ao27 t374.length co27, .slice Ao28 t377.length co28] 31 (0, 0)) (lb23_ BK381) hb); have n10_ := am23_ (below_step (lw23_ HB) hb); clear HO_358001; clear HO_370001; clear HO_370002; clear HO_370003; clear HO_382001; clear HO_382002; clear HO_382003; clear BK357; clear BK369; clear BK381; clear HB; have HO_358001 := n0_; have HO_370001 := n1_; have HO_370002 := n2_; have HO_370003 := n3_; have HO_382001 := n4_; have HO_382002 := n5_; have HO_382003 := n6_; have BK357 := n7_; have BK369 := n8_; have BK381 := n9_; have HB := n10_; clear n0_ n1_ n2_ n3_ n4_ n5_ n6_ n7_ n8_ n9_ n10_; (try clear hb); (try clear hb2); (try clear hk); (try clear hi); have hcz92_0 : w91.cell? ⟨gb369, 0, none⟩ = some (.int .i64 t358) := (blk_cell BK369.out 0).trans rfl; have hcz92_1 : w91.cell? ⟨gb369, 1, none⟩ = some (.slice Ao17 t359.length co17) := (blk_cell BK369.out 1).trans rfl; have hcz92_2 : w91.cell? ⟨gb369, 2, none⟩ = some (.slice Ao18 t362.length co18) := (blk_cell BK369.out 2).trans rfl; have hcz92_3 : w91.cell? ⟨gb369, 3, none⟩ = some (.slice Ao19 t365.length co19) := (blk_cell BK369.out 3).trans rfl; have hfz92_0 := blk_frozen BK369.out 0; have hfz92_1 := blk_frozen BK369.out 1; have hfz92_2 := blk_frozen BK369.out 2; have hfz92_3 := blk_frozen BK369.out 3; have hcz93_0 : w91.cell? ⟨gb357, 0, none⟩ = some (.int .i64 t353) := (blk_cell BK357.out 0).trans rfl; have hcz93_1 : w91.cell? ⟨gb357, 1, none⟩ = some (.slice Ao12 t354.length co12) := (blk_cell BK357.out 1).trans rfl; have hfz93_0 := blk_frozen BK357.out 0; have hfz93_1 := blk_frozen BK357.out 1) | ((with_reducible refine gate_callee (f := 37) rfl ?_); refine goesL_ (some 135) rfl rfl Try.func37 (by kernel_rfl) rfl #[.agg #[.int .i64 t358, .slice Ao17 t359.length co17, .slice Ao18 t362.length co18, .slice Ao19 t365.length co19], .int .i64 (wrap64 (t353 - t383))] rfl lm23_ ?_; (with_reducible refine (impl_Select0.calls k3 t358 _ _ t359 _ _ t362 _ _ t365 (wrap64 (t353 - t383)) t387 t388 _ ?side1 ?side2 ?side3 ?side4 ?side5 ?side6 A81.out).mono ?_); (case side1 => exact lc23_ (Kd.R_reads' HO_370001.out).2.2); (case side2 => exact (Kd.R_reads' HO_370001.out).2.1); (case side3 => exact lc23_ (Kd.R_reads' HO_370002.out).2.2); (case side4 => exact (Kd.R_reads' HO_370002.out).2.1); (case side5 => exact lc23_ (Kd.R_reads' HO_370003.out).2.2); (case side6 => exact (Kd.R_reads' HO_370003.out).2.1); rintro e w94 ⟨rfl, hb⟩; refine ⟨_, rfl, ?_⟩; have n0_ := am23_ (Kd.R_below (lf23_ HO_358001) hb); have n1_ := am23_ (Kd.R_below (lf23_ HO_370001) hb); have n2_ := am23_ (Kd.R_below (lf23_ HO_370002) hb); have n3_ := am23_ (Kd.R_below (lf23_ HO_370003) hb); have n4_ := am23_ (Kd.R_below (lf23_ HO_382001) hb); have n5_ := am23_ (Kd.R_below (lf23_ HO_382002) hb); have n6_ := am23_ (Kd.R_below (lf23_ HO_382003) hb); have n7_ := am23_ (blk_below (g := gb357) (o := .cells #[.int .i64 t353, .slice Ao12 t354.length co12] 29 (0, 0)) (lb23_ BK357) hb); have n8_ := am23_ (blk_below (g := gb369) (o := .cells #[.int .i64 t358, .slice Ao17 t359.length co17, .slice Ao18 t362.length co18, .slice Ao19 t365.length co19] 31 (0, 0)) (lb23_ BK369) hb); have n9_ := am23_ (blk_below (g := gb381) (o := .cells #[.int .i64 t370, .slice Ao26 t371.length co26, .slice Ao27 t374.length co27, .slice Ao28 t377.length co28] 31 (0, 0)) (lb23_ BK381) hb); have n10_ := am23_ (below_step (lw23_ HB) hb); clear HO_358001; clear HO_370001; clear HO_370002; clear HO_370003; clear HO_382001; clear HO_382002; clear HO_382003; clear BK357; clear BK369; clear BK381; clear HB; have HO_358001 := n0_; have HO_370001 := n1_; have HO_370002 := n2_; have HO_370003 := n3_; have HO_382001 := n4_; have HO_382002 := n5_; have HO_382003 := n6_; have BK357 := n7_; have BK369 := n8_; have BK381 := n9_; have HB := n10_; clear n0_ n1_ n2_ n3_ n4_ n5_ n6_ n7_ n8_ n9_ n10_; (try clear hb); (try clear hb2); (try clear hk); (try clear hi)))
             go_ret
             exact ⟨by first | rfl | (simp [errW_none, errW_some] <;> rfl) | (simp [*, errW_none, errW_some] <;> rfl), lw23_ HB⟩
           ·replace c82 := Bool.eq_false_iff.mpr c82
            subst c82
            have H1 : (none) = some r := by rw [if_neg (show ¬ (false = true) by decide)] at H; exact H
            clear H
            have H := H1
            clear H1
            exact absurd H (by simp)

/-- THE ONE PURE STATEMENT of laws_FnRankUndoesSelect: yours. -/
def laws_FnRankUndoesSelect.Pure : Prop := ∀ (l0 : List Int) (l1 : List Int), l0.length ≤ maxLen → l0.length * 1 ≤ 140737488351232 → (∀ x ∈ l0, (Lit.int .u8 x).wf = true) → l1.length ≤ maxLen → l1.length * 1 ≤ 140737488351232 → (∀ x ∈ l1, (Lit.int .u8 x).wf = true) → ∃ k, laws_FnRankUndoesSelect.f k l0 l1 = some true
theorem laws_FnRankUndoesSelect.walk (P : laws_FnRankUndoesSelect.Pure) (a0 : Option Addr) (len0 cap0 : Nat) (z0 : List Int) (a1 : Option Addr) (len1 cap1 : Nat) (z1 : List Int) (w : World) (w0 : (a0 = none ∧ len0 = 0 ∧ cap0 = 0 ∧ z0 = []) ∨ ∃ x, a0 = some x ∧ len0 ≤ cap0 ∧ cap0 ≤ maxLen ∧ z0.length = cap0 ∧ (∀ i, i < z0.length → w.cell? (x.add i) = some (.int .u8 (z0.getD i 0))) ∧ ∀ n ∈ z0, (Lit.int .u8 n).wf = true) (y0 : len0 * 1 ≤ 140737488351232) (w1 : (a1 = none ∧ len1 = 0 ∧ cap1 = 0 ∧ z1 = []) ∨ ∃ x, a1 = some x ∧ len1 ≤ cap1 ∧ cap1 ≤ maxLen ∧ z1.length = cap1 ∧ (∀ i, i < z1.length → w.cell? (x.add i) = some (.int .u8 (z1.getD i 0))) ∧ ∀ n ∈ z1, (Lit.int .u8 n).wf = true) (y1 : len1 * 1 ≤ 140737488351232) :
  Calls Try.prog 14 #[.slice a0 len0 cap0, .slice a1 len1 cap1] w fun e w' => e = .returned (.bool true) ∧ Below w.heap.size w w' := by
 obtain ⟨l0, rfl, hr0, hm0, hw0, hc0⟩ := ReadsInt.ofRowC w0
 obtain ⟨l1, rfl, hr1, hm1, hw1, hc1⟩ := ReadsInt.ofRowC w1
 obtain ⟨k, h⟩ := P l0 l1 hm0 y0 hw0 hm1 y1 hw1
 refine (laws_FnRankUndoesSelect.calls k _ _ l0 _ _ l1 true w (Kd.C_of_reads (d := (0 : Int)) (h1 := fun _ => rfl) hr0) hc0 (Kd.C_of_reads (d := (0 : Int)) (h1 := fun _ => rfl) hr1) hc1 h).mono ?_
 rintro e w' ⟨rfl, hd⟩
 exact ⟨rfl, hd⟩

end Go.Proofs.Ytpidlhpjcjaojaa.PFnRankUndoesSelect
