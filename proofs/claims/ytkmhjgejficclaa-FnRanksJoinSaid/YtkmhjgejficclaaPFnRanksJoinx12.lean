-- Laid by a program of this session: the print of the kit with additions of ours (wip/tools/patchprint.py). Nothing of it is trusted: Lean checks it.
import Derived.Test.YtkmhjgejficclaaPFnRanksJoinx0
import Derived.Test.YtkmhjgejficclaaPFnRanksJoinx4
import Derived.Test.YtkmhjgejficclaaPFnRanksJoinx7
import Derived.Test.YtkmhjgejficclaaPFnRanksJoinx11
namespace Go.Proofs.Ytkmhjgejficclaa.PFnRanksJoin
open Go.RowKit Go.Proofs.YtkmhjgejficclaaW.PrintWords Go.Proofs.YtkmhjgejficclaaW.PrintLast Go.Proofs.YtkmhjgejficclaaW.PrintMore
attribute [local go_sem] max2_int min2_int max_two min_two max_three min_three max_four min_four   -- for this text's walks alone
set_option linter.unusedVariables false
set_option linter.unusedSimpArgs false

/-! ### laws_FnRanksJoin: function 13 -/
mutual
def laws_FnRanksJoin.j0 : Nat → Bool → Bool → Int → List Int → List Int → List Int → Int → List Int → List Int → List Int → Int → List Int → List Int → List Int → Option (Bool)
 | 0, _, _, _, _, _, _, _, _, _, _, _, _, _, _ => none
 | k + 1, x10, x46, x543000, x543001, x543002, x543003, x544000, x544001, x544002, x544003, x556000, x556001, x556002, x556003 => if x46 = true then (none) else (if x10 = true then (laws_FnRanksJoin.j1 k (decide (x556000 > 500)) x543000 x543001 x543002 x543003 x544000 x544001 x544002 x544003 x556000 x556001 x556002 x556003) else (laws_FnRanksJoin.j1 k true x543000 x543001 x543002 x543003 x544000 x544001 x544002 x544003 x556000 x556001 x556002 x556003))
def laws_FnRanksJoin.j1 : Nat → Bool → Int → List Int → List Int → List Int → Int → List Int → List Int → List Int → Int → List Int → List Int → List Int → Option (Bool)
 | 0, _, _, _, _, _, _, _, _, _, _, _, _, _ => none
 | k + 1, x54, x543000, x543001, x543002, x543003, x544000, x544001, x544002, x544003, x556000, x556001, x556002, x556003 => if x54 = true then (some true) else ((impl_OnesOf.f k x543000 x543001 x543002 x543003).bind fun bt569 => (if bt569.2 = true then ((impl_IsRanked.f k x556000 x556001 x556002 x556003).bind fun t571 => (laws_FnRanksJoin.j2 k bt569.1 (!t571) x543000 x543001 x543002 x543003 x544000 x544001 x544002 x544003 x556000 x556001 x556002 x556003)) else (none)))
def laws_FnRanksJoin.j2 : Nat → Int → Bool → Int → List Int → List Int → List Int → Int → List Int → List Int → List Int → Int → List Int → List Int → List Int → Option (Bool)
 | 0, _, _, _, _, _, _, _, _, _, _, _, _, _, _ => none
 | k + 1, x11, x66, x543000, x543001, x543002, x543003, x544000, x544001, x544002, x544003, x556000, x556001, x556002, x556003 => if x66 = true then (none) else (laws_FnRanksJoin.l0 k x11 0 x543000 x543001 x543002 x543003 x544000 x544001 x544002 x544003 x556000 x556001 x556002 x556003)
def laws_FnRanksJoin.l0 : Nat → Int → Int → Int → List Int → List Int → List Int → Int → List Int → List Int → List Int → Int → List Int → List Int → List Int → Option (Bool)
 | 0, _, _, _, _, _, _, _, _, _, _, _, _, _, _ => none
 | k + 1, x11, x13, x543000, x543001, x543002, x543003, x544000, x544001, x544002, x544003, x556000, x556001, x556002, x556003 => if x13 ≤ x544000 then ((impl_Rank1.f k x544000 x544001 x544002 x544003 x13).bind fun bt572 => ((impl_Rank1.f k x556000 x556001 x556002 x556003 (wrap64 (x543000 + x13))).bind fun bt574 => (if bt572.2 = true then (if bt574.2 = true then (if bt574.1 = (wrap64 (x11 + bt572.1)) then (laws_FnRanksJoin.l0 k x11 (wrap64 (x13 + 1)) x543000 x543001 x543002 x543003 x544000 x544001 x544002 x544003 x556000 x556001 x556002 x556003) else (none)) else (none)) else (none)))) else (some true)
end
def laws_FnRanksJoin.f (k : Nat) (l0 : List Int) (l1 : List Int) : Option (Bool) := (laws_big.f l0 l1).bind fun t521 => (if t521 = true then (some true) else ((spec_DrawJoinRanked.f k l0).bind fun bt522 => ((impl_JoinRanked.f k bt522.1 bt522.2.1 bt522.2.2.1 bt522.2.2.2.1 bt522.2.2.2.2.1 bt522.2.2.2.2.2.1 bt522.2.2.2.2.2.2.1 bt522.2.2.2.2.2.2.2).bind fun bt544 => ((spec_JoinRanked.f k bt522.1 bt522.2.1 bt522.2.2.1 bt522.2.2.2.1 bt522.2.2.2.2.1 bt522.2.2.2.2.2.1 bt522.2.2.2.2.2.2.1 bt522.2.2.2.2.2.2.2).bind fun bt556 => (if (bt544.2.2.2.2 != bt556.2.2.2.2) = true then (none) else ((laws_pSameRanked.f k bt544.1 bt544.2.1 bt544.2.2.1 bt544.2.2.2.1 bt556.1 bt556.2.1 bt556.2.2.1 bt556.2.2.2.1).bind fun t568 => (laws_FnRanksJoin.j0 k bt556.2.2.2.2 (!t568) bt522.1 bt522.2.1 bt522.2.2.1 bt522.2.2.2.1 bt522.2.2.2.2.1 bt522.2.2.2.2.2.1 bt522.2.2.2.2.2.2.1 bt522.2.2.2.2.2.2.2 bt544.1 bt544.2.1 bt544.2.2.1 bt544.2.2.2.1)))))))
theorem laws_FnRanksJoin.mono_l : ∀ k, (∀ y0 y1 y2 y3 y4 y5 y6 y7 y8 y9 y10 y11 y12 y13, LeO (laws_FnRanksJoin.j0 k y0 y1 y2 y3 y4 y5 y6 y7 y8 y9 y10 y11 y12 y13) (laws_FnRanksJoin.j0 (k + 1) y0 y1 y2 y3 y4 y5 y6 y7 y8 y9 y10 y11 y12 y13)) ∧ (∀ y0 y1 y2 y3 y4 y5 y6 y7 y8 y9 y10 y11 y12, LeO (laws_FnRanksJoin.j1 k y0 y1 y2 y3 y4 y5 y6 y7 y8 y9 y10 y11 y12) (laws_FnRanksJoin.j1 (k + 1) y0 y1 y2 y3 y4 y5 y6 y7 y8 y9 y10 y11 y12)) ∧ (∀ y0 y1 y2 y3 y4 y5 y6 y7 y8 y9 y10 y11 y12 y13, LeO (laws_FnRanksJoin.j2 k y0 y1 y2 y3 y4 y5 y6 y7 y8 y9 y10 y11 y12 y13) (laws_FnRanksJoin.j2 (k + 1) y0 y1 y2 y3 y4 y5 y6 y7 y8 y9 y10 y11 y12 y13)) ∧ (∀ y0 y1 y2 y3 y4 y5 y6 y7 y8 y9 y10 y11 y12 y13, LeO (laws_FnRanksJoin.l0 k y0 y1 y2 y3 y4 y5 y6 y7 y8 y9 y10 y11 y12 y13) (laws_FnRanksJoin.l0 (k + 1) y0 y1 y2 y3 y4 y5 y6 y7 y8 y9 y10 y11 y12 y13))
 | 0 => ⟨fun _ _ _ _ _ _ _ _ _ _ _ _ _ _ r h => by simp [laws_FnRanksJoin.j0] at h, fun _ _ _ _ _ _ _ _ _ _ _ _ _ r h => by simp [laws_FnRanksJoin.j1] at h, fun _ _ _ _ _ _ _ _ _ _ _ _ _ _ r h => by simp [laws_FnRanksJoin.j2] at h, fun _ _ _ _ _ _ _ _ _ _ _ _ _ _ r h => by simp [laws_FnRanksJoin.l0] at h⟩
 | k + 1 => by
  obtain ⟨ih0, ih1, ih2, ih3⟩ := laws_FnRanksJoin.mono_l k
  refine ⟨?_, ?_, ?_, ?_⟩
  ·intro y0 y1 y2 y3 y4 y5 y6 y7 y8 y9 y10 y11 y12 y13
   unfold laws_FnRanksJoin.j0
   repeat' first
   | (with_reducible exact ih0 _ _ _ _ _ _ _ _ _ _ _ _ _ _)
   | (with_reducible exact ih1 _ _ _ _ _ _ _ _ _ _ _ _ _)
   | (with_reducible exact ih2 _ _ _ _ _ _ _ _ _ _ _ _ _ _)
   | (with_reducible exact ih3 _ _ _ _ _ _ _ _ _ _ _ _ _ _)
   | (with_reducible exact impl_IsRanked.mono _ _ _ _ _)
   | (with_reducible exact impl_JoinRanked.mono _ _ _ _ _ _ _ _ _)
   | (with_reducible exact impl_OnesOf.mono _ _ _ _ _)
   | (with_reducible exact impl_Rank1.mono _ _ _ _ _ _)
   | (with_reducible exact laws_pSameRanked.mono _ _ _ _ _ _ _ _ _)
   | (with_reducible exact spec_DrawJoinRanked.mono _ _)
   | (with_reducible exact spec_JoinRanked.mono _ _ _ _ _ _ _ _ _)
   | (with_reducible exact LeO.refl _)
   | (with_reducible exact LeO.none _)
   | (with_reducible refine LeO.ite ?_ ?_)
   | (with_reducible refine LeO.bind ?_ (fun _ => ?_))
   | exact ih0 _ _ _ _ _ _ _ _ _ _ _ _ _ _
   | exact ih1 _ _ _ _ _ _ _ _ _ _ _ _ _
   | exact ih2 _ _ _ _ _ _ _ _ _ _ _ _ _ _
   | exact ih3 _ _ _ _ _ _ _ _ _ _ _ _ _ _
   | exact impl_IsRanked.mono _ _ _ _ _
   | exact impl_JoinRanked.mono _ _ _ _ _ _ _ _ _
   | exact impl_OnesOf.mono _ _ _ _ _
   | exact impl_Rank1.mono _ _ _ _ _ _
   | exact laws_pSameRanked.mono _ _ _ _ _ _ _ _ _
   | exact spec_DrawJoinRanked.mono _ _
   | exact spec_JoinRanked.mono _ _ _ _ _ _ _ _ _
   | exact LeO.none _
   | refine LeO.ite ?_ ?_
   | refine LeO.bind ?_ (fun _ => ?_)
  ·intro y0 y1 y2 y3 y4 y5 y6 y7 y8 y9 y10 y11 y12
   unfold laws_FnRanksJoin.j1
   repeat' first
   | (with_reducible exact ih0 _ _ _ _ _ _ _ _ _ _ _ _ _ _)
   | (with_reducible exact ih1 _ _ _ _ _ _ _ _ _ _ _ _ _)
   | (with_reducible exact ih2 _ _ _ _ _ _ _ _ _ _ _ _ _ _)
   | (with_reducible exact ih3 _ _ _ _ _ _ _ _ _ _ _ _ _ _)
   | (with_reducible exact impl_IsRanked.mono _ _ _ _ _)
   | (with_reducible exact impl_JoinRanked.mono _ _ _ _ _ _ _ _ _)
   | (with_reducible exact impl_OnesOf.mono _ _ _ _ _)
   | (with_reducible exact impl_Rank1.mono _ _ _ _ _ _)
   | (with_reducible exact laws_pSameRanked.mono _ _ _ _ _ _ _ _ _)
   | (with_reducible exact spec_DrawJoinRanked.mono _ _)
   | (with_reducible exact spec_JoinRanked.mono _ _ _ _ _ _ _ _ _)
   | (with_reducible exact LeO.refl _)
   | (with_reducible exact LeO.none _)
   | (with_reducible refine LeO.ite ?_ ?_)
   | (with_reducible refine LeO.bind ?_ (fun _ => ?_))
   | exact ih0 _ _ _ _ _ _ _ _ _ _ _ _ _ _
   | exact ih1 _ _ _ _ _ _ _ _ _ _ _ _ _
   | exact ih2 _ _ _ _ _ _ _ _ _ _ _ _ _ _
   | exact ih3 _ _ _ _ _ _ _ _ _ _ _ _ _ _
   | exact impl_IsRanked.mono _ _ _ _ _
   | exact impl_JoinRanked.mono _ _ _ _ _ _ _ _ _
   | exact impl_OnesOf.mono _ _ _ _ _
   | exact impl_Rank1.mono _ _ _ _ _ _
   | exact laws_pSameRanked.mono _ _ _ _ _ _ _ _ _
   | exact spec_DrawJoinRanked.mono _ _
   | exact spec_JoinRanked.mono _ _ _ _ _ _ _ _ _
   | exact LeO.none _
   | refine LeO.ite ?_ ?_
   | refine LeO.bind ?_ (fun _ => ?_)
  ·intro y0 y1 y2 y3 y4 y5 y6 y7 y8 y9 y10 y11 y12 y13
   unfold laws_FnRanksJoin.j2
   repeat' first
   | (with_reducible exact ih0 _ _ _ _ _ _ _ _ _ _ _ _ _ _)
   | (with_reducible exact ih1 _ _ _ _ _ _ _ _ _ _ _ _ _)
   | (with_reducible exact ih2 _ _ _ _ _ _ _ _ _ _ _ _ _ _)
   | (with_reducible exact ih3 _ _ _ _ _ _ _ _ _ _ _ _ _ _)
   | (with_reducible exact impl_IsRanked.mono _ _ _ _ _)
   | (with_reducible exact impl_JoinRanked.mono _ _ _ _ _ _ _ _ _)
   | (with_reducible exact impl_OnesOf.mono _ _ _ _ _)
   | (with_reducible exact impl_Rank1.mono _ _ _ _ _ _)
   | (with_reducible exact laws_pSameRanked.mono _ _ _ _ _ _ _ _ _)
   | (with_reducible exact spec_DrawJoinRanked.mono _ _)
   | (with_reducible exact spec_JoinRanked.mono _ _ _ _ _ _ _ _ _)
   | (with_reducible exact LeO.refl _)
   | (with_reducible exact LeO.none _)
   | (with_reducible refine LeO.ite ?_ ?_)
   | (with_reducible refine LeO.bind ?_ (fun _ => ?_))
   | exact ih0 _ _ _ _ _ _ _ _ _ _ _ _ _ _
   | exact ih1 _ _ _ _ _ _ _ _ _ _ _ _ _
   | exact ih2 _ _ _ _ _ _ _ _ _ _ _ _ _ _
   | exact ih3 _ _ _ _ _ _ _ _ _ _ _ _ _ _
   | exact impl_IsRanked.mono _ _ _ _ _
   | exact impl_JoinRanked.mono _ _ _ _ _ _ _ _ _
   | exact impl_OnesOf.mono _ _ _ _ _
   | exact impl_Rank1.mono _ _ _ _ _ _
   | exact laws_pSameRanked.mono _ _ _ _ _ _ _ _ _
   | exact spec_DrawJoinRanked.mono _ _
   | exact spec_JoinRanked.mono _ _ _ _ _ _ _ _ _
   | exact LeO.none _
   | refine LeO.ite ?_ ?_
   | refine LeO.bind ?_ (fun _ => ?_)
  ·intro y0 y1 y2 y3 y4 y5 y6 y7 y8 y9 y10 y11 y12 y13
   unfold laws_FnRanksJoin.l0
   repeat' first
   | (with_reducible exact ih0 _ _ _ _ _ _ _ _ _ _ _ _ _ _)
   | (with_reducible exact ih1 _ _ _ _ _ _ _ _ _ _ _ _ _)
   | (with_reducible exact ih2 _ _ _ _ _ _ _ _ _ _ _ _ _ _)
   | (with_reducible exact ih3 _ _ _ _ _ _ _ _ _ _ _ _ _ _)
   | (with_reducible exact impl_IsRanked.mono _ _ _ _ _)
   | (with_reducible exact impl_JoinRanked.mono _ _ _ _ _ _ _ _ _)
   | (with_reducible exact impl_OnesOf.mono _ _ _ _ _)
   | (with_reducible exact impl_Rank1.mono _ _ _ _ _ _)
   | (with_reducible exact laws_pSameRanked.mono _ _ _ _ _ _ _ _ _)
   | (with_reducible exact spec_DrawJoinRanked.mono _ _)
   | (with_reducible exact spec_JoinRanked.mono _ _ _ _ _ _ _ _ _)
   | (with_reducible exact LeO.refl _)
   | (with_reducible exact LeO.none _)
   | (with_reducible refine LeO.ite ?_ ?_)
   | (with_reducible refine LeO.bind ?_ (fun _ => ?_))
   | exact ih0 _ _ _ _ _ _ _ _ _ _ _ _ _ _
   | exact ih1 _ _ _ _ _ _ _ _ _ _ _ _ _
   | exact ih2 _ _ _ _ _ _ _ _ _ _ _ _ _ _
   | exact ih3 _ _ _ _ _ _ _ _ _ _ _ _ _ _
   | exact impl_IsRanked.mono _ _ _ _ _
   | exact impl_JoinRanked.mono _ _ _ _ _ _ _ _ _
   | exact impl_OnesOf.mono _ _ _ _ _
   | exact impl_Rank1.mono _ _ _ _ _ _
   | exact laws_pSameRanked.mono _ _ _ _ _ _ _ _ _
   | exact spec_DrawJoinRanked.mono _ _
   | exact spec_JoinRanked.mono _ _ _ _ _ _ _ _ _
   | exact LeO.none _
   | refine LeO.ite ?_ ?_
   | refine LeO.bind ?_ (fun _ => ?_)
theorem laws_FnRanksJoin.mono : ∀ a0 a1 k, LeO (laws_FnRanksJoin.f k a0 a1) (laws_FnRanksJoin.f (k + 1) a0 a1) := by
 intro a0 a1 k
 obtain ⟨ih0, ih1, ih2, ih3⟩ := laws_FnRanksJoin.mono_l k
 unfold laws_FnRanksJoin.f
 repeat' first
   | (with_reducible exact ih0 _ _ _ _ _ _ _ _ _ _ _ _ _ _)
   | (with_reducible exact ih1 _ _ _ _ _ _ _ _ _ _ _ _ _)
   | (with_reducible exact ih2 _ _ _ _ _ _ _ _ _ _ _ _ _ _)
   | (with_reducible exact ih3 _ _ _ _ _ _ _ _ _ _ _ _ _ _)
   | (with_reducible exact impl_IsRanked.mono _ _ _ _ _)
   | (with_reducible exact impl_JoinRanked.mono _ _ _ _ _ _ _ _ _)
   | (with_reducible exact impl_OnesOf.mono _ _ _ _ _)
   | (with_reducible exact impl_Rank1.mono _ _ _ _ _ _)
   | (with_reducible exact laws_pSameRanked.mono _ _ _ _ _ _ _ _ _)
   | (with_reducible exact spec_DrawJoinRanked.mono _ _)
   | (with_reducible exact spec_JoinRanked.mono _ _ _ _ _ _ _ _ _)
   | (with_reducible exact LeO.refl _)
   | (with_reducible exact LeO.none _)
   | (with_reducible refine LeO.ite ?_ ?_)
   | (with_reducible refine LeO.bind ?_ (fun _ => ?_))
   | exact ih0 _ _ _ _ _ _ _ _ _ _ _ _ _ _
   | exact ih1 _ _ _ _ _ _ _ _ _ _ _ _ _
   | exact ih2 _ _ _ _ _ _ _ _ _ _ _ _ _ _
   | exact ih3 _ _ _ _ _ _ _ _ _ _ _ _ _ _
   | exact impl_IsRanked.mono _ _ _ _ _
   | exact impl_JoinRanked.mono _ _ _ _ _ _ _ _ _
   | exact impl_OnesOf.mono _ _ _ _ _
   | exact impl_Rank1.mono _ _ _ _ _ _
   | exact laws_pSameRanked.mono _ _ _ _ _ _ _ _ _
   | exact spec_DrawJoinRanked.mono _ _
   | exact spec_JoinRanked.mono _ _ _ _ _ _ _ _ _
   | exact LeO.none _
   | refine LeO.ite ?_ ?_
   | refine LeO.bind ?_ (fun _ => ?_)
set_option maxHeartbeats 8000000 in
set_option maxRecDepth 100000 in
theorem laws_FnRanksJoin.calls (k : Nat) (A0 : Option Addr) (c0 : Nat) (l0 : List Int) (A1 : Option Addr) (c1 : Nat) (l1 : List Int) (r : Bool) (w : World) (hr0 : Kd.C (Kd.int .u8) w A0 l0.length l0) (hc0 : l0.length ≤ c0) (hr1 : Kd.C (Kd.int .u8) w A1 l1.length l1) (hc1 : l1.length ≤ c1) (h : laws_FnRanksJoin.f k l0 l1 = some r) :
  Calls Try.prog 13 #[.slice A0 l0.length c0, .slice A1 l1.length c1] w fun e w' => e = .returned (.bool r) ∧ Below w.heap.size w w' := by
 have hu48 := Try.underlying48
 have HR0 := am_ hr0
 have HC0 := am_ hc0
 clear hr0 hc0
 have HR1 := am_ hr1
 have HC1 := am_ hc1
 clear hr1 hc1
 have HB := am_ (Below.refl w.heap.size w)
 have H : ((laws_big.f l0 l1).bind fun t521 => (if t521 = true then (some true) else ((spec_DrawJoinRanked.f k l0).bind fun bt522 => ((impl_JoinRanked.f k bt522.1 bt522.2.1 bt522.2.2.1 bt522.2.2.2.1 bt522.2.2.2.2.1 bt522.2.2.2.2.2.1 bt522.2.2.2.2.2.2.1 bt522.2.2.2.2.2.2.2).bind fun bt544 => ((spec_JoinRanked.f k bt522.1 bt522.2.1 bt522.2.2.1 bt522.2.2.2.1 bt522.2.2.2.2.1 bt522.2.2.2.2.2.1 bt522.2.2.2.2.2.2.1 bt522.2.2.2.2.2.2.2).bind fun bt556 => (if (bt544.2.2.2.2 != bt556.2.2.2.2) = true then (none) else ((laws_pSameRanked.f k bt544.1 bt544.2.1 bt544.2.2.1 bt544.2.2.2.1 bt556.1 bt556.2.1 bt556.2.2.1 bt556.2.2.2.1).bind fun t568 => (laws_FnRanksJoin.j0 k bt556.2.2.2.2 (!t568) bt522.1 bt522.2.1 bt522.2.2.1 bt522.2.2.2.1 bt522.2.2.2.2.1 bt522.2.2.2.2.2.1 bt522.2.2.2.2.2.2.1 bt522.2.2.2.2.2.2.2 bt544.1 bt544.2.1 bt544.2.2.1 bt544.2.2.2.1)))))))) = some r := h
 clear h
 replace H := Option.bind_eq_some_iff.mp H
 obtain ⟨t521, A30, H⟩ := H
 replace H : (if t521 = true then (some true) else ((spec_DrawJoinRanked.f k l0).bind fun bt522 => ((impl_JoinRanked.f k bt522.1 bt522.2.1 bt522.2.2.1 bt522.2.2.2.1 bt522.2.2.2.2.1 bt522.2.2.2.2.2.1 bt522.2.2.2.2.2.2.1 bt522.2.2.2.2.2.2.2).bind fun bt544 => ((spec_JoinRanked.f k bt522.1 bt522.2.1 bt522.2.2.1 bt522.2.2.2.1 bt522.2.2.2.2.1 bt522.2.2.2.2.2.1 bt522.2.2.2.2.2.2.1 bt522.2.2.2.2.2.2.2).bind fun bt556 => (if (bt544.2.2.2.2 != bt556.2.2.2.2) = true then (none) else ((laws_pSameRanked.f k bt544.1 bt544.2.1 bt544.2.2.1 bt544.2.2.2.1 bt556.1 bt556.2.1 bt556.2.2.1 bt556.2.2.2.1).bind fun t568 => (laws_FnRanksJoin.j0 k bt556.2.2.2.2 (!t568) bt522.1 bt522.2.1 bt522.2.2.1 bt522.2.2.2.1 bt522.2.2.2.2.1 bt522.2.2.2.2.2.1 bt522.2.2.2.2.2.2.1 bt522.2.2.2.2.2.2.2 bt544.1 bt544.2.1 bt544.2.2.1 bt544.2.2.2.1))))))) = some r := H
 have A3 := am_ A30
 clear A30
 by_cases c4 : t521 = true
 ·subst c4
  have H1 : (some true) = some r := by rw [if_pos rfl] at H; exact H
  clear H
  have H := H1
  clear H1
  obtain rfl := Option.some.inj H
  go_enter Try.func13, Try.ntmps13
  go_wp2_with (first | ((with_reducible refine gate_callee (f := 45) rfl ?_); refine goesL_ (some 20) rfl rfl Try.func45 (by kernel_rfl) rfl #[.slice A0 l0.length c0, .slice A1 l1.length c1] rfl lm_ ?_; (with_reducible refine (laws_big.calls _ _ l0 _ _ l1 true _ ?side1 ?side2 ?side3 ?side4 A3.out).mono ?_); (case side1 => exact lc_ HR0.out); (case side2 => exact HC0.out); (case side3 => exact lc_ HR1.out); (case side4 => exact HC1.out); rintro e w' ⟨rfl, ⟨nd, rfl⟩⟩; refine ⟨_, rfl, ?_⟩))
  go_ret
  exact ⟨er_, lw_ HB⟩
 ·replace c4 := Bool.eq_false_iff.mpr c4
  subst c4
  have H1 : ((spec_DrawJoinRanked.f k l0).bind fun bt522 => ((impl_JoinRanked.f k bt522.1 bt522.2.1 bt522.2.2.1 bt522.2.2.2.1 bt522.2.2.2.2.1 bt522.2.2.2.2.2.1 bt522.2.2.2.2.2.2.1 bt522.2.2.2.2.2.2.2).bind fun bt544 => ((spec_JoinRanked.f k bt522.1 bt522.2.1 bt522.2.2.1 bt522.2.2.2.1 bt522.2.2.2.2.1 bt522.2.2.2.2.2.1 bt522.2.2.2.2.2.2.1 bt522.2.2.2.2.2.2.2).bind fun bt556 => (if (bt544.2.2.2.2 != bt556.2.2.2.2) = true then (none) else ((laws_pSameRanked.f k bt544.1 bt544.2.1 bt544.2.2.1 bt544.2.2.2.1 bt556.1 bt556.2.1 bt556.2.2.1 bt556.2.2.2.1).bind fun t568 => (laws_FnRanksJoin.j0 k bt556.2.2.2.2 (!t568) bt522.1 bt522.2.1 bt522.2.2.1 bt522.2.2.2.1 bt522.2.2.2.2.1 bt522.2.2.2.2.2.1 bt522.2.2.2.2.2.2.1 bt522.2.2.2.2.2.2.2 bt544.1 bt544.2.1 bt544.2.2.1 bt544.2.2.2.1)))))) = some r := by rw [if_neg (show ¬ (false = true) by decide)] at H; exact H
  clear H
  have H := H1
  clear H1
  replace H := Option.bind_eq_some_iff.mp H
  obtain ⟨⟨t522, t523, t526, t529, t532, t533, t536, t539⟩, A50, H⟩ := H
  replace H : ((impl_JoinRanked.f k t522 t523 t526 t529 t532 t533 t536 t539).bind fun bt544 => ((spec_JoinRanked.f k t522 t523 t526 t529 t532 t533 t536 t539).bind fun bt556 => (if (bt544.2.2.2.2 != bt556.2.2.2.2) = true then (none) else ((laws_pSameRanked.f k bt544.1 bt544.2.1 bt544.2.2.1 bt544.2.2.2.1 bt556.1 bt556.2.1 bt556.2.2.1 bt556.2.2.2.1).bind fun t568 => (laws_FnRanksJoin.j0 k bt556.2.2.2.2 (!t568) t522 t523 t526 t529 t532 t533 t536 t539 bt544.1 bt544.2.1 bt544.2.2.1 bt544.2.2.2.1))))) = some r := H
  have A5 := am_ A50
  clear A50
  replace H := Option.bind_eq_some_iff.mp H
  obtain ⟨⟨t544, t545, t548, t551, t554⟩, A60, H⟩ := H
  replace H : ((spec_JoinRanked.f k t522 t523 t526 t529 t532 t533 t536 t539).bind fun bt556 => (if (t554 != bt556.2.2.2.2) = true then (none) else ((laws_pSameRanked.f k t544 t545 t548 t551 bt556.1 bt556.2.1 bt556.2.2.1 bt556.2.2.2.1).bind fun t568 => (laws_FnRanksJoin.j0 k bt556.2.2.2.2 (!t568) t522 t523 t526 t529 t532 t533 t536 t539 t544 t545 t548 t551)))) = some r := H
  have A6 := am_ A60
  clear A60
  replace H := Option.bind_eq_some_iff.mp H
  obtain ⟨⟨t556, t557, t560, t563, t566⟩, A70, H⟩ := H
  replace H : (if (t554 != t566) = true then (none) else ((laws_pSameRanked.f k t544 t545 t548 t551 t556 t557 t560 t563).bind fun t568 => (laws_FnRanksJoin.j0 k t566 (!t568) t522 t523 t526 t529 t532 t533 t536 t539 t544 t545 t548 t551))) = some r := H
  have A7 := am_ A70
  clear A70
  have HC8 := am_ H
  clear H
  go_enter Try.func13, Try.ntmps13
  go_upto_region 6 with (first | ((with_reducible refine gate_callee (f := 45) rfl ?_); refine goesL_ (some 20) rfl rfl Try.func45 (by kernel_rfl) rfl #[.slice A0 l0.length c0, .slice A1 l1.length c1] rfl lm_ ?_; (with_reducible refine (laws_big.calls _ _ l0 _ _ l1 false _ ?side1 ?side2 ?side3 ?side4 A3.out).mono ?_); (case side1 => exact lc_ HR0.out); (case side2 => exact HC0.out); (case side3 => exact lc_ HR1.out); (case side4 => exact HC1.out); rintro e w' ⟨rfl, ⟨nd, rfl⟩⟩; refine ⟨_, rfl, ?_⟩) | ((with_reducible refine gate_callee (f := 53) rfl ?_); refine goesL_ (some 23) rfl rfl Try.func53 (by kernel_rfl) rfl #[.slice A0 l0.length c0] rfl lm_ ?_; (with_reducible refine (spec_DrawJoinRanked.calls k _ _ l0 t522 t523 t526 t529 t532 t533 t536 t539 _ ?side1 ?side2 A5.out).mono ?_); (case side1 => exact lc_ HR0.out); (case side2 => exact HC0.out); rintro e w9 ⟨v524, v527, v530, v534, v537, v540, rfl, ho0, ho1, ho2, ho3, ho4, ho5, hb⟩; refine ⟨_, rfl, ?_⟩; have HO525 := am_ (Kd.R_lower ho0 (below_size (lw_ HB))); have HO528 := am_ (Kd.R_lower ho1 (below_size (lw_ HB))); have HO531 := am_ (Kd.R_lower ho2 (below_size (lw_ HB))); have HO535 := am_ (Kd.R_lower ho3 (below_size (lw_ HB))); have HO538 := am_ (Kd.R_lower ho4 (below_size (lw_ HB))); have HO541 := am_ (Kd.R_lower ho5 (below_size (lw_ HB))); replace HB := am_ (below_step (lw_ HB) hb); (try clear hb); (try clear hb2); (try clear hk); (try clear hi); (try clear ho0); (try clear ho1); (try clear ho2); (try clear ho3); (try clear ho4); (try clear ho5)) | ((with_reducible refine gate_dst (N := 5) rfl ?_); refine bev_ 5 #[.int .i64 0, .slice none 0 0, .slice none 0 0, .slice none 0 0] 48 rfl rfl ?_; intro gb542 hg w10 hbox hb; have BK542 := am_ (hbox); have GW542 := am_ ((by rw [hg]; exact (below_size (lw_ HB)) : w.heap.size ≤ gb542)); have GE542 := am_ ((by rw [hg]; exact (below_size (lw_ HB)) : w.heap.size ≤ gb542)); replace HO525 := am_ (Kd.R_below (lf_ HO525) hb); replace HO528 := am_ (Kd.R_below (lf_ HO528) hb); replace HO531 := am_ (Kd.R_below (lf_ HO531) hb); replace HO535 := am_ (Kd.R_below (lf_ HO535) hb); replace HO538 := am_ (Kd.R_below (lf_ HO538) hb); replace HO541 := am_ (Kd.R_below (lf_ HO541) hb); replace HB := am_ (below_step (lw_ HB) hb); clear hb hbox hg) | ((with_reducible refine gate_dst (N := 6) rfl ?_); refine bev_ 6 #[.int .i64 0, .slice none 0 0, .slice none 0 0, .slice none 0 0] 48 rfl rfl ?_; intro gb543 hg w11 hbox hb; have BK543 := am_ (hbox); have GW543 := am_ ((by rw [hg]; exact (below_size (lw_ HB)) : w.heap.size ≤ gb543)); have GE543 := am_ ((by rw [hg]; exact (below_size (lw_ HB)) : w.heap.size ≤ gb543)); have NB542_543 := am_ ((by rw [hg]; exact Nat.ne_of_lt (blk_lt (g := gb542) (lb_ BK542)) : gb542 ≠ gb543)); have NB543_542 := am_ ((by rw [hg]; exact Nat.ne_of_gt (blk_lt (g := gb542) (lb_ BK542)) : gb543 ≠ gb542)); replace HO525 := am_ (Kd.R_below (lf_ HO525) hb); replace HO528 := am_ (Kd.R_below (lf_ HO528) hb); replace HO531 := am_ (Kd.R_below (lf_ HO531) hb); replace HO535 := am_ (Kd.R_below (lf_ HO535) hb); replace HO538 := am_ (Kd.R_below (lf_ HO538) hb); replace HO541 := am_ (Kd.R_below (lf_ HO541) hb); replace BK542 := am_ (blk_below (g := gb542) (lb_ BK542) hb); replace HB := am_ (below_step (lw_ HB) hb); clear hb hbox hg; have hnb12 := NB542_543.out; have hnc12 := NB543_542.out; obtain ⟨hcz13_0, hcz13_1, hcz13_2, hcz13_3, hfz13_0, hfz13_1, hfz13_2, hfz13_3⟩ := bx4_ BK542.out; obtain ⟨Ao14, co14, eo14⟩ := Kd.R_slice HO525.out; subst eo14; obtain ⟨Ao15, co15, eo15⟩ := Kd.R_slice HO528.out; subst eo15; obtain ⟨Ao16, co16, eo16⟩ := Kd.R_slice HO531.out; subst eo16; obtain ⟨hcz17_0, hcz17_1, hcz17_2, hcz17_3, hfz17_0, hfz17_1, hfz17_2, hfz17_3⟩ := bx4_ BK543.out; obtain ⟨Ao18, co18, eo18⟩ := Kd.R_slice HO535.out; subst eo18; obtain ⟨Ao19, co19, eo19⟩ := Kd.R_slice HO538.out; subst eo19; obtain ⟨Ao20, co20, eo20⟩ := Kd.R_slice HO541.out; subst eo20) | ((with_reducible refine gate_callee (f := 37) rfl ?_); refine goesL_ (some 29) rfl rfl Try.func37 (by kernel_rfl) rfl #[.agg #[.int .i64 t522, .slice Ao14 t523.length co14, .slice Ao15 t526.length co15, .slice Ao16 t529.length co16], .agg #[.int .i64 t532, .slice Ao18 t533.length co18, .slice Ao19 t536.length co19, .slice Ao20 t539.length co20]] rfl lm_ ?_; (with_reducible refine (impl_JoinRanked.calls k t522 _ _ t523 _ _ t526 _ _ t529 t532 _ _ t533 _ _ t536 _ _ t539 t544 t545 t548 t551 t554 _ ?side1 ?side2 ?side3 ?side4 ?side5 ?side6 ?side7 ?side8 ?side9 ?side10 ?side11 ?side12 A6.out).mono ?_); (case side1 => refine (Kd.R_reads' (e := 3) (base := w.heap.size) (ok := fun k_ => (ns_ k_ Ao15 t526 co15 ∧ (ns_ k_ Ao16 t529 co16 ∧ (ns_ k_ Ao18 t533 co18 ∧ (ns_ k_ Ao19 t536 co19 ∧ ns_ k_ Ao20 t539 co20))))) (n := t523.length) (c := co14) ?_).2.2; exact (lt_ ((m1_ (m1_ (Kd.R_far (p := ⟨gb543, 3, none⟩) (Kd.R_far (p := ⟨gb543, 2, none⟩) (Kd.R_far (p := ⟨gb543, 1, none⟩) (Kd.R_far (p := ⟨gb543, 0, none⟩) (Kd.R_far (p := ⟨gb542, 3, none⟩) (Kd.R_far (p := ⟨gb542, 2, none⟩) (Kd.R_far (p := ⟨gb542, 1, none⟩) (Kd.R_far (p := ⟨gb542, 0, none⟩) (Kd.R_types (Kd.R_types HO525.out BK542.out (by decide)) BK543.out (by decide)) (fun _ hk => hk.1.2) (.int .i64 t522)) (fun _ hk => hk.1.2) (.slice Ao14 t523.length co14)) (fun _ hk => hk.1.2) (.slice Ao15 t526.length co15)) (fun _ hk => hk.1.2) (.slice Ao16 t529.length co16)) (fun _ hk => hk.2) (.int .i64 t532)) (fun _ hk => hk.2) (.slice Ao18 t533.length co18)) (fun _ hk => hk.2) (.slice Ao19 t536.length co19)) (fun _ hk => hk.2) (.slice Ao20 t539.length co20))))))); (case side2 => exact (Kd.R_reads' HO525.out).2.1); (case side3 => refine (Kd.R_reads' (e := 3) (base := w.heap.size) (ok := fun k_ => (ns_ k_ Ao14 t523 co14 ∧ (ns_ k_ Ao16 t529 co16 ∧ (ns_ k_ Ao18 t533 co18 ∧ (ns_ k_ Ao19 t536 co19 ∧ ns_ k_ Ao20 t539 co20))))) (n := t526.length) (c := co15) ?_).2.2; exact (lt_ ((m1_ (m1_ (Kd.R_far (p := ⟨gb543, 3, none⟩) (Kd.R_far (p := ⟨gb543, 2, none⟩) (Kd.R_far (p := ⟨gb543, 1, none⟩) (Kd.R_far (p := ⟨gb543, 0, none⟩) (Kd.R_far (p := ⟨gb542, 3, none⟩) (Kd.R_far (p := ⟨gb542, 2, none⟩) (Kd.R_far (p := ⟨gb542, 1, none⟩) (Kd.R_far (p := ⟨gb542, 0, none⟩) (Kd.R_types (Kd.R_types HO528.out BK542.out (by decide)) BK543.out (by decide)) (fun _ hk => hk.1.2) (.int .i64 t522)) (fun _ hk => hk.1.2) (.slice Ao14 t523.length co14)) (fun _ hk => hk.1.2) (.slice Ao15 t526.length co15)) (fun _ hk => hk.1.2) (.slice Ao16 t529.length co16)) (fun _ hk => hk.2) (.int .i64 t532)) (fun _ hk => hk.2) (.slice Ao18 t533.length co18)) (fun _ hk => hk.2) (.slice Ao19 t536.length co19)) (fun _ hk => hk.2) (.slice Ao20 t539.length co20))))))); (case side4 => exact (Kd.R_reads' HO528.out).2.1); (case side5 => refine (Kd.R_reads' (e := 3) (base := w.heap.size) (ok := fun k_ => (ns_ k_ Ao14 t523 co14 ∧ (ns_ k_ Ao15 t526 co15 ∧ (ns_ k_ Ao18 t533 co18 ∧ (ns_ k_ Ao19 t536 co19 ∧ ns_ k_ Ao20 t539 co20))))) (n := t529.length) (c := co16) ?_).2.2; exact (lt_ ((m1_ (m1_ (Kd.R_far (p := ⟨gb543, 3, none⟩) (Kd.R_far (p := ⟨gb543, 2, none⟩) (Kd.R_far (p := ⟨gb543, 1, none⟩) (Kd.R_far (p := ⟨gb543, 0, none⟩) (Kd.R_far (p := ⟨gb542, 3, none⟩) (Kd.R_far (p := ⟨gb542, 2, none⟩) (Kd.R_far (p := ⟨gb542, 1, none⟩) (Kd.R_far (p := ⟨gb542, 0, none⟩) (Kd.R_types (Kd.R_types HO531.out BK542.out (by decide)) BK543.out (by decide)) (fun _ hk => hk.1.2) (.int .i64 t522)) (fun _ hk => hk.1.2) (.slice Ao14 t523.length co14)) (fun _ hk => hk.1.2) (.slice Ao15 t526.length co15)) (fun _ hk => hk.1.2) (.slice Ao16 t529.length co16)) (fun _ hk => hk.2) (.int .i64 t532)) (fun _ hk => hk.2) (.slice Ao18 t533.length co18)) (fun _ hk => hk.2) (.slice Ao19 t536.length co19)) (fun _ hk => hk.2) (.slice Ao20 t539.length co20))))))); (case side6 => exact (Kd.R_reads' HO531.out).2.1); (case side7 => refine (Kd.R_reads' (e := 3) (base := w.heap.size) (ok := fun k_ => (ns_ k_ Ao14 t523 co14 ∧ (ns_ k_ Ao15 t526 co15 ∧ (ns_ k_ Ao16 t529 co16 ∧ (ns_ k_ Ao19 t536 co19 ∧ ns_ k_ Ao20 t539 co20))))) (n := t533.length) (c := co18) ?_).2.2; exact (lt_ ((m1_ (m1_ (Kd.R_far (p := ⟨gb543, 3, none⟩) (Kd.R_far (p := ⟨gb543, 2, none⟩) (Kd.R_far (p := ⟨gb543, 1, none⟩) (Kd.R_far (p := ⟨gb543, 0, none⟩) (Kd.R_far (p := ⟨gb542, 3, none⟩) (Kd.R_far (p := ⟨gb542, 2, none⟩) (Kd.R_far (p := ⟨gb542, 1, none⟩) (Kd.R_far (p := ⟨gb542, 0, none⟩) (Kd.R_types (Kd.R_types HO535.out BK542.out (by decide)) BK543.out (by decide)) (fun _ hk => hk.1.2) (.int .i64 t522)) (fun _ hk => hk.1.2) (.slice Ao14 t523.length co14)) (fun _ hk => hk.1.2) (.slice Ao15 t526.length co15)) (fun _ hk => hk.1.2) (.slice Ao16 t529.length co16)) (fun _ hk => hk.2) (.int .i64 t532)) (fun _ hk => hk.2) (.slice Ao18 t533.length co18)) (fun _ hk => hk.2) (.slice Ao19 t536.length co19)) (fun _ hk => hk.2) (.slice Ao20 t539.length co20))))))); (case side8 => exact (Kd.R_reads' HO535.out).2.1); (case side9 => refine (Kd.R_reads' (e := 3) (base := w.heap.size) (ok := fun k_ => (ns_ k_ Ao14 t523 co14 ∧ (ns_ k_ Ao15 t526 co15 ∧ (ns_ k_ Ao16 t529 co16 ∧ (ns_ k_ Ao18 t533 co18 ∧ ns_ k_ Ao20 t539 co20))))) (n := t536.length) (c := co19) ?_).2.2; exact (lt_ ((m1_ (m1_ (Kd.R_far (p := ⟨gb543, 3, none⟩) (Kd.R_far (p := ⟨gb543, 2, none⟩) (Kd.R_far (p := ⟨gb543, 1, none⟩) (Kd.R_far (p := ⟨gb543, 0, none⟩) (Kd.R_far (p := ⟨gb542, 3, none⟩) (Kd.R_far (p := ⟨gb542, 2, none⟩) (Kd.R_far (p := ⟨gb542, 1, none⟩) (Kd.R_far (p := ⟨gb542, 0, none⟩) (Kd.R_types (Kd.R_types HO538.out BK542.out (by decide)) BK543.out (by decide)) (fun _ hk => hk.1.2) (.int .i64 t522)) (fun _ hk => hk.1.2) (.slice Ao14 t523.length co14)) (fun _ hk => hk.1.2) (.slice Ao15 t526.length co15)) (fun _ hk => hk.1.2) (.slice Ao16 t529.length co16)) (fun _ hk => hk.2) (.int .i64 t532)) (fun _ hk => hk.2) (.slice Ao18 t533.length co18)) (fun _ hk => hk.2) (.slice Ao19 t536.length co19)) (fun _ hk => hk.2) (.slice Ao20 t539.length co20))))))); (case side10 => exact (Kd.R_reads' HO538.out).2.1); (case side11 => refine (Kd.R_reads' (e := 3) (base := w.heap.size) (ok := fun k_ => (ns_ k_ Ao14 t523 co14 ∧ (ns_ k_ Ao15 t526 co15 ∧ (ns_ k_ Ao16 t529 co16 ∧ (ns_ k_ Ao18 t533 co18 ∧ ns_ k_ Ao19 t536 co19))))) (n := t539.length) (c := co20) ?_).2.2; exact (lt_ ((m1_ (m1_ (Kd.R_far (p := ⟨gb543, 3, none⟩) (Kd.R_far (p := ⟨gb543, 2, none⟩) (Kd.R_far (p := ⟨gb543, 1, none⟩) (Kd.R_far (p := ⟨gb543, 0, none⟩) (Kd.R_far (p := ⟨gb542, 3, none⟩) (Kd.R_far (p := ⟨gb542, 2, none⟩) (Kd.R_far (p := ⟨gb542, 1, none⟩) (Kd.R_far (p := ⟨gb542, 0, none⟩) (Kd.R_types (Kd.R_types HO541.out BK542.out (by decide)) BK543.out (by decide)) (fun _ hk => hk.1.2) (.int .i64 t522)) (fun _ hk => hk.1.2) (.slice Ao14 t523.length co14)) (fun _ hk => hk.1.2) (.slice Ao15 t526.length co15)) (fun _ hk => hk.1.2) (.slice Ao16 t529.length co16)) (fun _ hk => hk.2) (.int .i64 t532)) (fun _ hk => hk.2) (.slice Ao18 t533.length co18)) (fun _ hk => hk.2) (.slice Ao19 t536.length co19)) (fun _ hk => hk.2) (.slice Ao20 t539.length co20))))))); (case side12 => exact (Kd.R_reads' HO541.out).2.1); rintro e w21 ⟨v546, v549, v552, rfl, ho0, ho1, ho2, hb⟩; refine ⟨_, rfl, ?_⟩; have HO547 := am_ (Kd.R_lower (Kd.R_new' (Kd.R_new' (Kd.R_new' (Kd.R_new' (Kd.R_new' (Kd.R_new' ho0 (Kd.R_lt (lt_ ((m1_ (m1_ (Kd.R_far (p := ⟨gb543, 3, none⟩) (Kd.R_far (p := ⟨gb543, 2, none⟩) (Kd.R_far (p := ⟨gb543, 1, none⟩) (Kd.R_far (p := ⟨gb543, 0, none⟩) (Kd.R_far (p := ⟨gb542, 3, none⟩) (Kd.R_far (p := ⟨gb542, 2, none⟩) (Kd.R_far (p := ⟨gb542, 1, none⟩) (Kd.R_far (p := ⟨gb542, 0, none⟩) (Kd.R_types (Kd.R_types HO525.out BK542.out (by decide)) BK543.out (by decide)) (fun _ hk => hk.1.2) (.int .i64 t522)) (fun _ hk => hk.1.2) (.slice Ao14 t523.length co14)) (fun _ hk => hk.1.2) (.slice Ao15 t526.length co15)) (fun _ hk => hk.1.2) (.slice Ao16 t529.length co16)) (fun _ hk => hk.2) (.int .i64 t532)) (fun _ hk => hk.2) (.slice Ao18 t533.length co18)) (fun _ hk => hk.2) (.slice Ao19 t536.length co19)) (fun _ hk => hk.2) (.slice Ao20 t539.length co20)))))))) (Kd.R_lt (lt_ ((m1_ (m1_ (Kd.R_far (p := ⟨gb543, 3, none⟩) (Kd.R_far (p := ⟨gb543, 2, none⟩) (Kd.R_far (p := ⟨gb543, 1, none⟩) (Kd.R_far (p := ⟨gb543, 0, none⟩) (Kd.R_far (p := ⟨gb542, 3, none⟩) (Kd.R_far (p := ⟨gb542, 2, none⟩) (Kd.R_far (p := ⟨gb542, 1, none⟩) (Kd.R_far (p := ⟨gb542, 0, none⟩) (Kd.R_types (Kd.R_types HO528.out BK542.out (by decide)) BK543.out (by decide)) (fun _ hk => hk.1.2) (.int .i64 t522)) (fun _ hk => hk.1.2) (.slice Ao14 t523.length co14)) (fun _ hk => hk.1.2) (.slice Ao15 t526.length co15)) (fun _ hk => hk.1.2) (.slice Ao16 t529.length co16)) (fun _ hk => hk.2) (.int .i64 t532)) (fun _ hk => hk.2) (.slice Ao18 t533.length co18)) (fun _ hk => hk.2) (.slice Ao19 t536.length co19)) (fun _ hk => hk.2) (.slice Ao20 t539.length co20)))))))) (Kd.R_lt (lt_ ((m1_ (m1_ (Kd.R_far (p := ⟨gb543, 3, none⟩) (Kd.R_far (p := ⟨gb543, 2, none⟩) (Kd.R_far (p := ⟨gb543, 1, none⟩) (Kd.R_far (p := ⟨gb543, 0, none⟩) (Kd.R_far (p := ⟨gb542, 3, none⟩) (Kd.R_far (p := ⟨gb542, 2, none⟩) (Kd.R_far (p := ⟨gb542, 1, none⟩) (Kd.R_far (p := ⟨gb542, 0, none⟩) (Kd.R_types (Kd.R_types HO531.out BK542.out (by decide)) BK543.out (by decide)) (fun _ hk => hk.1.2) (.int .i64 t522)) (fun _ hk => hk.1.2) (.slice Ao14 t523.length co14)) (fun _ hk => hk.1.2) (.slice Ao15 t526.length co15)) (fun _ hk => hk.1.2) (.slice Ao16 t529.length co16)) (fun _ hk => hk.2) (.int .i64 t532)) (fun _ hk => hk.2) (.slice Ao18 t533.length co18)) (fun _ hk => hk.2) (.slice Ao19 t536.length co19)) (fun _ hk => hk.2) (.slice Ao20 t539.length co20)))))))) (Kd.R_lt (lt_ ((m1_ (m1_ (Kd.R_far (p := ⟨gb543, 3, none⟩) (Kd.R_far (p := ⟨gb543, 2, none⟩) (Kd.R_far (p := ⟨gb543, 1, none⟩) (Kd.R_far (p := ⟨gb543, 0, none⟩) (Kd.R_far (p := ⟨gb542, 3, none⟩) (Kd.R_far (p := ⟨gb542, 2, none⟩) (Kd.R_far (p := ⟨gb542, 1, none⟩) (Kd.R_far (p := ⟨gb542, 0, none⟩) (Kd.R_types (Kd.R_types HO535.out BK542.out (by decide)) BK543.out (by decide)) (fun _ hk => hk.1.2) (.int .i64 t522)) (fun _ hk => hk.1.2) (.slice Ao14 t523.length co14)) (fun _ hk => hk.1.2) (.slice Ao15 t526.length co15)) (fun _ hk => hk.1.2) (.slice Ao16 t529.length co16)) (fun _ hk => hk.2) (.int .i64 t532)) (fun _ hk => hk.2) (.slice Ao18 t533.length co18)) (fun _ hk => hk.2) (.slice Ao19 t536.length co19)) (fun _ hk => hk.2) (.slice Ao20 t539.length co20)))))))) (Kd.R_lt (lt_ ((m1_ (m1_ (Kd.R_far (p := ⟨gb543, 3, none⟩) (Kd.R_far (p := ⟨gb543, 2, none⟩) (Kd.R_far (p := ⟨gb543, 1, none⟩) (Kd.R_far (p := ⟨gb543, 0, none⟩) (Kd.R_far (p := ⟨gb542, 3, none⟩) (Kd.R_far (p := ⟨gb542, 2, none⟩) (Kd.R_far (p := ⟨gb542, 1, none⟩) (Kd.R_far (p := ⟨gb542, 0, none⟩) (Kd.R_types (Kd.R_types HO538.out BK542.out (by decide)) BK543.out (by decide)) (fun _ hk => hk.1.2) (.int .i64 t522)) (fun _ hk => hk.1.2) (.slice Ao14 t523.length co14)) (fun _ hk => hk.1.2) (.slice Ao15 t526.length co15)) (fun _ hk => hk.1.2) (.slice Ao16 t529.length co16)) (fun _ hk => hk.2) (.int .i64 t532)) (fun _ hk => hk.2) (.slice Ao18 t533.length co18)) (fun _ hk => hk.2) (.slice Ao19 t536.length co19)) (fun _ hk => hk.2) (.slice Ao20 t539.length co20)))))))) (Kd.R_lt (lt_ ((m1_ (m1_ (Kd.R_far (p := ⟨gb543, 3, none⟩) (Kd.R_far (p := ⟨gb543, 2, none⟩) (Kd.R_far (p := ⟨gb543, 1, none⟩) (Kd.R_far (p := ⟨gb543, 0, none⟩) (Kd.R_far (p := ⟨gb542, 3, none⟩) (Kd.R_far (p := ⟨gb542, 2, none⟩) (Kd.R_far (p := ⟨gb542, 1, none⟩) (Kd.R_far (p := ⟨gb542, 0, none⟩) (Kd.R_types (Kd.R_types HO541.out BK542.out (by decide)) BK543.out (by decide)) (fun _ hk => hk.1.2) (.int .i64 t522)) (fun _ hk => hk.1.2) (.slice Ao14 t523.length co14)) (fun _ hk => hk.1.2) (.slice Ao15 t526.length co15)) (fun _ hk => hk.1.2) (.slice Ao16 t529.length co16)) (fun _ hk => hk.2) (.int .i64 t532)) (fun _ hk => hk.2) (.slice Ao18 t533.length co18)) (fun _ hk => hk.2) (.slice Ao19 t536.length co19)) (fun _ hk => hk.2) (.slice Ao20 t539.length co20)))))))) (below_size (lw_ HB))); have HO550 := am_ (Kd.R_lower (Kd.R_new' (Kd.R_new' (Kd.R_new' (Kd.R_new' (Kd.R_new' (Kd.R_new' ho1 (Kd.R_lt (lt_ ((m1_ (m1_ (Kd.R_far (p := ⟨gb543, 3, none⟩) (Kd.R_far (p := ⟨gb543, 2, none⟩) (Kd.R_far (p := ⟨gb543, 1, none⟩) (Kd.R_far (p := ⟨gb543, 0, none⟩) (Kd.R_far (p := ⟨gb542, 3, none⟩) (Kd.R_far (p := ⟨gb542, 2, none⟩) (Kd.R_far (p := ⟨gb542, 1, none⟩) (Kd.R_far (p := ⟨gb542, 0, none⟩) (Kd.R_types (Kd.R_types HO525.out BK542.out (by decide)) BK543.out (by decide)) (fun _ hk => hk.1.2) (.int .i64 t522)) (fun _ hk => hk.1.2) (.slice Ao14 t523.length co14)) (fun _ hk => hk.1.2) (.slice Ao15 t526.length co15)) (fun _ hk => hk.1.2) (.slice Ao16 t529.length co16)) (fun _ hk => hk.2) (.int .i64 t532)) (fun _ hk => hk.2) (.slice Ao18 t533.length co18)) (fun _ hk => hk.2) (.slice Ao19 t536.length co19)) (fun _ hk => hk.2) (.slice Ao20 t539.length co20)))))))) (Kd.R_lt (lt_ ((m1_ (m1_ (Kd.R_far (p := ⟨gb543, 3, none⟩) (Kd.R_far (p := ⟨gb543, 2, none⟩) (Kd.R_far (p := ⟨gb543, 1, none⟩) (Kd.R_far (p := ⟨gb543, 0, none⟩) (Kd.R_far (p := ⟨gb542, 3, none⟩) (Kd.R_far (p := ⟨gb542, 2, none⟩) (Kd.R_far (p := ⟨gb542, 1, none⟩) (Kd.R_far (p := ⟨gb542, 0, none⟩) (Kd.R_types (Kd.R_types HO528.out BK542.out (by decide)) BK543.out (by decide)) (fun _ hk => hk.1.2) (.int .i64 t522)) (fun _ hk => hk.1.2) (.slice Ao14 t523.length co14)) (fun _ hk => hk.1.2) (.slice Ao15 t526.length co15)) (fun _ hk => hk.1.2) (.slice Ao16 t529.length co16)) (fun _ hk => hk.2) (.int .i64 t532)) (fun _ hk => hk.2) (.slice Ao18 t533.length co18)) (fun _ hk => hk.2) (.slice Ao19 t536.length co19)) (fun _ hk => hk.2) (.slice Ao20 t539.length co20)))))))) (Kd.R_lt (lt_ ((m1_ (m1_ (Kd.R_far (p := ⟨gb543, 3, none⟩) (Kd.R_far (p := ⟨gb543, 2, none⟩) (Kd.R_far (p := ⟨gb543, 1, none⟩) (Kd.R_far (p := ⟨gb543, 0, none⟩) (Kd.R_far (p := ⟨gb542, 3, none⟩) (Kd.R_far (p := ⟨gb542, 2, none⟩) (Kd.R_far (p := ⟨gb542, 1, none⟩) (Kd.R_far (p := ⟨gb542, 0, none⟩) (Kd.R_types (Kd.R_types HO531.out BK542.out (by decide)) BK543.out (by decide)) (fun _ hk => hk.1.2) (.int .i64 t522)) (fun _ hk => hk.1.2) (.slice Ao14 t523.length co14)) (fun _ hk => hk.1.2) (.slice Ao15 t526.length co15)) (fun _ hk => hk.1.2) (.slice Ao16 t529.length co16)) (fun _ hk => hk.2) (.int .i64 t532)) (fun _ hk => hk.2) (.slice Ao18 t533.length co18)) (fun _ hk => hk.2) (.slice Ao19 t536.length co19)) (fun _ hk => hk.2) (.slice Ao20 t539.length co20)))))))) (Kd.R_lt (lt_ ((m1_ (m1_ (Kd.R_far (p := ⟨gb543, 3, none⟩) (Kd.R_far (p := ⟨gb543, 2, none⟩) (Kd.R_far (p := ⟨gb543, 1, none⟩) (Kd.R_far (p := ⟨gb543, 0, none⟩) (Kd.R_far (p := ⟨gb542, 3, none⟩) (Kd.R_far (p := ⟨gb542, 2, none⟩) (Kd.R_far (p := ⟨gb542, 1, none⟩) (Kd.R_far (p := ⟨gb542, 0, none⟩) (Kd.R_types (Kd.R_types HO535.out BK542.out (by decide)) BK543.out (by decide)) (fun _ hk => hk.1.2) (.int .i64 t522)) (fun _ hk => hk.1.2) (.slice Ao14 t523.length co14)) (fun _ hk => hk.1.2) (.slice Ao15 t526.length co15)) (fun _ hk => hk.1.2) (.slice Ao16 t529.length co16)) (fun _ hk => hk.2) (.int .i64 t532)) (fun _ hk => hk.2) (.slice Ao18 t533.length co18)) (fun _ hk => hk.2) (.slice Ao19 t536.length co19)) (fun _ hk => hk.2) (.slice Ao20 t539.length co20)))))))) (Kd.R_lt (lt_ ((m1_ (m1_ (Kd.R_far (p := ⟨gb543, 3, none⟩) (Kd.R_far (p := ⟨gb543, 2, none⟩) (Kd.R_far (p := ⟨gb543, 1, none⟩) (Kd.R_far (p := ⟨gb543, 0, none⟩) (Kd.R_far (p := ⟨gb542, 3, none⟩) (Kd.R_far (p := ⟨gb542, 2, none⟩) (Kd.R_far (p := ⟨gb542, 1, none⟩) (Kd.R_far (p := ⟨gb542, 0, none⟩) (Kd.R_types (Kd.R_types HO538.out BK542.out (by decide)) BK543.out (by decide)) (fun _ hk => hk.1.2) (.int .i64 t522)) (fun _ hk => hk.1.2) (.slice Ao14 t523.length co14)) (fun _ hk => hk.1.2) (.slice Ao15 t526.length co15)) (fun _ hk => hk.1.2) (.slice Ao16 t529.length co16)) (fun _ hk => hk.2) (.int .i64 t532)) (fun _ hk => hk.2) (.slice Ao18 t533.length co18)) (fun _ hk => hk.2) (.slice Ao19 t536.length co19)) (fun _ hk => hk.2) (.slice Ao20 t539.length co20)))))))) (Kd.R_lt (lt_ ((m1_ (m1_ (Kd.R_far (p := ⟨gb543, 3, none⟩) (Kd.R_far (p := ⟨gb543, 2, none⟩) (Kd.R_far (p := ⟨gb543, 1, none⟩) (Kd.R_far (p := ⟨gb543, 0, none⟩) (Kd.R_far (p := ⟨gb542, 3, none⟩) (Kd.R_far (p := ⟨gb542, 2, none⟩) (Kd.R_far (p := ⟨gb542, 1, none⟩) (Kd.R_far (p := ⟨gb542, 0, none⟩) (Kd.R_types (Kd.R_types HO541.out BK542.out (by decide)) BK543.out (by decide)) (fun _ hk => hk.1.2) (.int .i64 t522)) (fun _ hk => hk.1.2) (.slice Ao14 t523.length co14)) (fun _ hk => hk.1.2) (.slice Ao15 t526.length co15)) (fun _ hk => hk.1.2) (.slice Ao16 t529.length co16)) (fun _ hk => hk.2) (.int .i64 t532)) (fun _ hk => hk.2) (.slice Ao18 t533.length co18)) (fun _ hk => hk.2) (.slice Ao19 t536.length co19)) (fun _ hk => hk.2) (.slice Ao20 t539.length co20)))))))) (below_size (lw_ HB))); have HO553 := am_ (Kd.R_lower (Kd.R_new' (Kd.R_new' (Kd.R_new' (Kd.R_new' (Kd.R_new' (Kd.R_new' ho2 (Kd.R_lt (lt_ ((m1_ (m1_ (Kd.R_far (p := ⟨gb543, 3, none⟩) (Kd.R_far (p := ⟨gb543, 2, none⟩) (Kd.R_far (p := ⟨gb543, 1, none⟩) (Kd.R_far (p := ⟨gb543, 0, none⟩) (Kd.R_far (p := ⟨gb542, 3, none⟩) (Kd.R_far (p := ⟨gb542, 2, none⟩) (Kd.R_far (p := ⟨gb542, 1, none⟩) (Kd.R_far (p := ⟨gb542, 0, none⟩) (Kd.R_types (Kd.R_types HO525.out BK542.out (by decide)) BK543.out (by decide)) (fun _ hk => hk.1.2) (.int .i64 t522)) (fun _ hk => hk.1.2) (.slice Ao14 t523.length co14)) (fun _ hk => hk.1.2) (.slice Ao15 t526.length co15)) (fun _ hk => hk.1.2) (.slice Ao16 t529.length co16)) (fun _ hk => hk.2) (.int .i64 t532)) (fun _ hk => hk.2) (.slice Ao18 t533.length co18)) (fun _ hk => hk.2) (.slice Ao19 t536.length co19)) (fun _ hk => hk.2) (.slice Ao20 t539.length co20)))))))) (Kd.R_lt (lt_ ((m1_ (m1_ (Kd.R_far (p := ⟨gb543, 3, none⟩) (Kd.R_far (p := ⟨gb543, 2, none⟩) (Kd.R_far (p := ⟨gb543, 1, none⟩) (Kd.R_far (p := ⟨gb543, 0, none⟩) (Kd.R_far (p := ⟨gb542, 3, none⟩) (Kd.R_far (p := ⟨gb542, 2, none⟩) (Kd.R_far (p := ⟨gb542, 1, none⟩) (Kd.R_far (p := ⟨gb542, 0, none⟩) (Kd.R_types (Kd.R_types HO528.out BK542.out (by decide)) BK543.out (by decide)) (fun _ hk => hk.1.2) (.int .i64 t522)) (fun _ hk => hk.1.2) (.slice Ao14 t523.length co14)) (fun _ hk => hk.1.2) (.slice Ao15 t526.length co15)) (fun _ hk => hk.1.2) (.slice Ao16 t529.length co16)) (fun _ hk => hk.2) (.int .i64 t532)) (fun _ hk => hk.2) (.slice Ao18 t533.length co18)) (fun _ hk => hk.2) (.slice Ao19 t536.length co19)) (fun _ hk => hk.2) (.slice Ao20 t539.length co20)))))))) (Kd.R_lt (lt_ ((m1_ (m1_ (Kd.R_far (p := ⟨gb543, 3, none⟩) (Kd.R_far (p := ⟨gb543, 2, none⟩) (Kd.R_far (p := ⟨gb543, 1, none⟩) (Kd.R_far (p := ⟨gb543, 0, none⟩) (Kd.R_far (p := ⟨gb542, 3, none⟩) (Kd.R_far (p := ⟨gb542, 2, none⟩) (Kd.R_far (p := ⟨gb542, 1, none⟩) (Kd.R_far (p := ⟨gb542, 0, none⟩) (Kd.R_types (Kd.R_types HO531.out BK542.out (by decide)) BK543.out (by decide)) (fun _ hk => hk.1.2) (.int .i64 t522)) (fun _ hk => hk.1.2) (.slice Ao14 t523.length co14)) (fun _ hk => hk.1.2) (.slice Ao15 t526.length co15)) (fun _ hk => hk.1.2) (.slice Ao16 t529.length co16)) (fun _ hk => hk.2) (.int .i64 t532)) (fun _ hk => hk.2) (.slice Ao18 t533.length co18)) (fun _ hk => hk.2) (.slice Ao19 t536.length co19)) (fun _ hk => hk.2) (.slice Ao20 t539.length co20)))))))) (Kd.R_lt (lt_ ((m1_ (m1_ (Kd.R_far (p := ⟨gb543, 3, none⟩) (Kd.R_far (p := ⟨gb543, 2, none⟩) (Kd.R_far (p := ⟨gb543, 1, none⟩) (Kd.R_far (p := ⟨gb543, 0, none⟩) (Kd.R_far (p := ⟨gb542, 3, none⟩) (Kd.R_far (p := ⟨gb542, 2, none⟩) (Kd.R_far (p := ⟨gb542, 1, none⟩) (Kd.R_far (p := ⟨gb542, 0, none⟩) (Kd.R_types (Kd.R_types HO535.out BK542.out (by decide)) BK543.out (by decide)) (fun _ hk => hk.1.2) (.int .i64 t522)) (fun _ hk => hk.1.2) (.slice Ao14 t523.length co14)) (fun _ hk => hk.1.2) (.slice Ao15 t526.length co15)) (fun _ hk => hk.1.2) (.slice Ao16 t529.length co16)) (fun _ hk => hk.2) (.int .i64 t532)) (fun _ hk => hk.2) (.slice Ao18 t533.length co18)) (fun _ hk => hk.2) (.slice Ao19 t536.length co19)) (fun _ hk => hk.2) (.slice Ao20 t539.length co20)))))))) (Kd.R_lt (lt_ ((m1_ (m1_ (Kd.R_far (p := ⟨gb543, 3, none⟩) (Kd.R_far (p := ⟨gb543, 2, none⟩) (Kd.R_far (p := ⟨gb543, 1, none⟩) (Kd.R_far (p := ⟨gb543, 0, none⟩) (Kd.R_far (p := ⟨gb542, 3, none⟩) (Kd.R_far (p := ⟨gb542, 2, none⟩) (Kd.R_far (p := ⟨gb542, 1, none⟩) (Kd.R_far (p := ⟨gb542, 0, none⟩) (Kd.R_types (Kd.R_types HO538.out BK542.out (by decide)) BK543.out (by decide)) (fun _ hk => hk.1.2) (.int .i64 t522)) (fun _ hk => hk.1.2) (.slice Ao14 t523.length co14)) (fun _ hk => hk.1.2) (.slice Ao15 t526.length co15)) (fun _ hk => hk.1.2) (.slice Ao16 t529.length co16)) (fun _ hk => hk.2) (.int .i64 t532)) (fun _ hk => hk.2) (.slice Ao18 t533.length co18)) (fun _ hk => hk.2) (.slice Ao19 t536.length co19)) (fun _ hk => hk.2) (.slice Ao20 t539.length co20)))))))) (Kd.R_lt (lt_ ((m1_ (m1_ (Kd.R_far (p := ⟨gb543, 3, none⟩) (Kd.R_far (p := ⟨gb543, 2, none⟩) (Kd.R_far (p := ⟨gb543, 1, none⟩) (Kd.R_far (p := ⟨gb543, 0, none⟩) (Kd.R_far (p := ⟨gb542, 3, none⟩) (Kd.R_far (p := ⟨gb542, 2, none⟩) (Kd.R_far (p := ⟨gb542, 1, none⟩) (Kd.R_far (p := ⟨gb542, 0, none⟩) (Kd.R_types (Kd.R_types HO541.out BK542.out (by decide)) BK543.out (by decide)) (fun _ hk => hk.1.2) (.int .i64 t522)) (fun _ hk => hk.1.2) (.slice Ao14 t523.length co14)) (fun _ hk => hk.1.2) (.slice Ao15 t526.length co15)) (fun _ hk => hk.1.2) (.slice Ao16 t529.length co16)) (fun _ hk => hk.2) (.int .i64 t532)) (fun _ hk => hk.2) (.slice Ao18 t533.length co18)) (fun _ hk => hk.2) (.slice Ao19 t536.length co19)) (fun _ hk => hk.2) (.slice Ao20 t539.length co20)))))))) (below_size (lw_ HB))); replace HO525 := am_ (m1_ (td_ (td_ (td_ (Kd.R_old (lt_ ((m1_ (m1_ (Kd.R_far (p := ⟨gb543, 3, none⟩) (Kd.R_far (p := ⟨gb543, 2, none⟩) (Kd.R_far (p := ⟨gb543, 1, none⟩) (Kd.R_far (p := ⟨gb543, 0, none⟩) (Kd.R_far (p := ⟨gb542, 3, none⟩) (Kd.R_far (p := ⟨gb542, 2, none⟩) (Kd.R_far (p := ⟨gb542, 1, none⟩) (Kd.R_far (p := ⟨gb542, 0, none⟩) (Kd.R_types (Kd.R_types HO525.out BK542.out (by decide)) BK543.out (by decide)) (fun _ hk => hk.1.2) (.int .i64 t522)) (fun _ hk => hk.1.2) (.slice Ao14 t523.length co14)) (fun _ hk => hk.1.2) (.slice Ao15 t526.length co15)) (fun _ hk => hk.1.2) (.slice Ao16 t529.length co16)) (fun _ hk => hk.2) (.int .i64 t532)) (fun _ hk => hk.2) (.slice Ao18 t533.length co18)) (fun _ hk => hk.2) (.slice Ao19 t536.length co19)) (fun _ hk => hk.2) (.slice Ao20 t539.length co20)))))) hb) ho0) ho1) ho2)); replace HO528 := am_ (m1_ (td_ (td_ (td_ (Kd.R_old (lt_ ((m1_ (m1_ (Kd.R_far (p := ⟨gb543, 3, none⟩) (Kd.R_far (p := ⟨gb543, 2, none⟩) (Kd.R_far (p := ⟨gb543, 1, none⟩) (Kd.R_far (p := ⟨gb543, 0, none⟩) (Kd.R_far (p := ⟨gb542, 3, none⟩) (Kd.R_far (p := ⟨gb542, 2, none⟩) (Kd.R_far (p := ⟨gb542, 1, none⟩) (Kd.R_far (p := ⟨gb542, 0, none⟩) (Kd.R_types (Kd.R_types HO528.out BK542.out (by decide)) BK543.out (by decide)) (fun _ hk => hk.1.2) (.int .i64 t522)) (fun _ hk => hk.1.2) (.slice Ao14 t523.length co14)) (fun _ hk => hk.1.2) (.slice Ao15 t526.length co15)) (fun _ hk => hk.1.2) (.slice Ao16 t529.length co16)) (fun _ hk => hk.2) (.int .i64 t532)) (fun _ hk => hk.2) (.slice Ao18 t533.length co18)) (fun _ hk => hk.2) (.slice Ao19 t536.length co19)) (fun _ hk => hk.2) (.slice Ao20 t539.length co20)))))) hb) ho0) ho1) ho2)); replace HO531 := am_ (m1_ (td_ (td_ (td_ (Kd.R_old (lt_ ((m1_ (m1_ (Kd.R_far (p := ⟨gb543, 3, none⟩) (Kd.R_far (p := ⟨gb543, 2, none⟩) (Kd.R_far (p := ⟨gb543, 1, none⟩) (Kd.R_far (p := ⟨gb543, 0, none⟩) (Kd.R_far (p := ⟨gb542, 3, none⟩) (Kd.R_far (p := ⟨gb542, 2, none⟩) (Kd.R_far (p := ⟨gb542, 1, none⟩) (Kd.R_far (p := ⟨gb542, 0, none⟩) (Kd.R_types (Kd.R_types HO531.out BK542.out (by decide)) BK543.out (by decide)) (fun _ hk => hk.1.2) (.int .i64 t522)) (fun _ hk => hk.1.2) (.slice Ao14 t523.length co14)) (fun _ hk => hk.1.2) (.slice Ao15 t526.length co15)) (fun _ hk => hk.1.2) (.slice Ao16 t529.length co16)) (fun _ hk => hk.2) (.int .i64 t532)) (fun _ hk => hk.2) (.slice Ao18 t533.length co18)) (fun _ hk => hk.2) (.slice Ao19 t536.length co19)) (fun _ hk => hk.2) (.slice Ao20 t539.length co20)))))) hb) ho0) ho1) ho2)); replace HO535 := am_ (m1_ (td_ (td_ (td_ (Kd.R_old (lt_ ((m1_ (m1_ (Kd.R_far (p := ⟨gb543, 3, none⟩) (Kd.R_far (p := ⟨gb543, 2, none⟩) (Kd.R_far (p := ⟨gb543, 1, none⟩) (Kd.R_far (p := ⟨gb543, 0, none⟩) (Kd.R_far (p := ⟨gb542, 3, none⟩) (Kd.R_far (p := ⟨gb542, 2, none⟩) (Kd.R_far (p := ⟨gb542, 1, none⟩) (Kd.R_far (p := ⟨gb542, 0, none⟩) (Kd.R_types (Kd.R_types HO535.out BK542.out (by decide)) BK543.out (by decide)) (fun _ hk => hk.1.2) (.int .i64 t522)) (fun _ hk => hk.1.2) (.slice Ao14 t523.length co14)) (fun _ hk => hk.1.2) (.slice Ao15 t526.length co15)) (fun _ hk => hk.1.2) (.slice Ao16 t529.length co16)) (fun _ hk => hk.2) (.int .i64 t532)) (fun _ hk => hk.2) (.slice Ao18 t533.length co18)) (fun _ hk => hk.2) (.slice Ao19 t536.length co19)) (fun _ hk => hk.2) (.slice Ao20 t539.length co20)))))) hb) ho0) ho1) ho2)); replace HO538 := am_ (m1_ (td_ (td_ (td_ (Kd.R_old (lt_ ((m1_ (m1_ (Kd.R_far (p := ⟨gb543, 3, none⟩) (Kd.R_far (p := ⟨gb543, 2, none⟩) (Kd.R_far (p := ⟨gb543, 1, none⟩) (Kd.R_far (p := ⟨gb543, 0, none⟩) (Kd.R_far (p := ⟨gb542, 3, none⟩) (Kd.R_far (p := ⟨gb542, 2, none⟩) (Kd.R_far (p := ⟨gb542, 1, none⟩) (Kd.R_far (p := ⟨gb542, 0, none⟩) (Kd.R_types (Kd.R_types HO538.out BK542.out (by decide)) BK543.out (by decide)) (fun _ hk => hk.1.2) (.int .i64 t522)) (fun _ hk => hk.1.2) (.slice Ao14 t523.length co14)) (fun _ hk => hk.1.2) (.slice Ao15 t526.length co15)) (fun _ hk => hk.1.2) (.slice Ao16 t529.length co16)) (fun _ hk => hk.2) (.int .i64 t532)) (fun _ hk => hk.2) (.slice Ao18 t533.length co18)) (fun _ hk => hk.2) (.slice Ao19 t536.length co19)) (fun _ hk => hk.2) (.slice Ao20 t539.length co20)))))) hb) ho0) ho1) ho2)); replace HO541 := am_ (m1_ (td_ (td_ (td_ (Kd.R_old (lt_ ((m1_ (m1_ (Kd.R_far (p := ⟨gb543, 3, none⟩) (Kd.R_far (p := ⟨gb543, 2, none⟩) (Kd.R_far (p := ⟨gb543, 1, none⟩) (Kd.R_far (p := ⟨gb543, 0, none⟩) (Kd.R_far (p := ⟨gb542, 3, none⟩) (Kd.R_far (p := ⟨gb542, 2, none⟩) (Kd.R_far (p := ⟨gb542, 1, none⟩) (Kd.R_far (p := ⟨gb542, 0, none⟩) (Kd.R_types (Kd.R_types HO541.out BK542.out (by decide)) BK543.out (by decide)) (fun _ hk => hk.1.2) (.int .i64 t522)) (fun _ hk => hk.1.2) (.slice Ao14 t523.length co14)) (fun _ hk => hk.1.2) (.slice Ao15 t526.length co15)) (fun _ hk => hk.1.2) (.slice Ao16 t529.length co16)) (fun _ hk => hk.2) (.int .i64 t532)) (fun _ hk => hk.2) (.slice Ao18 t533.length co18)) (fun _ hk => hk.2) (.slice Ao19 t536.length co19)) (fun _ hk => hk.2) (.slice Ao20 t539.length co20)))))) hb) ho0) ho1) ho2)); replace BK542 := am_ (blk_below (g := gb542) (o := .cells #[.int .i64 t522, .slice Ao14 t523.length co14, .slice Ao15 t526.length co15, .slice Ao16 t529.length co16] 48 (0, 0)) (lq_ BK542) hb); replace BK543 := am_ (blk_below (g := gb543) (o := .cells #[.int .i64 t532, .slice Ao18 t533.length co18, .slice Ao19 t536.length co19, .slice Ao20 t539.length co20] 48 (0, 0)) (lq_ BK543) hb); replace HB := am_ (below_step (lw_ HB) hb); (try clear hb); (try clear hb2); (try clear hk); (try clear hi); (try clear ho0); (try clear ho1); (try clear ho2)) | ((with_reducible refine gate_dst (N := 7) rfl ?_); refine bev_ 7 #[.int .i64 0, .slice none 0 0, .slice none 0 0, .slice none 0 0] 48 rfl rfl ?_; intro gb555 hg w22 hbox hb; have BK555 := am_ (hbox); have GW555 := am_ ((by rw [hg]; exact (below_size (lw_ HB)) : w.heap.size ≤ gb555)); have GE555 := am_ ((by rw [hg]; exact (below_size (lw_ HB)) : w.heap.size ≤ gb555)); have NB542_555 := am_ ((by rw [hg]; exact Nat.ne_of_lt (blk_lt (g := gb542) (lb_ BK542)) : gb542 ≠ gb555)); have NB555_542 := am_ ((by rw [hg]; exact Nat.ne_of_gt (blk_lt (g := gb542) (lb_ BK542)) : gb555 ≠ gb542)); have NB543_555 := am_ ((by rw [hg]; exact Nat.ne_of_lt (blk_lt (g := gb543) (lb_ BK543)) : gb543 ≠ gb555)); have NB555_543 := am_ ((by rw [hg]; exact Nat.ne_of_gt (blk_lt (g := gb543) (lb_ BK543)) : gb555 ≠ gb543)); replace HO525 := am_ (Kd.R_below (lf_ HO525) hb); replace HO528 := am_ (Kd.R_below (lf_ HO528) hb); replace HO531 := am_ (Kd.R_below (lf_ HO531) hb); replace HO535 := am_ (Kd.R_below (lf_ HO535) hb); replace HO538 := am_ (Kd.R_below (lf_ HO538) hb); replace HO541 := am_ (Kd.R_below (lf_ HO541) hb); replace HO547 := am_ (Kd.R_below (lf_ HO547) hb); replace HO550 := am_ (Kd.R_below (lf_ HO550) hb); replace HO553 := am_ (Kd.R_below (lf_ HO553) hb); replace BK542 := am_ (blk_below (g := gb542) (lb_ BK542) hb); replace BK543 := am_ (blk_below (g := gb543) (lb_ BK543) hb); replace HB := am_ (below_step (lw_ HB) hb); clear hb hbox hg; have hnb23 := NB555_542.out; have hnc23 := NB542_555.out; have hnb24 := NB555_543.out; have hnc24 := NB543_555.out; obtain ⟨hcz25_0, hcz25_1, hcz25_2, hcz25_3, hfz25_0, hfz25_1, hfz25_2, hfz25_3⟩ := bx4_ BK555.out; obtain ⟨Ao26, co26, eo26⟩ := Kd.R_slice HO547.out; subst eo26; obtain ⟨Ao27, co27, eo27⟩ := Kd.R_slice HO550.out; subst eo27; obtain ⟨Ao28, co28, eo28⟩ := Kd.R_slice HO553.out; subst eo28; obtain ⟨hcz29_0, hcz29_1, hcz29_2, hcz29_3, hfz29_0, hfz29_1, hfz29_2, hfz29_3⟩ := bx4_ BK542.out; obtain ⟨hcz30_0, hcz30_1, hcz30_2, hcz30_3, hfz30_0, hfz30_1, hfz30_2, hfz30_3⟩ := bx4_ BK543.out) | ((with_reducible refine gate_callee (f := 35) rfl ?_); refine goesL_ (some 35) rfl rfl Try.func35 (by kernel_rfl) rfl #[.agg #[.int .i64 t522, .slice Ao14 t523.length co14, .slice Ao15 t526.length co15, .slice Ao16 t529.length co16], .agg #[.int .i64 t532, .slice Ao18 t533.length co18, .slice Ao19 t536.length co19, .slice Ao20 t539.length co20]] rfl lm_ ?_; (with_reducible refine (spec_JoinRanked.calls k t522 _ _ t523 _ _ t526 _ _ t529 t532 _ _ t533 _ _ t536 _ _ t539 t556 t557 t560 t563 t566 _ ?side1 ?side2 ?side3 ?side4 ?side5 ?side6 ?side7 ?side8 ?side9 ?side10 ?side11 ?side12 A7.out).mono ?_); (case side1 => refine (Kd.R_reads' (e := 3) (base := w.heap.size) (ok := fun k_ => ((((ns_ k_ Ao15 t526 co15 ∧ (ns_ k_ Ao16 t529 co16 ∧ (ns_ k_ Ao18 t533 co18 ∧ (ns_ k_ Ao19 t536 co19 ∧ ns_ k_ Ao20 t539 co20)))) ∧ ns_ k_ Ao26 t545 co26) ∧ ns_ k_ Ao27 t548 co27) ∧ ns_ k_ Ao28 t551 co28)) (n := t523.length) (c := co14) ?_).2.2; exact (lt_ ((m1_ (fr4_ HO525.out BK555.out (.int .i64 t544) (.slice Ao26 t545.length co26) (.slice Ao27 t548.length co27) (.slice Ao28 t551.length co28)))))); (case side2 => exact (Kd.R_reads' HO525.out).2.1); (case side3 => refine (Kd.R_reads' (e := 3) (base := w.heap.size) (ok := fun k_ => ((((ns_ k_ Ao14 t523 co14 ∧ (ns_ k_ Ao16 t529 co16 ∧ (ns_ k_ Ao18 t533 co18 ∧ (ns_ k_ Ao19 t536 co19 ∧ ns_ k_ Ao20 t539 co20)))) ∧ ns_ k_ Ao26 t545 co26) ∧ ns_ k_ Ao27 t548 co27) ∧ ns_ k_ Ao28 t551 co28)) (n := t526.length) (c := co15) ?_).2.2; exact (lt_ ((m1_ (fr4_ HO528.out BK555.out (.int .i64 t544) (.slice Ao26 t545.length co26) (.slice Ao27 t548.length co27) (.slice Ao28 t551.length co28)))))); (case side4 => exact (Kd.R_reads' HO528.out).2.1); (case side5 => refine (Kd.R_reads' (e := 3) (base := w.heap.size) (ok := fun k_ => ((((ns_ k_ Ao14 t523 co14 ∧ (ns_ k_ Ao15 t526 co15 ∧ (ns_ k_ Ao18 t533 co18 ∧ (ns_ k_ Ao19 t536 co19 ∧ ns_ k_ Ao20 t539 co20)))) ∧ ns_ k_ Ao26 t545 co26) ∧ ns_ k_ Ao27 t548 co27) ∧ ns_ k_ Ao28 t551 co28)) (n := t529.length) (c := co16) ?_).2.2; exact (lt_ ((m1_ (fr4_ HO531.out BK555.out (.int .i64 t544) (.slice Ao26 t545.length co26) (.slice Ao27 t548.length co27) (.slice Ao28 t551.length co28)))))); (case side6 => exact (Kd.R_reads' HO531.out).2.1); (case side7 => refine (Kd.R_reads' (e := 3) (base := w.heap.size) (ok := fun k_ => ((((ns_ k_ Ao14 t523 co14 ∧ (ns_ k_ Ao15 t526 co15 ∧ (ns_ k_ Ao16 t529 co16 ∧ (ns_ k_ Ao19 t536 co19 ∧ ns_ k_ Ao20 t539 co20)))) ∧ ns_ k_ Ao26 t545 co26) ∧ ns_ k_ Ao27 t548 co27) ∧ ns_ k_ Ao28 t551 co28)) (n := t533.length) (c := co18) ?_).2.2; exact (lt_ ((m1_ (fr4_ HO535.out BK555.out (.int .i64 t544) (.slice Ao26 t545.length co26) (.slice Ao27 t548.length co27) (.slice Ao28 t551.length co28)))))); (case side8 => exact (Kd.R_reads' HO535.out).2.1); (case side9 => refine (Kd.R_reads' (e := 3) (base := w.heap.size) (ok := fun k_ => ((((ns_ k_ Ao14 t523 co14 ∧ (ns_ k_ Ao15 t526 co15 ∧ (ns_ k_ Ao16 t529 co16 ∧ (ns_ k_ Ao18 t533 co18 ∧ ns_ k_ Ao20 t539 co20)))) ∧ ns_ k_ Ao26 t545 co26) ∧ ns_ k_ Ao27 t548 co27) ∧ ns_ k_ Ao28 t551 co28)) (n := t536.length) (c := co19) ?_).2.2; exact (lt_ ((m1_ (fr4_ HO538.out BK555.out (.int .i64 t544) (.slice Ao26 t545.length co26) (.slice Ao27 t548.length co27) (.slice Ao28 t551.length co28)))))); (case side10 => exact (Kd.R_reads' HO538.out).2.1); (case side11 => refine (Kd.R_reads' (e := 3) (base := w.heap.size) (ok := fun k_ => ((((ns_ k_ Ao14 t523 co14 ∧ (ns_ k_ Ao15 t526 co15 ∧ (ns_ k_ Ao16 t529 co16 ∧ (ns_ k_ Ao18 t533 co18 ∧ ns_ k_ Ao19 t536 co19)))) ∧ ns_ k_ Ao26 t545 co26) ∧ ns_ k_ Ao27 t548 co27) ∧ ns_ k_ Ao28 t551 co28)) (n := t539.length) (c := co20) ?_).2.2; exact (lt_ ((m1_ (fr4_ HO541.out BK555.out (.int .i64 t544) (.slice Ao26 t545.length co26) (.slice Ao27 t548.length co27) (.slice Ao28 t551.length co28)))))); (case side12 => exact (Kd.R_reads' HO541.out).2.1); rintro e w31 ⟨v558, v561, v564, rfl, ho0, ho1, ho2, hb⟩; refine ⟨_, rfl, ?_⟩; have HO559 := am_ (Kd.R_lower (Kd.R_new' (Kd.R_new' (Kd.R_new' (Kd.R_new' (Kd.R_new' (Kd.R_new' (Kd.R_new' (Kd.R_new' (Kd.R_new' ho0 (Kd.R_lt (lt_ ((m1_ (fr4_ HO525.out BK555.out (.int .i64 t544) (.slice Ao26 t545.length co26) (.slice Ao27 t548.length co27) (.slice Ao28 t551.length co28))))))) (Kd.R_lt (lt_ ((m1_ (fr4_ HO528.out BK555.out (.int .i64 t544) (.slice Ao26 t545.length co26) (.slice Ao27 t548.length co27) (.slice Ao28 t551.length co28))))))) (Kd.R_lt (lt_ ((m1_ (fr4_ HO531.out BK555.out (.int .i64 t544) (.slice Ao26 t545.length co26) (.slice Ao27 t548.length co27) (.slice Ao28 t551.length co28))))))) (Kd.R_lt (lt_ ((m1_ (fr4_ HO535.out BK555.out (.int .i64 t544) (.slice Ao26 t545.length co26) (.slice Ao27 t548.length co27) (.slice Ao28 t551.length co28))))))) (Kd.R_lt (lt_ ((m1_ (fr4_ HO538.out BK555.out (.int .i64 t544) (.slice Ao26 t545.length co26) (.slice Ao27 t548.length co27) (.slice Ao28 t551.length co28))))))) (Kd.R_lt (lt_ ((m1_ (fr4_ HO541.out BK555.out (.int .i64 t544) (.slice Ao26 t545.length co26) (.slice Ao27 t548.length co27) (.slice Ao28 t551.length co28))))))) (Kd.R_lt (lt_ ((m1_ (fr4_ HO547.out BK555.out (.int .i64 t544) (.slice Ao26 t545.length co26) (.slice Ao27 t548.length co27) (.slice Ao28 t551.length co28))))))) (Kd.R_lt (lt_ ((m1_ (fr4_ HO550.out BK555.out (.int .i64 t544) (.slice Ao26 t545.length co26) (.slice Ao27 t548.length co27) (.slice Ao28 t551.length co28))))))) (Kd.R_lt (lt_ ((m1_ (fr4_ HO553.out BK555.out (.int .i64 t544) (.slice Ao26 t545.length co26) (.slice Ao27 t548.length co27) (.slice Ao28 t551.length co28))))))) (below_size (lw_ HB))); have HO562 := am_ (Kd.R_lower (Kd.R_new' (Kd.R_new' (Kd.R_new' (Kd.R_new' (Kd.R_new' (Kd.R_new' (Kd.R_new' (Kd.R_new' (Kd.R_new' ho1 (Kd.R_lt (lt_ ((m1_ (fr4_ HO525.out BK555.out (.int .i64 t544) (.slice Ao26 t545.length co26) (.slice Ao27 t548.length co27) (.slice Ao28 t551.length co28))))))) (Kd.R_lt (lt_ ((m1_ (fr4_ HO528.out BK555.out (.int .i64 t544) (.slice Ao26 t545.length co26) (.slice Ao27 t548.length co27) (.slice Ao28 t551.length co28))))))) (Kd.R_lt (lt_ ((m1_ (fr4_ HO531.out BK555.out (.int .i64 t544) (.slice Ao26 t545.length co26) (.slice Ao27 t548.length co27) (.slice Ao28 t551.length co28))))))) (Kd.R_lt (lt_ ((m1_ (fr4_ HO535.out BK555.out (.int .i64 t544) (.slice Ao26 t545.length co26) (.slice Ao27 t548.length co27) (.slice Ao28 t551.length co28))))))) (Kd.R_lt (lt_ ((m1_ (fr4_ HO538.out BK555.out (.int .i64 t544) (.slice Ao26 t545.length co26) (.slice Ao27 t548.length co27) (.slice Ao28 t551.length co28))))))) (Kd.R_lt (lt_ ((m1_ (fr4_ HO541.out BK555.out (.int .i64 t544) (.slice Ao26 t545.length co26) (.slice Ao27 t548.length co27) (.slice Ao28 t551.length co28))))))) (Kd.R_lt (lt_ ((m1_ (fr4_ HO547.out BK555.out (.int .i64 t544) (.slice Ao26 t545.length co26) (.slice Ao27 t548.length co27) (.slice Ao28 t551.length co28))))))) (Kd.R_lt (lt_ ((m1_ (fr4_ HO550.out BK555.out (.int .i64 t544) (.slice Ao26 t545.length co26) (.slice Ao27 t548.length co27) (.slice Ao28 t551.length co28))))))) (Kd.R_lt (lt_ ((m1_ (fr4_ HO553.out BK555.out (.int .i64 t544) (.slice Ao26 t545.length co26) (.slice Ao27 t548.length co27) (.slice Ao28 t551.length co28))))))) (below_size (lw_ HB))); have HO565 := am_ (Kd.R_lower (Kd.R_new' (Kd.R_new' (Kd.R_new' (Kd.R_new' (Kd.R_new' (Kd.R_new' (Kd.R_new' (Kd.R_new' (Kd.R_new' ho2 (Kd.R_lt (lt_ ((m1_ (fr4_ HO525.out BK555.out (.int .i64 t544) (.slice Ao26 t545.length co26) (.slice Ao27 t548.length co27) (.slice Ao28 t551.length co28))))))) (Kd.R_lt (lt_ ((m1_ (fr4_ HO528.out BK555.out (.int .i64 t544) (.slice Ao26 t545.length co26) (.slice Ao27 t548.length co27) (.slice Ao28 t551.length co28))))))) (Kd.R_lt (lt_ ((m1_ (fr4_ HO531.out BK555.out (.int .i64 t544) (.slice Ao26 t545.length co26) (.slice Ao27 t548.length co27) (.slice Ao28 t551.length co28))))))) (Kd.R_lt (lt_ ((m1_ (fr4_ HO535.out BK555.out (.int .i64 t544) (.slice Ao26 t545.length co26) (.slice Ao27 t548.length co27) (.slice Ao28 t551.length co28))))))) (Kd.R_lt (lt_ ((m1_ (fr4_ HO538.out BK555.out (.int .i64 t544) (.slice Ao26 t545.length co26) (.slice Ao27 t548.length co27) (.slice Ao28 t551.length co28))))))) (Kd.R_lt (lt_ ((m1_ (fr4_ HO541.out BK555.out (.int .i64 t544) (.slice Ao26 t545.length co26) (.slice Ao27 t548.length co27) (.slice Ao28 t551.length co28))))))) (Kd.R_lt (lt_ ((m1_ (fr4_ HO547.out BK555.out (.int .i64 t544) (.slice Ao26 t545.length co26) (.slice Ao27 t548.length co27) (.slice Ao28 t551.length co28))))))) (Kd.R_lt (lt_ ((m1_ (fr4_ HO550.out BK555.out (.int .i64 t544) (.slice Ao26 t545.length co26) (.slice Ao27 t548.length co27) (.slice Ao28 t551.length co28))))))) (Kd.R_lt (lt_ ((m1_ (fr4_ HO553.out BK555.out (.int .i64 t544) (.slice Ao26 t545.length co26) (.slice Ao27 t548.length co27) (.slice Ao28 t551.length co28))))))) (below_size (lw_ HB))); replace HO525 := am_ (m1_ (td_ (td_ (td_ (Kd.R_old (lt_ ((m1_ (fr4_ HO525.out BK555.out (.int .i64 t544) (.slice Ao26 t545.length co26) (.slice Ao27 t548.length co27) (.slice Ao28 t551.length co28))))) hb) ho0) ho1) ho2)); replace HO528 := am_ (m1_ (td_ (td_ (td_ (Kd.R_old (lt_ ((m1_ (fr4_ HO528.out BK555.out (.int .i64 t544) (.slice Ao26 t545.length co26) (.slice Ao27 t548.length co27) (.slice Ao28 t551.length co28))))) hb) ho0) ho1) ho2)); replace HO531 := am_ (m1_ (td_ (td_ (td_ (Kd.R_old (lt_ ((m1_ (fr4_ HO531.out BK555.out (.int .i64 t544) (.slice Ao26 t545.length co26) (.slice Ao27 t548.length co27) (.slice Ao28 t551.length co28))))) hb) ho0) ho1) ho2)); replace HO535 := am_ (m1_ (td_ (td_ (td_ (Kd.R_old (lt_ ((m1_ (fr4_ HO535.out BK555.out (.int .i64 t544) (.slice Ao26 t545.length co26) (.slice Ao27 t548.length co27) (.slice Ao28 t551.length co28))))) hb) ho0) ho1) ho2)); replace HO538 := am_ (m1_ (td_ (td_ (td_ (Kd.R_old (lt_ ((m1_ (fr4_ HO538.out BK555.out (.int .i64 t544) (.slice Ao26 t545.length co26) (.slice Ao27 t548.length co27) (.slice Ao28 t551.length co28))))) hb) ho0) ho1) ho2)); replace HO541 := am_ (m1_ (td_ (td_ (td_ (Kd.R_old (lt_ ((m1_ (fr4_ HO541.out BK555.out (.int .i64 t544) (.slice Ao26 t545.length co26) (.slice Ao27 t548.length co27) (.slice Ao28 t551.length co28))))) hb) ho0) ho1) ho2)); replace HO547 := am_ (m1_ (td_ (td_ (td_ (Kd.R_old (lt_ ((m1_ (fr4_ HO547.out BK555.out (.int .i64 t544) (.slice Ao26 t545.length co26) (.slice Ao27 t548.length co27) (.slice Ao28 t551.length co28))))) hb) ho0) ho1) ho2)); replace HO550 := am_ (m1_ (td_ (td_ (td_ (Kd.R_old (lt_ ((m1_ (fr4_ HO550.out BK555.out (.int .i64 t544) (.slice Ao26 t545.length co26) (.slice Ao27 t548.length co27) (.slice Ao28 t551.length co28))))) hb) ho0) ho1) ho2)); replace HO553 := am_ (m1_ (td_ (td_ (td_ (Kd.R_old (lt_ ((m1_ (fr4_ HO553.out BK555.out (.int .i64 t544) (.slice Ao26 t545.length co26) (.slice Ao27 t548.length co27) (.slice Ao28 t551.length co28))))) hb) ho0) ho1) ho2)); replace BK542 := am_ (blk_below (g := gb542) (lg_ BK542) hb); replace BK543 := am_ (blk_below (g := gb543) (lg_ BK543) hb); replace BK555 := am_ (blk_below (g := gb555) (o := .cells #[.int .i64 t544, .slice Ao26 t545.length co26, .slice Ao27 t548.length co27, .slice Ao28 t551.length co28] 48 (0, 0)) (lq_ BK555) hb); replace HB := am_ (below_step (lw_ HB) hb); (try clear hb); (try clear hb2); (try clear hk); (try clear hi); (try clear ho0); (try clear ho1); (try clear ho2)) | ((with_reducible refine gate_dst (N := 9) rfl ?_); refine bev_ 9 #[.int .i64 0, .slice none 0 0, .slice none 0 0, .slice none 0 0] 48 rfl rfl ?_; intro gb567 hg w32 hbox hb; have BK567 := am_ (hbox); have GW567 := am_ ((by rw [hg]; exact (below_size (lw_ HB)) : w.heap.size ≤ gb567)); have GE567 := am_ ((by rw [hg]; exact (below_size (lw_ HB)) : w.heap.size ≤ gb567)); have NB542_567 := am_ ((by rw [hg]; exact Nat.ne_of_lt (blk_lt (g := gb542) (lb_ BK542)) : gb542 ≠ gb567)); have NB567_542 := am_ ((by rw [hg]; exact Nat.ne_of_gt (blk_lt (g := gb542) (lb_ BK542)) : gb567 ≠ gb542)); have NB543_567 := am_ ((by rw [hg]; exact Nat.ne_of_lt (blk_lt (g := gb543) (lb_ BK543)) : gb543 ≠ gb567)); have NB567_543 := am_ ((by rw [hg]; exact Nat.ne_of_gt (blk_lt (g := gb543) (lb_ BK543)) : gb567 ≠ gb543)); have NB555_567 := am_ ((by rw [hg]; exact Nat.ne_of_lt (blk_lt (g := gb555) (lb_ BK555)) : gb555 ≠ gb567)); have NB567_555 := am_ ((by rw [hg]; exact Nat.ne_of_gt (blk_lt (g := gb555) (lb_ BK555)) : gb567 ≠ gb555)); replace HO525 := am_ (Kd.R_below (lf_ HO525) hb); replace HO528 := am_ (Kd.R_below (lf_ HO528) hb); replace HO531 := am_ (Kd.R_below (lf_ HO531) hb); replace HO535 := am_ (Kd.R_below (lf_ HO535) hb); replace HO538 := am_ (Kd.R_below (lf_ HO538) hb); replace HO541 := am_ (Kd.R_below (lf_ HO541) hb); replace HO547 := am_ (Kd.R_below (lf_ HO547) hb); replace HO550 := am_ (Kd.R_below (lf_ HO550) hb); replace HO553 := am_ (Kd.R_below (lf_ HO553) hb); replace HO559 := am_ (Kd.R_below (lf_ HO559) hb); replace HO562 := am_ (Kd.R_below (lf_ HO562) hb); replace HO565 := am_ (Kd.R_below (lf_ HO565) hb); replace BK542 := am_ (blk_below (g := gb542) (lb_ BK542) hb); replace BK543 := am_ (blk_below (g := gb543) (lb_ BK543) hb); replace BK555 := am_ (blk_below (g := gb555) (lb_ BK555) hb); replace HB := am_ (below_step (lw_ HB) hb); clear hb hbox hg; have hnb33 := NB567_542.out; have hnc33 := NB542_567.out; have hnb34 := NB567_543.out; have hnc34 := NB543_567.out; have hnb35 := NB567_555.out; have hnc35 := NB555_567.out; obtain ⟨hcz36_0, hcz36_1, hcz36_2, hcz36_3, hfz36_0, hfz36_1, hfz36_2, hfz36_3⟩ := bx4_ BK567.out; obtain ⟨Ao37, co37, eo37⟩ := Kd.R_slice HO559.out; subst eo37; obtain ⟨Ao38, co38, eo38⟩ := Kd.R_slice HO562.out; subst eo38; obtain ⟨Ao39, co39, eo39⟩ := Kd.R_slice HO565.out; subst eo39))
  (try simp only [Act.put, List.setIfInBounds_toArray, List.set_cons_zero, List.set_cons_succ])
  go_cut [46] (fun v46 wc => ∃ (kq : Nat) (x46_7 : Bool), v46 = .bool x46_7 ∧ Aside0 (laws_FnRanksJoin.j0 kq t566 x46_7 t522 t523 t526 t529 t532 t533 t536 t539 t544 t545 t548 t551 = some r) ∧ Aside0 (kq ≤ k) ∧ Aside0 (Kd.R (Kd.int .i64) 3 wc w.heap.size (fun k_ => ns_ k_ Ao15 t526 co15 ∧ ns_ k_ Ao16 t529 co16 ∧ ns_ k_ Ao18 t533 co18 ∧ ns_ k_ Ao19 t536 co19 ∧ ns_ k_ Ao20 t539 co20 ∧ ns_ k_ Ao26 t545 co26 ∧ ns_ k_ Ao27 t548 co27 ∧ ns_ k_ Ao28 t551 co28 ∧ ns_ k_ Ao37 t557 co37 ∧ ns_ k_ Ao38 t560 co38 ∧ ns_ k_ Ao39 t563 co39) (.slice Ao14 t523.length co14) t523) ∧ Aside0 (Kd.R (Kd.int .i64) 3 wc w.heap.size (fun k_ => ns_ k_ Ao14 t523 co14 ∧ ns_ k_ Ao16 t529 co16 ∧ ns_ k_ Ao18 t533 co18 ∧ ns_ k_ Ao19 t536 co19 ∧ ns_ k_ Ao20 t539 co20 ∧ ns_ k_ Ao26 t545 co26 ∧ ns_ k_ Ao27 t548 co27 ∧ ns_ k_ Ao28 t551 co28 ∧ ns_ k_ Ao37 t557 co37 ∧ ns_ k_ Ao38 t560 co38 ∧ ns_ k_ Ao39 t563 co39) (.slice Ao15 t526.length co15) t526) ∧ Aside0 (Kd.R (Kd.int .i64) 3 wc w.heap.size (fun k_ => ns_ k_ Ao14 t523 co14 ∧ ns_ k_ Ao15 t526 co15 ∧ ns_ k_ Ao18 t533 co18 ∧ ns_ k_ Ao19 t536 co19 ∧ ns_ k_ Ao20 t539 co20 ∧ ns_ k_ Ao26 t545 co26 ∧ ns_ k_ Ao27 t548 co27 ∧ ns_ k_ Ao28 t551 co28 ∧ ns_ k_ Ao37 t557 co37 ∧ ns_ k_ Ao38 t560 co38 ∧ ns_ k_ Ao39 t563 co39) (.slice Ao16 t529.length co16) t529) ∧ Aside0 (Kd.R (Kd.int .i64) 3 wc w.heap.size (fun k_ => ns_ k_ Ao14 t523 co14 ∧ ns_ k_ Ao15 t526 co15 ∧ ns_ k_ Ao16 t529 co16 ∧ ns_ k_ Ao19 t536 co19 ∧ ns_ k_ Ao20 t539 co20 ∧ ns_ k_ Ao26 t545 co26 ∧ ns_ k_ Ao27 t548 co27 ∧ ns_ k_ Ao28 t551 co28 ∧ ns_ k_ Ao37 t557 co37 ∧ ns_ k_ Ao38 t560 co38 ∧ ns_ k_ Ao39 t563 co39) (.slice Ao18 t533.length co18) t533) ∧ Aside0 (Kd.R (Kd.int .i64) 3 wc w.heap.size (fun k_ => ns_ k_ Ao14 t523 co14 ∧ ns_ k_ Ao15 t526 co15 ∧ ns_ k_ Ao16 t529 co16 ∧ ns_ k_ Ao18 t533 co18 ∧ ns_ k_ Ao20 t539 co20 ∧ ns_ k_ Ao26 t545 co26 ∧ ns_ k_ Ao27 t548 co27 ∧ ns_ k_ Ao28 t551 co28 ∧ ns_ k_ Ao37 t557 co37 ∧ ns_ k_ Ao38 t560 co38 ∧ ns_ k_ Ao39 t563 co39) (.slice Ao19 t536.length co19) t536) ∧ Aside0 (Kd.R (Kd.int .i64) 3 wc w.heap.size (fun k_ => ns_ k_ Ao14 t523 co14 ∧ ns_ k_ Ao15 t526 co15 ∧ ns_ k_ Ao16 t529 co16 ∧ ns_ k_ Ao18 t533 co18 ∧ ns_ k_ Ao19 t536 co19 ∧ ns_ k_ Ao26 t545 co26 ∧ ns_ k_ Ao27 t548 co27 ∧ ns_ k_ Ao28 t551 co28 ∧ ns_ k_ Ao37 t557 co37 ∧ ns_ k_ Ao38 t560 co38 ∧ ns_ k_ Ao39 t563 co39) (.slice Ao20 t539.length co20) t539) ∧ Aside0 (Kd.R (Kd.int .i64) 3 wc w.heap.size (fun k_ => ns_ k_ Ao14 t523 co14 ∧ ns_ k_ Ao15 t526 co15 ∧ ns_ k_ Ao16 t529 co16 ∧ ns_ k_ Ao18 t533 co18 ∧ ns_ k_ Ao19 t536 co19 ∧ ns_ k_ Ao20 t539 co20 ∧ ns_ k_ Ao27 t548 co27 ∧ ns_ k_ Ao28 t551 co28 ∧ ns_ k_ Ao37 t557 co37 ∧ ns_ k_ Ao38 t560 co38 ∧ ns_ k_ Ao39 t563 co39) (.slice Ao26 t545.length co26) t545) ∧ Aside0 (Kd.R (Kd.int .i64) 3 wc w.heap.size (fun k_ => ns_ k_ Ao14 t523 co14 ∧ ns_ k_ Ao15 t526 co15 ∧ ns_ k_ Ao16 t529 co16 ∧ ns_ k_ Ao18 t533 co18 ∧ ns_ k_ Ao19 t536 co19 ∧ ns_ k_ Ao20 t539 co20 ∧ ns_ k_ Ao26 t545 co26 ∧ ns_ k_ Ao28 t551 co28 ∧ ns_ k_ Ao37 t557 co37 ∧ ns_ k_ Ao38 t560 co38 ∧ ns_ k_ Ao39 t563 co39) (.slice Ao27 t548.length co27) t548) ∧ Aside0 (Kd.R (Kd.int .i64) 3 wc w.heap.size (fun k_ => ns_ k_ Ao14 t523 co14 ∧ ns_ k_ Ao15 t526 co15 ∧ ns_ k_ Ao16 t529 co16 ∧ ns_ k_ Ao18 t533 co18 ∧ ns_ k_ Ao19 t536 co19 ∧ ns_ k_ Ao20 t539 co20 ∧ ns_ k_ Ao26 t545 co26 ∧ ns_ k_ Ao27 t548 co27 ∧ ns_ k_ Ao37 t557 co37 ∧ ns_ k_ Ao38 t560 co38 ∧ ns_ k_ Ao39 t563 co39) (.slice Ao28 t551.length co28) t551) ∧ Aside0 (Kd.R (Kd.int .i64) 3 wc w.heap.size (fun k_ => ns_ k_ Ao14 t523 co14 ∧ ns_ k_ Ao15 t526 co15 ∧ ns_ k_ Ao16 t529 co16 ∧ ns_ k_ Ao18 t533 co18 ∧ ns_ k_ Ao19 t536 co19 ∧ ns_ k_ Ao20 t539 co20 ∧ ns_ k_ Ao26 t545 co26 ∧ ns_ k_ Ao27 t548 co27 ∧ ns_ k_ Ao28 t551 co28 ∧ ns_ k_ Ao38 t560 co38 ∧ ns_ k_ Ao39 t563 co39) (.slice Ao37 t557.length co37) t557) ∧ Aside0 (Kd.R (Kd.int .i64) 3 wc w.heap.size (fun k_ => ns_ k_ Ao14 t523 co14 ∧ ns_ k_ Ao15 t526 co15 ∧ ns_ k_ Ao16 t529 co16 ∧ ns_ k_ Ao18 t533 co18 ∧ ns_ k_ Ao19 t536 co19 ∧ ns_ k_ Ao20 t539 co20 ∧ ns_ k_ Ao26 t545 co26 ∧ ns_ k_ Ao27 t548 co27 ∧ ns_ k_ Ao28 t551 co28 ∧ ns_ k_ Ao37 t557 co37 ∧ ns_ k_ Ao39 t563 co39) (.slice Ao38 t560.length co38) t560) ∧ Aside0 (Kd.R (Kd.int .i64) 3 wc w.heap.size (fun k_ => ns_ k_ Ao14 t523 co14 ∧ ns_ k_ Ao15 t526 co15 ∧ ns_ k_ Ao16 t529 co16 ∧ ns_ k_ Ao18 t533 co18 ∧ ns_ k_ Ao19 t536 co19 ∧ ns_ k_ Ao20 t539 co20 ∧ ns_ k_ Ao26 t545 co26 ∧ ns_ k_ Ao27 t548 co27 ∧ ns_ k_ Ao28 t551 co28 ∧ ns_ k_ Ao37 t557 co37 ∧ ns_ k_ Ao38 t560 co38) (.slice Ao39 t563.length co39) t563) ∧ Aside0 (wc.heap[gb542]? = some (.cells #[.int .i64 t522, (.slice Ao14 t523.length co14), (.slice Ao15 t526.length co15), (.slice Ao16 t529.length co16)] 48 (0, 0))) ∧ Aside0 (wc.heap[gb543]? = some (.cells #[.int .i64 t532, (.slice Ao18 t533.length co18), (.slice Ao19 t536.length co19), (.slice Ao20 t539.length co20)] 48 (0, 0))) ∧ Aside0 (wc.heap[gb555]? = some (.cells #[.int .i64 t544, (.slice Ao26 t545.length co26), (.slice Ao27 t548.length co27), (.slice Ao28 t551.length co28)] 48 (0, 0))) ∧ Aside0 (wc.heap[gb567]? = some (.cells #[.int .i64 t556, (.slice Ao37 t557.length co37), (.slice Ao38 t560.length co38), (.slice Ao39 t563.length co39)] 48 (0, 0))) ∧ Aside0 (Below w.heap.size w wc))
  case first =>
   have H := HC8.out
   clear HC8
   by_cases c40 : (t554 != t566) = true
   ·rw [if_pos c40] at H
    exact absurd H (by simp)
   ·rw [if_neg c40] at H
    have c40b0 : (t554 != t566) = false := by simpa using c40
    (try (have c40b1 : decide (t554 = t566) = true := by simpa using c40))
    (try (have c40b2 : (t554 == t566) = true := by simpa using c40))
    clear c40
    (first | rw [c40b0] | (simp only [i64_w, i32_w]; rw [c40b0]) | skip)
    replace H := Option.bind_eq_some_iff.mp H
    obtain ⟨t568, A410, H⟩ := H
    replace H : (laws_FnRanksJoin.j0 k t566 (!t568) t522 t523 t526 t529 t532 t533 t536 t539 t544 t545 t548 t551) = some r := H
    have A41 := am_ A410
    clear A410
    have H' := am_ H
    clear H
    have hnb42 := NB555_542.out
    have hnc42 := NB542_555.out
    have hnb43 := NB555_543.out
    have hnc43 := NB543_555.out
    have hnb44 := NB555_567.out
    have hnc44 := NB567_555.out
    obtain ⟨hcz45_0, hcz45_1, hcz45_2, hcz45_3, hfz45_0, hfz45_1, hfz45_2, hfz45_3⟩ := bx4_ BK555.out
    have hnb46 := NB567_542.out
    have hnc46 := NB542_567.out
    have hnb47 := NB567_543.out
    have hnc47 := NB543_567.out
    obtain ⟨hcz48_0, hcz48_1, hcz48_2, hcz48_3, hfz48_0, hfz48_1, hfz48_2, hfz48_3⟩ := bx4_ BK567.out
    go_wp2_with (first | (go_at_call 49; (with_reducible refine (laws_pSameRanked.calls k t544 _ _ t545 _ _ t548 _ _ t551 t556 _ _ t557 _ _ t560 _ _ t563 t568 _ ?side1 ?side2 ?side3 ?side4 ?side5 ?side6 ?side7 ?side8 ?side9 ?side10 ?side11 ?side12 A41.out).mono ?_); (case side1 => refine (Kd.R_reads' (e := 3) (base := w.heap.size) (ok := fun k_ => ((((((((((ns_ k_ Ao27 t548 co27 ∧ ns_ k_ Ao28 t551 co28) ∧ ns_ k_ Ao14 t523 co14) ∧ ns_ k_ Ao15 t526 co15) ∧ ns_ k_ Ao16 t529 co16) ∧ ns_ k_ Ao18 t533 co18) ∧ ns_ k_ Ao19 t536 co19) ∧ ns_ k_ Ao20 t539 co20) ∧ ns_ k_ Ao37 t557 co37) ∧ ns_ k_ Ao38 t560 co38) ∧ ns_ k_ Ao39 t563 co39)) (n := t545.length) (c := co26) ?_).2.2; exact (lt_ ((m1_ (fr4_ HO547.out BK567.out (.int .i64 t556) (.slice Ao37 t557.length co37) (.slice Ao38 t560.length co38) (.slice Ao39 t563.length co39)))))); (case side2 => exact (Kd.R_reads' HO547.out).2.1); (case side3 => refine (Kd.R_reads' (e := 3) (base := w.heap.size) (ok := fun k_ => ((((((((((ns_ k_ Ao26 t545 co26 ∧ ns_ k_ Ao28 t551 co28) ∧ ns_ k_ Ao14 t523 co14) ∧ ns_ k_ Ao15 t526 co15) ∧ ns_ k_ Ao16 t529 co16) ∧ ns_ k_ Ao18 t533 co18) ∧ ns_ k_ Ao19 t536 co19) ∧ ns_ k_ Ao20 t539 co20) ∧ ns_ k_ Ao37 t557 co37) ∧ ns_ k_ Ao38 t560 co38) ∧ ns_ k_ Ao39 t563 co39)) (n := t548.length) (c := co27) ?_).2.2; exact (lt_ ((m1_ (fr4_ HO550.out BK567.out (.int .i64 t556) (.slice Ao37 t557.length co37) (.slice Ao38 t560.length co38) (.slice Ao39 t563.length co39)))))); (case side4 => exact (Kd.R_reads' HO550.out).2.1); (case side5 => refine (Kd.R_reads' (e := 3) (base := w.heap.size) (ok := fun k_ => ((((((((((ns_ k_ Ao26 t545 co26 ∧ ns_ k_ Ao27 t548 co27) ∧ ns_ k_ Ao14 t523 co14) ∧ ns_ k_ Ao15 t526 co15) ∧ ns_ k_ Ao16 t529 co16) ∧ ns_ k_ Ao18 t533 co18) ∧ ns_ k_ Ao19 t536 co19) ∧ ns_ k_ Ao20 t539 co20) ∧ ns_ k_ Ao37 t557 co37) ∧ ns_ k_ Ao38 t560 co38) ∧ ns_ k_ Ao39 t563 co39)) (n := t551.length) (c := co28) ?_).2.2; exact (lt_ ((m1_ (fr4_ HO553.out BK567.out (.int .i64 t556) (.slice Ao37 t557.length co37) (.slice Ao38 t560.length co38) (.slice Ao39 t563.length co39)))))); (case side6 => exact (Kd.R_reads' HO553.out).2.1); (case side7 => refine (Kd.R_reads' (e := 3) (base := w.heap.size) (ok := fun k_ => ((((((((((ns_ k_ Ao38 t560 co38 ∧ ns_ k_ Ao39 t563 co39) ∧ ns_ k_ Ao14 t523 co14) ∧ ns_ k_ Ao15 t526 co15) ∧ ns_ k_ Ao16 t529 co16) ∧ ns_ k_ Ao18 t533 co18) ∧ ns_ k_ Ao19 t536 co19) ∧ ns_ k_ Ao20 t539 co20) ∧ ns_ k_ Ao26 t545 co26) ∧ ns_ k_ Ao27 t548 co27) ∧ ns_ k_ Ao28 t551 co28)) (n := t557.length) (c := co37) ?_).2.2; exact (lt_ ((m1_ (fr4_ HO559.out BK567.out (.int .i64 t556) (.slice Ao37 t557.length co37) (.slice Ao38 t560.length co38) (.slice Ao39 t563.length co39)))))); (case side8 => exact (Kd.R_reads' HO559.out).2.1); (case side9 => refine (Kd.R_reads' (e := 3) (base := w.heap.size) (ok := fun k_ => ((((((((((ns_ k_ Ao37 t557 co37 ∧ ns_ k_ Ao39 t563 co39) ∧ ns_ k_ Ao14 t523 co14) ∧ ns_ k_ Ao15 t526 co15) ∧ ns_ k_ Ao16 t529 co16) ∧ ns_ k_ Ao18 t533 co18) ∧ ns_ k_ Ao19 t536 co19) ∧ ns_ k_ Ao20 t539 co20) ∧ ns_ k_ Ao26 t545 co26) ∧ ns_ k_ Ao27 t548 co27) ∧ ns_ k_ Ao28 t551 co28)) (n := t560.length) (c := co38) ?_).2.2; exact (lt_ ((m1_ (fr4_ HO562.out BK567.out (.int .i64 t556) (.slice Ao37 t557.length co37) (.slice Ao38 t560.length co38) (.slice Ao39 t563.length co39)))))); (case side10 => exact (Kd.R_reads' HO562.out).2.1); (case side11 => refine (Kd.R_reads' (e := 3) (base := w.heap.size) (ok := fun k_ => ((((((((((ns_ k_ Ao37 t557 co37 ∧ ns_ k_ Ao38 t560 co38) ∧ ns_ k_ Ao14 t523 co14) ∧ ns_ k_ Ao15 t526 co15) ∧ ns_ k_ Ao16 t529 co16) ∧ ns_ k_ Ao18 t533 co18) ∧ ns_ k_ Ao19 t536 co19) ∧ ns_ k_ Ao20 t539 co20) ∧ ns_ k_ Ao26 t545 co26) ∧ ns_ k_ Ao27 t548 co27) ∧ ns_ k_ Ao28 t551 co28)) (n := t563.length) (c := co39) ?_).2.2; exact (lt_ ((m1_ (fr4_ HO565.out BK567.out (.int .i64 t556) (.slice Ao37 t557.length co37) (.slice Ao38 t560.length co38) (.slice Ao39 t563.length co39)))))); (case side12 => exact (Kd.R_reads' HO565.out).2.1); rintro e w49 ⟨rfl, hb⟩; replace HO525 := am_ (Kd.R_below (lt_ ((m1_ (fr4_ HO525.out BK567.out (.int .i64 t556) (.slice Ao37 t557.length co37) (.slice Ao38 t560.length co38) (.slice Ao39 t563.length co39))))) hb); replace HO528 := am_ (Kd.R_below (lt_ ((m1_ (fr4_ HO528.out BK567.out (.int .i64 t556) (.slice Ao37 t557.length co37) (.slice Ao38 t560.length co38) (.slice Ao39 t563.length co39))))) hb); replace HO531 := am_ (Kd.R_below (lt_ ((m1_ (fr4_ HO531.out BK567.out (.int .i64 t556) (.slice Ao37 t557.length co37) (.slice Ao38 t560.length co38) (.slice Ao39 t563.length co39))))) hb); replace HO535 := am_ (Kd.R_below (lt_ ((m1_ (fr4_ HO535.out BK567.out (.int .i64 t556) (.slice Ao37 t557.length co37) (.slice Ao38 t560.length co38) (.slice Ao39 t563.length co39))))) hb); replace HO538 := am_ (Kd.R_below (lt_ ((m1_ (fr4_ HO538.out BK567.out (.int .i64 t556) (.slice Ao37 t557.length co37) (.slice Ao38 t560.length co38) (.slice Ao39 t563.length co39))))) hb); replace HO541 := am_ (Kd.R_below (lt_ ((m1_ (fr4_ HO541.out BK567.out (.int .i64 t556) (.slice Ao37 t557.length co37) (.slice Ao38 t560.length co38) (.slice Ao39 t563.length co39))))) hb); replace HO547 := am_ (Kd.R_below (lt_ ((m1_ (fr4_ HO547.out BK567.out (.int .i64 t556) (.slice Ao37 t557.length co37) (.slice Ao38 t560.length co38) (.slice Ao39 t563.length co39))))) hb); replace HO550 := am_ (Kd.R_below (lt_ ((m1_ (fr4_ HO550.out BK567.out (.int .i64 t556) (.slice Ao37 t557.length co37) (.slice Ao38 t560.length co38) (.slice Ao39 t563.length co39))))) hb); replace HO553 := am_ (Kd.R_below (lt_ ((m1_ (fr4_ HO553.out BK567.out (.int .i64 t556) (.slice Ao37 t557.length co37) (.slice Ao38 t560.length co38) (.slice Ao39 t563.length co39))))) hb); replace HO559 := am_ (Kd.R_below (lt_ ((m1_ (fr4_ HO559.out BK567.out (.int .i64 t556) (.slice Ao37 t557.length co37) (.slice Ao38 t560.length co38) (.slice Ao39 t563.length co39))))) hb); replace HO562 := am_ (Kd.R_below (lt_ ((m1_ (fr4_ HO562.out BK567.out (.int .i64 t556) (.slice Ao37 t557.length co37) (.slice Ao38 t560.length co38) (.slice Ao39 t563.length co39))))) hb); replace HO565 := am_ (Kd.R_below (lt_ ((m1_ (fr4_ HO565.out BK567.out (.int .i64 t556) (.slice Ao37 t557.length co37) (.slice Ao38 t560.length co38) (.slice Ao39 t563.length co39))))) hb); replace BK542 := am_ (blk_below (g := gb542) (lg_ BK542) hb); replace BK543 := am_ (blk_below (g := gb543) (lg_ BK543) hb); replace BK555 := am_ (blk_below (g := gb555) (lg_ BK555) hb); replace BK567 := am_ (blk_below (g := gb567) (o := .cells #[.int .i64 t556, .slice Ao37 t557.length co37, .slice Ao38 t560.length co38, .slice Ao39 t563.length co39] 48 (0, 0)) (lq_ BK567) hb); replace HB := am_ (below_step (lw_ HB) hb); (try clear hb); (try clear hb2); (try clear hk); (try clear hi)))
    go_meet
    case rel => exact ⟨_, (!t568), sr_, H', ⟨by first | omega | exact Nat.le_refl _⟩, ⟨lo_ HO525⟩, ⟨lo_ HO528⟩, ⟨lo_ HO531⟩, ⟨lo_ HO535⟩, ⟨lo_ HO538⟩, ⟨lo_ HO541⟩, ⟨lo_ HO547⟩, ⟨lo_ HO550⟩, ⟨lo_ HO553⟩, ⟨lo_ HO559⟩, ⟨lo_ HO562⟩, ⟨lo_ HO565⟩, ⟨lb_ BK542⟩, ⟨lb_ BK543⟩, ⟨lb_ BK555⟩, ⟨lb_ BK567⟩, ⟨lw_ HB⟩⟩
  case rest =>
   clear HC8
   try clear c1
   try clear c2
   try clear p2
   try clear c3
   try clear c4
   try clear c5
   try clear c12
   try clear c13
   try clear c23
   try clear c24
   try clear c33
   try clear c34
   try clear c35
   try clear c37
   try clear c40
   try clear c40b0
   try clear c40b1
   try clear c40b2
   try clear c42
   try clear c43
   try clear c44
   try clear c45
   try clear c46
   try clear c47
   try clear hcz13_0
   try clear hcz13_1
   try clear hcz13_2
   try clear hcz13_3
   try clear hcz17_0
   try clear hcz17_1
   try clear hcz17_2
   try clear hcz17_3
   try clear hcz25_0
   try clear hcz25_1
   try clear hcz25_2
   try clear hcz25_3
   try clear hcz29_0
   try clear hcz29_1
   try clear hcz29_2
   try clear hcz29_3
   try clear hcz30_0
   try clear hcz30_1
   try clear hcz30_2
   try clear hcz30_3
   try clear hcz36_0
   try clear hcz36_1
   try clear hcz36_2
   try clear hcz36_3
   try clear hcz45_0
   try clear hcz45_1
   try clear hcz45_2
   try clear hcz45_3
   try clear hcz48_0
   try clear hcz48_1
   try clear hcz48_2
   try clear hcz48_3
   try clear hfz13_0
   try clear hfz13_1
   try clear hfz13_2
   try clear hfz13_3
   try clear hfz17_0
   try clear hfz17_1
   try clear hfz17_2
   try clear hfz17_3
   try clear hfz25_0
   try clear hfz25_1
   try clear hfz25_2
   try clear hfz25_3
   try clear hfz29_0
   try clear hfz29_1
   try clear hfz29_2
   try clear hfz29_3
   try clear hfz30_0
   try clear hfz30_1
   try clear hfz30_2
   try clear hfz30_3
   try clear hfz36_0
   try clear hfz36_1
   try clear hfz36_2
   try clear hfz36_3
   try clear hfz45_0
   try clear hfz45_1
   try clear hfz45_2
   try clear hfz45_3
   try clear hfz48_0
   try clear hfz48_1
   try clear hfz48_2
   try clear hfz48_3
   obtain ⟨kq, x46_7, rfl, HA, HJ7, HO_543001, HO_543002, HO_543003, HO_544001, HO_544002, HO_544003, HO_556001, HO_556002, HO_556003, HO_568001, HO_568002, HO_568003, BK542, BK543, BK555, BK567, HB⟩ := hcut
   cases kq with
   | zero => exact absurd HA.out (by simp [laws_FnRanksJoin.j0])
   | succ kj7 =>
    have H := HA.out
    clear HA
    simp only [laws_FnRanksJoin.j0] at H
    by_cases c50 : x46_7 = true
    ·subst c50
     have H1 : (none) = some r := by rw [if_pos rfl] at H; exact H
     clear H
     have H := H1
     clear H1
     exact absurd H (by simp)
    ·replace c50 := Bool.eq_false_iff.mpr c50
     subst c50
     have H1 : (if t566 = true then (laws_FnRanksJoin.j1 kj7 (decide (t544 > 500)) t522 t523 t526 t529 t532 t533 t536 t539 t544 t545 t548 t551) else (laws_FnRanksJoin.j1 kj7 true t522 t523 t526 t529 t532 t533 t536 t539 t544 t545 t548 t551)) = some r := by rw [if_neg (show ¬ (false = true) by decide)] at H; exact H
     clear H
     have H := H1
     clear H1
     have HC51 := am_ H
     clear H
     go_upto_region 8 with (fail)
     go_cut [54] (fun v54 wc => ∃ (kq : Nat) (x54_50 : Bool), v54 = .bool x54_50 ∧ Aside0 (laws_FnRanksJoin.j1 kq x54_50 t522 t523 t526 t529 t532 t533 t536 t539 t544 t545 t548 t551 = some r) ∧ Aside0 (kq ≤ kj7) ∧ Aside0 (Kd.R (Kd.int .i64) 3 wc w.heap.size (fun k_ => ns_ k_ Ao15 t526 co15 ∧ ns_ k_ Ao16 t529 co16 ∧ ns_ k_ Ao18 t533 co18 ∧ ns_ k_ Ao19 t536 co19 ∧ ns_ k_ Ao20 t539 co20 ∧ ns_ k_ Ao26 t545 co26 ∧ ns_ k_ Ao27 t548 co27 ∧ ns_ k_ Ao28 t551 co28 ∧ ns_ k_ Ao37 t557 co37 ∧ ns_ k_ Ao38 t560 co38 ∧ ns_ k_ Ao39 t563 co39) (.slice Ao14 t523.length co14) t523) ∧ Aside0 (Kd.R (Kd.int .i64) 3 wc w.heap.size (fun k_ => ns_ k_ Ao14 t523 co14 ∧ ns_ k_ Ao16 t529 co16 ∧ ns_ k_ Ao18 t533 co18 ∧ ns_ k_ Ao19 t536 co19 ∧ ns_ k_ Ao20 t539 co20 ∧ ns_ k_ Ao26 t545 co26 ∧ ns_ k_ Ao27 t548 co27 ∧ ns_ k_ Ao28 t551 co28 ∧ ns_ k_ Ao37 t557 co37 ∧ ns_ k_ Ao38 t560 co38 ∧ ns_ k_ Ao39 t563 co39) (.slice Ao15 t526.length co15) t526) ∧ Aside0 (Kd.R (Kd.int .i64) 3 wc w.heap.size (fun k_ => ns_ k_ Ao14 t523 co14 ∧ ns_ k_ Ao15 t526 co15 ∧ ns_ k_ Ao18 t533 co18 ∧ ns_ k_ Ao19 t536 co19 ∧ ns_ k_ Ao20 t539 co20 ∧ ns_ k_ Ao26 t545 co26 ∧ ns_ k_ Ao27 t548 co27 ∧ ns_ k_ Ao28 t551 co28 ∧ ns_ k_ Ao37 t557 co37 ∧ ns_ k_ Ao38 t560 co38 ∧ ns_ k_ Ao39 t563 co39) (.slice Ao16 t529.length co16) t529) ∧ Aside0 (Kd.R (Kd.int .i64) 3 wc w.heap.size (fun k_ => ns_ k_ Ao14 t523 co14 ∧ ns_ k_ Ao15 t526 co15 ∧ ns_ k_ Ao16 t529 co16 ∧ ns_ k_ Ao19 t536 co19 ∧ ns_ k_ Ao20 t539 co20 ∧ ns_ k_ Ao26 t545 co26 ∧ ns_ k_ Ao27 t548 co27 ∧ ns_ k_ Ao28 t551 co28 ∧ ns_ k_ Ao37 t557 co37 ∧ ns_ k_ Ao38 t560 co38 ∧ ns_ k_ Ao39 t563 co39) (.slice Ao18 t533.length co18) t533) ∧ Aside0 (Kd.R (Kd.int .i64) 3 wc w.heap.size (fun k_ => ns_ k_ Ao14 t523 co14 ∧ ns_ k_ Ao15 t526 co15 ∧ ns_ k_ Ao16 t529 co16 ∧ ns_ k_ Ao18 t533 co18 ∧ ns_ k_ Ao20 t539 co20 ∧ ns_ k_ Ao26 t545 co26 ∧ ns_ k_ Ao27 t548 co27 ∧ ns_ k_ Ao28 t551 co28 ∧ ns_ k_ Ao37 t557 co37 ∧ ns_ k_ Ao38 t560 co38 ∧ ns_ k_ Ao39 t563 co39) (.slice Ao19 t536.length co19) t536) ∧ Aside0 (Kd.R (Kd.int .i64) 3 wc w.heap.size (fun k_ => ns_ k_ Ao14 t523 co14 ∧ ns_ k_ Ao15 t526 co15 ∧ ns_ k_ Ao16 t529 co16 ∧ ns_ k_ Ao18 t533 co18 ∧ ns_ k_ Ao19 t536 co19 ∧ ns_ k_ Ao26 t545 co26 ∧ ns_ k_ Ao27 t548 co27 ∧ ns_ k_ Ao28 t551 co28 ∧ ns_ k_ Ao37 t557 co37 ∧ ns_ k_ Ao38 t560 co38 ∧ ns_ k_ Ao39 t563 co39) (.slice Ao20 t539.length co20) t539) ∧ Aside0 (Kd.R (Kd.int .i64) 3 wc w.heap.size (fun k_ => ns_ k_ Ao14 t523 co14 ∧ ns_ k_ Ao15 t526 co15 ∧ ns_ k_ Ao16 t529 co16 ∧ ns_ k_ Ao18 t533 co18 ∧ ns_ k_ Ao19 t536 co19 ∧ ns_ k_ Ao20 t539 co20 ∧ ns_ k_ Ao27 t548 co27 ∧ ns_ k_ Ao28 t551 co28 ∧ ns_ k_ Ao37 t557 co37 ∧ ns_ k_ Ao38 t560 co38 ∧ ns_ k_ Ao39 t563 co39) (.slice Ao26 t545.length co26) t545) ∧ Aside0 (Kd.R (Kd.int .i64) 3 wc w.heap.size (fun k_ => ns_ k_ Ao14 t523 co14 ∧ ns_ k_ Ao15 t526 co15 ∧ ns_ k_ Ao16 t529 co16 ∧ ns_ k_ Ao18 t533 co18 ∧ ns_ k_ Ao19 t536 co19 ∧ ns_ k_ Ao20 t539 co20 ∧ ns_ k_ Ao26 t545 co26 ∧ ns_ k_ Ao28 t551 co28 ∧ ns_ k_ Ao37 t557 co37 ∧ ns_ k_ Ao38 t560 co38 ∧ ns_ k_ Ao39 t563 co39) (.slice Ao27 t548.length co27) t548) ∧ Aside0 (Kd.R (Kd.int .i64) 3 wc w.heap.size (fun k_ => ns_ k_ Ao14 t523 co14 ∧ ns_ k_ Ao15 t526 co15 ∧ ns_ k_ Ao16 t529 co16 ∧ ns_ k_ Ao18 t533 co18 ∧ ns_ k_ Ao19 t536 co19 ∧ ns_ k_ Ao20 t539 co20 ∧ ns_ k_ Ao26 t545 co26 ∧ ns_ k_ Ao27 t548 co27 ∧ ns_ k_ Ao37 t557 co37 ∧ ns_ k_ Ao38 t560 co38 ∧ ns_ k_ Ao39 t563 co39) (.slice Ao28 t551.length co28) t551) ∧ Aside0 (Kd.R (Kd.int .i64) 3 wc w.heap.size (fun k_ => ns_ k_ Ao14 t523 co14 ∧ ns_ k_ Ao15 t526 co15 ∧ ns_ k_ Ao16 t529 co16 ∧ ns_ k_ Ao18 t533 co18 ∧ ns_ k_ Ao19 t536 co19 ∧ ns_ k_ Ao20 t539 co20 ∧ ns_ k_ Ao26 t545 co26 ∧ ns_ k_ Ao27 t548 co27 ∧ ns_ k_ Ao28 t551 co28 ∧ ns_ k_ Ao38 t560 co38 ∧ ns_ k_ Ao39 t563 co39) (.slice Ao37 t557.length co37) t557) ∧ Aside0 (Kd.R (Kd.int .i64) 3 wc w.heap.size (fun k_ => ns_ k_ Ao14 t523 co14 ∧ ns_ k_ Ao15 t526 co15 ∧ ns_ k_ Ao16 t529 co16 ∧ ns_ k_ Ao18 t533 co18 ∧ ns_ k_ Ao19 t536 co19 ∧ ns_ k_ Ao20 t539 co20 ∧ ns_ k_ Ao26 t545 co26 ∧ ns_ k_ Ao27 t548 co27 ∧ ns_ k_ Ao28 t551 co28 ∧ ns_ k_ Ao37 t557 co37 ∧ ns_ k_ Ao39 t563 co39) (.slice Ao38 t560.length co38) t560) ∧ Aside0 (Kd.R (Kd.int .i64) 3 wc w.heap.size (fun k_ => ns_ k_ Ao14 t523 co14 ∧ ns_ k_ Ao15 t526 co15 ∧ ns_ k_ Ao16 t529 co16 ∧ ns_ k_ Ao18 t533 co18 ∧ ns_ k_ Ao19 t536 co19 ∧ ns_ k_ Ao20 t539 co20 ∧ ns_ k_ Ao26 t545 co26 ∧ ns_ k_ Ao27 t548 co27 ∧ ns_ k_ Ao28 t551 co28 ∧ ns_ k_ Ao37 t557 co37 ∧ ns_ k_ Ao38 t560 co38) (.slice Ao39 t563.length co39) t563) ∧ Aside0 (wc.heap[gb542]? = some (.cells #[.int .i64 t522, (.slice Ao14 t523.length co14), (.slice Ao15 t526.length co15), (.slice Ao16 t529.length co16)] 48 (0, 0))) ∧ Aside0 (wc.heap[gb543]? = some (.cells #[.int .i64 t532, (.slice Ao18 t533.length co18), (.slice Ao19 t536.length co19), (.slice Ao20 t539.length co20)] 48 (0, 0))) ∧ Aside0 (wc.heap[gb555]? = some (.cells #[.int .i64 t544, (.slice Ao26 t545.length co26), (.slice Ao27 t548.length co27), (.slice Ao28 t551.length co28)] 48 (0, 0))) ∧ Aside0 (wc.heap[gb567]? = some (.cells #[.int .i64 t556, (.slice Ao37 t557.length co37), (.slice Ao38 t560.length co38), (.slice Ao39 t563.length co39)] 48 (0, 0))) ∧ Aside0 (Below w.heap.size w wc))
     case first =>
      have H := HC51.out
      clear HC51
      by_cases c52 : t566 = true
      ·subst c52
       have H1 : (laws_FnRanksJoin.j1 kj7 (decide (t544 > 500)) t522 t523 t526 t529 t532 t533 t536 t539 t544 t545 t548 t551) = some r := by rw [if_pos rfl] at H; exact H
       clear H
       have H := H1
       clear H1
       have H' := am_ H
       clear H
       have hnb53 := NB555_542.out
       have hnc53 := NB542_555.out
       have hnb54 := NB555_543.out
       have hnc54 := NB543_555.out
       have hnb55 := NB555_567.out
       have hnc55 := NB567_555.out
       obtain ⟨hcz56_0, hcz56_1, hcz56_2, hcz56_3, hfz56_0, hfz56_1, hfz56_2, hfz56_3⟩ := bx4_ BK555.out
       go_wp2
       go_meet
       case rel => exact ⟨_, (decide (t544 > 500)), sr_, H', ⟨by have := HJ7.out; first | omega | exact Nat.le_refl _⟩, ⟨lf_ HO_543001⟩, ⟨lf_ HO_543002⟩, ⟨lf_ HO_543003⟩, ⟨lf_ HO_544001⟩, ⟨lf_ HO_544002⟩, ⟨lf_ HO_544003⟩, ⟨lf_ HO_556001⟩, ⟨lf_ HO_556002⟩, ⟨lf_ HO_556003⟩, ⟨lf_ HO_568001⟩, ⟨lf_ HO_568002⟩, ⟨lf_ HO_568003⟩, ⟨lb_ BK542⟩, ⟨lb_ BK543⟩, ⟨lb_ BK555⟩, ⟨lb_ BK567⟩, ⟨lw_ HB⟩⟩
      ·replace c52 := Bool.eq_false_iff.mpr c52
       subst c52
       have H1 : (laws_FnRanksJoin.j1 kj7 true t522 t523 t526 t529 t532 t533 t536 t539 t544 t545 t548 t551) = some r := by rw [if_neg (show ¬ (false = true) by decide)] at H; exact H
       clear H
       have H := H1
       clear H1
       have H' := am_ H
       clear H
       go_wp2
       go_meet
       case rel => exact ⟨_, (true), sr_, H', ⟨by have := HJ7.out; first | omega | exact Nat.le_refl _⟩, ⟨lf_ HO_543001⟩, ⟨lf_ HO_543002⟩, ⟨lf_ HO_543003⟩, ⟨lf_ HO_544001⟩, ⟨lf_ HO_544002⟩, ⟨lf_ HO_544003⟩, ⟨lf_ HO_556001⟩, ⟨lf_ HO_556002⟩, ⟨lf_ HO_556003⟩, ⟨lf_ HO_568001⟩, ⟨lf_ HO_568002⟩, ⟨lf_ HO_568003⟩, ⟨lb_ BK542⟩, ⟨lb_ BK543⟩, ⟨lb_ BK555⟩, ⟨lb_ BK567⟩, ⟨lw_ HB⟩⟩
     case rest =>
      clear HC51
      try clear c1
      try clear c2
      try clear p2
      try clear c3
      try clear c4
      try clear c5
      try clear c12
      try clear c13
      try clear c23
      try clear c24
      try clear c33
      try clear c34
      try clear c35
      try clear c37
      try clear c40
      try clear c40b0
      try clear c40b1
      try clear c40b2
      try clear c42
      try clear c43
      try clear c44
      try clear c45
      try clear c46
      try clear c47
      try clear c50
      try clear c52
      try clear c53
      try clear c54
      try clear c55
      try clear hcz13_0
      try clear hcz13_1
      try clear hcz13_2
      try clear hcz13_3
      try clear hcz17_0
      try clear hcz17_1
      try clear hcz17_2
      try clear hcz17_3
      try clear hcz25_0
      try clear hcz25_1
      try clear hcz25_2
      try clear hcz25_3
      try clear hcz29_0
      try clear hcz29_1
      try clear hcz29_2
      try clear hcz29_3
      try clear hcz30_0
      try clear hcz30_1
      try clear hcz30_2
      try clear hcz30_3
      try clear hcz36_0
      try clear hcz36_1
      try clear hcz36_2
      try clear hcz36_3
      try clear hcz45_0
      try clear hcz45_1
      try clear hcz45_2
      try clear hcz45_3
      try clear hcz48_0
      try clear hcz48_1
      try clear hcz48_2
      try clear hcz48_3
      try clear hcz56_0
      try clear hcz56_1
      try clear hcz56_2
      try clear hcz56_3
      try clear hfz13_0
      try clear hfz13_1
      try clear hfz13_2
      try clear hfz13_3
      try clear hfz17_0
      try clear hfz17_1
      try clear hfz17_2
      try clear hfz17_3
      try clear hfz25_0
      try clear hfz25_1
      try clear hfz25_2
      try clear hfz25_3
      try clear hfz29_0
      try clear hfz29_1
      try clear hfz29_2
      try clear hfz29_3
      try clear hfz30_0
      try clear hfz30_1
      try clear hfz30_2
      try clear hfz30_3
      try clear hfz36_0
      try clear hfz36_1
      try clear hfz36_2
      try clear hfz36_3
      try clear hfz45_0
      try clear hfz45_1
      try clear hfz45_2
      try clear hfz45_3
      try clear hfz48_0
      try clear hfz48_1
      try clear hfz48_2
      try clear hfz48_3
      try clear hfz56_0
      try clear hfz56_1
      try clear hfz56_2
      try clear hfz56_3
      try clear p2
      obtain ⟨kq, x54_50, rfl, HA, HJ50, HO_543001, HO_543002, HO_543003, HO_544001, HO_544002, HO_544003, HO_556001, HO_556002, HO_556003, HO_568001, HO_568002, HO_568003, BK542, BK543, BK555, BK567, HB⟩ := hcut
      cases kq with
      | zero => exact absurd HA.out (by simp [laws_FnRanksJoin.j1])
      | succ kj50 =>
       have H := HA.out
       clear HA
       simp only [laws_FnRanksJoin.j1] at H
       by_cases c57 : x54_50 = true
       ·subst c57
        have H1 : (some true) = some r := by rw [if_pos rfl] at H; exact H
        clear H
        have H := H1
        clear H1
        obtain rfl := Option.some.inj H
        go_wp2
        go_ret
        exact ⟨er_, lw_ HB⟩
       ·replace c57 := Bool.eq_false_iff.mpr c57
        subst c57
        have H1 : ((impl_OnesOf.f kj50 t522 t523 t526 t529).bind fun bt569 => (if bt569.2 = true then ((impl_IsRanked.f kj50 t544 t545 t548 t551).bind fun t571 => (laws_FnRanksJoin.j2 kj50 bt569.1 (!t571) t522 t523 t526 t529 t532 t533 t536 t539 t544 t545 t548 t551)) else (none))) = some r := by rw [if_neg (show ¬ (false = true) by decide)] at H; exact H
        clear H
        have H := H1
        clear H1
        replace H := Option.bind_eq_some_iff.mp H
        obtain ⟨⟨t569, t570⟩, A580, H⟩ := H
        replace H : (if t570 = true then ((impl_IsRanked.f kj50 t544 t545 t548 t551).bind fun t571 => (laws_FnRanksJoin.j2 kj50 t569 (!t571) t522 t523 t526 t529 t532 t533 t536 t539 t544 t545 t548 t551)) else (none)) = some r := H
        have A58 := am_ A580
        clear A580
        have HC59 := am_ H
        clear H
        have hnb60 := NB542_543.out
        have hnc60 := NB543_542.out
        have hnb61 := NB542_555.out
        have hnc61 := NB555_542.out
        have hnb62 := NB542_567.out
        have hnc62 := NB567_542.out
        obtain ⟨hcz63_0, hcz63_1, hcz63_2, hcz63_3, hfz63_0, hfz63_1, hfz63_2, hfz63_3⟩ := bx4_ BK542.out
        go_upto_region 11 with (first | ((with_reducible refine gate_callee (f := 54) rfl ?_); refine goesL_ (some 57) rfl rfl Try.func54 (by kernel_rfl) rfl #[.agg #[.int .i64 t522, .slice Ao14 t523.length co14, .slice Ao15 t526.length co15, .slice Ao16 t529.length co16]] rfl lm_ ?_; (with_reducible refine (impl_OnesOf.calls kj50 t522 _ _ t523 _ _ t526 _ _ t529 t569 t570 _ ?side1 ?side2 ?side3 ?side4 ?side5 ?side6 A58.out).mono ?_); (case side1 => exact lc_ (Kd.R_reads' HO_543001.out).2.2); (case side2 => exact (Kd.R_reads' HO_543001.out).2.1); (case side3 => exact lc_ (Kd.R_reads' HO_543002.out).2.2); (case side4 => exact (Kd.R_reads' HO_543002.out).2.1); (case side5 => exact lc_ (Kd.R_reads' HO_543003.out).2.2); (case side6 => exact (Kd.R_reads' HO_543003.out).2.1); rintro e w64 ⟨rfl, hb⟩; refine ⟨_, rfl, ?_⟩; replace HO_543001 := am_ (Kd.R_below (lf_ HO_543001) hb); replace HO_543002 := am_ (Kd.R_below (lf_ HO_543002) hb); replace HO_543003 := am_ (Kd.R_below (lf_ HO_543003) hb); replace HO_544001 := am_ (Kd.R_below (lf_ HO_544001) hb); replace HO_544002 := am_ (Kd.R_below (lf_ HO_544002) hb); replace HO_544003 := am_ (Kd.R_below (lf_ HO_544003) hb); replace HO_556001 := am_ (Kd.R_below (lf_ HO_556001) hb); replace HO_556002 := am_ (Kd.R_below (lf_ HO_556002) hb); replace HO_556003 := am_ (Kd.R_below (lf_ HO_556003) hb); replace HO_568001 := am_ (Kd.R_below (lf_ HO_568001) hb); replace HO_568002 := am_ (Kd.R_below (lf_ HO_568002) hb); replace HO_568003 := am_ (Kd.R_below (lf_ HO_568003) hb); replace BK542 := am_ (blk_below (g := gb542) (lb_ BK542) hb); replace BK543 := am_ (blk_below (g := gb543) (lb_ BK543) hb); replace BK555 := am_ (blk_below (g := gb555) (lb_ BK555) hb); replace BK567 := am_ (blk_below (g := gb567) (lb_ BK567) hb); replace HB := am_ (below_step (lw_ HB) hb); (try clear hb); (try clear hb2); (try clear hk); (try clear hi)))
        (try simp only [Act.put, List.setIfInBounds_toArray, List.set_cons_zero, List.set_cons_succ])
        go_cut [66] (fun v66 wc => ∃ (kq : Nat) (x66_58 : Bool), v66 = .bool x66_58 ∧ Aside0 (laws_FnRanksJoin.j2 kq t569 x66_58 t522 t523 t526 t529 t532 t533 t536 t539 t544 t545 t548 t551 = some r) ∧ Aside0 (kq ≤ kj50) ∧ Aside0 (Kd.R (Kd.int .i64) 3 wc w.heap.size (fun k_ => ns_ k_ Ao15 t526 co15 ∧ ns_ k_ Ao16 t529 co16 ∧ ns_ k_ Ao18 t533 co18 ∧ ns_ k_ Ao19 t536 co19 ∧ ns_ k_ Ao20 t539 co20 ∧ ns_ k_ Ao26 t545 co26 ∧ ns_ k_ Ao27 t548 co27 ∧ ns_ k_ Ao28 t551 co28 ∧ ns_ k_ Ao37 t557 co37 ∧ ns_ k_ Ao38 t560 co38 ∧ ns_ k_ Ao39 t563 co39) (.slice Ao14 t523.length co14) t523) ∧ Aside0 (Kd.R (Kd.int .i64) 3 wc w.heap.size (fun k_ => ns_ k_ Ao14 t523 co14 ∧ ns_ k_ Ao16 t529 co16 ∧ ns_ k_ Ao18 t533 co18 ∧ ns_ k_ Ao19 t536 co19 ∧ ns_ k_ Ao20 t539 co20 ∧ ns_ k_ Ao26 t545 co26 ∧ ns_ k_ Ao27 t548 co27 ∧ ns_ k_ Ao28 t551 co28 ∧ ns_ k_ Ao37 t557 co37 ∧ ns_ k_ Ao38 t560 co38 ∧ ns_ k_ Ao39 t563 co39) (.slice Ao15 t526.length co15) t526) ∧ Aside0 (Kd.R (Kd.int .i64) 3 wc w.heap.size (fun k_ => ns_ k_ Ao14 t523 co14 ∧ ns_ k_ Ao15 t526 co15 ∧ ns_ k_ Ao18 t533 co18 ∧ ns_ k_ Ao19 t536 co19 ∧ ns_ k_ Ao20 t539 co20 ∧ ns_ k_ Ao26 t545 co26 ∧ ns_ k_ Ao27 t548 co27 ∧ ns_ k_ Ao28 t551 co28 ∧ ns_ k_ Ao37 t557 co37 ∧ ns_ k_ Ao38 t560 co38 ∧ ns_ k_ Ao39 t563 co39) (.slice Ao16 t529.length co16) t529) ∧ Aside0 (Kd.R (Kd.int .i64) 3 wc w.heap.size (fun k_ => ns_ k_ Ao14 t523 co14 ∧ ns_ k_ Ao15 t526 co15 ∧ ns_ k_ Ao16 t529 co16 ∧ ns_ k_ Ao19 t536 co19 ∧ ns_ k_ Ao20 t539 co20 ∧ ns_ k_ Ao26 t545 co26 ∧ ns_ k_ Ao27 t548 co27 ∧ ns_ k_ Ao28 t551 co28 ∧ ns_ k_ Ao37 t557 co37 ∧ ns_ k_ Ao38 t560 co38 ∧ ns_ k_ Ao39 t563 co39) (.slice Ao18 t533.length co18) t533) ∧ Aside0 (Kd.R (Kd.int .i64) 3 wc w.heap.size (fun k_ => ns_ k_ Ao14 t523 co14 ∧ ns_ k_ Ao15 t526 co15 ∧ ns_ k_ Ao16 t529 co16 ∧ ns_ k_ Ao18 t533 co18 ∧ ns_ k_ Ao20 t539 co20 ∧ ns_ k_ Ao26 t545 co26 ∧ ns_ k_ Ao27 t548 co27 ∧ ns_ k_ Ao28 t551 co28 ∧ ns_ k_ Ao37 t557 co37 ∧ ns_ k_ Ao38 t560 co38 ∧ ns_ k_ Ao39 t563 co39) (.slice Ao19 t536.length co19) t536) ∧ Aside0 (Kd.R (Kd.int .i64) 3 wc w.heap.size (fun k_ => ns_ k_ Ao14 t523 co14 ∧ ns_ k_ Ao15 t526 co15 ∧ ns_ k_ Ao16 t529 co16 ∧ ns_ k_ Ao18 t533 co18 ∧ ns_ k_ Ao19 t536 co19 ∧ ns_ k_ Ao26 t545 co26 ∧ ns_ k_ Ao27 t548 co27 ∧ ns_ k_ Ao28 t551 co28 ∧ ns_ k_ Ao37 t557 co37 ∧ ns_ k_ Ao38 t560 co38 ∧ ns_ k_ Ao39 t563 co39) (.slice Ao20 t539.length co20) t539) ∧ Aside0 (Kd.R (Kd.int .i64) 3 wc w.heap.size (fun k_ => ns_ k_ Ao14 t523 co14 ∧ ns_ k_ Ao15 t526 co15 ∧ ns_ k_ Ao16 t529 co16 ∧ ns_ k_ Ao18 t533 co18 ∧ ns_ k_ Ao19 t536 co19 ∧ ns_ k_ Ao20 t539 co20 ∧ ns_ k_ Ao27 t548 co27 ∧ ns_ k_ Ao28 t551 co28 ∧ ns_ k_ Ao37 t557 co37 ∧ ns_ k_ Ao38 t560 co38 ∧ ns_ k_ Ao39 t563 co39) (.slice Ao26 t545.length co26) t545) ∧ Aside0 (Kd.R (Kd.int .i64) 3 wc w.heap.size (fun k_ => ns_ k_ Ao14 t523 co14 ∧ ns_ k_ Ao15 t526 co15 ∧ ns_ k_ Ao16 t529 co16 ∧ ns_ k_ Ao18 t533 co18 ∧ ns_ k_ Ao19 t536 co19 ∧ ns_ k_ Ao20 t539 co20 ∧ ns_ k_ Ao26 t545 co26 ∧ ns_ k_ Ao28 t551 co28 ∧ ns_ k_ Ao37 t557 co37 ∧ ns_ k_ Ao38 t560 co38 ∧ ns_ k_ Ao39 t563 co39) (.slice Ao27 t548.length co27) t548) ∧ Aside0 (Kd.R (Kd.int .i64) 3 wc w.heap.size (fun k_ => ns_ k_ Ao14 t523 co14 ∧ ns_ k_ Ao15 t526 co15 ∧ ns_ k_ Ao16 t529 co16 ∧ ns_ k_ Ao18 t533 co18 ∧ ns_ k_ Ao19 t536 co19 ∧ ns_ k_ Ao20 t539 co20 ∧ ns_ k_ Ao26 t545 co26 ∧ ns_ k_ Ao27 t548 co27 ∧ ns_ k_ Ao37 t557 co37 ∧ ns_ k_ Ao38 t560 co38 ∧ ns_ k_ Ao39 t563 co39) (.slice Ao28 t551.length co28) t551) ∧ Aside0 (Kd.R (Kd.int .i64) 3 wc w.heap.size (fun k_ => ns_ k_ Ao14 t523 co14 ∧ ns_ k_ Ao15 t526 co15 ∧ ns_ k_ Ao16 t529 co16 ∧ ns_ k_ Ao18 t533 co18 ∧ ns_ k_ Ao19 t536 co19 ∧ ns_ k_ Ao20 t539 co20 ∧ ns_ k_ Ao26 t545 co26 ∧ ns_ k_ Ao27 t548 co27 ∧ ns_ k_ Ao28 t551 co28 ∧ ns_ k_ Ao38 t560 co38 ∧ ns_ k_ Ao39 t563 co39) (.slice Ao37 t557.length co37) t557) ∧ Aside0 (Kd.R (Kd.int .i64) 3 wc w.heap.size (fun k_ => ns_ k_ Ao14 t523 co14 ∧ ns_ k_ Ao15 t526 co15 ∧ ns_ k_ Ao16 t529 co16 ∧ ns_ k_ Ao18 t533 co18 ∧ ns_ k_ Ao19 t536 co19 ∧ ns_ k_ Ao20 t539 co20 ∧ ns_ k_ Ao26 t545 co26 ∧ ns_ k_ Ao27 t548 co27 ∧ ns_ k_ Ao28 t551 co28 ∧ ns_ k_ Ao37 t557 co37 ∧ ns_ k_ Ao39 t563 co39) (.slice Ao38 t560.length co38) t560) ∧ Aside0 (Kd.R (Kd.int .i64) 3 wc w.heap.size (fun k_ => ns_ k_ Ao14 t523 co14 ∧ ns_ k_ Ao15 t526 co15 ∧ ns_ k_ Ao16 t529 co16 ∧ ns_ k_ Ao18 t533 co18 ∧ ns_ k_ Ao19 t536 co19 ∧ ns_ k_ Ao20 t539 co20 ∧ ns_ k_ Ao26 t545 co26 ∧ ns_ k_ Ao27 t548 co27 ∧ ns_ k_ Ao28 t551 co28 ∧ ns_ k_ Ao37 t557 co37 ∧ ns_ k_ Ao38 t560 co38) (.slice Ao39 t563.length co39) t563) ∧ Aside0 (wc.heap[gb542]? = some (.cells #[.int .i64 t522, (.slice Ao14 t523.length co14), (.slice Ao15 t526.length co15), (.slice Ao16 t529.length co16)] 48 (0, 0))) ∧ Aside0 (wc.heap[gb543]? = some (.cells #[.int .i64 t532, (.slice Ao18 t533.length co18), (.slice Ao19 t536.length co19), (.slice Ao20 t539.length co20)] 48 (0, 0))) ∧ Aside0 (wc.heap[gb555]? = some (.cells #[.int .i64 t544, (.slice Ao26 t545.length co26), (.slice Ao27 t548.length co27), (.slice Ao28 t551.length co28)] 48 (0, 0))) ∧ Aside0 (wc.heap[gb567]? = some (.cells #[.int .i64 t556, (.slice Ao37 t557.length co37), (.slice Ao38 t560.length co38), (.slice Ao39 t563.length co39)] 48 (0, 0))) ∧ Aside0 (Below w.heap.size w wc))
        case first =>
         have H := HC59.out
         clear HC59
         by_cases c65 : t570 = true
         ·subst c65
          have H1 : ((impl_IsRanked.f kj50 t544 t545 t548 t551).bind fun t571 => (laws_FnRanksJoin.j2 kj50 t569 (!t571) t522 t523 t526 t529 t532 t533 t536 t539 t544 t545 t548 t551)) = some r := by rw [if_pos rfl] at H; exact H
          clear H
          have H := H1
          clear H1
          replace H := Option.bind_eq_some_iff.mp H
          obtain ⟨t571, A660, H⟩ := H
          replace H : (laws_FnRanksJoin.j2 kj50 t569 (!t571) t522 t523 t526 t529 t532 t533 t536 t539 t544 t545 t548 t551) = some r := H
          have A66 := am_ A660
          clear A660
          have H' := am_ H
          clear H
          have hnb67 := NB555_542.out
          have hnc67 := NB542_555.out
          have hnb68 := NB555_543.out
          have hnc68 := NB543_555.out
          have hnb69 := NB555_567.out
          have hnc69 := NB567_555.out
          obtain ⟨hcz70_0, hcz70_1, hcz70_2, hcz70_3, hfz70_0, hfz70_1, hfz70_2, hfz70_3⟩ := bx4_ BK555.out
          go_wp2_with (first | (go_at_call 55; (with_reducible refine (impl_IsRanked.calls kj50 t544 _ _ t545 _ _ t548 _ _ t551 t571 _ ?side1 ?side2 ?side3 ?side4 ?side5 ?side6 A66.out).mono ?_); (case side1 => exact lc_ (Kd.R_reads' HO_556001.out).2.2); (case side2 => exact (Kd.R_reads' HO_556001.out).2.1); (case side3 => exact lc_ (Kd.R_reads' HO_556002.out).2.2); (case side4 => exact (Kd.R_reads' HO_556002.out).2.1); (case side5 => exact lc_ (Kd.R_reads' HO_556003.out).2.2); (case side6 => exact (Kd.R_reads' HO_556003.out).2.1); rintro e w71 ⟨rfl, hb⟩; replace HO_543001 := am_ (Kd.R_below (lf_ HO_543001) hb); replace HO_543002 := am_ (Kd.R_below (lf_ HO_543002) hb); replace HO_543003 := am_ (Kd.R_below (lf_ HO_543003) hb); replace HO_544001 := am_ (Kd.R_below (lf_ HO_544001) hb); replace HO_544002 := am_ (Kd.R_below (lf_ HO_544002) hb); replace HO_544003 := am_ (Kd.R_below (lf_ HO_544003) hb); replace HO_556001 := am_ (Kd.R_below (lf_ HO_556001) hb); replace HO_556002 := am_ (Kd.R_below (lf_ HO_556002) hb); replace HO_556003 := am_ (Kd.R_below (lf_ HO_556003) hb); replace HO_568001 := am_ (Kd.R_below (lf_ HO_568001) hb); replace HO_568002 := am_ (Kd.R_below (lf_ HO_568002) hb); replace HO_568003 := am_ (Kd.R_below (lf_ HO_568003) hb); replace BK542 := am_ (blk_below (g := gb542) (lb_ BK542) hb); replace BK543 := am_ (blk_below (g := gb543) (lb_ BK543) hb); replace BK555 := am_ (blk_below (g := gb555) (lb_ BK555) hb); replace BK567 := am_ (blk_below (g := gb567) (lb_ BK567) hb); replace HB := am_ (below_step (lw_ HB) hb); (try clear hb); (try clear hb2); (try clear hk); (try clear hi)))
          go_meet
          case rel => exact ⟨_, (!t571), sr_, H', ⟨by have := HJ7.out; have := HJ50.out; first | omega | exact Nat.le_refl _⟩, ⟨lf_ HO_543001⟩, ⟨lf_ HO_543002⟩, ⟨lf_ HO_543003⟩, ⟨lf_ HO_544001⟩, ⟨lf_ HO_544002⟩, ⟨lf_ HO_544003⟩, ⟨lf_ HO_556001⟩, ⟨lf_ HO_556002⟩, ⟨lf_ HO_556003⟩, ⟨lf_ HO_568001⟩, ⟨lf_ HO_568002⟩, ⟨lf_ HO_568003⟩, ⟨lb_ BK542⟩, ⟨lb_ BK543⟩, ⟨lb_ BK555⟩, ⟨lb_ BK567⟩, ⟨lw_ HB⟩⟩
         ·replace c65 := Bool.eq_false_iff.mpr c65
          subst c65
          have H1 : (none) = some r := by rw [if_neg (show ¬ (false = true) by decide)] at H; exact H
          clear H
          have H := H1
          clear H1
          exact absurd H (by simp)
        case rest =>
         clear HC59
         try clear c1
         try clear c2
         try clear p2
         try clear c3
         try clear c4
         try clear c5
         try clear c6
         try clear c12
         try clear c13
         try clear c23
         try clear c24
         try clear c33
         try clear c34
         try clear c35
         try clear c37
         try clear c40
         try clear c40b0
         try clear c40b1
         try clear c40b2
         try clear c42
         try clear c43
         try clear c44
         try clear c45
         try clear c46
         try clear c47
         try clear c50
         try clear c52
         try clear c53
         try clear c54
         try clear c55
         try clear c57
         try clear c60
         try clear c61
         try clear c62
         try clear c65
         try clear c67
         try clear c68
         try clear c69
         try clear hcz13_0
         try clear hcz13_1
         try clear hcz13_2
         try clear hcz13_3
         try clear hcz17_0
         try clear hcz17_1
         try clear hcz17_2
         try clear hcz17_3
         try clear hcz25_0
         try clear hcz25_1
         try clear hcz25_2
         try clear hcz25_3
         try clear hcz29_0
         try clear hcz29_1
         try clear hcz29_2
         try clear hcz29_3
         try clear hcz30_0
         try clear hcz30_1
         try clear hcz30_2
         try clear hcz30_3
         try clear hcz36_0
         try clear hcz36_1
         try clear hcz36_2
         try clear hcz36_3
         try clear hcz45_0
         try clear hcz45_1
         try clear hcz45_2
         try clear hcz45_3
         try clear hcz48_0
         try clear hcz48_1
         try clear hcz48_2
         try clear hcz48_3
         try clear hcz56_0
         try clear hcz56_1
         try clear hcz56_2
         try clear hcz56_3
         try clear hcz63_0
         try clear hcz63_1
         try clear hcz63_2
         try clear hcz63_3
         try clear hcz70_0
         try clear hcz70_1
         try clear hcz70_2
         try clear hcz70_3
         try clear hfz13_0
         try clear hfz13_1
         try clear hfz13_2
         try clear hfz13_3
         try clear hfz17_0
         try clear hfz17_1
         try clear hfz17_2
         try clear hfz17_3
         try clear hfz25_0
         try clear hfz25_1
         try clear hfz25_2
         try clear hfz25_3
         try clear hfz29_0
         try clear hfz29_1
         try clear hfz29_2
         try clear hfz29_3
         try clear hfz30_0
         try clear hfz30_1
         try clear hfz30_2
         try clear hfz30_3
         try clear hfz36_0
         try clear hfz36_1
         try clear hfz36_2
         try clear hfz36_3
         try clear hfz45_0
         try clear hfz45_1
         try clear hfz45_2
         try clear hfz45_3
         try clear hfz48_0
         try clear hfz48_1
         try clear hfz48_2
         try clear hfz48_3
         try clear hfz56_0
         try clear hfz56_1
         try clear hfz56_2
         try clear hfz56_3
         try clear hfz63_0
         try clear hfz63_1
         try clear hfz63_2
         try clear hfz63_3
         try clear hfz70_0
         try clear hfz70_1
         try clear hfz70_2
         try clear hfz70_3
         try clear p2
         obtain ⟨kq, x66_58, rfl, HA, HJ58, HO_543001, HO_543002, HO_543003, HO_544001, HO_544002, HO_544003, HO_556001, HO_556002, HO_556003, HO_568001, HO_568002, HO_568003, BK542, BK543, BK555, BK567, HB⟩ := hcut
         cases kq with
         | zero => exact absurd HA.out (by simp [laws_FnRanksJoin.j2])
         | succ kj58 =>
          have H := HA.out
          clear HA
          simp only [laws_FnRanksJoin.j2] at H
          by_cases c72 : x66_58 = true
          ·subst c72
           have H1 : (none) = some r := by rw [if_pos rfl] at H; exact H
           clear H
           have H := H1
           clear H1
           exact absurd H (by simp)
          ·replace c72 := Bool.eq_false_iff.mpr c72
           subst c72
           have H1 : (laws_FnRanksJoin.l0 kj58 t569 0 t522 t523 t526 t529 t532 t533 t536 t539 t544 t545 t548 t551) = some r := by rw [if_neg (show ¬ (false = true) by decide)] at H; exact H
           clear H
           have H := H1
           clear H1
           have H' := am_ H
           clear H
           go_wp2
           go_loopg [13] kj58 (fun kq v13 w' => ∃ (x13_4 : Int), v13 = .int .i64 x13_4 ∧ Aside0 (laws_FnRanksJoin.l0 kq t569 x13_4 t522 t523 t526 t529 t532 t533 t536 t539 t544 t545 t548 t551 = some r) ∧ Aside0 (kq ≤ kj58) ∧ Aside0 (Kd.R (Kd.int .i64) 3 w' w.heap.size (fun k_ => ns_ k_ Ao15 t526 co15 ∧ ns_ k_ Ao16 t529 co16 ∧ ns_ k_ Ao18 t533 co18 ∧ ns_ k_ Ao19 t536 co19 ∧ ns_ k_ Ao20 t539 co20 ∧ ns_ k_ Ao26 t545 co26 ∧ ns_ k_ Ao27 t548 co27 ∧ ns_ k_ Ao28 t551 co28 ∧ ns_ k_ Ao37 t557 co37 ∧ ns_ k_ Ao38 t560 co38 ∧ ns_ k_ Ao39 t563 co39) (.slice Ao14 t523.length co14) t523) ∧ Aside0 (Kd.R (Kd.int .i64) 3 w' w.heap.size (fun k_ => ns_ k_ Ao14 t523 co14 ∧ ns_ k_ Ao16 t529 co16 ∧ ns_ k_ Ao18 t533 co18 ∧ ns_ k_ Ao19 t536 co19 ∧ ns_ k_ Ao20 t539 co20 ∧ ns_ k_ Ao26 t545 co26 ∧ ns_ k_ Ao27 t548 co27 ∧ ns_ k_ Ao28 t551 co28 ∧ ns_ k_ Ao37 t557 co37 ∧ ns_ k_ Ao38 t560 co38 ∧ ns_ k_ Ao39 t563 co39) (.slice Ao15 t526.length co15) t526) ∧ Aside0 (Kd.R (Kd.int .i64) 3 w' w.heap.size (fun k_ => ns_ k_ Ao14 t523 co14 ∧ ns_ k_ Ao15 t526 co15 ∧ ns_ k_ Ao18 t533 co18 ∧ ns_ k_ Ao19 t536 co19 ∧ ns_ k_ Ao20 t539 co20 ∧ ns_ k_ Ao26 t545 co26 ∧ ns_ k_ Ao27 t548 co27 ∧ ns_ k_ Ao28 t551 co28 ∧ ns_ k_ Ao37 t557 co37 ∧ ns_ k_ Ao38 t560 co38 ∧ ns_ k_ Ao39 t563 co39) (.slice Ao16 t529.length co16) t529) ∧ Aside0 (Kd.R (Kd.int .i64) 3 w' w.heap.size (fun k_ => ns_ k_ Ao14 t523 co14 ∧ ns_ k_ Ao15 t526 co15 ∧ ns_ k_ Ao16 t529 co16 ∧ ns_ k_ Ao19 t536 co19 ∧ ns_ k_ Ao20 t539 co20 ∧ ns_ k_ Ao26 t545 co26 ∧ ns_ k_ Ao27 t548 co27 ∧ ns_ k_ Ao28 t551 co28 ∧ ns_ k_ Ao37 t557 co37 ∧ ns_ k_ Ao38 t560 co38 ∧ ns_ k_ Ao39 t563 co39) (.slice Ao18 t533.length co18) t533) ∧ Aside0 (Kd.R (Kd.int .i64) 3 w' w.heap.size (fun k_ => ns_ k_ Ao14 t523 co14 ∧ ns_ k_ Ao15 t526 co15 ∧ ns_ k_ Ao16 t529 co16 ∧ ns_ k_ Ao18 t533 co18 ∧ ns_ k_ Ao20 t539 co20 ∧ ns_ k_ Ao26 t545 co26 ∧ ns_ k_ Ao27 t548 co27 ∧ ns_ k_ Ao28 t551 co28 ∧ ns_ k_ Ao37 t557 co37 ∧ ns_ k_ Ao38 t560 co38 ∧ ns_ k_ Ao39 t563 co39) (.slice Ao19 t536.length co19) t536) ∧ Aside0 (Kd.R (Kd.int .i64) 3 w' w.heap.size (fun k_ => ns_ k_ Ao14 t523 co14 ∧ ns_ k_ Ao15 t526 co15 ∧ ns_ k_ Ao16 t529 co16 ∧ ns_ k_ Ao18 t533 co18 ∧ ns_ k_ Ao19 t536 co19 ∧ ns_ k_ Ao26 t545 co26 ∧ ns_ k_ Ao27 t548 co27 ∧ ns_ k_ Ao28 t551 co28 ∧ ns_ k_ Ao37 t557 co37 ∧ ns_ k_ Ao38 t560 co38 ∧ ns_ k_ Ao39 t563 co39) (.slice Ao20 t539.length co20) t539) ∧ Aside0 (Kd.R (Kd.int .i64) 3 w' w.heap.size (fun k_ => ns_ k_ Ao14 t523 co14 ∧ ns_ k_ Ao15 t526 co15 ∧ ns_ k_ Ao16 t529 co16 ∧ ns_ k_ Ao18 t533 co18 ∧ ns_ k_ Ao19 t536 co19 ∧ ns_ k_ Ao20 t539 co20 ∧ ns_ k_ Ao27 t548 co27 ∧ ns_ k_ Ao28 t551 co28 ∧ ns_ k_ Ao37 t557 co37 ∧ ns_ k_ Ao38 t560 co38 ∧ ns_ k_ Ao39 t563 co39) (.slice Ao26 t545.length co26) t545) ∧ Aside0 (Kd.R (Kd.int .i64) 3 w' w.heap.size (fun k_ => ns_ k_ Ao14 t523 co14 ∧ ns_ k_ Ao15 t526 co15 ∧ ns_ k_ Ao16 t529 co16 ∧ ns_ k_ Ao18 t533 co18 ∧ ns_ k_ Ao19 t536 co19 ∧ ns_ k_ Ao20 t539 co20 ∧ ns_ k_ Ao26 t545 co26 ∧ ns_ k_ Ao28 t551 co28 ∧ ns_ k_ Ao37 t557 co37 ∧ ns_ k_ Ao38 t560 co38 ∧ ns_ k_ Ao39 t563 co39) (.slice Ao27 t548.length co27) t548) ∧ Aside0 (Kd.R (Kd.int .i64) 3 w' w.heap.size (fun k_ => ns_ k_ Ao14 t523 co14 ∧ ns_ k_ Ao15 t526 co15 ∧ ns_ k_ Ao16 t529 co16 ∧ ns_ k_ Ao18 t533 co18 ∧ ns_ k_ Ao19 t536 co19 ∧ ns_ k_ Ao20 t539 co20 ∧ ns_ k_ Ao26 t545 co26 ∧ ns_ k_ Ao27 t548 co27 ∧ ns_ k_ Ao37 t557 co37 ∧ ns_ k_ Ao38 t560 co38 ∧ ns_ k_ Ao39 t563 co39) (.slice Ao28 t551.length co28) t551) ∧ Aside0 (Kd.R (Kd.int .i64) 3 w' w.heap.size (fun k_ => ns_ k_ Ao14 t523 co14 ∧ ns_ k_ Ao15 t526 co15 ∧ ns_ k_ Ao16 t529 co16 ∧ ns_ k_ Ao18 t533 co18 ∧ ns_ k_ Ao19 t536 co19 ∧ ns_ k_ Ao20 t539 co20 ∧ ns_ k_ Ao26 t545 co26 ∧ ns_ k_ Ao27 t548 co27 ∧ ns_ k_ Ao28 t551 co28 ∧ ns_ k_ Ao38 t560 co38 ∧ ns_ k_ Ao39 t563 co39) (.slice Ao37 t557.length co37) t557) ∧ Aside0 (Kd.R (Kd.int .i64) 3 w' w.heap.size (fun k_ => ns_ k_ Ao14 t523 co14 ∧ ns_ k_ Ao15 t526 co15 ∧ ns_ k_ Ao16 t529 co16 ∧ ns_ k_ Ao18 t533 co18 ∧ ns_ k_ Ao19 t536 co19 ∧ ns_ k_ Ao20 t539 co20 ∧ ns_ k_ Ao26 t545 co26 ∧ ns_ k_ Ao27 t548 co27 ∧ ns_ k_ Ao28 t551 co28 ∧ ns_ k_ Ao37 t557 co37 ∧ ns_ k_ Ao39 t563 co39) (.slice Ao38 t560.length co38) t560) ∧ Aside0 (Kd.R (Kd.int .i64) 3 w' w.heap.size (fun k_ => ns_ k_ Ao14 t523 co14 ∧ ns_ k_ Ao15 t526 co15 ∧ ns_ k_ Ao16 t529 co16 ∧ ns_ k_ Ao18 t533 co18 ∧ ns_ k_ Ao19 t536 co19 ∧ ns_ k_ Ao20 t539 co20 ∧ ns_ k_ Ao26 t545 co26 ∧ ns_ k_ Ao27 t548 co27 ∧ ns_ k_ Ao28 t551 co28 ∧ ns_ k_ Ao37 t557 co37 ∧ ns_ k_ Ao38 t560 co38) (.slice Ao39 t563.length co39) t563) ∧ Aside0 (w'.heap[gb542]? = some (.cells #[.int .i64 t522, (.slice Ao14 t523.length co14), (.slice Ao15 t526.length co15), (.slice Ao16 t529.length co16)] 48 (0, 0))) ∧ Aside0 (w'.heap[gb543]? = some (.cells #[.int .i64 t532, (.slice Ao18 t533.length co18), (.slice Ao19 t536.length co19), (.slice Ao20 t539.length co20)] 48 (0, 0))) ∧ Aside0 (w'.heap[gb555]? = some (.cells #[.int .i64 t544, (.slice Ao26 t545.length co26), (.slice Ao27 t548.length co27), (.slice Ao28 t551.length co28)] 48 (0, 0))) ∧ Aside0 (w'.heap[gb567]? = some (.cells #[.int .i64 t556, (.slice Ao37 t557.length co37), (.slice Ao38 t560.length co38), (.slice Ao39 t563.length co39)] 48 (0, 0))) ∧ Aside0 (Below w.heap.size w w'))
           case atStart => exact ⟨(0), sr_, H', ⟨Nat.le_refl _⟩, ⟨lf_ HO_543001⟩, ⟨lf_ HO_543002⟩, ⟨lf_ HO_543003⟩, ⟨lf_ HO_544001⟩, ⟨lf_ HO_544002⟩, ⟨lf_ HO_544003⟩, ⟨lf_ HO_556001⟩, ⟨lf_ HO_556002⟩, ⟨lf_ HO_556003⟩, ⟨lf_ HO_568001⟩, ⟨lf_ HO_568002⟩, ⟨lf_ HO_568003⟩, ⟨lb_ BK542⟩, ⟨lb_ BK543⟩, ⟨lb_ BK555⟩, ⟨lb_ BK567⟩, ⟨lw_ HB⟩⟩
           case round =>
            clear H'
            try clear c1
            try clear c2
            try clear p2
            try clear c3
            try clear c4
            try clear c5
            try clear c6
            try clear c7
            try clear c12
            try clear c13
            try clear c23
            try clear c24
            try clear c33
            try clear c34
            try clear c35
            try clear c37
            try clear c40
            try clear c40b0
            try clear c40b1
            try clear c40b2
            try clear c42
            try clear c43
            try clear c44
            try clear c45
            try clear c46
            try clear c47
            try clear c50
            try clear c52
            try clear c53
            try clear c54
            try clear c55
            try clear c57
            try clear c60
            try clear c61
            try clear c62
            try clear c65
            try clear c67
            try clear c68
            try clear c69
            try clear c72
            try clear hcz13_0
            try clear hcz13_1
            try clear hcz13_2
            try clear hcz13_3
            try clear hcz17_0
            try clear hcz17_1
            try clear hcz17_2
            try clear hcz17_3
            try clear hcz25_0
            try clear hcz25_1
            try clear hcz25_2
            try clear hcz25_3
            try clear hcz29_0
            try clear hcz29_1
            try clear hcz29_2
            try clear hcz29_3
            try clear hcz30_0
            try clear hcz30_1
            try clear hcz30_2
            try clear hcz30_3
            try clear hcz36_0
            try clear hcz36_1
            try clear hcz36_2
            try clear hcz36_3
            try clear hcz45_0
            try clear hcz45_1
            try clear hcz45_2
            try clear hcz45_3
            try clear hcz48_0
            try clear hcz48_1
            try clear hcz48_2
            try clear hcz48_3
            try clear hcz56_0
            try clear hcz56_1
            try clear hcz56_2
            try clear hcz56_3
            try clear hcz63_0
            try clear hcz63_1
            try clear hcz63_2
            try clear hcz63_3
            try clear hcz70_0
            try clear hcz70_1
            try clear hcz70_2
            try clear hcz70_3
            try clear hfz13_0
            try clear hfz13_1
            try clear hfz13_2
            try clear hfz13_3
            try clear hfz17_0
            try clear hfz17_1
            try clear hfz17_2
            try clear hfz17_3
            try clear hfz25_0
            try clear hfz25_1
            try clear hfz25_2
            try clear hfz25_3
            try clear hfz29_0
            try clear hfz29_1
            try clear hfz29_2
            try clear hfz29_3
            try clear hfz30_0
            try clear hfz30_1
            try clear hfz30_2
            try clear hfz30_3
            try clear hfz36_0
            try clear hfz36_1
            try clear hfz36_2
            try clear hfz36_3
            try clear hfz45_0
            try clear hfz45_1
            try clear hfz45_2
            try clear hfz45_3
            try clear hfz48_0
            try clear hfz48_1
            try clear hfz48_2
            try clear hfz48_3
            try clear hfz56_0
            try clear hfz56_1
            try clear hfz56_2
            try clear hfz56_3
            try clear hfz63_0
            try clear hfz63_1
            try clear hfz63_2
            try clear hfz63_3
            try clear hfz70_0
            try clear hfz70_1
            try clear hfz70_2
            try clear hfz70_3
            try clear p2
            obtain ⟨x13_4, rfl, HA, HK4, HO_543001, HO_543002, HO_543003, HO_544001, HO_544002, HO_544003, HO_556001, HO_556002, HO_556003, HO_568001, HO_568002, HO_568003, BK542, BK543, BK555, BK567, HB⟩ := hrel
            cases gk with
            | zero => exact absurd HA.out (by simp [laws_FnRanksJoin.l0])
            | succ k4 =>
             have H := HA.out
             clear HA
             simp only [laws_FnRanksJoin.l0] at H
             by_cases c73 : x13_4 ≤ t532
             ·rw [if_pos c73] at H
              have c73b0 : decide (x13_4 ≤ t532) = true := decide_eq_true c73
              clear c73
              replace H := Option.bind_eq_some_iff.mp H
              obtain ⟨⟨t572, t573⟩, A740, H⟩ := H
              replace H : ((impl_Rank1.f k4 t544 t545 t548 t551 (wrap64 (t522 + x13_4))).bind fun bt574 => (if t573 = true then (if bt574.2 = true then (if bt574.1 = (wrap64 (t569 + t572)) then (laws_FnRanksJoin.l0 k4 t569 (wrap64 (x13_4 + 1)) t522 t523 t526 t529 t532 t533 t536 t539 t544 t545 t548 t551) else (none)) else (none)) else (none))) = some r := H
              have A74 := am_ A740
              clear A740
              replace H := Option.bind_eq_some_iff.mp H
              obtain ⟨⟨t574, t575⟩, A750, H⟩ := H
              replace H : (if t573 = true then (if t575 = true then (if t574 = (wrap64 (t569 + t572)) then (laws_FnRanksJoin.l0 k4 t569 (wrap64 (x13_4 + 1)) t522 t523 t526 t529 t532 t533 t536 t539 t544 t545 t548 t551) else (none)) else (none)) else (none)) = some r := H
              have A75 := am_ A750
              clear A750
              by_cases c76 : t573 = true
              ·subst c76
               have H1 : (if t575 = true then (if t574 = (wrap64 (t569 + t572)) then (laws_FnRanksJoin.l0 k4 t569 (wrap64 (x13_4 + 1)) t522 t523 t526 t529 t532 t533 t536 t539 t544 t545 t548 t551) else (none)) else (none)) = some r := by rw [if_pos rfl] at H; exact H
               clear H
               have H := H1
               clear H1
               by_cases c77 : t575 = true
               ·subst c77
                have H1 : (if t574 = (wrap64 (t569 + t572)) then (laws_FnRanksJoin.l0 k4 t569 (wrap64 (x13_4 + 1)) t522 t523 t526 t529 t532 t533 t536 t539 t544 t545 t548 t551) else (none)) = some r := by rw [if_pos rfl] at H; exact H
                clear H
                have H := H1
                clear H1
                by_cases c78 : t574 = (wrap64 (t569 + t572))
                ·rw [if_pos c78] at H
                 have c78b0 : (t574 == (wrap64 (t569 + t572))) = true := beq_iff_eq.mpr c78
                 have c78b1 : (t574 != (wrap64 (t569 + t572))) = false := bne_eq_false_iff_eq.mpr c78
                 clear c78
                 have H' := am_ H
                 clear H
                 have hnb79 := NB543_542.out
                 have hnc79 := NB542_543.out
                 have hnb80 := NB543_555.out
                 have hnc80 := NB555_543.out
                 have hnb81 := NB543_567.out
                 have hnc81 := NB567_543.out
                 obtain ⟨hcz82_0, hcz82_1, hcz82_2, hcz82_3, hfz82_0, hfz82_1, hfz82_2, hfz82_3⟩ := bx4_ BK543.out
                 go_wp2_with (first | ((with_reducible refine gate_callee (f := 56) rfl ?_); refine goesL_ (some 77) rfl rfl Try.func56 (by kernel_rfl) rfl #[.agg #[.int .i64 t532, .slice Ao18 t533.length co18, .slice Ao19 t536.length co19, .slice Ao20 t539.length co20], .int .i64 x13_4] rfl lm_ ?_; (with_reducible refine (impl_Rank1.calls k4 t532 _ _ t533 _ _ t536 _ _ t539 x13_4 t572 true _ ?side1 ?side2 ?side3 ?side4 ?side5 ?side6 A74.out).mono ?_); (case side1 => exact lc_ (Kd.R_reads' HO_544001.out).2.2); (case side2 => exact (Kd.R_reads' HO_544001.out).2.1); (case side3 => exact lc_ (Kd.R_reads' HO_544002.out).2.2); (case side4 => exact (Kd.R_reads' HO_544002.out).2.1); (case side5 => exact lc_ (Kd.R_reads' HO_544003.out).2.2); (case side6 => exact (Kd.R_reads' HO_544003.out).2.1); rintro e w83 ⟨rfl, hb⟩; refine ⟨_, rfl, ?_⟩; replace HO_543001 := am_ (Kd.R_below (lf_ HO_543001) hb); replace HO_543002 := am_ (Kd.R_below (lf_ HO_543002) hb); replace HO_543003 := am_ (Kd.R_below (lf_ HO_543003) hb); replace HO_544001 := am_ (Kd.R_below (lf_ HO_544001) hb); replace HO_544002 := am_ (Kd.R_below (lf_ HO_544002) hb); replace HO_544003 := am_ (Kd.R_below (lf_ HO_544003) hb); replace HO_556001 := am_ (Kd.R_below (lf_ HO_556001) hb); replace HO_556002 := am_ (Kd.R_below (lf_ HO_556002) hb); replace HO_556003 := am_ (Kd.R_below (lf_ HO_556003) hb); replace HO_568001 := am_ (Kd.R_below (lf_ HO_568001) hb); replace HO_568002 := am_ (Kd.R_below (lf_ HO_568002) hb); replace HO_568003 := am_ (Kd.R_below (lf_ HO_568003) hb); replace BK542 := am_ (blk_below (g := gb542) (lb_ BK542) hb); replace BK543 := am_ (blk_below (g := gb543) (lb_ BK543) hb); replace BK555 := am_ (blk_below (g := gb555) (lb_ BK555) hb); replace BK567 := am_ (blk_below (g := gb567) (lb_ BK567) hb); replace HB := am_ (below_step (lw_ HB) hb); (try clear hb); (try clear hb2); (try clear hk); (try clear hi); have hnb84 := NB555_542.out; have hnc84 := NB542_555.out; have hnb85 := NB555_567.out; have hnc85 := NB567_555.out; obtain ⟨hcz86_0, hcz86_1, hcz86_2, hcz86_3, hfz86_0, hfz86_1, hfz86_2, hfz86_3⟩ := bx4_ BK555.out; have hnb87 := NB542_567.out; have hnc87 := NB567_542.out; obtain ⟨hcz88_0, hcz88_1, hcz88_2, hcz88_3, hfz88_0, hfz88_1, hfz88_2, hfz88_3⟩ := bx4_ BK542.out) | ((with_reducible refine gate_callee (f := 56) rfl ?_); refine goesL_ (some 87) rfl rfl Try.func56 (by kernel_rfl) rfl #[.agg #[.int .i64 t544, .slice Ao26 t545.length co26, .slice Ao27 t548.length co27, .slice Ao28 t551.length co28], .int .i64 (wrap64 (t522 + x13_4))] rfl lm_ ?_; (with_reducible refine (impl_Rank1.calls k4 t544 _ _ t545 _ _ t548 _ _ t551 (wrap64 (t522 + x13_4)) t574 true _ ?side1 ?side2 ?side3 ?side4 ?side5 ?side6 A75.out).mono ?_); (case side1 => exact lc_ (Kd.R_reads' HO_556001.out).2.2); (case side2 => exact (Kd.R_reads' HO_556001.out).2.1); (case side3 => exact lc_ (Kd.R_reads' HO_556002.out).2.2); (case side4 => exact (Kd.R_reads' HO_556002.out).2.1); (case side5 => exact lc_ (Kd.R_reads' HO_556003.out).2.2); (case side6 => exact (Kd.R_reads' HO_556003.out).2.1); rintro e w89 ⟨rfl, hb⟩; refine ⟨_, rfl, ?_⟩; replace HO_543001 := am_ (Kd.R_below (lf_ HO_543001) hb); replace HO_543002 := am_ (Kd.R_below (lf_ HO_543002) hb); replace HO_543003 := am_ (Kd.R_below (lf_ HO_543003) hb); replace HO_544001 := am_ (Kd.R_below (lf_ HO_544001) hb); replace HO_544002 := am_ (Kd.R_below (lf_ HO_544002) hb); replace HO_544003 := am_ (Kd.R_below (lf_ HO_544003) hb); replace HO_556001 := am_ (Kd.R_below (lf_ HO_556001) hb); replace HO_556002 := am_ (Kd.R_below (lf_ HO_556002) hb); replace HO_556003 := am_ (Kd.R_below (lf_ HO_556003) hb); replace HO_568001 := am_ (Kd.R_below (lf_ HO_568001) hb); replace HO_568002 := am_ (Kd.R_below (lf_ HO_568002) hb); replace HO_568003 := am_ (Kd.R_below (lf_ HO_568003) hb); replace BK542 := am_ (blk_below (g := gb542) (lb_ BK542) hb); replace BK543 := am_ (blk_below (g := gb543) (lb_ BK543) hb); replace BK555 := am_ (blk_below (g := gb555) (lb_ BK555) hb); replace BK567 := am_ (blk_below (g := gb567) (lb_ BK567) hb); replace HB := am_ (below_step (lw_ HB) hb); (try clear hb); (try clear hb2); (try clear hk); (try clear hi)))
                 go_roundg k4
                 case measure => have := HJ7.out; have := HJ50.out; have := HJ58.out; have := HK4.out; omega
                 case rel => exact ⟨(wrap64 (x13_4 + 1)), sr_, H', ⟨by have := HJ7.out; have := HJ50.out; have := HJ58.out; have := HK4.out; omega⟩, ⟨lf_ HO_543001⟩, ⟨lf_ HO_543002⟩, ⟨lf_ HO_543003⟩, ⟨lf_ HO_544001⟩, ⟨lf_ HO_544002⟩, ⟨lf_ HO_544003⟩, ⟨lf_ HO_556001⟩, ⟨lf_ HO_556002⟩, ⟨lf_ HO_556003⟩, ⟨lf_ HO_568001⟩, ⟨lf_ HO_568002⟩, ⟨lf_ HO_568003⟩, ⟨lb_ BK542⟩, ⟨lb_ BK543⟩, ⟨lb_ BK555⟩, ⟨lb_ BK567⟩, ⟨lw_ HB⟩⟩
                ·rw [if_neg c78] at H
                 exact absurd H (by simp)
               ·replace c77 := Bool.eq_false_iff.mpr c77
                subst c77
                have H1 : (none) = some r := by rw [if_neg (show ¬ (false = true) by decide)] at H; exact H
                clear H
                have H := H1
                clear H1
                exact absurd H (by simp)
              ·replace c76 := Bool.eq_false_iff.mpr c76
               subst c76
               have H1 : (none) = some r := by rw [if_neg (show ¬ (false = true) by decide)] at H; exact H
               clear H
               have H := H1
               clear H1
               exact absurd H (by simp)
             ·rw [if_neg c73] at H
              have c73b0 : decide (x13_4 ≤ t532) = false := decide_eq_false c73
              clear c73
              obtain rfl := Option.some.inj H
              have hnb90 := NB543_542.out
              have hnc90 := NB542_543.out
              have hnb91 := NB543_555.out
              have hnc91 := NB555_543.out
              have hnb92 := NB543_567.out
              have hnc92 := NB567_543.out
              obtain ⟨hcz93_0, hcz93_1, hcz93_2, hcz93_3, hfz93_0, hfz93_1, hfz93_2, hfz93_3⟩ := bx4_ BK543.out
              go_wp2
              go_ret
              exact ⟨er_, lw_ HB⟩

/-- THE ONE PURE STATEMENT of laws_FnRanksJoin: yours. -/
def laws_FnRanksJoin.Pure : Prop := ∀ (l0 : List Int) (l1 : List Int), l0.length ≤ maxLen → l0.length * 1 ≤ 140737488351232 → (∀ x ∈ l0, (Lit.int .u8 x).wf = true) → l1.length ≤ maxLen → l1.length * 1 ≤ 140737488351232 → (∀ x ∈ l1, (Lit.int .u8 x).wf = true) → ∃ k, laws_FnRanksJoin.f k l0 l1 = some true
theorem laws_FnRanksJoin.walk (P : laws_FnRanksJoin.Pure) (a0 : Option Addr) (len0 cap0 : Nat) (z0 : List Int) (a1 : Option Addr) (len1 cap1 : Nat) (z1 : List Int) (w : World) (w0 : (a0 = none ∧ len0 = 0 ∧ cap0 = 0 ∧ z0 = []) ∨ ∃ x, a0 = some x ∧ len0 ≤ cap0 ∧ cap0 ≤ maxLen ∧ z0.length = cap0 ∧ (∀ i, i < z0.length → w.cell? (x.add i) = some (.int .u8 (z0.getD i 0))) ∧ ∀ n ∈ z0, (Lit.int .u8 n).wf = true) (y0 : len0 * 1 ≤ 140737488351232) (w1 : (a1 = none ∧ len1 = 0 ∧ cap1 = 0 ∧ z1 = []) ∨ ∃ x, a1 = some x ∧ len1 ≤ cap1 ∧ cap1 ≤ maxLen ∧ z1.length = cap1 ∧ (∀ i, i < z1.length → w.cell? (x.add i) = some (.int .u8 (z1.getD i 0))) ∧ ∀ n ∈ z1, (Lit.int .u8 n).wf = true) (y1 : len1 * 1 ≤ 140737488351232) :
  Calls Try.prog 13 #[.slice a0 len0 cap0, .slice a1 len1 cap1] w fun e w' => e = .returned (.bool true) ∧ Below w.heap.size w w' := by
 obtain ⟨l0, rfl, hr0, hm0, hw0, hc0⟩ := ReadsInt.ofRowC w0
 obtain ⟨l1, rfl, hr1, hm1, hw1, hc1⟩ := ReadsInt.ofRowC w1
 obtain ⟨k, h⟩ := P l0 l1 hm0 y0 hw0 hm1 y1 hw1
 refine (laws_FnRanksJoin.calls k _ _ l0 _ _ l1 true w (Kd.C_of_reads (d := (0 : Int)) (h1 := fun _ => rfl) hr0) hc0 (Kd.C_of_reads (d := (0 : Int)) (h1 := fun _ => rfl) hr1) hc1 h).mono ?_
 rintro e w' ⟨rfl, hd⟩
 exact ⟨rfl, hd⟩

end Go.Proofs.Ytkmhjgejficclaa.PFnRanksJoin
