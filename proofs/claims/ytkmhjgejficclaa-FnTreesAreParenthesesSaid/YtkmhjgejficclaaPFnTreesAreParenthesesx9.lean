-- Laid by a program of this session: the print of the kit with additions of ours (wip/tools/patchprint.py). Nothing of it is trusted: Lean checks it.
import Derived.Test.YtkmhjgejficclaaPFnTreesAreParenthesesx0
import Derived.Test.YtkmhjgejficclaaPFnTreesAreParenthesesx2
import Derived.Test.YtkmhjgejficclaaPFnTreesAreParenthesesx4
import Derived.Test.YtkmhjgejficclaaPFnTreesAreParenthesesx6
import Derived.Test.YtkmhjgejficclaaPFnTreesAreParenthesesx7
import Derived.Test.YtkmhjgejficclaaPFnTreesAreParenthesesx8
namespace Go.Proofs.Ytkmhjgejficclaa.PFnTreesAreParentheses
open Go.RowKit Go.Proofs.YtkmhjgejficclaaW.PrintWords Go.Proofs.YtkmhjgejficclaaW.PrintLast Go.Proofs.YtkmhjgejficclaaW.PrintMore
attribute [local go_sem] max2_int min2_int max_two min_two max_three min_three max_four min_four   -- for this text's walks alone
set_option linter.unusedVariables false
set_option linter.unusedSimpArgs false

theorem am22_ {p : Prop} (h : p) : Aside0 p := ⟨h⟩
theorem lm22_ {P : Prop} (h : P := by (try simp only [List.map_toArray, List.map_cons, List.map_nil]); first | done | rfl | (simp only [List.length_drop, List.length_take]; rfl)) : P := h
theorem lc22_ {P Q : Prop} (h : P) (f : P → Q := by intro h_; repeat (first | exact h_ | (with_reducible refine Kd.C_alloc ?_ _) | (with_reducible refine Kd.C_drewN ?_ _) | (with_reducible refine Kd.C_drew ?_))) : Q := f h
theorem lt22_ {P Q : Prop} (h : P) (f : P → Q := by intro h_; (with_reducible repeat (first | apply Kd.R_alloc | apply Kd.R_drewN | apply Kd.R_drew)); exact h_) : Q := f h
theorem lf22_ {P Q : Prop} (h : Aside0 P) (f : P → Q := by intro h_; (with_reducible repeat (first | apply Kd.R_alloc | apply Kd.R_drewN | apply Kd.R_drew)); exact h_) : Q := f h.out
theorem lb22_ {P Q : Prop} (h : Aside0 P) (f : P → Q := by intro h_; (with_reducible repeat (first | refine blk_drewN ?_ _ | refine blk_drew ?_ | refine blk_alloc ?_ _)); exact h_) : Q := f h.out
theorem lw22_ {P Q : Prop} (h : Aside0 P) (f : P → Q := by intro h_; repeat (first | (with_reducible first | exact h_ | apply below_alloc | apply pw_below_drewN | apply below_drew1 | refine below_set ?_ (Aside0.out (by assumption))) | exact h_)) : Q := f h.out
/-! ### laws_FnTreesAreParentheses: function 14 -/
mutual
def laws_FnTreesAreParentheses.j0 : Nat → List Int → Bool → Bool → Int → List Int → Option (Bool)
 | 0, _, _, _, _, _ => none
 | k + 1, x5, x9, x45, x394000, x394001 => if x45 = true then (none) else (if x9 = true then ((impl_ParentsOf.f k x394000 x394001).bind fun bt401 => ((impl_BuildRanked.f k x394000 x394001).bind fun bt405 => (if bt401.2 = true then (if bt405.2.2.2.2 = true then ((laws_pSameInts.f k bt401.1 x5).bind fun t417 => (if t417 = true then (laws_FnTreesAreParentheses.j1 k x5 (x394000 != (wrap64 (2 * (x5.length : Int)))) x394000 x394001 bt405.1 bt405.2.1 bt405.2.2.1 bt405.2.2.2.1) else (none))) else (none)) else (none)))) else (some true))
def laws_FnTreesAreParentheses.j1 : Nat → List Int → Bool → Int → List Int → Int → List Int → List Int → List Int → Option (Bool)
 | 0, _, _, _, _, _, _, _, _ => none
 | k + 1, x5, x77, x394000, x394001, x417000, x417001, x417002, x417003 => if x77 = true then (none) else (laws_FnTreesAreParentheses.l0 k x5 (x5.length : Int) 0 x394000 x394001 x417000 x417001 x417002 x417003)
def laws_FnTreesAreParentheses.l0 : Nat → List Int → Int → Int → Int → List Int → Int → List Int → List Int → List Int → Option (Bool)
 | 0, _, _, _, _, _, _, _, _, _ => none
 | k + 1, x78, x79, x80, x394000, x394001, x417000, x417001, x417002, x417003 => if x80 < x79 then (if 0 ≤ x80 then (if x80 < (x78.length : Int) then ((impl_Select1.f k x417000 x417001 x417002 x417003 x80).bind fun bt419 => ((impl_EnclosingOf.f k x394000 x394001 bt419.1).bind fun bt421 => (if bt419.2 = true then (laws_FnTreesAreParentheses.j3 k (rd x78 x80) bt421.1 bt421.2 x78 x79 x80 (bt421.2 != (decide ((rd x78 x80) ≥ 0))) x394000 x394001 x417000 x417001 x417002 x417003) else (none)))) else (none)) else (none)) else (some true)
def laws_FnTreesAreParentheses.j3 : Nat → Int → Int → Bool → List Int → Int → Int → Bool → Int → List Int → Int → List Int → List Int → List Int → Option (Bool)
 | 0, _, _, _, _, _, _, _, _, _, _, _, _, _ => none
 | k + 1, x15, x18, x19, x78, x79, x80, x104, x394000, x394001, x417000, x417001, x417002, x417003 => if x104 = true then (none) else (if x19 = true then ((impl_Rank1.f k x417000 x417001 x417002 x417003 x18).bind fun bt423 => (if bt423.2 = true then (if bt423.1 = x15 then (laws_FnTreesAreParentheses.l0 k x78 x79 (wrap64 (x80 + 1)) x394000 x394001 x417000 x417001 x417002 x417003) else (none)) else (none))) else (laws_FnTreesAreParentheses.l0 k x78 x79 (wrap64 (x80 + 1)) x394000 x394001 x417000 x417001 x417002 x417003))
end
def laws_FnTreesAreParentheses.f (k : Nat) (l0 : List Int) (l1 : List Int) : Option (Bool) := (laws_big.f l0 l1).bind fun t384 => (if t384 = true then (some true) else ((spec_DrawParenthesesOf.f k l0).bind fun t385 => ((impl_ParenthesesOf.f k t385).bind fun bt388 => ((spec_ParenthesesOf.f k t385).bind fun bt394 => (if (bt388.2.2 != bt394.2.2) = true then (none) else ((laws_pSameBits.f k bt388.1 bt388.2.1 bt394.1 bt394.2.1).bind fun t400 => (laws_FnTreesAreParentheses.j0 k t385 bt394.2.2 (!t400) bt388.1 bt388.2.1)))))))
theorem laws_FnTreesAreParentheses.mono_l : ∀ k, (∀ y0 y1 y2 y3 y4, LeO (laws_FnTreesAreParentheses.j0 k y0 y1 y2 y3 y4) (laws_FnTreesAreParentheses.j0 (k + 1) y0 y1 y2 y3 y4)) ∧ (∀ y0 y1 y2 y3 y4 y5 y6 y7, LeO (laws_FnTreesAreParentheses.j1 k y0 y1 y2 y3 y4 y5 y6 y7) (laws_FnTreesAreParentheses.j1 (k + 1) y0 y1 y2 y3 y4 y5 y6 y7)) ∧ (∀ y0 y1 y2 y3 y4 y5 y6 y7 y8, LeO (laws_FnTreesAreParentheses.l0 k y0 y1 y2 y3 y4 y5 y6 y7 y8) (laws_FnTreesAreParentheses.l0 (k + 1) y0 y1 y2 y3 y4 y5 y6 y7 y8)) ∧ (∀ y0 y1 y2 y3 y4 y5 y6 y7 y8 y9 y10 y11 y12, LeO (laws_FnTreesAreParentheses.j3 k y0 y1 y2 y3 y4 y5 y6 y7 y8 y9 y10 y11 y12) (laws_FnTreesAreParentheses.j3 (k + 1) y0 y1 y2 y3 y4 y5 y6 y7 y8 y9 y10 y11 y12))
 | 0 => ⟨fun _ _ _ _ _ r h => by simp [laws_FnTreesAreParentheses.j0] at h, fun _ _ _ _ _ _ _ _ r h => by simp [laws_FnTreesAreParentheses.j1] at h, fun _ _ _ _ _ _ _ _ _ r h => by simp [laws_FnTreesAreParentheses.l0] at h, fun _ _ _ _ _ _ _ _ _ _ _ _ _ r h => by simp [laws_FnTreesAreParentheses.j3] at h⟩
 | k + 1 => by
  obtain ⟨ih0, ih1, ih2, ih3⟩ := laws_FnTreesAreParentheses.mono_l k
  refine ⟨?_, ?_, ?_, ?_⟩
  ·intro y0 y1 y2 y3 y4
   unfold laws_FnTreesAreParentheses.j0
   repeat' first
   | (with_reducible exact ih0 _ _ _ _ _)
   | (with_reducible exact ih1 _ _ _ _ _ _ _ _)
   | (with_reducible exact ih2 _ _ _ _ _ _ _ _ _)
   | (with_reducible exact ih3 _ _ _ _ _ _ _ _ _ _ _ _ _)
   | (with_reducible exact impl_BuildRanked.mono _ _ _)
   | (with_reducible exact impl_EnclosingOf.mono _ _ _ _)
   | (with_reducible exact impl_ParenthesesOf.mono _ _)
   | (with_reducible exact impl_ParentsOf.mono _ _ _)
   | (with_reducible exact impl_Rank1.mono _ _ _ _ _ _)
   | (with_reducible exact impl_Select1.mono _ _ _ _ _ _)
   | (with_reducible exact laws_pSameBits.mono _ _ _ _ _)
   | (with_reducible exact laws_pSameInts.mono _ _ _)
   | (with_reducible exact spec_DrawParenthesesOf.mono _ _)
   | (with_reducible exact spec_ParenthesesOf.mono _ _)
   | (with_reducible exact LeO.refl _)
   | (with_reducible exact LeO.none _)
   | (with_reducible refine LeO.ite ?_ ?_)
   | (with_reducible refine LeO.bind ?_ (fun _ => ?_))
   | exact ih0 _ _ _ _ _
   | exact ih1 _ _ _ _ _ _ _ _
   | exact ih2 _ _ _ _ _ _ _ _ _
   | exact ih3 _ _ _ _ _ _ _ _ _ _ _ _ _
   | exact impl_BuildRanked.mono _ _ _
   | exact impl_EnclosingOf.mono _ _ _ _
   | exact impl_ParenthesesOf.mono _ _
   | exact impl_ParentsOf.mono _ _ _
   | exact impl_Rank1.mono _ _ _ _ _ _
   | exact impl_Select1.mono _ _ _ _ _ _
   | exact laws_pSameBits.mono _ _ _ _ _
   | exact laws_pSameInts.mono _ _ _
   | exact spec_DrawParenthesesOf.mono _ _
   | exact spec_ParenthesesOf.mono _ _
   | exact LeO.none _
   | refine LeO.ite ?_ ?_
   | refine LeO.bind ?_ (fun _ => ?_)
  ·intro y0 y1 y2 y3 y4 y5 y6 y7
   unfold laws_FnTreesAreParentheses.j1
   repeat' first
   | (with_reducible exact ih0 _ _ _ _ _)
   | (with_reducible exact ih1 _ _ _ _ _ _ _ _)
   | (with_reducible exact ih2 _ _ _ _ _ _ _ _ _)
   | (with_reducible exact ih3 _ _ _ _ _ _ _ _ _ _ _ _ _)
   | (with_reducible exact impl_BuildRanked.mono _ _ _)
   | (with_reducible exact impl_EnclosingOf.mono _ _ _ _)
   | (with_reducible exact impl_ParenthesesOf.mono _ _)
   | (with_reducible exact impl_ParentsOf.mono _ _ _)
   | (with_reducible exact impl_Rank1.mono _ _ _ _ _ _)
   | (with_reducible exact impl_Select1.mono _ _ _ _ _ _)
   | (with_reducible exact laws_pSameBits.mono _ _ _ _ _)
   | (with_reducible exact laws_pSameInts.mono _ _ _)
   | (with_reducible exact spec_DrawParenthesesOf.mono _ _)
   | (with_reducible exact spec_ParenthesesOf.mono _ _)
   | (with_reducible exact LeO.refl _)
   | (with_reducible exact LeO.none _)
   | (with_reducible refine LeO.ite ?_ ?_)
   | (with_reducible refine LeO.bind ?_ (fun _ => ?_))
   | exact ih0 _ _ _ _ _
   | exact ih1 _ _ _ _ _ _ _ _
   | exact ih2 _ _ _ _ _ _ _ _ _
   | exact ih3 _ _ _ _ _ _ _ _ _ _ _ _ _
   | exact impl_BuildRanked.mono _ _ _
   | exact impl_EnclosingOf.mono _ _ _ _
   | exact impl_ParenthesesOf.mono _ _
   | exact impl_ParentsOf.mono _ _ _
   | exact impl_Rank1.mono _ _ _ _ _ _
   | exact impl_Select1.mono _ _ _ _ _ _
   | exact laws_pSameBits.mono _ _ _ _ _
   | exact laws_pSameInts.mono _ _ _
   | exact spec_DrawParenthesesOf.mono _ _
   | exact spec_ParenthesesOf.mono _ _
   | exact LeO.none _
   | refine LeO.ite ?_ ?_
   | refine LeO.bind ?_ (fun _ => ?_)
  ·intro y0 y1 y2 y3 y4 y5 y6 y7 y8
   unfold laws_FnTreesAreParentheses.l0
   repeat' first
   | (with_reducible exact ih0 _ _ _ _ _)
   | (with_reducible exact ih1 _ _ _ _ _ _ _ _)
   | (with_reducible exact ih2 _ _ _ _ _ _ _ _ _)
   | (with_reducible exact ih3 _ _ _ _ _ _ _ _ _ _ _ _ _)
   | (with_reducible exact impl_BuildRanked.mono _ _ _)
   | (with_reducible exact impl_EnclosingOf.mono _ _ _ _)
   | (with_reducible exact impl_ParenthesesOf.mono _ _)
   | (with_reducible exact impl_ParentsOf.mono _ _ _)
   | (with_reducible exact impl_Rank1.mono _ _ _ _ _ _)
   | (with_reducible exact impl_Select1.mono _ _ _ _ _ _)
   | (with_reducible exact laws_pSameBits.mono _ _ _ _ _)
   | (with_reducible exact laws_pSameInts.mono _ _ _)
   | (with_reducible exact spec_DrawParenthesesOf.mono _ _)
   | (with_reducible exact spec_ParenthesesOf.mono _ _)
   | (with_reducible exact LeO.refl _)
   | (with_reducible exact LeO.none _)
   | (with_reducible refine LeO.ite ?_ ?_)
   | (with_reducible refine LeO.bind ?_ (fun _ => ?_))
   | exact ih0 _ _ _ _ _
   | exact ih1 _ _ _ _ _ _ _ _
   | exact ih2 _ _ _ _ _ _ _ _ _
   | exact ih3 _ _ _ _ _ _ _ _ _ _ _ _ _
   | exact impl_BuildRanked.mono _ _ _
   | exact impl_EnclosingOf.mono _ _ _ _
   | exact impl_ParenthesesOf.mono _ _
   | exact impl_ParentsOf.mono _ _ _
   | exact impl_Rank1.mono _ _ _ _ _ _
   | exact impl_Select1.mono _ _ _ _ _ _
   | exact laws_pSameBits.mono _ _ _ _ _
   | exact laws_pSameInts.mono _ _ _
   | exact spec_DrawParenthesesOf.mono _ _
   | exact spec_ParenthesesOf.mono _ _
   | exact LeO.none _
   | refine LeO.ite ?_ ?_
   | refine LeO.bind ?_ (fun _ => ?_)
  ·intro y0 y1 y2 y3 y4 y5 y6 y7 y8 y9 y10 y11 y12
   unfold laws_FnTreesAreParentheses.j3
   repeat' first
   | (with_reducible exact ih0 _ _ _ _ _)
   | (with_reducible exact ih1 _ _ _ _ _ _ _ _)
   | (with_reducible exact ih2 _ _ _ _ _ _ _ _ _)
   | (with_reducible exact ih3 _ _ _ _ _ _ _ _ _ _ _ _ _)
   | (with_reducible exact impl_BuildRanked.mono _ _ _)
   | (with_reducible exact impl_EnclosingOf.mono _ _ _ _)
   | (with_reducible exact impl_ParenthesesOf.mono _ _)
   | (with_reducible exact impl_ParentsOf.mono _ _ _)
   | (with_reducible exact impl_Rank1.mono _ _ _ _ _ _)
   | (with_reducible exact impl_Select1.mono _ _ _ _ _ _)
   | (with_reducible exact laws_pSameBits.mono _ _ _ _ _)
   | (with_reducible exact laws_pSameInts.mono _ _ _)
   | (with_reducible exact spec_DrawParenthesesOf.mono _ _)
   | (with_reducible exact spec_ParenthesesOf.mono _ _)
   | (with_reducible exact LeO.refl _)
   | (with_reducible exact LeO.none _)
   | (with_reducible refine LeO.ite ?_ ?_)
   | (with_reducible refine LeO.bind ?_ (fun _ => ?_))
   | exact ih0 _ _ _ _ _
   | exact ih1 _ _ _ _ _ _ _ _
   | exact ih2 _ _ _ _ _ _ _ _ _
   | exact ih3 _ _ _ _ _ _ _ _ _ _ _ _ _
   | exact impl_BuildRanked.mono _ _ _
   | exact impl_EnclosingOf.mono _ _ _ _
   | exact impl_ParenthesesOf.mono _ _
   | exact impl_ParentsOf.mono _ _ _
   | exact impl_Rank1.mono _ _ _ _ _ _
   | exact impl_Select1.mono _ _ _ _ _ _
   | exact laws_pSameBits.mono _ _ _ _ _
   | exact laws_pSameInts.mono _ _ _
   | exact spec_DrawParenthesesOf.mono _ _
   | exact spec_ParenthesesOf.mono _ _
   | exact LeO.none _
   | refine LeO.ite ?_ ?_
   | refine LeO.bind ?_ (fun _ => ?_)
theorem laws_FnTreesAreParentheses.mono : ∀ a0 a1 k, LeO (laws_FnTreesAreParentheses.f k a0 a1) (laws_FnTreesAreParentheses.f (k + 1) a0 a1) := by
 intro a0 a1 k
 obtain ⟨ih0, ih1, ih2, ih3⟩ := laws_FnTreesAreParentheses.mono_l k
 unfold laws_FnTreesAreParentheses.f
 repeat' first
   | (with_reducible exact ih0 _ _ _ _ _)
   | (with_reducible exact ih1 _ _ _ _ _ _ _ _)
   | (with_reducible exact ih2 _ _ _ _ _ _ _ _ _)
   | (with_reducible exact ih3 _ _ _ _ _ _ _ _ _ _ _ _ _)
   | (with_reducible exact impl_BuildRanked.mono _ _ _)
   | (with_reducible exact impl_EnclosingOf.mono _ _ _ _)
   | (with_reducible exact impl_ParenthesesOf.mono _ _)
   | (with_reducible exact impl_ParentsOf.mono _ _ _)
   | (with_reducible exact impl_Rank1.mono _ _ _ _ _ _)
   | (with_reducible exact impl_Select1.mono _ _ _ _ _ _)
   | (with_reducible exact laws_pSameBits.mono _ _ _ _ _)
   | (with_reducible exact laws_pSameInts.mono _ _ _)
   | (with_reducible exact spec_DrawParenthesesOf.mono _ _)
   | (with_reducible exact spec_ParenthesesOf.mono _ _)
   | (with_reducible exact LeO.refl _)
   | (with_reducible exact LeO.none _)
   | (with_reducible refine LeO.ite ?_ ?_)
   | (with_reducible refine LeO.bind ?_ (fun _ => ?_))
   | exact ih0 _ _ _ _ _
   | exact ih1 _ _ _ _ _ _ _ _
   | exact ih2 _ _ _ _ _ _ _ _ _
   | exact ih3 _ _ _ _ _ _ _ _ _ _ _ _ _
   | exact impl_BuildRanked.mono _ _ _
   | exact impl_EnclosingOf.mono _ _ _ _
   | exact impl_ParenthesesOf.mono _ _
   | exact impl_ParentsOf.mono _ _ _
   | exact impl_Rank1.mono _ _ _ _ _ _
   | exact impl_Select1.mono _ _ _ _ _ _
   | exact laws_pSameBits.mono _ _ _ _ _
   | exact laws_pSameInts.mono _ _ _
   | exact spec_DrawParenthesesOf.mono _ _
   | exact spec_ParenthesesOf.mono _ _
   | exact LeO.none _
   | refine LeO.ite ?_ ?_
   | refine LeO.bind ?_ (fun _ => ?_)
set_option maxHeartbeats 8000000 in
set_option maxRecDepth 100000 in
theorem laws_FnTreesAreParentheses.calls (k : Nat) (A0 : Option Addr) (c0 : Nat) (l0 : List Int) (A1 : Option Addr) (c1 : Nat) (l1 : List Int) (r : Bool) (w : World) (hr0 : Kd.C (Kd.int .u8) w A0 l0.length l0) (hc0 : l0.length ≤ c0) (hr1 : Kd.C (Kd.int .u8) w A1 l1.length l1) (hc1 : l1.length ≤ c1) (h : laws_FnTreesAreParentheses.f k l0 l1 = some r) :
  Calls Try.prog 14 #[.slice A0 l0.length c0, .slice A1 l1.length c1] w fun e w' => e = .returned (.bool r) ∧ Below w.heap.size w w' := by
 have hu26 := Try.underlying26
 have hu48 := Try.underlying48
 have HR0 := am22_ hr0
 have HC0 := am22_ hc0
 clear hr0 hc0
 have HR1 := am22_ hr1
 have HC1 := am22_ hc1
 clear hr1 hc1
 have HB := am22_ (Below.refl w.heap.size w)
 have H : ((laws_big.f l0 l1).bind fun t384 => (if t384 = true then (some true) else ((spec_DrawParenthesesOf.f k l0).bind fun t385 => ((impl_ParenthesesOf.f k t385).bind fun bt388 => ((spec_ParenthesesOf.f k t385).bind fun bt394 => (if (bt388.2.2 != bt394.2.2) = true then (none) else ((laws_pSameBits.f k bt388.1 bt388.2.1 bt394.1 bt394.2.1).bind fun t400 => (laws_FnTreesAreParentheses.j0 k t385 bt394.2.2 (!t400) bt388.1 bt388.2.1)))))))) = some r := h
 clear h
 replace H := Option.bind_eq_some_iff.mp H
 obtain ⟨t384, A30, H⟩ := H
 replace H : (if t384 = true then (some true) else ((spec_DrawParenthesesOf.f k l0).bind fun t385 => ((impl_ParenthesesOf.f k t385).bind fun bt388 => ((spec_ParenthesesOf.f k t385).bind fun bt394 => (if (bt388.2.2 != bt394.2.2) = true then (none) else ((laws_pSameBits.f k bt388.1 bt388.2.1 bt394.1 bt394.2.1).bind fun t400 => (laws_FnTreesAreParentheses.j0 k t385 bt394.2.2 (!t400) bt388.1 bt388.2.1))))))) = some r := H
 have A3 := am22_ A30
 clear A30
 by_cases c4 : t384 = true
 ·subst c4
  have H1 : (some true) = some r := by rw [if_pos rfl] at H; exact H
  clear H
  have H := H1
  clear H1
  obtain rfl := Option.some.inj H
  go_enter Try.func14, Try.ntmps14
  go_wp2_with (first | ((with_reducible refine gate_callee (f := 45) rfl ?_); refine goesL_ (some 24) rfl rfl Try.func45 (by kernel_rfl) rfl #[.slice A0 l0.length c0, .slice A1 l1.length c1] rfl lm22_ ?_; (with_reducible refine (laws_big.calls _ _ l0 _ _ l1 true _ ?side1 ?side2 ?side3 ?side4 A3.out).mono ?_); (case side1 => exact lc22_ HR0.out); (case side2 => exact HC0.out); (case side3 => exact lc22_ HR1.out); (case side4 => exact HC1.out); rintro e w' ⟨rfl, ⟨nd, rfl⟩⟩; refine ⟨_, rfl, ?_⟩))
  go_ret
  exact ⟨by first | rfl | (simp [errW_none, errW_some] <;> rfl) | (simp [*, errW_none, errW_some] <;> rfl), lw22_ HB⟩
 ·replace c4 := Bool.eq_false_iff.mpr c4
  subst c4
  have H1 : ((spec_DrawParenthesesOf.f k l0).bind fun t385 => ((impl_ParenthesesOf.f k t385).bind fun bt388 => ((spec_ParenthesesOf.f k t385).bind fun bt394 => (if (bt388.2.2 != bt394.2.2) = true then (none) else ((laws_pSameBits.f k bt388.1 bt388.2.1 bt394.1 bt394.2.1).bind fun t400 => (laws_FnTreesAreParentheses.j0 k t385 bt394.2.2 (!t400) bt388.1 bt388.2.1)))))) = some r := by rw [if_neg (show ¬ (false = true) by decide)] at H; exact H
  clear H
  have H := H1
  clear H1
  replace H := Option.bind_eq_some_iff.mp H
  obtain ⟨t385, A50, H⟩ := H
  replace H : ((impl_ParenthesesOf.f k t385).bind fun bt388 => ((spec_ParenthesesOf.f k t385).bind fun bt394 => (if (bt388.2.2 != bt394.2.2) = true then (none) else ((laws_pSameBits.f k bt388.1 bt388.2.1 bt394.1 bt394.2.1).bind fun t400 => (laws_FnTreesAreParentheses.j0 k t385 bt394.2.2 (!t400) bt388.1 bt388.2.1))))) = some r := H
  have A5 := am22_ A50
  clear A50
  replace H := Option.bind_eq_some_iff.mp H
  obtain ⟨⟨t388, t389, t392⟩, A60, H⟩ := H
  replace H : ((spec_ParenthesesOf.f k t385).bind fun bt394 => (if (t392 != bt394.2.2) = true then (none) else ((laws_pSameBits.f k t388 t389 bt394.1 bt394.2.1).bind fun t400 => (laws_FnTreesAreParentheses.j0 k t385 bt394.2.2 (!t400) t388 t389)))) = some r := H
  have A6 := am22_ A60
  clear A60
  replace H := Option.bind_eq_some_iff.mp H
  obtain ⟨⟨t394, t395, t398⟩, A70, H⟩ := H
  replace H : (if (t392 != t398) = true then (none) else ((laws_pSameBits.f k t388 t389 t394 t395).bind fun t400 => (laws_FnTreesAreParentheses.j0 k t385 t398 (!t400) t388 t389))) = some r := H
  have A7 := am22_ A70
  clear A70
  have HC8 := am22_ H
  clear H
  go_enter Try.func14, Try.ntmps14
  go_upto_region 6 with (first | ((with_reducible refine gate_callee (f := 45) rfl ?_); refine goesL_ (some 24) rfl rfl Try.func45 (by kernel_rfl) rfl #[.slice A0 l0.length c0, .slice A1 l1.length c1] rfl lm22_ ?_; (with_reducible refine (laws_big.calls _ _ l0 _ _ l1 false _ ?side1 ?side2 ?side3 ?side4 A3.out).mono ?_); (case side1 => exact lc22_ HR0.out); (case side2 => exact HC0.out); (case side3 => exact lc22_ HR1.out); (case side4 => exact HC1.out); rintro e w' ⟨rfl, ⟨nd, rfl⟩⟩; refine ⟨_, rfl, ?_⟩) | ((with_reducible refine gate_callee (f := 57) rfl ?_); refine goesL_ (some 26) rfl rfl Try.func57 (by kernel_rfl) rfl #[.slice A0 l0.length c0] rfl lm22_ ?_; (with_reducible refine (spec_DrawParenthesesOf.calls k _ _ l0 t385 _ ?side1 ?side2 A5.out).mono ?_); (case side1 => exact lc22_ HR0.out); (case side2 => exact HC0.out); rintro e w9 ⟨v386, rfl, ho0, hb⟩; refine ⟨_, rfl, ?_⟩; have n0_ := am22_ (Kd.R_lower ho0 (below_size (lw22_ HB))); have n1_ := am22_ (below_step (lw22_ HB) hb); clear HB; have HO387 := n0_; have HB := n1_; clear n0_ n1_; (try clear hb); (try clear hb2); (try clear hk); (try clear hi); (try clear ho0); obtain ⟨Ao10, co10, eo10⟩ := Kd.R_slice HO387.out; subst eo10) | ((with_reducible refine gate_callee (f := 31) rfl ?_); refine goesL_ (some 29) rfl rfl Try.func31 (by kernel_rfl) rfl #[.slice Ao10 t385.length co10] rfl lm22_ ?_; (with_reducible refine (impl_ParenthesesOf.calls k _ _ t385 t388 t389 t392 _ ?side1 ?side2 A6.out).mono ?_); (case side1 => exact lc22_ (Kd.R_reads' HO387.out).2.2); (case side2 => exact (Kd.R_reads' HO387.out).2.1); rintro e w11 ⟨v390, rfl, ho0, hb⟩; refine ⟨_, rfl, ?_⟩; have n0_ := am22_ (Kd.R_elder' (lf22_ HO387) (Kd.R_base ho0) hb); have n1_ := am22_ (Kd.R_lower (Kd.R_new' ho0 (Kd.R_lt (lf22_ HO387))) (below_size (lw22_ HB))); have n2_ := am22_ (below_step (lw22_ HB) hb); clear HO387; clear HB; have HO387 := n0_; have HO391 := n1_; have HB := n2_; clear n0_ n1_ n2_; (try clear hb); (try clear hb2); (try clear hk); (try clear hi); (try clear ho0)) | ((with_reducible refine gate_dst (N := 6) rfl ?_); (try (refine gate_guard (by rfl) ?_; dsimp only)); refine box_event ?hg (N := 6) ?hd (cs := #[.int .i64 0, .slice none 0 0]) (t := 26) ?hr ?_; (case hd => rfl); (case hg => rfl); (case hr => first | (go_simp; done) | (go_simp; rfl)); intro gb393 hg w12 hbox hb; have n0_ := am22_ (Kd.R_below (lf22_ HO387) hb); have n1_ := am22_ (Kd.R_below (lf22_ HO391) hb); have n2_ := am22_ (below_step (lw22_ HB) hb); have n3_ := am22_ (hbox); have n4_ := am22_ ((by rw [hg]; exact (below_size (lw22_ HB)) : w.heap.size ≤ gb393)); have n5_ := am22_ ((by rw [hg]; exact (below_size (lw22_ HB)) : w.heap.size ≤ gb393)); clear HO387; clear HO391; clear HB; have HO387 := n0_; have HO391 := n1_; have HB := n2_; have BK393 := n3_; have GW393 := n4_; have GE393 := n5_; clear n0_ n1_ n2_ n3_ n4_ n5_; clear hb hbox hg; have hcz13_0 : w12.cell? ⟨gb393, 0, none⟩ = some (.int .i64 0) := (blk_cell BK393.out 0).trans rfl; have hcz13_1 : w12.cell? ⟨gb393, 1, none⟩ = some (.slice none 0 0) := (blk_cell BK393.out 1).trans rfl; have hfz13_0 := blk_frozen BK393.out 0; have hfz13_1 := blk_frozen BK393.out 1; obtain ⟨Ao14, co14, eo14⟩ := Kd.R_slice HO391.out; subst eo14) | ((with_reducible refine gate_callee (f := 29) rfl ?_); refine goesL_ (some 34) rfl rfl Try.func29 (by kernel_rfl) rfl #[.slice Ao10 t385.length co10] rfl lm22_ ?_; (with_reducible refine (spec_ParenthesesOf.calls k _ _ t385 t394 t395 t398 _ ?side1 ?side2 A7.out).mono ?_); (case side1 => refine (Kd.R_reads' (e := 3) (base := w.heap.size) (ok := fun k_ => (True ∧ some k_ ≠ (.slice Ao14 t389.length co14 : Value).ownBlock)) (n := t385.length) (c := co10) ?_).2.2; exact (lt22_ (Kd.R_mono (Kd.R_far (p := ⟨gb393, 1, none⟩) (Kd.R_far (p := ⟨gb393, 0, none⟩) (Kd.R_types HO387.out BK393.out (by decide)) (fun _ hk => hk.2) (.int .i64 t388)) (fun _ hk => hk.2) (.slice Ao14 t389.length co14)) (fun _ h_ => h_.1)))); (case side2 => exact (Kd.R_reads' HO387.out).2.1); rintro e w15 ⟨v396, rfl, ho0, hb⟩; refine ⟨_, rfl, ?_⟩; have n0_ := am22_ (Kd.R_elder' (lt22_ (Kd.R_mono (Kd.R_far (p := ⟨gb393, 1, none⟩) (Kd.R_far (p := ⟨gb393, 0, none⟩) (Kd.R_types HO387.out BK393.out (by decide)) (fun _ hk => hk.2) (.int .i64 t388)) (fun _ hk => hk.2) (.slice Ao14 t389.length co14)) (fun _ h_ => h_.1))) (Kd.R_base ho0) hb); have n1_ := am22_ (Kd.R_elder' (lt22_ (Kd.R_mono (Kd.R_far (p := ⟨gb393, 1, none⟩) (Kd.R_far (p := ⟨gb393, 0, none⟩) (Kd.R_types HO391.out BK393.out (by decide)) (fun _ hk => hk.2) (.int .i64 t388)) (fun _ hk => hk.2) (.slice Ao14 t389.length co14)) (fun _ h_ => h_.1))) (Kd.R_base ho0) hb); have n2_ := am22_ (Kd.R_lower (Kd.R_new' (Kd.R_new' ho0 (Kd.R_lt (lt22_ (Kd.R_mono (Kd.R_far (p := ⟨gb393, 1, none⟩) (Kd.R_far (p := ⟨gb393, 0, none⟩) (Kd.R_types HO387.out BK393.out (by decide)) (fun _ hk => hk.2) (.int .i64 t388)) (fun _ hk => hk.2) (.slice Ao14 t389.length co14)) (fun _ h_ => h_.1))))) (Kd.R_lt (lt22_ (Kd.R_mono (Kd.R_far (p := ⟨gb393, 1, none⟩) (Kd.R_far (p := ⟨gb393, 0, none⟩) (Kd.R_types HO391.out BK393.out (by decide)) (fun _ hk => hk.2) (.int .i64 t388)) (fun _ hk => hk.2) (.slice Ao14 t389.length co14)) (fun _ h_ => h_.1))))) (below_size (lw22_ HB))); have n3_ := am22_ (blk_below (g := gb393) (o := .cells #[.int .i64 t388, .slice Ao14 t389.length co14] 26 (0, 0)) (by (with_reducible repeat (first | refine blk_drewN ?_ _ | refine blk_drew ?_ | refine blk_alloc ?_ _)); refine blk_put (cs := #[.int .i64 t388, .slice none 0 0]) ?_ 1 _ rfl; (with_reducible repeat (first | refine blk_drewN ?_ _ | refine blk_drew ?_ | refine blk_alloc ?_ _)); refine blk_put (cs := #[.int .i64 0, .slice none 0 0]) ?_ 0 _ rfl; (with_reducible repeat (first | refine blk_drewN ?_ _ | refine blk_drew ?_ | refine blk_alloc ?_ _)); exact BK393.out) hb); have n4_ := am22_ (below_step (lw22_ HB) hb); clear HO387; clear HO391; clear BK393; clear HB; have HO387 := n0_; have HO391 := n1_; have HO397 := n2_; have BK393 := n3_; have HB := n4_; clear n0_ n1_ n2_ n3_ n4_; (try clear hb); (try clear hb2); (try clear hk); (try clear hi); (try clear ho0)) | ((with_reducible refine gate_dst (N := 8) rfl ?_); (try (refine gate_guard (by rfl) ?_; dsimp only)); refine box_event ?hg (N := 8) ?hd (cs := #[.int .i64 0, .slice none 0 0]) (t := 26) ?hr ?_; (case hd => rfl); (case hg => rfl); (case hr => first | (go_simp; done) | (go_simp; rfl)); intro gb399 hg w16 hbox hb; have n0_ := am22_ (Kd.R_below (lf22_ HO387) hb); have n1_ := am22_ (Kd.R_below (lf22_ HO391) hb); have n2_ := am22_ (Kd.R_below (lf22_ HO397) hb); have n3_ := am22_ (blk_below (g := gb393) (o := .cells #[.int .i64 t388, .slice Ao14 t389.length co14] 26 (0, 0)) (lb22_ BK393) hb); have n4_ := am22_ (below_step (lw22_ HB) hb); have n5_ := am22_ (hbox); have n6_ := am22_ ((by rw [hg]; exact (below_size (lw22_ HB)) : w.heap.size ≤ gb399)); have n7_ := am22_ ((by rw [hg]; exact (below_size (lw22_ HB)) : w.heap.size ≤ gb399)); have n8_ := am22_ ((by rw [hg]; exact Nat.ne_of_lt (blk_lt (g := gb393) (lb22_ BK393)) : gb393 ≠ gb399)); have n9_ := am22_ ((by rw [hg]; exact Nat.ne_of_gt (blk_lt (g := gb393) (lb22_ BK393)) : gb399 ≠ gb393)); clear HO387; clear HO391; clear HO397; clear BK393; clear HB; have HO387 := n0_; have HO391 := n1_; have HO397 := n2_; have BK393 := n3_; have HB := n4_; have BK399 := n5_; have GW399 := n6_; have GE399 := n7_; have NB393_399 := n8_; have NB399_393 := n9_; clear n0_ n1_ n2_ n3_ n4_ n5_ n6_ n7_ n8_ n9_; clear hb hbox hg; have hnb17 := NB399_393.out; have hnc17 := NB393_399.out; have hcz18_0 : w16.cell? ⟨gb399, 0, none⟩ = some (.int .i64 0) := (blk_cell BK399.out 0).trans rfl; have hcz18_1 : w16.cell? ⟨gb399, 1, none⟩ = some (.slice none 0 0) := (blk_cell BK399.out 1).trans rfl; have hfz18_0 := blk_frozen BK399.out 0; have hfz18_1 := blk_frozen BK399.out 1; obtain ⟨Ao19, co19, eo19⟩ := Kd.R_slice HO397.out; subst eo19))
  (try simp only [Act.put, List.setIfInBounds_toArray, List.set_cons_zero, List.set_cons_succ])
  go_cut [45] (fun v45 wc => ∃ (kq : Nat) (x45_7 : Bool), v45 = .bool x45_7 ∧ Aside0 (laws_FnTreesAreParentheses.j0 kq t385 t398 x45_7 t388 t389 = some r) ∧ Aside0 (kq ≤ k) ∧ Aside0 (Kd.R (Kd.int .i64) 3 wc w.heap.size (fun k_ => some k_ ≠ ((.slice Ao14 t389.length co14) : Value).ownBlock ∧ some k_ ≠ ((.slice Ao19 t395.length co19) : Value).ownBlock) (.slice Ao10 t385.length co10) t385) ∧ Aside0 (Kd.R (Kd.int .i64) 3 wc w.heap.size (fun k_ => some k_ ≠ ((.slice Ao10 t385.length co10) : Value).ownBlock ∧ some k_ ≠ ((.slice Ao19 t395.length co19) : Value).ownBlock) (.slice Ao14 t389.length co14) t389) ∧ Aside0 (Kd.R (Kd.int .i64) 3 wc w.heap.size (fun k_ => some k_ ≠ ((.slice Ao10 t385.length co10) : Value).ownBlock ∧ some k_ ≠ ((.slice Ao14 t389.length co14) : Value).ownBlock) (.slice Ao19 t395.length co19) t395) ∧ Aside0 (wc.heap[gb393]? = some (.cells #[.int .i64 t388, (.slice Ao14 t389.length co14)] 26 (0, 0))) ∧ Aside0 (wc.heap[gb399]? = some (.cells #[.int .i64 t394, (.slice Ao19 t395.length co19)] 26 (0, 0))) ∧ Aside0 (Below w.heap.size w wc))
  case first =>
   have H := HC8.out
   clear HC8
   by_cases c20 : (t392 != t398) = true
   ·rw [if_pos c20] at H
    exact absurd H (by simp)
   ·rw [if_neg c20] at H
    have c20b0 : (t392 != t398) = false := by simpa using c20
    (try (have c20b1 : decide (t392 = t398) = true := by simpa using c20))
    (try (have c20b2 : (t392 == t398) = true := by simpa using c20))
    clear c20
    (first | rw [c20b0] | (simp only [i64_w, i32_w]; rw [c20b0]) | skip)
    replace H := Option.bind_eq_some_iff.mp H
    obtain ⟨t400, A210, H⟩ := H
    replace H : (laws_FnTreesAreParentheses.j0 k t385 t398 (!t400) t388 t389) = some r := H
    have A21 := am22_ A210
    clear A210
    have H' := am22_ H
    clear H
    have hnb22 := NB393_399.out
    have hnc22 := NB399_393.out
    have hcz23_0 : w16.cell? ⟨gb393, 0, none⟩ = some (.int .i64 t388) := (blk_cell BK393.out 0).trans rfl
    have hcz23_1 : w16.cell? ⟨gb393, 1, none⟩ = some (.slice Ao14 t389.length co14) := (blk_cell BK393.out 1).trans rfl
    have hfz23_0 := blk_frozen BK393.out 0
    have hfz23_1 := blk_frozen BK393.out 1
    have hcz24_0 : w16.cell? ⟨gb399, 0, none⟩ = some (.int .i64 0) := (blk_cell BK399.out 0).trans rfl
    have hcz24_1 : w16.cell? ⟨gb399, 1, none⟩ = some (.slice none 0 0) := (blk_cell BK399.out 1).trans rfl
    have hfz24_0 := blk_frozen BK399.out 0
    have hfz24_1 := blk_frozen BK399.out 1
    go_wp2_with (first | (go_at_call 47; (with_reducible refine (laws_pSameBits.calls k t388 _ _ t389 t394 _ _ t395 t400 _ ?side1 ?side2 ?side3 ?side4 A21.out).mono ?_); (case side1 => refine (Kd.R_reads' (e := 3) (base := w.heap.size) (ok := fun k_ => ((True ∧ some k_ ≠ (.slice Ao10 t385.length co10 : Value).ownBlock) ∧ some k_ ≠ (.slice Ao19 t395.length co19 : Value).ownBlock)) (n := t389.length) (c := co14) ?_).2.2; exact (lt22_ (Kd.R_mono (Kd.R_far (p := ⟨gb399, 1, none⟩) (Kd.R_far (p := ⟨gb399, 0, none⟩) (Kd.R_types HO391.out BK399.out (by decide)) (fun _ hk => hk.2) (.int .i64 t394)) (fun _ hk => hk.2) (.slice Ao19 t395.length co19)) (fun _ h_ => h_.1)))); (case side2 => exact (Kd.R_reads' HO391.out).2.1); (case side3 => refine (Kd.R_reads' (e := 3) (base := w.heap.size) (ok := fun k_ => ((True ∧ some k_ ≠ (.slice Ao10 t385.length co10 : Value).ownBlock) ∧ some k_ ≠ (.slice Ao14 t389.length co14 : Value).ownBlock)) (n := t395.length) (c := co19) ?_).2.2; exact (lt22_ (Kd.R_mono (Kd.R_far (p := ⟨gb399, 1, none⟩) (Kd.R_far (p := ⟨gb399, 0, none⟩) (Kd.R_types HO397.out BK399.out (by decide)) (fun _ hk => hk.2) (.int .i64 t394)) (fun _ hk => hk.2) (.slice Ao19 t395.length co19)) (fun _ h_ => h_.1)))); (case side4 => exact (Kd.R_reads' HO397.out).2.1); rintro e w25 ⟨rfl, hb⟩; have n0_ := am22_ (Kd.R_below (lt22_ (Kd.R_mono (Kd.R_far (p := ⟨gb399, 1, none⟩) (Kd.R_far (p := ⟨gb399, 0, none⟩) (Kd.R_types HO387.out BK399.out (by decide)) (fun _ hk => hk.2) (.int .i64 t394)) (fun _ hk => hk.2) (.slice Ao19 t395.length co19)) (fun _ h_ => h_.1))) hb); have n1_ := am22_ (Kd.R_below (lt22_ (Kd.R_mono (Kd.R_far (p := ⟨gb399, 1, none⟩) (Kd.R_far (p := ⟨gb399, 0, none⟩) (Kd.R_types HO391.out BK399.out (by decide)) (fun _ hk => hk.2) (.int .i64 t394)) (fun _ hk => hk.2) (.slice Ao19 t395.length co19)) (fun _ h_ => h_.1))) hb); have n2_ := am22_ (Kd.R_below (lt22_ (Kd.R_mono (Kd.R_far (p := ⟨gb399, 1, none⟩) (Kd.R_far (p := ⟨gb399, 0, none⟩) (Kd.R_types HO397.out BK399.out (by decide)) (fun _ hk => hk.2) (.int .i64 t394)) (fun _ hk => hk.2) (.slice Ao19 t395.length co19)) (fun _ h_ => h_.1))) hb); have n3_ := am22_ (blk_below (g := gb393) (o := .cells #[.int .i64 t388, .slice Ao14 t389.length co14] 26 (0, 0)) (by (with_reducible repeat (first | refine blk_drewN ?_ _ | refine blk_drew ?_ | refine blk_alloc ?_ _)); refine blk_far ?_ NB393_399.out _; (with_reducible repeat (first | refine blk_drewN ?_ _ | refine blk_drew ?_ | refine blk_alloc ?_ _)); refine blk_far ?_ NB393_399.out _; (with_reducible repeat (first | refine blk_drewN ?_ _ | refine blk_drew ?_ | refine blk_alloc ?_ _)); exact BK393.out) hb); have n4_ := am22_ (blk_below (g := gb399) (o := .cells #[.int .i64 t394, .slice Ao19 t395.length co19] 26 (0, 0)) (by (with_reducible repeat (first | refine blk_drewN ?_ _ | refine blk_drew ?_ | refine blk_alloc ?_ _)); refine blk_put (cs := #[.int .i64 t394, .slice none 0 0]) ?_ 1 _ rfl; (with_reducible repeat (first | refine blk_drewN ?_ _ | refine blk_drew ?_ | refine blk_alloc ?_ _)); refine blk_put (cs := #[.int .i64 0, .slice none 0 0]) ?_ 0 _ rfl; (with_reducible repeat (first | refine blk_drewN ?_ _ | refine blk_drew ?_ | refine blk_alloc ?_ _)); exact BK399.out) hb); have n5_ := am22_ (below_step (lw22_ HB) hb); clear HO387; clear HO391; clear HO397; clear BK393; clear BK399; clear HB; have HO387 := n0_; have HO391 := n1_; have HO397 := n2_; have BK393 := n3_; have BK399 := n4_; have HB := n5_; clear n0_ n1_ n2_ n3_ n4_ n5_; (try clear hb); (try clear hb2); (try clear hk); (try clear hi)))
    go_meet
    case rel => exact ⟨_, (!t400), (by first | rfl | (simp; done) | (simp [*]; done)), H', ⟨by first | omega | exact Nat.le_refl _⟩, ⟨by (with_reducible repeat (first | apply Kd.R_alloc | apply Kd.R_drewN | apply Kd.R_drew)); exact Kd.R_mono HO387.out (fun _ hk => ⟨hk.1.2, hk.2⟩)⟩, ⟨by (with_reducible repeat (first | apply Kd.R_alloc | apply Kd.R_drewN | apply Kd.R_drew)); exact Kd.R_mono HO391.out (fun _ hk => ⟨hk.1.2, hk.2⟩)⟩, ⟨by (with_reducible repeat (first | apply Kd.R_alloc | apply Kd.R_drewN | apply Kd.R_drew)); exact Kd.R_mono HO397.out (fun _ hk => ⟨hk.1.2, hk.2⟩)⟩, ⟨lb22_ BK393⟩, ⟨lb22_ BK399⟩, ⟨lw22_ HB⟩⟩
  case rest =>
   clear HC8
   try clear c1
   try clear c2
   try clear p2
   try clear c3
   try clear c4
   try clear c5
   try clear c14
   try clear c17
   try clear c20
   try clear c20b0
   try clear c20b1
   try clear c20b2
   try clear c22
   try clear hcz13_0
   try clear hcz13_1
   try clear hcz18_0
   try clear hcz18_1
   try clear hcz23_0
   try clear hcz23_1
   try clear hcz24_0
   try clear hcz24_1
   try clear hfz13_0
   try clear hfz13_1
   try clear hfz18_0
   try clear hfz18_1
   try clear hfz23_0
   try clear hfz23_1
   try clear hfz24_0
   try clear hfz24_1
   obtain ⟨kq, x45_7, rfl, HA, HJ7, HO_5, HO_394001, HO_400001, BK393, BK399, HB⟩ := hcut
   cases kq with
   | zero => exact absurd HA.out (by simp [laws_FnTreesAreParentheses.j0])
   | succ kj7 =>
    have H := HA.out
    clear HA
    simp only [laws_FnTreesAreParentheses.j0] at H
    by_cases c26 : x45_7 = true
    ·subst c26
     have H1 : (none) = some r := by rw [if_pos rfl] at H; exact H
     clear H
     have H := H1
     clear H1
     exact absurd H (by simp)
    ·replace c26 := Bool.eq_false_iff.mpr c26
     subst c26
     have H1 : (if t398 = true then ((impl_ParentsOf.f kj7 t388 t389).bind fun bt401 => ((impl_BuildRanked.f kj7 t388 t389).bind fun bt405 => (if bt401.2 = true then (if bt405.2.2.2.2 = true then ((laws_pSameInts.f kj7 bt401.1 t385).bind fun t417 => (if t417 = true then (laws_FnTreesAreParentheses.j1 kj7 t385 (t388 != (wrap64 (2 * (t385.length : Int)))) t388 t389 bt405.1 bt405.2.1 bt405.2.2.1 bt405.2.2.2.1) else (none))) else (none)) else (none)))) else (some true)) = some r := by rw [if_neg (show ¬ (false = true) by decide)] at H; exact H
     clear H
     have H := H1
     clear H1
     by_cases c27 : t398 = true
     ·subst c27
      have H1 : ((impl_ParentsOf.f kj7 t388 t389).bind fun bt401 => ((impl_BuildRanked.f kj7 t388 t389).bind fun bt405 => (if bt401.2 = true then (if bt405.2.2.2.2 = true then ((laws_pSameInts.f kj7 bt401.1 t385).bind fun t417 => (if t417 = true then (laws_FnTreesAreParentheses.j1 kj7 t385 (t388 != (wrap64 (2 * (t385.length : Int)))) t388 t389 bt405.1 bt405.2.1 bt405.2.2.1 bt405.2.2.2.1) else (none))) else (none)) else (none)))) = some r := by rw [if_pos rfl] at H; exact H
      clear H
      have H := H1
      clear H1
      replace H := Option.bind_eq_some_iff.mp H
      obtain ⟨⟨t401, t404⟩, A280, H⟩ := H
      replace H : ((impl_BuildRanked.f kj7 t388 t389).bind fun bt405 => (if t404 = true then (if bt405.2.2.2.2 = true then ((laws_pSameInts.f kj7 t401 t385).bind fun t417 => (if t417 = true then (laws_FnTreesAreParentheses.j1 kj7 t385 (t388 != (wrap64 (2 * (t385.length : Int)))) t388 t389 bt405.1 bt405.2.1 bt405.2.2.1 bt405.2.2.2.1) else (none))) else (none)) else (none))) = some r := H
      have A28 := am22_ A280
      clear A280
      replace H := Option.bind_eq_some_iff.mp H
      obtain ⟨⟨t405, t406, t409, t412, t415⟩, A290, H⟩ := H
      replace H : (if t404 = true then (if t415 = true then ((laws_pSameInts.f kj7 t401 t385).bind fun t417 => (if t417 = true then (laws_FnTreesAreParentheses.j1 kj7 t385 (t388 != (wrap64 (2 * (t385.length : Int)))) t388 t389 t405 t406 t409 t412) else (none))) else (none)) else (none)) = some r := H
      have A29 := am22_ A290
      clear A290
      have HC30 := am22_ H
      clear H
      have hnb31 := NB393_399.out
      have hnc31 := NB399_393.out
      have hcz32_0 : wc.cell? ⟨gb393, 0, none⟩ = some (.int .i64 t388) := (blk_cell BK393.out 0).trans rfl
      have hcz32_1 : wc.cell? ⟨gb393, 1, none⟩ = some (.slice Ao14 t389.length co14) := (blk_cell BK393.out 1).trans rfl
      have hfz32_0 := blk_frozen BK393.out 0
      have hfz32_1 := blk_frozen BK393.out 1
      go_upto_region 12 with (first | ((with_reducible refine gate_callee (f := 58) rfl ?_); refine goesL_ (some 50) rfl rfl Try.func58 (by kernel_rfl) rfl #[.agg #[.int .i64 t388, .slice Ao14 t389.length co14]] rfl lm22_ ?_; (with_reducible refine (impl_ParentsOf.calls kj7 t388 _ _ t389 t401 t404 _ ?side1 ?side2 A28.out).mono ?_); (case side1 => exact lc22_ (Kd.R_reads' HO_394001.out).2.2); (case side2 => exact (Kd.R_reads' HO_394001.out).2.1); rintro e w33 ⟨v402, rfl, ho0, hb⟩; refine ⟨_, rfl, ?_⟩; have n0_ := am22_ (Kd.R_elder' (lf22_ HO_5) (Kd.R_base ho0) hb); have n1_ := am22_ (Kd.R_elder' (lf22_ HO_394001) (Kd.R_base ho0) hb); have n2_ := am22_ (Kd.R_elder' (lf22_ HO_400001) (Kd.R_base ho0) hb); have n3_ := am22_ (Kd.R_lower (Kd.R_new' (Kd.R_new' (Kd.R_new' ho0 (Kd.R_lt (lf22_ HO_5))) (Kd.R_lt (lf22_ HO_394001))) (Kd.R_lt (lf22_ HO_400001))) (below_size (lw22_ HB))); have n4_ := am22_ (blk_below (g := gb393) (o := .cells #[.int .i64 t388, .slice Ao14 t389.length co14] 26 (0, 0)) (lb22_ BK393) hb); have n5_ := am22_ (blk_below (g := gb399) (o := .cells #[.int .i64 t394, .slice Ao19 t395.length co19] 26 (0, 0)) (lb22_ BK399) hb); have n6_ := am22_ (below_step (lw22_ HB) hb); clear HO_5; clear HO_394001; clear HO_400001; clear BK393; clear BK399; clear HB; have HO_5 := n0_; have HO_394001 := n1_; have HO_400001 := n2_; have HO403 := n3_; have BK393 := n4_; have BK399 := n5_; have HB := n6_; clear n0_ n1_ n2_ n3_ n4_ n5_ n6_; (try clear hb); (try clear hb2); (try clear hk); (try clear hi); (try clear ho0); have hcz34_0 : w33.cell? ⟨gb393, 0, none⟩ = some (.int .i64 t388) := (blk_cell BK393.out 0).trans rfl; have hcz34_1 : w33.cell? ⟨gb393, 1, none⟩ = some (.slice Ao14 t389.length co14) := (blk_cell BK393.out 1).trans rfl; have hfz34_0 := blk_frozen BK393.out 0; have hfz34_1 := blk_frozen BK393.out 1) | ((with_reducible refine gate_callee (f := 59) rfl ?_); refine goesL_ (some 55) rfl rfl Try.func59 (by kernel_rfl) rfl #[.agg #[.int .i64 t388, .slice Ao14 t389.length co14]] rfl lm22_ ?_; (with_reducible refine (impl_BuildRanked.calls kj7 t388 _ _ t389 t405 t406 t409 t412 t415 _ ?side1 ?side2 A29.out).mono ?_); (case side1 => exact lc22_ (Kd.R_reads' HO_394001.out).2.2); (case side2 => exact (Kd.R_reads' HO_394001.out).2.1); rintro e w35 ⟨v407, v410, v413, rfl, ho0, ho1, ho2, hb⟩; refine ⟨_, rfl, ?_⟩; have n0_ := am22_ (Kd.R_mono (Kd.R_told (Kd.R_told (Kd.R_told (Kd.R_old (lf22_ HO_5) hb) (Kd.R_base ho0)) (Kd.R_base ho1)) (Kd.R_base ho2)) (fun _ h_ => h_.1)); have n1_ := am22_ (Kd.R_mono (Kd.R_told (Kd.R_told (Kd.R_told (Kd.R_old (lf22_ HO_394001) hb) (Kd.R_base ho0)) (Kd.R_base ho1)) (Kd.R_base ho2)) (fun _ h_ => h_.1)); have n2_ := am22_ (Kd.R_mono (Kd.R_told (Kd.R_told (Kd.R_told (Kd.R_old (lf22_ HO_400001) hb) (Kd.R_base ho0)) (Kd.R_base ho1)) (Kd.R_base ho2)) (fun _ h_ => h_.1)); have n3_ := am22_ (Kd.R_mono (Kd.R_told (Kd.R_told (Kd.R_told (Kd.R_old (lf22_ HO403) hb) (Kd.R_base ho0)) (Kd.R_base ho1)) (Kd.R_base ho2)) (fun _ h_ => h_.1)); have n4_ := am22_ (Kd.R_lower (Kd.R_new' (Kd.R_new' (Kd.R_new' (Kd.R_new' ho0 (Kd.R_lt (lf22_ HO_5))) (Kd.R_lt (lf22_ HO_394001))) (Kd.R_lt (lf22_ HO_400001))) (Kd.R_lt (lf22_ HO403))) (below_size (lw22_ HB))); have n5_ := am22_ (Kd.R_lower (Kd.R_new' (Kd.R_new' (Kd.R_new' (Kd.R_new' ho1 (Kd.R_lt (lf22_ HO_5))) (Kd.R_lt (lf22_ HO_394001))) (Kd.R_lt (lf22_ HO_400001))) (Kd.R_lt (lf22_ HO403))) (below_size (lw22_ HB))); have n6_ := am22_ (Kd.R_lower (Kd.R_new' (Kd.R_new' (Kd.R_new' (Kd.R_new' ho2 (Kd.R_lt (lf22_ HO_5))) (Kd.R_lt (lf22_ HO_394001))) (Kd.R_lt (lf22_ HO_400001))) (Kd.R_lt (lf22_ HO403))) (below_size (lw22_ HB))); have n7_ := am22_ (blk_below (g := gb393) (o := .cells #[.int .i64 t388, .slice Ao14 t389.length co14] 26 (0, 0)) (lb22_ BK393) hb); have n8_ := am22_ (blk_below (g := gb399) (o := .cells #[.int .i64 t394, .slice Ao19 t395.length co19] 26 (0, 0)) (lb22_ BK399) hb); have n9_ := am22_ (below_step (lw22_ HB) hb); clear HO_5; clear HO_394001; clear HO_400001; clear HO403; clear BK393; clear BK399; clear HB; have HO_5 := n0_; have HO_394001 := n1_; have HO_400001 := n2_; have HO403 := n3_; have HO408 := n4_; have HO411 := n5_; have HO414 := n6_; have BK393 := n7_; have BK399 := n8_; have HB := n9_; clear n0_ n1_ n2_ n3_ n4_ n5_ n6_ n7_ n8_ n9_; (try clear hb); (try clear hb2); (try clear hk); (try clear hi); (try clear ho0); (try clear ho1); (try clear ho2)) | ((with_reducible refine gate_dst (N := 12) rfl ?_); (try (refine gate_guard (by rfl) ?_; dsimp only)); refine box_event ?hg (N := 12) ?hd (cs := #[.int .i64 0, .slice none 0 0, .slice none 0 0, .slice none 0 0]) (t := 48) ?hr ?_; (case hd => rfl); (case hg => rfl); (case hr => first | (go_simp; done) | (go_simp; rfl)); intro gb416 hg w36 hbox hb; have n0_ := am22_ (Kd.R_below (lf22_ HO_5) hb); have n1_ := am22_ (Kd.R_below (lf22_ HO_394001) hb); have n2_ := am22_ (Kd.R_below (lf22_ HO_400001) hb); have n3_ := am22_ (Kd.R_below (lf22_ HO403) hb); have n4_ := am22_ (Kd.R_below (lf22_ HO408) hb); have n5_ := am22_ (Kd.R_below (lf22_ HO411) hb); have n6_ := am22_ (Kd.R_below (lf22_ HO414) hb); have n7_ := am22_ (blk_below (g := gb393) (o := .cells #[.int .i64 t388, .slice Ao14 t389.length co14] 26 (0, 0)) (lb22_ BK393) hb); have n8_ := am22_ (blk_below (g := gb399) (o := .cells #[.int .i64 t394, .slice Ao19 t395.length co19] 26 (0, 0)) (lb22_ BK399) hb); have n9_ := am22_ (below_step (lw22_ HB) hb); have n10_ := am22_ (hbox); have n11_ := am22_ ((by rw [hg]; exact (below_size (lw22_ HB)) : w.heap.size ≤ gb416)); have n12_ := am22_ ((by rw [hg]; exact (below_size (lw22_ HB)) : w.heap.size ≤ gb416)); have n13_ := am22_ ((by rw [hg]; exact Nat.ne_of_lt (blk_lt (g := gb393) (lb22_ BK393)) : gb393 ≠ gb416)); have n14_ := am22_ ((by rw [hg]; exact Nat.ne_of_gt (blk_lt (g := gb393) (lb22_ BK393)) : gb416 ≠ gb393)); have n15_ := am22_ ((by rw [hg]; exact Nat.ne_of_lt (blk_lt (g := gb399) (lb22_ BK399)) : gb399 ≠ gb416)); have n16_ := am22_ ((by rw [hg]; exact Nat.ne_of_gt (blk_lt (g := gb399) (lb22_ BK399)) : gb416 ≠ gb399)); clear HO_5; clear HO_394001; clear HO_400001; clear HO403; clear HO408; clear HO411; clear HO414; clear BK393; clear BK399; clear HB; have HO_5 := n0_; have HO_394001 := n1_; have HO_400001 := n2_; have HO403 := n3_; have HO408 := n4_; have HO411 := n5_; have HO414 := n6_; have BK393 := n7_; have BK399 := n8_; have HB := n9_; have BK416 := n10_; have GW416 := n11_; have GE416 := n12_; have NB393_416 := n13_; have NB416_393 := n14_; have NB399_416 := n15_; have NB416_399 := n16_; clear n0_ n1_ n2_ n3_ n4_ n5_ n6_ n7_ n8_ n9_ n10_ n11_ n12_ n13_ n14_ n15_ n16_; clear hb hbox hg; have hnb37 := NB416_393.out; have hnc37 := NB393_416.out; have hnb38 := NB416_399.out; have hnc38 := NB399_416.out; have hcz39_0 : w36.cell? ⟨gb416, 0, none⟩ = some (.int .i64 0) := (blk_cell BK416.out 0).trans rfl; have hcz39_1 : w36.cell? ⟨gb416, 1, none⟩ = some (.slice none 0 0) := (blk_cell BK416.out 1).trans rfl; have hcz39_2 : w36.cell? ⟨gb416, 2, none⟩ = some (.slice none 0 0) := (blk_cell BK416.out 2).trans rfl; have hcz39_3 : w36.cell? ⟨gb416, 3, none⟩ = some (.slice none 0 0) := (blk_cell BK416.out 3).trans rfl; have hfz39_0 := blk_frozen BK416.out 0; have hfz39_1 := blk_frozen BK416.out 1; have hfz39_2 := blk_frozen BK416.out 2; have hfz39_3 := blk_frozen BK416.out 3; obtain ⟨Ao40, co40, eo40⟩ := Kd.R_slice HO408.out; subst eo40; obtain ⟨Ao41, co41, eo41⟩ := Kd.R_slice HO411.out; subst eo41; obtain ⟨Ao42, co42, eo42⟩ := Kd.R_slice HO414.out; subst eo42))
      (try simp only [Act.put, List.setIfInBounds_toArray, List.set_cons_zero, List.set_cons_succ])
      go_cut [77] (fun v77 wc => ∃ (kq : Nat) (x77_29 : Bool), v77 = .bool x77_29 ∧ Aside0 (laws_FnTreesAreParentheses.j1 kq t385 x77_29 t388 t389 t405 t406 t409 t412 = some r) ∧ Aside0 (kq ≤ kj7) ∧ Aside0 (Kd.R (Kd.int .i64) 3 wc w.heap.size (fun k_ => some k_ ≠ ((.slice Ao14 t389.length co14) : Value).ownBlock ∧ some k_ ≠ ((.slice Ao19 t395.length co19) : Value).ownBlock ∧ some k_ ≠ ((.slice Ao40 t406.length co40) : Value).ownBlock ∧ some k_ ≠ ((.slice Ao41 t409.length co41) : Value).ownBlock ∧ some k_ ≠ ((.slice Ao42 t412.length co42) : Value).ownBlock) (.slice Ao10 t385.length co10) t385) ∧ Aside0 (Kd.R (Kd.int .i64) 3 wc w.heap.size (fun k_ => some k_ ≠ ((.slice Ao10 t385.length co10) : Value).ownBlock ∧ some k_ ≠ ((.slice Ao19 t395.length co19) : Value).ownBlock ∧ some k_ ≠ ((.slice Ao40 t406.length co40) : Value).ownBlock ∧ some k_ ≠ ((.slice Ao41 t409.length co41) : Value).ownBlock ∧ some k_ ≠ ((.slice Ao42 t412.length co42) : Value).ownBlock) (.slice Ao14 t389.length co14) t389) ∧ Aside0 (Kd.R (Kd.int .i64) 3 wc w.heap.size (fun k_ => some k_ ≠ ((.slice Ao10 t385.length co10) : Value).ownBlock ∧ some k_ ≠ ((.slice Ao14 t389.length co14) : Value).ownBlock ∧ some k_ ≠ ((.slice Ao40 t406.length co40) : Value).ownBlock ∧ some k_ ≠ ((.slice Ao41 t409.length co41) : Value).ownBlock ∧ some k_ ≠ ((.slice Ao42 t412.length co42) : Value).ownBlock) (.slice Ao19 t395.length co19) t395) ∧ Aside0 (Kd.R (Kd.int .i64) 3 wc w.heap.size (fun k_ => some k_ ≠ ((.slice Ao10 t385.length co10) : Value).ownBlock ∧ some k_ ≠ ((.slice Ao14 t389.length co14) : Value).ownBlock ∧ some k_ ≠ ((.slice Ao19 t395.length co19) : Value).ownBlock ∧ some k_ ≠ ((.slice Ao41 t409.length co41) : Value).ownBlock ∧ some k_ ≠ ((.slice Ao42 t412.length co42) : Value).ownBlock) (.slice Ao40 t406.length co40) t406) ∧ Aside0 (Kd.R (Kd.int .i64) 3 wc w.heap.size (fun k_ => some k_ ≠ ((.slice Ao10 t385.length co10) : Value).ownBlock ∧ some k_ ≠ ((.slice Ao14 t389.length co14) : Value).ownBlock ∧ some k_ ≠ ((.slice Ao19 t395.length co19) : Value).ownBlock ∧ some k_ ≠ ((.slice Ao40 t406.length co40) : Value).ownBlock ∧ some k_ ≠ ((.slice Ao42 t412.length co42) : Value).ownBlock) (.slice Ao41 t409.length co41) t409) ∧ Aside0 (Kd.R (Kd.int .i64) 3 wc w.heap.size (fun k_ => some k_ ≠ ((.slice Ao10 t385.length co10) : Value).ownBlock ∧ some k_ ≠ ((.slice Ao14 t389.length co14) : Value).ownBlock ∧ some k_ ≠ ((.slice Ao19 t395.length co19) : Value).ownBlock ∧ some k_ ≠ ((.slice Ao40 t406.length co40) : Value).ownBlock ∧ some k_ ≠ ((.slice Ao41 t409.length co41) : Value).ownBlock) (.slice Ao42 t412.length co42) t412) ∧ Aside0 (wc.heap[gb393]? = some (.cells #[.int .i64 t388, (.slice Ao14 t389.length co14)] 26 (0, 0))) ∧ Aside0 (wc.heap[gb399]? = some (.cells #[.int .i64 t394, (.slice Ao19 t395.length co19)] 26 (0, 0))) ∧ Aside0 (wc.heap[gb416]? = some (.cells #[.int .i64 t405, (.slice Ao40 t406.length co40), (.slice Ao41 t409.length co41), (.slice Ao42 t412.length co42)] 48 (0, 0))) ∧ Aside0 (Below w.heap.size w wc))
      case first =>
       have H := HC30.out
       clear HC30
       by_cases c43 : t404 = true
       ·subst c43
        have H1 : (if t415 = true then ((laws_pSameInts.f kj7 t401 t385).bind fun t417 => (if t417 = true then (laws_FnTreesAreParentheses.j1 kj7 t385 (t388 != (wrap64 (2 * (t385.length : Int)))) t388 t389 t405 t406 t409 t412) else (none))) else (none)) = some r := by rw [if_pos rfl] at H; exact H
        clear H
        have H := H1
        clear H1
        by_cases c44 : t415 = true
        ·subst c44
         have H1 : ((laws_pSameInts.f kj7 t401 t385).bind fun t417 => (if t417 = true then (laws_FnTreesAreParentheses.j1 kj7 t385 (t388 != (wrap64 (2 * (t385.length : Int)))) t388 t389 t405 t406 t409 t412) else (none))) = some r := by rw [if_pos rfl] at H; exact H
         clear H
         have H := H1
         clear H1
         replace H := Option.bind_eq_some_iff.mp H
         obtain ⟨t417, A450, H⟩ := H
         replace H : (if t417 = true then (laws_FnTreesAreParentheses.j1 kj7 t385 (t388 != (wrap64 (2 * (t385.length : Int)))) t388 t389 t405 t406 t409 t412) else (none)) = some r := H
         have A45 := am22_ A450
         clear A450
         by_cases c46 : t417 = true
         ·subst c46
          have H1 : (laws_FnTreesAreParentheses.j1 kj7 t385 (t388 != (wrap64 (2 * (t385.length : Int)))) t388 t389 t405 t406 t409 t412) = some r := by rw [if_pos rfl] at H; exact H
          clear H
          have H := H1
          clear H1
          have H' := am22_ H
          clear H
          obtain ⟨Ao47, co47, eo47⟩ := Kd.R_slice HO403.out
          subst eo47
          go_wp2_with (first | (go_at_call 60; (with_reducible refine (laws_pSameInts.calls kj7 _ _ t401 _ _ t385 true _ ?side1 ?side2 ?side3 ?side4 A45.out).mono ?_); (case side1 => refine (Kd.R_reads' (e := 3) (base := w.heap.size) (ok := fun k_ => ((((((True ∧ some k_ ≠ (.slice Ao10 t385.length co10 : Value).ownBlock) ∧ some k_ ≠ (.slice Ao14 t389.length co14 : Value).ownBlock) ∧ some k_ ≠ (.slice Ao19 t395.length co19 : Value).ownBlock) ∧ some k_ ≠ (.slice Ao40 t406.length co40 : Value).ownBlock) ∧ some k_ ≠ (.slice Ao41 t409.length co41 : Value).ownBlock) ∧ some k_ ≠ (.slice Ao42 t412.length co42 : Value).ownBlock)) (n := t401.length) (c := co47) ?_).2.2; exact (lt22_ (Kd.R_mono (Kd.R_far (p := ⟨gb416, 3, none⟩) (Kd.R_far (p := ⟨gb416, 2, none⟩) (Kd.R_far (p := ⟨gb416, 1, none⟩) (Kd.R_far (p := ⟨gb416, 0, none⟩) (Kd.R_types HO403.out BK416.out (by decide)) (fun _ hk => hk.2) (.int .i64 t405)) (fun _ hk => hk.2) (.slice Ao40 t406.length co40)) (fun _ hk => hk.2) (.slice Ao41 t409.length co41)) (fun _ hk => hk.2) (.slice Ao42 t412.length co42)) (fun _ h_ => h_.1)))); (case side2 => exact (Kd.R_reads' HO403.out).2.1); (case side3 => refine (Kd.R_reads' (e := 3) (base := w.heap.size) (ok := fun k_ => (((((some k_ ≠ (.slice Ao14 t389.length co14 : Value).ownBlock ∧ some k_ ≠ (.slice Ao19 t395.length co19 : Value).ownBlock) ∧ some k_ ≠ (.slice Ao47 t401.length co47 : Value).ownBlock) ∧ some k_ ≠ (.slice Ao40 t406.length co40 : Value).ownBlock) ∧ some k_ ≠ (.slice Ao41 t409.length co41 : Value).ownBlock) ∧ some k_ ≠ (.slice Ao42 t412.length co42 : Value).ownBlock)) (n := t385.length) (c := co10) ?_).2.2; exact (lt22_ (Kd.R_mono (Kd.R_far (p := ⟨gb416, 3, none⟩) (Kd.R_far (p := ⟨gb416, 2, none⟩) (Kd.R_far (p := ⟨gb416, 1, none⟩) (Kd.R_far (p := ⟨gb416, 0, none⟩) (Kd.R_types HO_5.out BK416.out (by decide)) (fun _ hk => hk.2) (.int .i64 t405)) (fun _ hk => hk.2) (.slice Ao40 t406.length co40)) (fun _ hk => hk.2) (.slice Ao41 t409.length co41)) (fun _ hk => hk.2) (.slice Ao42 t412.length co42)) (fun _ h_ => h_.1)))); (case side4 => exact (Kd.R_reads' HO_5.out).2.1); rintro e w' ⟨rfl, ⟨nd, rfl⟩⟩; have hnb48 := NB393_399.out; have hnc48 := NB399_393.out; have hnb49 := NB393_416.out; have hnc49 := NB416_393.out; have hcz50_0 : w36.cell? ⟨gb393, 0, none⟩ = some (.int .i64 t388) := (blk_cell BK393.out 0).trans rfl; have hcz50_1 : w36.cell? ⟨gb393, 1, none⟩ = some (.slice Ao14 t389.length co14) := (blk_cell BK393.out 1).trans rfl; have hfz50_0 := blk_frozen BK393.out 0; have hfz50_1 := blk_frozen BK393.out 1))
          go_meet
          case rel => exact ⟨_, ((t388 != (wrap64 (2 * (t385.length : Int))))), (by first | rfl | (simp; done) | (simp [*]; done)), H', ⟨by have := HJ7.out; first | omega | exact Nat.le_refl _⟩, ⟨by (with_reducible repeat (first | apply Kd.R_alloc | apply Kd.R_drewN | apply Kd.R_drew)); exact Kd.R_mono (Kd.R_far (p := ⟨gb416, 3, none⟩) (Kd.R_far (p := ⟨gb416, 2, none⟩) (Kd.R_far (p := ⟨gb416, 1, none⟩) (Kd.R_far (p := ⟨gb416, 0, none⟩) (Kd.R_types HO_5.out BK416.out (by decide)) (fun _ hk => hk.2) (.int .i64 t405)) (fun _ hk => hk.2) (.slice Ao40 t406.length co40)) (fun _ hk => hk.2) (.slice Ao41 t409.length co41)) (fun _ hk => hk.2) (.slice Ao42 t412.length co42)) (fun _ hk => ⟨hk.1.1.1.1.1.1, ⟨hk.1.1.1.1.1.2, ⟨hk.1.1.1.2, ⟨hk.1.1.2, hk.1.2⟩⟩⟩⟩)⟩, ⟨by (with_reducible repeat (first | apply Kd.R_alloc | apply Kd.R_drewN | apply Kd.R_drew)); exact Kd.R_mono (Kd.R_far (p := ⟨gb416, 3, none⟩) (Kd.R_far (p := ⟨gb416, 2, none⟩) (Kd.R_far (p := ⟨gb416, 1, none⟩) (Kd.R_far (p := ⟨gb416, 0, none⟩) (Kd.R_types HO_394001.out BK416.out (by decide)) (fun _ hk => hk.2) (.int .i64 t405)) (fun _ hk => hk.2) (.slice Ao40 t406.length co40)) (fun _ hk => hk.2) (.slice Ao41 t409.length co41)) (fun _ hk => hk.2) (.slice Ao42 t412.length co42)) (fun _ hk => ⟨hk.1.1.1.1.1.1, ⟨hk.1.1.1.1.1.2, ⟨hk.1.1.1.2, ⟨hk.1.1.2, hk.1.2⟩⟩⟩⟩)⟩, ⟨by (with_reducible repeat (first | apply Kd.R_alloc | apply Kd.R_drewN | apply Kd.R_drew)); exact Kd.R_mono (Kd.R_far (p := ⟨gb416, 3, none⟩) (Kd.R_far (p := ⟨gb416, 2, none⟩) (Kd.R_far (p := ⟨gb416, 1, none⟩) (Kd.R_far (p := ⟨gb416, 0, none⟩) (Kd.R_types HO_400001.out BK416.out (by decide)) (fun _ hk => hk.2) (.int .i64 t405)) (fun _ hk => hk.2) (.slice Ao40 t406.length co40)) (fun _ hk => hk.2) (.slice Ao41 t409.length co41)) (fun _ hk => hk.2) (.slice Ao42 t412.length co42)) (fun _ hk => ⟨hk.1.1.1.1.1.1, ⟨hk.1.1.1.1.1.2, ⟨hk.1.1.1.2, ⟨hk.1.1.2, hk.1.2⟩⟩⟩⟩)⟩, ⟨by (with_reducible repeat (first | apply Kd.R_alloc | apply Kd.R_drewN | apply Kd.R_drew)); exact Kd.R_mono (Kd.R_far (p := ⟨gb416, 3, none⟩) (Kd.R_far (p := ⟨gb416, 2, none⟩) (Kd.R_far (p := ⟨gb416, 1, none⟩) (Kd.R_far (p := ⟨gb416, 0, none⟩) (Kd.R_types HO408.out BK416.out (by decide)) (fun _ hk => hk.2) (.int .i64 t405)) (fun _ hk => hk.2) (.slice Ao40 t406.length co40)) (fun _ hk => hk.2) (.slice Ao41 t409.length co41)) (fun _ hk => hk.2) (.slice Ao42 t412.length co42)) (fun _ hk => ⟨hk.1.1.1.1.2, ⟨hk.1.1.1.2, ⟨hk.1.1.2, ⟨hk.1.1.1.1.1.1, hk.1.1.1.1.1.2⟩⟩⟩⟩)⟩, ⟨by (with_reducible repeat (first | apply Kd.R_alloc | apply Kd.R_drewN | apply Kd.R_drew)); exact Kd.R_mono (Kd.R_far (p := ⟨gb416, 3, none⟩) (Kd.R_far (p := ⟨gb416, 2, none⟩) (Kd.R_far (p := ⟨gb416, 1, none⟩) (Kd.R_far (p := ⟨gb416, 0, none⟩) (Kd.R_types HO411.out BK416.out (by decide)) (fun _ hk => hk.2) (.int .i64 t405)) (fun _ hk => hk.2) (.slice Ao40 t406.length co40)) (fun _ hk => hk.2) (.slice Ao41 t409.length co41)) (fun _ hk => hk.2) (.slice Ao42 t412.length co42)) (fun _ hk => ⟨hk.1.1.1.1.2, ⟨hk.1.1.1.2, ⟨hk.1.1.2, ⟨hk.1.1.1.1.1.1, hk.1.1.1.1.1.2⟩⟩⟩⟩)⟩, ⟨by (with_reducible repeat (first | apply Kd.R_alloc | apply Kd.R_drewN | apply Kd.R_drew)); exact Kd.R_mono (Kd.R_far (p := ⟨gb416, 3, none⟩) (Kd.R_far (p := ⟨gb416, 2, none⟩) (Kd.R_far (p := ⟨gb416, 1, none⟩) (Kd.R_far (p := ⟨gb416, 0, none⟩) (Kd.R_types HO414.out BK416.out (by decide)) (fun _ hk => hk.2) (.int .i64 t405)) (fun _ hk => hk.2) (.slice Ao40 t406.length co40)) (fun _ hk => hk.2) (.slice Ao41 t409.length co41)) (fun _ hk => hk.2) (.slice Ao42 t412.length co42)) (fun _ hk => ⟨hk.1.1.1.1.2, ⟨hk.1.1.1.2, ⟨hk.1.1.2, ⟨hk.1.1.1.1.1.1, hk.1.1.1.1.1.2⟩⟩⟩⟩)⟩, ⟨by (with_reducible repeat (first | refine blk_drewN ?_ _ | refine blk_drew ?_ | refine blk_alloc ?_ _)); refine blk_far ?_ NB393_416.out _; (with_reducible repeat (first | refine blk_drewN ?_ _ | refine blk_drew ?_ | refine blk_alloc ?_ _)); refine blk_far ?_ NB393_416.out _; (with_reducible repeat (first | refine blk_drewN ?_ _ | refine blk_drew ?_ | refine blk_alloc ?_ _)); refine blk_far ?_ NB393_416.out _; (with_reducible repeat (first | refine blk_drewN ?_ _ | refine blk_drew ?_ | refine blk_alloc ?_ _)); refine blk_far ?_ NB393_416.out _; (with_reducible repeat (first | refine blk_drewN ?_ _ | refine blk_drew ?_ | refine blk_alloc ?_ _)); exact BK393.out⟩, ⟨by (with_reducible repeat (first | refine blk_drewN ?_ _ | refine blk_drew ?_ | refine blk_alloc ?_ _)); refine blk_far ?_ NB399_416.out _; (with_reducible repeat (first | refine blk_drewN ?_ _ | refine blk_drew ?_ | refine blk_alloc ?_ _)); refine blk_far ?_ NB399_416.out _; (with_reducible repeat (first | refine blk_drewN ?_ _ | refine blk_drew ?_ | refine blk_alloc ?_ _)); refine blk_far ?_ NB399_416.out _; (with_reducible repeat (first | refine blk_drewN ?_ _ | refine blk_drew ?_ | refine blk_alloc ?_ _)); refine blk_far ?_ NB399_416.out _; (with_reducible repeat (first | refine blk_drewN ?_ _ | refine blk_drew ?_ | refine blk_alloc ?_ _)); exact BK399.out⟩, ⟨by (with_reducible repeat (first | refine blk_drewN ?_ _ | refine blk_drew ?_ | refine blk_alloc ?_ _)); refine blk_put (cs := #[.int .i64 t405, .slice Ao40 t406.length co40, .slice Ao41 t409.length co41, .slice none 0 0]) ?_ 3 _ rfl; (with_reducible repeat (first | refine blk_drewN ?_ _ | refine blk_drew ?_ | refine blk_alloc ?_ _)); refine blk_put (cs := #[.int .i64 t405, .slice Ao40 t406.length co40, .slice none 0 0, .slice none 0 0]) ?_ 2 _ rfl; (with_reducible repeat (first | refine blk_drewN ?_ _ | refine blk_drew ?_ | refine blk_alloc ?_ _)); refine blk_put (cs := #[.int .i64 t405, .slice none 0 0, .slice none 0 0, .slice none 0 0]) ?_ 1 _ rfl; (with_reducible repeat (first | refine blk_drewN ?_ _ | refine blk_drew ?_ | refine blk_alloc ?_ _)); refine blk_put (cs := #[.int .i64 0, .slice none 0 0, .slice none 0 0, .slice none 0 0]) ?_ 0 _ rfl; (with_reducible repeat (first | refine blk_drewN ?_ _ | refine blk_drew ?_ | refine blk_alloc ?_ _)); exact BK416.out⟩, ⟨lw22_ HB⟩⟩
         ·replace c46 := Bool.eq_false_iff.mpr c46
          subst c46
          have H1 : (none) = some r := by rw [if_neg (show ¬ (false = true) by decide)] at H; exact H
          clear H
          have H := H1
          clear H1
          exact absurd H (by simp)
        ·replace c44 := Bool.eq_false_iff.mpr c44
         subst c44
         have H1 : (none) = some r := by rw [if_neg (show ¬ (false = true) by decide)] at H; exact H
         clear H
         have H := H1
         clear H1
         exact absurd H (by simp)
       ·replace c43 := Bool.eq_false_iff.mpr c43
        subst c43
        have H1 : (none) = some r := by rw [if_neg (show ¬ (false = true) by decide)] at H; exact H
        clear H
        have H := H1
        clear H1
        exact absurd H (by simp)
      case rest =>
       clear HC30
       try clear c1
       try clear c2
       try clear p2
       try clear c3
       try clear c4
       try clear c5
       try clear p6
       try clear c14
       try clear c17
       try clear c20
       try clear c20b0
       try clear c20b1
       try clear c20b2
       try clear c22
       try clear c26
       try clear c27
       try clear c29
       try clear c31
       try clear c37
       try clear c38
       try clear c43
       try clear c44
       try clear c45
       try clear c46
       try clear c48
       try clear c49
       try clear hcz13_0
       try clear hcz13_1
       try clear hcz18_0
       try clear hcz18_1
       try clear hcz23_0
       try clear hcz23_1
       try clear hcz24_0
       try clear hcz24_1
       try clear hcz32_0
       try clear hcz32_1
       try clear hcz34_0
       try clear hcz34_1
       try clear hcz39_0
       try clear hcz39_1
       try clear hcz39_2
       try clear hcz39_3
       try clear hcz50_0
       try clear hcz50_1
       try clear hfz13_0
       try clear hfz13_1
       try clear hfz18_0
       try clear hfz18_1
       try clear hfz23_0
       try clear hfz23_1
       try clear hfz24_0
       try clear hfz24_1
       try clear hfz32_0
       try clear hfz32_1
       try clear hfz34_0
       try clear hfz34_1
       try clear hfz39_0
       try clear hfz39_1
       try clear hfz39_2
       try clear hfz39_3
       try clear hfz50_0
       try clear hfz50_1
       try clear p2
       obtain ⟨kq, x77_29, rfl, HA, HJ29, HO_5, HO_394001, HO_400001, HO_417001, HO_417002, HO_417003, BK393, BK399, BK416, HB⟩ := hcut
       cases kq with
       | zero => exact absurd HA.out (by simp [laws_FnTreesAreParentheses.j1])
       | succ kj29 =>
        have H := HA.out
        clear HA
        simp only [laws_FnTreesAreParentheses.j1] at H
        by_cases c51 : x77_29 = true
        ·subst c51
         have H1 : (none) = some r := by rw [if_pos rfl] at H; exact H
         clear H
         have H := H1
         clear H1
         exact absurd H (by simp)
        ·replace c51 := Bool.eq_false_iff.mpr c51
         subst c51
         have H1 : (laws_FnTreesAreParentheses.l0 kj29 t385 (t385.length : Int) 0 t388 t389 t405 t406 t409 t412) = some r := by rw [if_neg (show ¬ (false = true) by decide)] at H; exact H
         clear H
         have H := H1
         clear H1
         have H' := am22_ H
         clear H
         go_wp2
         go_loopg [80] kj29 (fun kq v80 w' => ∃ (x80_3 : Int), v80 = .int .i64 x80_3 ∧ Aside0 (laws_FnTreesAreParentheses.l0 kq t385 (t385.length : Int) x80_3 t388 t389 t405 t406 t409 t412 = some r) ∧ Aside0 (kq ≤ kj29) ∧ Aside0 (Kd.R (Kd.int .i64) 3 w' w.heap.size (fun k_ => some k_ ≠ ((.slice Ao14 t389.length co14) : Value).ownBlock ∧ some k_ ≠ ((.slice Ao19 t395.length co19) : Value).ownBlock ∧ some k_ ≠ ((.slice Ao40 t406.length co40) : Value).ownBlock ∧ some k_ ≠ ((.slice Ao41 t409.length co41) : Value).ownBlock ∧ some k_ ≠ ((.slice Ao42 t412.length co42) : Value).ownBlock) (.slice Ao10 t385.length co10) t385) ∧ Aside0 (Kd.R (Kd.int .i64) 3 w' w.heap.size (fun k_ => some k_ ≠ ((.slice Ao10 t385.length co10) : Value).ownBlock ∧ some k_ ≠ ((.slice Ao19 t395.length co19) : Value).ownBlock ∧ some k_ ≠ ((.slice Ao40 t406.length co40) : Value).ownBlock ∧ some k_ ≠ ((.slice Ao41 t409.length co41) : Value).ownBlock ∧ some k_ ≠ ((.slice Ao42 t412.length co42) : Value).ownBlock) (.slice Ao14 t389.length co14) t389) ∧ Aside0 (Kd.R (Kd.int .i64) 3 w' w.heap.size (fun k_ => some k_ ≠ ((.slice Ao10 t385.length co10) : Value).ownBlock ∧ some k_ ≠ ((.slice Ao14 t389.length co14) : Value).ownBlock ∧ some k_ ≠ ((.slice Ao40 t406.length co40) : Value).ownBlock ∧ some k_ ≠ ((.slice Ao41 t409.length co41) : Value).ownBlock ∧ some k_ ≠ ((.slice Ao42 t412.length co42) : Value).ownBlock) (.slice Ao19 t395.length co19) t395) ∧ Aside0 (Kd.R (Kd.int .i64) 3 w' w.heap.size (fun k_ => some k_ ≠ ((.slice Ao10 t385.length co10) : Value).ownBlock ∧ some k_ ≠ ((.slice Ao14 t389.length co14) : Value).ownBlock ∧ some k_ ≠ ((.slice Ao19 t395.length co19) : Value).ownBlock ∧ some k_ ≠ ((.slice Ao41 t409.length co41) : Value).ownBlock ∧ some k_ ≠ ((.slice Ao42 t412.length co42) : Value).ownBlock) (.slice Ao40 t406.length co40) t406) ∧ Aside0 (Kd.R (Kd.int .i64) 3 w' w.heap.size (fun k_ => some k_ ≠ ((.slice Ao10 t385.length co10) : Value).ownBlock ∧ some k_ ≠ ((.slice Ao14 t389.length co14) : Value).ownBlock ∧ some k_ ≠ ((.slice Ao19 t395.length co19) : Value).ownBlock ∧ some k_ ≠ ((.slice Ao40 t406.length co40) : Value).ownBlock ∧ some k_ ≠ ((.slice Ao42 t412.length co42) : Value).ownBlock) (.slice Ao41 t409.length co41) t409) ∧ Aside0 (Kd.R (Kd.int .i64) 3 w' w.heap.size (fun k_ => some k_ ≠ ((.slice Ao10 t385.length co10) : Value).ownBlock ∧ some k_ ≠ ((.slice Ao14 t389.length co14) : Value).ownBlock ∧ some k_ ≠ ((.slice Ao19 t395.length co19) : Value).ownBlock ∧ some k_ ≠ ((.slice Ao40 t406.length co40) : Value).ownBlock ∧ some k_ ≠ ((.slice Ao41 t409.length co41) : Value).ownBlock) (.slice Ao42 t412.length co42) t412) ∧ Aside0 (w'.heap[gb393]? = some (.cells #[.int .i64 t388, (.slice Ao14 t389.length co14)] 26 (0, 0))) ∧ Aside0 (w'.heap[gb399]? = some (.cells #[.int .i64 t394, (.slice Ao19 t395.length co19)] 26 (0, 0))) ∧ Aside0 (w'.heap[gb416]? = some (.cells #[.int .i64 t405, (.slice Ao40 t406.length co40), (.slice Ao41 t409.length co41), (.slice Ao42 t412.length co42)] 48 (0, 0))) ∧ Aside0 (Below w.heap.size w w'))
         case atStart => exact ⟨(0), (by first | rfl | (simp; done) | (simp [*]; done)), H', ⟨Nat.le_refl _⟩, ⟨lf22_ HO_5⟩, ⟨lf22_ HO_394001⟩, ⟨lf22_ HO_400001⟩, ⟨lf22_ HO_417001⟩, ⟨lf22_ HO_417002⟩, ⟨lf22_ HO_417003⟩, ⟨lb22_ BK393⟩, ⟨lb22_ BK399⟩, ⟨lb22_ BK416⟩, ⟨lw22_ HB⟩⟩
         case round =>
          clear H'
          try clear c1
          try clear c2
          try clear p2
          try clear c3
          try clear c4
          try clear c5
          try clear p6
          try clear c14
          try clear c17
          try clear c20
          try clear c20b0
          try clear c20b1
          try clear c20b2
          try clear c22
          try clear c26
          try clear c27
          try clear c29
          try clear c31
          try clear c37
          try clear c38
          try clear c43
          try clear c44
          try clear c45
          try clear c46
          try clear c48
          try clear c49
          try clear c51
          try clear hcz13_0
          try clear hcz13_1
          try clear hcz18_0
          try clear hcz18_1
          try clear hcz23_0
          try clear hcz23_1
          try clear hcz24_0
          try clear hcz24_1
          try clear hcz32_0
          try clear hcz32_1
          try clear hcz34_0
          try clear hcz34_1
          try clear hcz39_0
          try clear hcz39_1
          try clear hcz39_2
          try clear hcz39_3
          try clear hcz50_0
          try clear hcz50_1
          try clear hfz13_0
          try clear hfz13_1
          try clear hfz18_0
          try clear hfz18_1
          try clear hfz23_0
          try clear hfz23_1
          try clear hfz24_0
          try clear hfz24_1
          try clear hfz32_0
          try clear hfz32_1
          try clear hfz34_0
          try clear hfz34_1
          try clear hfz39_0
          try clear hfz39_1
          try clear hfz39_2
          try clear hfz39_3
          try clear hfz50_0
          try clear hfz50_1
          try clear p2
          try clear p6
          obtain ⟨x80_3, rfl, HA, HK3, HO_78, HO_394001, HO_400001, HO_417001, HO_417002, HO_417003, BK393, BK399, BK416, HB⟩ := hrel
          cases gk with
          | zero => exact absurd HA.out (by simp [laws_FnTreesAreParentheses.l0])
          | succ k3 =>
           have H := HA.out
           clear HA
           simp only [laws_FnTreesAreParentheses.l0] at H
           by_cases c52 : x80_3 < (t385.length : Int)
           ·rw [if_pos c52] at H
            have c52b0 : decide (x80_3 < (t385.length : Int)) = true := decide_eq_true c52
            clear c52
            by_cases c53 : 0 ≤ x80_3
            ·rw [if_pos c53] at H
             have c53b0 : decide (0 ≤ x80_3) = true := decide_eq_true c53
             clear c53
             by_cases c54 : x80_3 < (t385.length : Int)
             ·rw [if_pos c54] at H
              have c54b0 : decide (x80_3 < (t385.length : Int)) = true := decide_eq_true c54
              clear c54
              replace H := Option.bind_eq_some_iff.mp H
              obtain ⟨⟨t419, t420⟩, A550, H⟩ := H
              replace H : ((impl_EnclosingOf.f k3 t388 t389 t419).bind fun bt421 => (if t420 = true then (laws_FnTreesAreParentheses.j3 k3 (rd t385 x80_3) bt421.1 bt421.2 t385 (t385.length : Int) x80_3 (bt421.2 != (decide ((rd t385 x80_3) ≥ 0))) t388 t389 t405 t406 t409 t412) else (none))) = some r := H
              have A55 := am22_ A550
              clear A550
              replace H := Option.bind_eq_some_iff.mp H
              obtain ⟨⟨t421, t422⟩, A560, H⟩ := H
              replace H : (if t420 = true then (laws_FnTreesAreParentheses.j3 k3 (rd t385 x80_3) t421 t422 t385 (t385.length : Int) x80_3 (t422 != (decide ((rd t385 x80_3) ≥ 0))) t388 t389 t405 t406 t409 t412) else (none)) = some r := H
              have A56 := am22_ A560
              clear A560
              have HC57 := am22_ H
              clear H
              have p418 : 0 ≤ (x80_3 : Int) := of_decide_eq_true (by first | (with_reducible assumption) | assumption)
              have q418 : x80_3 < (t385.length : Int) := of_decide_eq_true (by first | (with_reducible assumption) | assumption)
              obtain ⟨ad418, e418, hx418_0⟩ := Kd.at_int (Kd.R_reads' HO_78.out).2.2 x80_3 p418 q418
              cases e418
              replace p418 := eq_true p418
              replace q418 := eq_true q418
              have hnb58 := NB416_393.out
              have hnc58 := NB393_416.out
              have hnb59 := NB416_399.out
              have hnc59 := NB399_416.out
              have hcz60_0 : wr.cell? ⟨gb416, 0, none⟩ = some (.int .i64 t405) := (blk_cell BK416.out 0).trans rfl
              have hcz60_1 : wr.cell? ⟨gb416, 1, none⟩ = some (.slice Ao40 t406.length co40) := (blk_cell BK416.out 1).trans rfl
              have hcz60_2 : wr.cell? ⟨gb416, 2, none⟩ = some (.slice Ao41 t409.length co41) := (blk_cell BK416.out 2).trans rfl
              have hcz60_3 : wr.cell? ⟨gb416, 3, none⟩ = some (.slice Ao42 t412.length co42) := (blk_cell BK416.out 3).trans rfl
              have hfz60_0 := blk_frozen BK416.out 0
              have hfz60_1 := blk_frozen BK416.out 1
              have hfz60_2 := blk_frozen BK416.out 2
              have hfz60_3 := blk_frozen BK416.out 3
              go_upto_region 19 with (first | ((with_reducible refine gate_callee (f := 61) rfl ?_); refine goesL_ (some 88) rfl rfl Try.func61 (by kernel_rfl) rfl #[.agg #[.int .i64 t405, .slice Ao40 t406.length co40, .slice Ao41 t409.length co41, .slice Ao42 t412.length co42], .int .i64 x80_3] rfl lm22_ ?_; (with_reducible refine (impl_Select1.calls k3 t405 _ _ t406 _ _ t409 _ _ t412 x80_3 t419 t420 _ ?side1 ?side2 ?side3 ?side4 ?side5 ?side6 A55.out).mono ?_); (case side1 => exact lc22_ (Kd.R_reads' HO_417001.out).2.2); (case side2 => exact (Kd.R_reads' HO_417001.out).2.1); (case side3 => exact lc22_ (Kd.R_reads' HO_417002.out).2.2); (case side4 => exact (Kd.R_reads' HO_417002.out).2.1); (case side5 => exact lc22_ (Kd.R_reads' HO_417003.out).2.2); (case side6 => exact (Kd.R_reads' HO_417003.out).2.1); rintro e w61 ⟨rfl, hb⟩; refine ⟨_, rfl, ?_⟩; have n0_ := am22_ (Kd.R_below (lf22_ HO_78) hb); have n1_ := am22_ (Kd.R_below (lf22_ HO_394001) hb); have n2_ := am22_ (Kd.R_below (lf22_ HO_400001) hb); have n3_ := am22_ (Kd.R_below (lf22_ HO_417001) hb); have n4_ := am22_ (Kd.R_below (lf22_ HO_417002) hb); have n5_ := am22_ (Kd.R_below (lf22_ HO_417003) hb); have n6_ := am22_ (blk_below (g := gb393) (o := .cells #[.int .i64 t388, .slice Ao14 t389.length co14] 26 (0, 0)) (lb22_ BK393) hb); have n7_ := am22_ (blk_below (g := gb399) (o := .cells #[.int .i64 t394, .slice Ao19 t395.length co19] 26 (0, 0)) (lb22_ BK399) hb); have n8_ := am22_ (blk_below (g := gb416) (o := .cells #[.int .i64 t405, .slice Ao40 t406.length co40, .slice Ao41 t409.length co41, .slice Ao42 t412.length co42] 48 (0, 0)) (lb22_ BK416) hb); have n9_ := am22_ (below_step (lw22_ HB) hb); clear HO_78; clear HO_394001; clear HO_400001; clear HO_417001; clear HO_417002; clear HO_417003; clear BK393; clear BK399; clear BK416; clear HB; have HO_78 := n0_; have HO_394001 := n1_; have HO_400001 := n2_; have HO_417001 := n3_; have HO_417002 := n4_; have HO_417003 := n5_; have BK393 := n6_; have BK399 := n7_; have BK416 := n8_; have HB := n9_; clear n0_ n1_ n2_ n3_ n4_ n5_ n6_ n7_ n8_ n9_; (try clear hb); (try clear hb2); (try clear hk); (try clear hi); have hnb62 := NB393_399.out; have hnc62 := NB399_393.out; have hcz63_0 : w61.cell? ⟨gb393, 0, none⟩ = some (.int .i64 t388) := (blk_cell BK393.out 0).trans rfl; have hcz63_1 : w61.cell? ⟨gb393, 1, none⟩ = some (.slice Ao14 t389.length co14) := (blk_cell BK393.out 1).trans rfl; have hfz63_0 := blk_frozen BK393.out 0; have hfz63_1 := blk_frozen BK393.out 1) | ((with_reducible refine gate_callee (f := 62) rfl ?_); refine goesL_ (some 94) rfl rfl Try.func62 (by kernel_rfl) rfl #[.agg #[.int .i64 t388, .slice Ao14 t389.length co14], .int .i64 t419] rfl lm22_ ?_; (with_reducible refine (impl_EnclosingOf.calls k3 t388 _ _ t389 t419 t421 t422 _ ?side1 ?side2 A56.out).mono ?_); (case side1 => exact lc22_ (Kd.R_reads' HO_394001.out).2.2); (case side2 => exact (Kd.R_reads' HO_394001.out).2.1); rintro e w64 ⟨rfl, hb⟩; refine ⟨_, rfl, ?_⟩; have n0_ := am22_ (Kd.R_below (lf22_ HO_78) hb); have n1_ := am22_ (Kd.R_below (lf22_ HO_394001) hb); have n2_ := am22_ (Kd.R_below (lf22_ HO_400001) hb); have n3_ := am22_ (Kd.R_below (lf22_ HO_417001) hb); have n4_ := am22_ (Kd.R_below (lf22_ HO_417002) hb); have n5_ := am22_ (Kd.R_below (lf22_ HO_417003) hb); have n6_ := am22_ (blk_below (g := gb393) (o := .cells #[.int .i64 t388, .slice Ao14 t389.length co14] 26 (0, 0)) (lb22_ BK393) hb); have n7_ := am22_ (blk_below (g := gb399) (o := .cells #[.int .i64 t394, .slice Ao19 t395.length co19] 26 (0, 0)) (lb22_ BK399) hb); have n8_ := am22_ (blk_below (g := gb416) (o := .cells #[.int .i64 t405, .slice Ao40 t406.length co40, .slice Ao41 t409.length co41, .slice Ao42 t412.length co42] 48 (0, 0)) (lb22_ BK416) hb); have n9_ := am22_ (below_step (lw22_ HB) hb); clear HO_78; clear HO_394001; clear HO_400001; clear HO_417001; clear HO_417002; clear HO_417003; clear BK393; clear BK399; clear BK416; clear HB; have HO_78 := n0_; have HO_394001 := n1_; have HO_400001 := n2_; have HO_417001 := n3_; have HO_417002 := n4_; have HO_417003 := n5_; have BK393 := n6_; have BK399 := n7_; have BK416 := n8_; have HB := n9_; clear n0_ n1_ n2_ n3_ n4_ n5_ n6_ n7_ n8_ n9_; (try clear hb); (try clear hb2); (try clear hk); (try clear hi)))
              (try simp only [Act.put, List.setIfInBounds_toArray, List.set_cons_zero, List.set_cons_succ])
              go_cut [104] (fun v104 wc => ∃ (kq : Nat) (x104_56 : Bool), v104 = .bool x104_56 ∧ Aside0 (laws_FnTreesAreParentheses.j3 kq (rd t385 x80_3) t421 t422 t385 (t385.length : Int) x80_3 x104_56 t388 t389 t405 t406 t409 t412 = some r) ∧ Aside0 (kq ≤ k3) ∧ Aside0 (Kd.R (Kd.int .i64) 3 wc w.heap.size (fun k_ => some k_ ≠ ((.slice Ao14 t389.length co14) : Value).ownBlock ∧ some k_ ≠ ((.slice Ao19 t395.length co19) : Value).ownBlock ∧ some k_ ≠ ((.slice Ao40 t406.length co40) : Value).ownBlock ∧ some k_ ≠ ((.slice Ao41 t409.length co41) : Value).ownBlock ∧ some k_ ≠ ((.slice Ao42 t412.length co42) : Value).ownBlock) (.slice (some ad418) t385.length co10) t385) ∧ Aside0 (Kd.R (Kd.int .i64) 3 wc w.heap.size (fun k_ => some k_ ≠ ((.slice (some ad418) t385.length co10) : Value).ownBlock ∧ some k_ ≠ ((.slice Ao19 t395.length co19) : Value).ownBlock ∧ some k_ ≠ ((.slice Ao40 t406.length co40) : Value).ownBlock ∧ some k_ ≠ ((.slice Ao41 t409.length co41) : Value).ownBlock ∧ some k_ ≠ ((.slice Ao42 t412.length co42) : Value).ownBlock) (.slice Ao14 t389.length co14) t389) ∧ Aside0 (Kd.R (Kd.int .i64) 3 wc w.heap.size (fun k_ => some k_ ≠ ((.slice (some ad418) t385.length co10) : Value).ownBlock ∧ some k_ ≠ ((.slice Ao14 t389.length co14) : Value).ownBlock ∧ some k_ ≠ ((.slice Ao40 t406.length co40) : Value).ownBlock ∧ some k_ ≠ ((.slice Ao41 t409.length co41) : Value).ownBlock ∧ some k_ ≠ ((.slice Ao42 t412.length co42) : Value).ownBlock) (.slice Ao19 t395.length co19) t395) ∧ Aside0 (Kd.R (Kd.int .i64) 3 wc w.heap.size (fun k_ => some k_ ≠ ((.slice (some ad418) t385.length co10) : Value).ownBlock ∧ some k_ ≠ ((.slice Ao14 t389.length co14) : Value).ownBlock ∧ some k_ ≠ ((.slice Ao19 t395.length co19) : Value).ownBlock ∧ some k_ ≠ ((.slice Ao41 t409.length co41) : Value).ownBlock ∧ some k_ ≠ ((.slice Ao42 t412.length co42) : Value).ownBlock) (.slice Ao40 t406.length co40) t406) ∧ Aside0 (Kd.R (Kd.int .i64) 3 wc w.heap.size (fun k_ => some k_ ≠ ((.slice (some ad418) t385.length co10) : Value).ownBlock ∧ some k_ ≠ ((.slice Ao14 t389.length co14) : Value).ownBlock ∧ some k_ ≠ ((.slice Ao19 t395.length co19) : Value).ownBlock ∧ some k_ ≠ ((.slice Ao40 t406.length co40) : Value).ownBlock ∧ some k_ ≠ ((.slice Ao42 t412.length co42) : Value).ownBlock) (.slice Ao41 t409.length co41) t409) ∧ Aside0 (Kd.R (Kd.int .i64) 3 wc w.heap.size (fun k_ => some k_ ≠ ((.slice (some ad418) t385.length co10) : Value).ownBlock ∧ some k_ ≠ ((.slice Ao14 t389.length co14) : Value).ownBlock ∧ some k_ ≠ ((.slice Ao19 t395.length co19) : Value).ownBlock ∧ some k_ ≠ ((.slice Ao40 t406.length co40) : Value).ownBlock ∧ some k_ ≠ ((.slice Ao41 t409.length co41) : Value).ownBlock) (.slice Ao42 t412.length co42) t412) ∧ Aside0 (wc.heap[gb393]? = some (.cells #[.int .i64 t388, (.slice Ao14 t389.length co14)] 26 (0, 0))) ∧ Aside0 (wc.heap[gb399]? = some (.cells #[.int .i64 t394, (.slice Ao19 t395.length co19)] 26 (0, 0))) ∧ Aside0 (wc.heap[gb416]? = some (.cells #[.int .i64 t405, (.slice Ao40 t406.length co40), (.slice Ao41 t409.length co41), (.slice Ao42 t412.length co42)] 48 (0, 0))) ∧ Aside0 (Below w.heap.size w wc))
              case first =>
               have H := HC57.out
               clear HC57
               by_cases c65 : t420 = true
               ·subst c65
                have H1 : (laws_FnTreesAreParentheses.j3 k3 (rd t385 x80_3) t421 t422 t385 (t385.length : Int) x80_3 (t422 != (decide ((rd t385 x80_3) ≥ 0))) t388 t389 t405 t406 t409 t412) = some r := by rw [if_pos rfl] at H; exact H
                clear H
                have H := H1
                clear H1
                have H' := am22_ H
                clear H
                go_wp2
                go_meet
                case rel => exact ⟨_, ((t422 != (decide ((rd t385 x80_3) ≥ 0)))), (by first | rfl | (simp; done) | (simp [*]; done)), H', ⟨by have := HJ7.out; have := HJ29.out; have := HK3.out; first | omega | exact Nat.le_refl _⟩, ⟨lf22_ HO_78⟩, ⟨lf22_ HO_394001⟩, ⟨lf22_ HO_400001⟩, ⟨lf22_ HO_417001⟩, ⟨lf22_ HO_417002⟩, ⟨lf22_ HO_417003⟩, ⟨lb22_ BK393⟩, ⟨lb22_ BK399⟩, ⟨lb22_ BK416⟩, ⟨lw22_ HB⟩⟩
               ·replace c65 := Bool.eq_false_iff.mpr c65
                subst c65
                have H1 : (none) = some r := by rw [if_neg (show ¬ (false = true) by decide)] at H; exact H
                clear H
                have H := H1
                clear H1
                exact absurd H (by simp)
              case rest =>
               clear HC57
               try clear c1
               try clear c2
               try clear p2
               try clear c3
               try clear c4
               try clear p4
               try clear q4
               try clear hx4
               try clear c5
               try clear c6
               try clear p6
               try clear c14
               try clear c17
               try clear c20
               try clear c20b0
               try clear c20b1
               try clear c20b2
               try clear c22
               try clear c26
               try clear c27
               try clear c29
               try clear c31
               try clear c37
               try clear c38
               try clear p41
               try clear q41
               try clear hx41
               try clear c43
               try clear c44
               try clear c45
               try clear c46
               try clear c48
               try clear c49
               try clear c51
               try clear c52
               try clear c52b0
               try clear c53
               try clear c53b0
               try clear c54
               try clear c54b0
               try clear c57
               try clear c58
               try clear c59
               try clear c61
               try clear c62
               try clear p64
               try clear c65
               try clear hcz13_0
               try clear hcz13_1
               try clear hcz18_0
               try clear hcz18_1
               try clear hcz23_0
               try clear hcz23_1
               try clear hcz24_0
               try clear hcz24_1
               try clear hcz32_0
               try clear hcz32_1
               try clear hcz34_0
               try clear hcz34_1
               try clear hcz39_0
               try clear hcz39_1
               try clear hcz39_2
               try clear hcz39_3
               try clear hcz50_0
               try clear hcz50_1
               try clear hcz60_0
               try clear hcz60_1
               try clear hcz60_2
               try clear hcz60_3
               try clear hcz63_0
               try clear hcz63_1
               try clear hfz13_0
               try clear hfz13_1
               try clear hfz18_0
               try clear hfz18_1
               try clear hfz23_0
               try clear hfz23_1
               try clear hfz24_0
               try clear hfz24_1
               try clear hfz32_0
               try clear hfz32_1
               try clear hfz34_0
               try clear hfz34_1
               try clear hfz39_0
               try clear hfz39_1
               try clear hfz39_2
               try clear hfz39_3
               try clear hfz50_0
               try clear hfz50_1
               try clear hfz60_0
               try clear hfz60_1
               try clear hfz60_2
               try clear hfz60_3
               try clear hfz63_0
               try clear hfz63_1
               try clear hx418_0
               try clear p2
               try clear p418
               try clear p6
               try clear q418
               obtain ⟨kq, x104_56, rfl, HA, HJ56, HO_78, HO_394001, HO_400001, HO_417001, HO_417002, HO_417003, BK393, BK399, BK416, HB⟩ := hcut
               cases kq with
               | zero => exact absurd HA.out (by simp [laws_FnTreesAreParentheses.j3])
               | succ kj56 =>
                have H := HA.out
                clear HA
                simp only [laws_FnTreesAreParentheses.j3] at H
                by_cases c66 : x104_56 = true
                ·subst c66
                 have H1 : (none) = some r := by rw [if_pos rfl] at H; exact H
                 clear H
                 have H := H1
                 clear H1
                 exact absurd H (by simp)
                ·replace c66 := Bool.eq_false_iff.mpr c66
                 subst c66
                 have H1 : (if t422 = true then ((impl_Rank1.f kj56 t405 t406 t409 t412 t421).bind fun bt423 => (if bt423.2 = true then (if bt423.1 = (rd t385 x80_3) then (laws_FnTreesAreParentheses.l0 kj56 t385 (t385.length : Int) (wrap64 (x80_3 + 1)) t388 t389 t405 t406 t409 t412) else (none)) else (none))) else (laws_FnTreesAreParentheses.l0 kj56 t385 (t385.length : Int) (wrap64 (x80_3 + 1)) t388 t389 t405 t406 t409 t412)) = some r := by rw [if_neg (show ¬ (false = true) by decide)] at H; exact H
                 clear H
                 have H := H1
                 clear H1
                 by_cases c67 : t422 = true
                 ·subst c67
                  have H1 : ((impl_Rank1.f kj56 t405 t406 t409 t412 t421).bind fun bt423 => (if bt423.2 = true then (if bt423.1 = (rd t385 x80_3) then (laws_FnTreesAreParentheses.l0 kj56 t385 (t385.length : Int) (wrap64 (x80_3 + 1)) t388 t389 t405 t406 t409 t412) else (none)) else (none))) = some r := by rw [if_pos rfl] at H; exact H
                  clear H
                  have H := H1
                  clear H1
                  replace H := Option.bind_eq_some_iff.mp H
                  obtain ⟨⟨t423, t424⟩, A680, H⟩ := H
                  replace H : (if t424 = true then (if t423 = (rd t385 x80_3) then (laws_FnTreesAreParentheses.l0 kj56 t385 (t385.length : Int) (wrap64 (x80_3 + 1)) t388 t389 t405 t406 t409 t412) else (none)) else (none)) = some r := H
                  have A68 := am22_ A680
                  clear A680
                  by_cases c69 : t424 = true
                  ·subst c69
                   have H1 : (if t423 = (rd t385 x80_3) then (laws_FnTreesAreParentheses.l0 kj56 t385 (t385.length : Int) (wrap64 (x80_3 + 1)) t388 t389 t405 t406 t409 t412) else (none)) = some r := by rw [if_pos rfl] at H; exact H
                   clear H
                   have H := H1
                   clear H1
                   by_cases c70 : t423 = (rd t385 x80_3)
                   ·rw [if_pos c70] at H
                    have c70b0 : (t423 == (rd t385 x80_3)) = true := beq_iff_eq.mpr c70
                    have c70b1 : (t423 != (rd t385 x80_3)) = false := bne_eq_false_iff_eq.mpr c70
                    clear c70
                    have H' := am22_ H
                    clear H
                    have hnb71 := NB416_393.out
                    have hnc71 := NB393_416.out
                    have hnb72 := NB416_399.out
                    have hnc72 := NB399_416.out
                    have hcz73_0 : wc.cell? ⟨gb416, 0, none⟩ = some (.int .i64 t405) := (blk_cell BK416.out 0).trans rfl
                    have hcz73_1 : wc.cell? ⟨gb416, 1, none⟩ = some (.slice Ao40 t406.length co40) := (blk_cell BK416.out 1).trans rfl
                    have hcz73_2 : wc.cell? ⟨gb416, 2, none⟩ = some (.slice Ao41 t409.length co41) := (blk_cell BK416.out 2).trans rfl
                    have hcz73_3 : wc.cell? ⟨gb416, 3, none⟩ = some (.slice Ao42 t412.length co42) := (blk_cell BK416.out 3).trans rfl
                    have hfz73_0 := blk_frozen BK416.out 0
                    have hfz73_1 := blk_frozen BK416.out 1
                    have hfz73_2 := blk_frozen BK416.out 2
                    have hfz73_3 := blk_frozen BK416.out 3
                    go_wp2_with (first | ((with_reducible refine gate_callee (f := 56) rfl ?_); refine goesL_ (some 110) rfl rfl Try.func56 (by kernel_rfl) rfl #[.agg #[.int .i64 t405, .slice Ao40 t406.length co40, .slice Ao41 t409.length co41, .slice Ao42 t412.length co42], .int .i64 t421] rfl lm22_ ?_; (with_reducible refine (impl_Rank1.calls kj56 t405 _ _ t406 _ _ t409 _ _ t412 t421 t423 true _ ?side1 ?side2 ?side3 ?side4 ?side5 ?side6 A68.out).mono ?_); (case side1 => exact lc22_ (Kd.R_reads' HO_417001.out).2.2); (case side2 => exact (Kd.R_reads' HO_417001.out).2.1); (case side3 => exact lc22_ (Kd.R_reads' HO_417002.out).2.2); (case side4 => exact (Kd.R_reads' HO_417002.out).2.1); (case side5 => exact lc22_ (Kd.R_reads' HO_417003.out).2.2); (case side6 => exact (Kd.R_reads' HO_417003.out).2.1); rintro e w74 ⟨rfl, hb⟩; refine ⟨_, rfl, ?_⟩; have n0_ := am22_ (Kd.R_below (lf22_ HO_78) hb); have n1_ := am22_ (Kd.R_below (lf22_ HO_394001) hb); have n2_ := am22_ (Kd.R_below (lf22_ HO_400001) hb); have n3_ := am22_ (Kd.R_below (lf22_ HO_417001) hb); have n4_ := am22_ (Kd.R_below (lf22_ HO_417002) hb); have n5_ := am22_ (Kd.R_below (lf22_ HO_417003) hb); have n6_ := am22_ (blk_below (g := gb393) (o := .cells #[.int .i64 t388, .slice Ao14 t389.length co14] 26 (0, 0)) (lb22_ BK393) hb); have n7_ := am22_ (blk_below (g := gb399) (o := .cells #[.int .i64 t394, .slice Ao19 t395.length co19] 26 (0, 0)) (lb22_ BK399) hb); have n8_ := am22_ (blk_below (g := gb416) (o := .cells #[.int .i64 t405, .slice Ao40 t406.length co40, .slice Ao41 t409.length co41, .slice Ao42 t412.length co42] 48 (0, 0)) (lb22_ BK416) hb); have n9_ := am22_ (below_step (lw22_ HB) hb); clear HO_78; clear HO_394001; clear HO_400001; clear HO_417001; clear HO_417002; clear HO_417003; clear BK393; clear BK399; clear BK416; clear HB; have HO_78 := n0_; have HO_394001 := n1_; have HO_400001 := n2_; have HO_417001 := n3_; have HO_417002 := n4_; have HO_417003 := n5_; have BK393 := n6_; have BK399 := n7_; have BK416 := n8_; have HB := n9_; clear n0_ n1_ n2_ n3_ n4_ n5_ n6_ n7_ n8_ n9_; (try clear hb); (try clear hb2); (try clear hk); (try clear hi)))
                    go_roundg kj56
                    case measure => have := HJ7.out; have := HJ29.out; have := HK3.out; have := HJ56.out; omega
                    case rel => exact ⟨(wrap64 (x80_3 + 1)), (by first | rfl | (simp; done) | (simp [*]; done)), H', ⟨by have := HJ7.out; have := HJ29.out; have := HK3.out; have := HJ56.out; omega⟩, ⟨lf22_ HO_78⟩, ⟨lf22_ HO_394001⟩, ⟨lf22_ HO_400001⟩, ⟨lf22_ HO_417001⟩, ⟨lf22_ HO_417002⟩, ⟨lf22_ HO_417003⟩, ⟨lb22_ BK393⟩, ⟨lb22_ BK399⟩, ⟨lb22_ BK416⟩, ⟨lw22_ HB⟩⟩
                   ·rw [if_neg c70] at H
                    exact absurd H (by simp)
                  ·replace c69 := Bool.eq_false_iff.mpr c69
                   subst c69
                   have H1 : (none) = some r := by rw [if_neg (show ¬ (false = true) by decide)] at H; exact H
                   clear H
                   have H := H1
                   clear H1
                   exact absurd H (by simp)
                 ·replace c67 := Bool.eq_false_iff.mpr c67
                  subst c67
                  have H1 : (laws_FnTreesAreParentheses.l0 kj56 t385 (t385.length : Int) (wrap64 (x80_3 + 1)) t388 t389 t405 t406 t409 t412) = some r := by rw [if_neg (show ¬ (false = true) by decide)] at H; exact H
                  clear H
                  have H := H1
                  clear H1
                  have H' := am22_ H
                  clear H
                  go_wp2
                  go_roundg kj56
                  case measure => have := HJ7.out; have := HJ29.out; have := HK3.out; have := HJ56.out; omega
                  case rel => exact ⟨(wrap64 (x80_3 + 1)), (by first | rfl | (simp; done) | (simp [*]; done)), H', ⟨by have := HJ7.out; have := HJ29.out; have := HK3.out; have := HJ56.out; omega⟩, ⟨lf22_ HO_78⟩, ⟨lf22_ HO_394001⟩, ⟨lf22_ HO_400001⟩, ⟨lf22_ HO_417001⟩, ⟨lf22_ HO_417002⟩, ⟨lf22_ HO_417003⟩, ⟨lb22_ BK393⟩, ⟨lb22_ BK399⟩, ⟨lb22_ BK416⟩, ⟨lw22_ HB⟩⟩
             ·rw [if_neg c54] at H
              exact absurd H (by simp)
            ·rw [if_neg c53] at H
             exact absurd H (by simp)
           ·rw [if_neg c52] at H
            have c52b0 : decide (x80_3 < (t385.length : Int)) = false := decide_eq_false c52
            clear c52
            obtain rfl := Option.some.inj H
            go_wp2
            go_ret
            exact ⟨by first | rfl | (simp [errW_none, errW_some] <;> rfl) | (simp [*, errW_none, errW_some] <;> rfl), lw22_ HB⟩
     ·replace c27 := Bool.eq_false_iff.mpr c27
      subst c27
      have H1 : (some true) = some r := by rw [if_neg (show ¬ (false = true) by decide)] at H; exact H
      clear H
      have H := H1
      clear H1
      obtain rfl := Option.some.inj H
      go_wp2
      go_ret
      exact ⟨by first | rfl | (simp [errW_none, errW_some] <;> rfl) | (simp [*, errW_none, errW_some] <;> rfl), lw22_ HB⟩

/-- THE ONE PURE STATEMENT of laws_FnTreesAreParentheses: yours. -/
def laws_FnTreesAreParentheses.Pure : Prop := ∀ (l0 : List Int) (l1 : List Int), l0.length ≤ maxLen → l0.length * 1 ≤ 140737488351232 → (∀ x ∈ l0, (Lit.int .u8 x).wf = true) → l1.length ≤ maxLen → l1.length * 1 ≤ 140737488351232 → (∀ x ∈ l1, (Lit.int .u8 x).wf = true) → ∃ k, laws_FnTreesAreParentheses.f k l0 l1 = some true
theorem laws_FnTreesAreParentheses.walk (P : laws_FnTreesAreParentheses.Pure) (a0 : Option Addr) (len0 cap0 : Nat) (z0 : List Int) (a1 : Option Addr) (len1 cap1 : Nat) (z1 : List Int) (w : World) (w0 : (a0 = none ∧ len0 = 0 ∧ cap0 = 0 ∧ z0 = []) ∨ ∃ x, a0 = some x ∧ len0 ≤ cap0 ∧ cap0 ≤ maxLen ∧ z0.length = cap0 ∧ (∀ i, i < z0.length → w.cell? (x.add i) = some (.int .u8 (z0.getD i 0))) ∧ ∀ n ∈ z0, (Lit.int .u8 n).wf = true) (y0 : len0 * 1 ≤ 140737488351232) (w1 : (a1 = none ∧ len1 = 0 ∧ cap1 = 0 ∧ z1 = []) ∨ ∃ x, a1 = some x ∧ len1 ≤ cap1 ∧ cap1 ≤ maxLen ∧ z1.length = cap1 ∧ (∀ i, i < z1.length → w.cell? (x.add i) = some (.int .u8 (z1.getD i 0))) ∧ ∀ n ∈ z1, (Lit.int .u8 n).wf = true) (y1 : len1 * 1 ≤ 140737488351232) :
  Calls Try.prog 14 #[.slice a0 len0 cap0, .slice a1 len1 cap1] w fun e w' => e = .returned (.bool true) ∧ Below w.heap.size w w' := by
 obtain ⟨l0, rfl, hr0, hm0, hw0, hc0⟩ := ReadsInt.ofRowC w0
 obtain ⟨l1, rfl, hr1, hm1, hw1, hc1⟩ := ReadsInt.ofRowC w1
 obtain ⟨k, h⟩ := P l0 l1 hm0 y0 hw0 hm1 y1 hw1
 refine (laws_FnTreesAreParentheses.calls k _ _ l0 _ _ l1 true w (Kd.C_of_reads (d := (0 : Int)) (h1 := fun _ => rfl) hr0) hc0 (Kd.C_of_reads (d := (0 : Int)) (h1 := fun _ => rfl) hr1) hc1 h).mono ?_
 rintro e w' ⟨rfl, hd⟩
 exact ⟨rfl, hd⟩

end Go.Proofs.Ytkmhjgejficclaa.PFnTreesAreParentheses
