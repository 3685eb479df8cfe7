-- Laid by a program of this session: the print of the kit with additions of ours (wip/tools/patchprint.py). Nothing of it is trusted: Lean checks it.
import Derived.Test.YtkmhjgejficclaaPFnExactUnpackDirectoryx0
import Derived.Test.YtkmhjgejficclaaPFnExactUnpackDirectoryx1
import Derived.Test.YtkmhjgejficclaaPFnExactUnpackDirectoryx2
import Derived.Test.YtkmhjgejficclaaPFnExactUnpackDirectoryx6
import Derived.Test.YtkmhjgejficclaaPFnExactUnpackDirectoryx10
namespace Go.Proofs.Ytkmhjgejficclaa.PFnExactUnpackDirectory
open Go.RowKit Go.Proofs.YtkmhjgejficclaaW.PrintWords Go.Proofs.YtkmhjgejficclaaW.PrintLast Go.Proofs.YtkmhjgejficclaaW.PrintMore
attribute [local go_sem] max2_int min2_int max_two min_two max_three min_three max_four min_four   -- for this text's walks alone
set_option linter.unusedVariables false
set_option linter.unusedSimpArgs false

/-! ### laws_FnExactUnpackDirectory: function 10 -/
mutual
def laws_FnExactUnpackDirectory.j0 : Nat → Bool → Bool → Bool → Int → List Int → Int → List Int → Int → List Int → List Int → List Int → Int → List Int → Int → List Int → Int → List Int → List Int → List Int → Option (Bool)
 | 0, _, _, _, _, _, _, _, _, _, _, _, _, _, _, _, _, _, _, _ => none
 | k + 1, x7, x11, x53, x337000, x337001, x338000, x338001, x360000, x360001, x360002, x360003, x365000, x365001, x370000, x370001, x382000, x382001, x382002, x382003 => if x53 = true then (none) else ((laws_toBits.f k x337000 x337001).bind fun bt383 => ((laws_eqBits.f k x365000 x365001 bt383.1 bt383.2).bind fun t387 => (if t387 = true then ((laws_toBits.f k x338000 x338001).bind fun bt388 => ((laws_eqBits.f k x370000 x370001 bt388.1 bt388.2).bind fun t392 => (if t392 = true then ((laws_markBits.f k x365000 x365001 1).bind fun bt393 => ((laws_markBits.f k x370000 x370001 bt393.1).bind fun bt395 => (if bt395.1 < 0 then (none) else ((laws_eqRanked.f k x382000 x382001 x382002 x382003 x360000 x360001 x360002 x360003).bind fun t397 => (if t397 = true then (laws_FnExactUnpackDirectory.j1 k x7 (x11 != x7) x337000 x337001 x338000 x338001 x360000 x360001 x360002 x360003 x382000 x382001 x382002 x382003) else (none)))))) else (none)))) else (none))))
def laws_FnExactUnpackDirectory.j1 : Nat → Bool → Bool → Int → List Int → Int → List Int → Int → List Int → List Int → List Int → Int → List Int → List Int → List Int → Option (Bool)
 | 0, _, _, _, _, _, _, _, _, _, _, _, _, _, _ => none
 | k + 1, x7, x82, x337000, x337001, x338000, x338001, x360000, x360001, x360002, x360003, x382000, x382001, x382002, x382003 => if x82 = true then (none) else ((laws_markRanked.f k x382000 x382001 x382002 x382003 1).bind fun bt398 => ((laws_heldRanked.f k x382000 bt398.2.1 bt398.2.2.1 bt398.2.2.2 1).bind fun t402 => (if t402 < 0 then (none) else (if t402 = bt398.1 then ((laws_toBits.f k x337000 x337001).bind fun bt403 => ((laws_toBits.f k x338000 x338001).bind fun bt407 => ((impl_UnpackDirectory.f k bt403.1 bt403.2 bt407.1 bt407.2).bind fun bt411 => ((laws_eqRanked.f k bt411.1 bt411.2.1 bt411.2.2.1 bt411.2.2.2.1 x360000 x360001 x360002 x360003).bind fun t423 => (if t423 = true then (laws_FnExactUnpackDirectory.j2 k bt398.1 (bt411.2.2.2.2 != x7) x382000 bt398.2.1 bt398.2.2.1 bt398.2.2.2) else (none)))))) else (none)))))
def laws_FnExactUnpackDirectory.j2 : Nat → Int → Bool → Int → List Int → List Int → List Int → Option (Bool)
 | 0, _, _, _, _, _, _ => none
 | k + 1, x13, x110, x382000, x382001, x382002, x382003 => if x110 = true then (none) else ((laws_heldRanked.f k x382000 x382001 x382002 x382003 1).bind fun t424 => (if t424 < 0 then (none) else (if t424 = x13 then (some true) else (none))))
end
def laws_FnExactUnpackDirectory.f (k : Nat) (a0_0 : Int) (l0_1 : List Int) (a1_0 : Int) (l1_1 : List Int) : Option (Bool) := (laws_szBits.f a0_0 l0_1 1048576).bind fun t338 => (if t338 < 0 then (some true) else ((laws_szBits.f a1_0 l1_1 t338).bind fun t339 => (if t339 < 0 then (some true) else ((laws_toBits.f k a0_0 l0_1).bind fun bt340 => ((laws_toBits.f k a1_0 l1_1).bind fun bt344 => ((spec_UnpackDirectory.f k bt340.1 bt340.2 bt344.1 bt344.2).bind fun bt348 => ((laws_toBits.f k a0_0 l0_1).bind fun bt360 => ((laws_toBits.f k a1_0 l1_1).bind fun bt365 => ((impl_UnpackDirectory.f k bt360.1 bt360.2 bt365.1 bt365.2).bind fun bt370 => ((laws_eqRanked.f k bt370.1 bt370.2.1 bt370.2.2.1 bt370.2.2.2.1 bt348.1 bt348.2.1 bt348.2.2.1 bt348.2.2.2.1).bind fun t382 => (if t382 = true then (laws_FnExactUnpackDirectory.j0 k bt348.2.2.2.2 bt370.2.2.2.2 (bt370.2.2.2.2 != bt348.2.2.2.2) a0_0 l0_1 a1_0 l1_1 bt348.1 bt348.2.1 bt348.2.2.1 bt348.2.2.2.1 bt360.1 bt360.2 bt365.1 bt365.2 bt370.1 bt370.2.1 bt370.2.2.1 bt370.2.2.2.1) else (none))))))))))))
theorem laws_FnExactUnpackDirectory.mono_l : ∀ k, (∀ y0 y1 y2 y3 y4 y5 y6 y7 y8 y9 y10 y11 y12 y13 y14 y15 y16 y17 y18, LeO (laws_FnExactUnpackDirectory.j0 k y0 y1 y2 y3 y4 y5 y6 y7 y8 y9 y10 y11 y12 y13 y14 y15 y16 y17 y18) (laws_FnExactUnpackDirectory.j0 (k + 1) y0 y1 y2 y3 y4 y5 y6 y7 y8 y9 y10 y11 y12 y13 y14 y15 y16 y17 y18)) ∧ (∀ y0 y1 y2 y3 y4 y5 y6 y7 y8 y9 y10 y11 y12 y13, LeO (laws_FnExactUnpackDirectory.j1 k y0 y1 y2 y3 y4 y5 y6 y7 y8 y9 y10 y11 y12 y13) (laws_FnExactUnpackDirectory.j1 (k + 1) y0 y1 y2 y3 y4 y5 y6 y7 y8 y9 y10 y11 y12 y13)) ∧ (∀ y0 y1 y2 y3 y4 y5, LeO (laws_FnExactUnpackDirectory.j2 k y0 y1 y2 y3 y4 y5) (laws_FnExactUnpackDirectory.j2 (k + 1) y0 y1 y2 y3 y4 y5))
 | 0 => ⟨fun _ _ _ _ _ _ _ _ _ _ _ _ _ _ _ _ _ _ _ r h => by simp [laws_FnExactUnpackDirectory.j0] at h, fun _ _ _ _ _ _ _ _ _ _ _ _ _ _ r h => by simp [laws_FnExactUnpackDirectory.j1] at h, fun _ _ _ _ _ _ r h => by simp [laws_FnExactUnpackDirectory.j2] at h⟩
 | k + 1 => by
  obtain ⟨ih0, ih1, ih2⟩ := laws_FnExactUnpackDirectory.mono_l k
  refine ⟨?_, ?_, ?_⟩
  ·intro y0 y1 y2 y3 y4 y5 y6 y7 y8 y9 y10 y11 y12 y13 y14 y15 y16 y17 y18
   unfold laws_FnExactUnpackDirectory.j0
   repeat' first
   | (with_reducible exact ih0 _ _ _ _ _ _ _ _ _ _ _ _ _ _ _ _ _ _ _)
   | (with_reducible exact ih1 _ _ _ _ _ _ _ _ _ _ _ _ _ _)
   | (with_reducible exact ih2 _ _ _ _ _ _)
   | (with_reducible exact impl_UnpackDirectory.mono _ _ _ _ _)
   | (with_reducible exact laws_eqBits.mono _ _ _ _ _)
   | (with_reducible exact laws_eqRanked.mono _ _ _ _ _ _ _ _ _)
   | (with_reducible exact laws_heldRanked.mono _ _ _ _ _ _)
   | (with_reducible exact laws_markBits.mono _ _ _ _)
   | (with_reducible exact laws_markRanked.mono _ _ _ _ _ _)
   | (with_reducible exact laws_toBits.mono _ _ _)
   | (with_reducible exact spec_UnpackDirectory.mono _ _ _ _ _)
   | (with_reducible exact LeO.refl _)
   | (with_reducible exact LeO.none _)
   | (with_reducible refine LeO.ite ?_ ?_)
   | (with_reducible refine LeO.bind ?_ (fun _ => ?_))
   | exact ih0 _ _ _ _ _ _ _ _ _ _ _ _ _ _ _ _ _ _ _
   | exact ih1 _ _ _ _ _ _ _ _ _ _ _ _ _ _
   | exact ih2 _ _ _ _ _ _
   | exact impl_UnpackDirectory.mono _ _ _ _ _
   | exact laws_eqBits.mono _ _ _ _ _
   | exact laws_eqRanked.mono _ _ _ _ _ _ _ _ _
   | exact laws_heldRanked.mono _ _ _ _ _ _
   | exact laws_markBits.mono _ _ _ _
   | exact laws_markRanked.mono _ _ _ _ _ _
   | exact laws_toBits.mono _ _ _
   | exact spec_UnpackDirectory.mono _ _ _ _ _
   | exact LeO.none _
   | refine LeO.ite ?_ ?_
   | refine LeO.bind ?_ (fun _ => ?_)
  ·intro y0 y1 y2 y3 y4 y5 y6 y7 y8 y9 y10 y11 y12 y13
   unfold laws_FnExactUnpackDirectory.j1
   repeat' first
   | (with_reducible exact ih0 _ _ _ _ _ _ _ _ _ _ _ _ _ _ _ _ _ _ _)
   | (with_reducible exact ih1 _ _ _ _ _ _ _ _ _ _ _ _ _ _)
   | (with_reducible exact ih2 _ _ _ _ _ _)
   | (with_reducible exact impl_UnpackDirectory.mono _ _ _ _ _)
   | (with_reducible exact laws_eqBits.mono _ _ _ _ _)
   | (with_reducible exact laws_eqRanked.mono _ _ _ _ _ _ _ _ _)
   | (with_reducible exact laws_heldRanked.mono _ _ _ _ _ _)
   | (with_reducible exact laws_markBits.mono _ _ _ _)
   | (with_reducible exact laws_markRanked.mono _ _ _ _ _ _)
   | (with_reducible exact laws_toBits.mono _ _ _)
   | (with_reducible exact spec_UnpackDirectory.mono _ _ _ _ _)
   | (with_reducible exact LeO.refl _)
   | (with_reducible exact LeO.none _)
   | (with_reducible refine LeO.ite ?_ ?_)
   | (with_reducible refine LeO.bind ?_ (fun _ => ?_))
   | exact ih0 _ _ _ _ _ _ _ _ _ _ _ _ _ _ _ _ _ _ _
   | exact ih1 _ _ _ _ _ _ _ _ _ _ _ _ _ _
   | exact ih2 _ _ _ _ _ _
   | exact impl_UnpackDirectory.mono _ _ _ _ _
   | exact laws_eqBits.mono _ _ _ _ _
   | exact laws_eqRanked.mono _ _ _ _ _ _ _ _ _
   | exact laws_heldRanked.mono _ _ _ _ _ _
   | exact laws_markBits.mono _ _ _ _
   | exact laws_markRanked.mono _ _ _ _ _ _
   | exact laws_toBits.mono _ _ _
   | exact spec_UnpackDirectory.mono _ _ _ _ _
   | exact LeO.none _
   | refine LeO.ite ?_ ?_
   | refine LeO.bind ?_ (fun _ => ?_)
  ·intro y0 y1 y2 y3 y4 y5
   unfold laws_FnExactUnpackDirectory.j2
   repeat' first
   | (with_reducible exact ih0 _ _ _ _ _ _ _ _ _ _ _ _ _ _ _ _ _ _ _)
   | (with_reducible exact ih1 _ _ _ _ _ _ _ _ _ _ _ _ _ _)
   | (with_reducible exact ih2 _ _ _ _ _ _)
   | (with_reducible exact impl_UnpackDirectory.mono _ _ _ _ _)
   | (with_reducible exact laws_eqBits.mono _ _ _ _ _)
   | (with_reducible exact laws_eqRanked.mono _ _ _ _ _ _ _ _ _)
   | (with_reducible exact laws_heldRanked.mono _ _ _ _ _ _)
   | (with_reducible exact laws_markBits.mono _ _ _ _)
   | (with_reducible exact laws_markRanked.mono _ _ _ _ _ _)
   | (with_reducible exact laws_toBits.mono _ _ _)
   | (with_reducible exact spec_UnpackDirectory.mono _ _ _ _ _)
   | (with_reducible exact LeO.refl _)
   | (with_reducible exact LeO.none _)
   | (with_reducible refine LeO.ite ?_ ?_)
   | (with_reducible refine LeO.bind ?_ (fun _ => ?_))
   | exact ih0 _ _ _ _ _ _ _ _ _ _ _ _ _ _ _ _ _ _ _
   | exact ih1 _ _ _ _ _ _ _ _ _ _ _ _ _ _
   | exact ih2 _ _ _ _ _ _
   | exact impl_UnpackDirectory.mono _ _ _ _ _
   | exact laws_eqBits.mono _ _ _ _ _
   | exact laws_eqRanked.mono _ _ _ _ _ _ _ _ _
   | exact laws_heldRanked.mono _ _ _ _ _ _
   | exact laws_markBits.mono _ _ _ _
   | exact laws_markRanked.mono _ _ _ _ _ _
   | exact laws_toBits.mono _ _ _
   | exact spec_UnpackDirectory.mono _ _ _ _ _
   | exact LeO.none _
   | refine LeO.ite ?_ ?_
   | refine LeO.bind ?_ (fun _ => ?_)
theorem laws_FnExactUnpackDirectory.mono : ∀ a0 a1 a2 a3 k, LeO (laws_FnExactUnpackDirectory.f k a0 a1 a2 a3) (laws_FnExactUnpackDirectory.f (k + 1) a0 a1 a2 a3) := by
 intro a0 a1 a2 a3 k
 obtain ⟨ih0, ih1, ih2⟩ := laws_FnExactUnpackDirectory.mono_l k
 unfold laws_FnExactUnpackDirectory.f
 repeat' first
   | (with_reducible exact ih0 _ _ _ _ _ _ _ _ _ _ _ _ _ _ _ _ _ _ _)
   | (with_reducible exact ih1 _ _ _ _ _ _ _ _ _ _ _ _ _ _)
   | (with_reducible exact ih2 _ _ _ _ _ _)
   | (with_reducible exact impl_UnpackDirectory.mono _ _ _ _ _)
   | (with_reducible exact laws_eqBits.mono _ _ _ _ _)
   | (with_reducible exact laws_eqRanked.mono _ _ _ _ _ _ _ _ _)
   | (with_reducible exact laws_heldRanked.mono _ _ _ _ _ _)
   | (with_reducible exact laws_markBits.mono _ _ _ _)
   | (with_reducible exact laws_markRanked.mono _ _ _ _ _ _)
   | (with_reducible exact laws_toBits.mono _ _ _)
   | (with_reducible exact spec_UnpackDirectory.mono _ _ _ _ _)
   | (with_reducible exact LeO.refl _)
   | (with_reducible exact LeO.none _)
   | (with_reducible refine LeO.ite ?_ ?_)
   | (with_reducible refine LeO.bind ?_ (fun _ => ?_))
   | exact ih0 _ _ _ _ _ _ _ _ _ _ _ _ _ _ _ _ _ _ _
   | exact ih1 _ _ _ _ _ _ _ _ _ _ _ _ _ _
   | exact ih2 _ _ _ _ _ _
   | exact impl_UnpackDirectory.mono _ _ _ _ _
   | exact laws_eqBits.mono _ _ _ _ _
   | exact laws_eqRanked.mono _ _ _ _ _ _ _ _ _
   | exact laws_heldRanked.mono _ _ _ _ _ _
   | exact laws_markBits.mono _ _ _ _
   | exact laws_markRanked.mono _ _ _ _ _ _
   | exact laws_toBits.mono _ _ _
   | exact spec_UnpackDirectory.mono _ _ _ _ _
   | exact LeO.none _
   | refine LeO.ite ?_ ?_
   | refine LeO.bind ?_ (fun _ => ?_)
def laws_FnExactUnpackDirectory.T8 : Bool × List (List Nat × List Nat) := (true, [([], []), ([0], [0]), ([], []), ([2, 1], [2]), ([1, 3, 3], [1, 3]), ([4], [4]), ([5], [5]), ([5], [5]), ([], []), ([8, 6, 4, 0, 1, 2, 3, 4, 5, 6, 8], [6, 8]), ([7, 9, 0, 1, 2, 3, 4, 5, 6, 7, 8, 9], [7])])
def laws_FnExactUnpackDirectory.B8 : List Nat := [0, 1, 0, 7, 15, 31, 63, 63, 0, 383, 1023]
theorem laws_FnExactUnpackDirectory.tab8 : rtab .any (opsOf Try.f10 8) = laws_FnExactUnpackDirectory.T8 := by kernel_rfl
theorem laws_FnExactUnpackDirectory.bits8 : waitsOk laws_FnExactUnpackDirectory.T8.2 laws_FnExactUnpackDirectory.B8 = true := by kernel_rfl
def laws_FnExactUnpackDirectory.T31 : Bool × List (List Nat × List Nat) := (true, [([], []), ([0], [0]), ([], []), ([2, 1], [2]), ([1, 3, 3], [1, 3]), ([4], [4]), ([5], [5]), ([5], [5]), ([], []), ([8, 6, 4, 0, 1, 2, 3, 4, 5, 6, 8], [6, 8]), ([7, 9, 0, 1, 2, 3, 4, 5, 6, 7, 8, 9], [7])])
def laws_FnExactUnpackDirectory.B31 : List Nat := [0, 1, 0, 7, 15, 31, 63, 63, 0, 383, 1023]
theorem laws_FnExactUnpackDirectory.tab31 : rtab .any (opsOf Try.f10 31) = laws_FnExactUnpackDirectory.T31 := by kernel_rfl
theorem laws_FnExactUnpackDirectory.bits31 : waitsOk laws_FnExactUnpackDirectory.T31.2 laws_FnExactUnpackDirectory.B31 = true := by kernel_rfl
set_option maxHeartbeats 8000000 in
set_option maxRecDepth 100000 in
theorem laws_FnExactUnpackDirectory.calls (k : Nat) (a0_0 : Int) (A0_1 : Option Addr) (c0_1 : Nat) (l0_1 : List Int) (a1_0 : Int) (A1_1 : Option Addr) (c1_1 : Nat) (l1_1 : List Int) (r : Bool) (w : World) (hr0_1 : Kd.C (Kd.int .i64) w A0_1 l0_1.length l0_1) (hc0_1 : l0_1.length ≤ c0_1) (hr1_1 : Kd.C (Kd.int .i64) w A1_1 l1_1.length l1_1) (hc1_1 : l1_1.length ≤ c1_1) (h : laws_FnExactUnpackDirectory.f k a0_0 l0_1 a1_0 l1_1 = some r) :
  Calls Try.prog 10 #[.agg #[.int .i64 a0_0, .slice A0_1 l0_1.length c0_1], .agg #[.int .i64 a1_0, .slice A1_1 l1_1.length c1_1]] w fun e w' => e = .returned (.bool r) ∧ Below w.heap.size w w' := by
 have hu24 := Try.underlying24
 have hu48 := Try.underlying48
 have hu26 := Try.underlying26
 have HR0_1 := am_ hr0_1
 have HC0_1 := am_ hc0_1
 clear hr0_1 hc0_1
 have HR1_1 := am_ hr1_1
 have HC1_1 := am_ hc1_1
 clear hr1_1 hc1_1
 have HB := am_ (Below.refl w.heap.size w)
 have H : ((laws_szBits.f a0_0 l0_1 1048576).bind fun t338 => (if t338 < 0 then (some true) else ((laws_szBits.f a1_0 l1_1 t338).bind fun t339 => (if t339 < 0 then (some true) else ((laws_toBits.f k a0_0 l0_1).bind fun bt340 => ((laws_toBits.f k a1_0 l1_1).bind fun bt344 => ((spec_UnpackDirectory.f k bt340.1 bt340.2 bt344.1 bt344.2).bind fun bt348 => ((laws_toBits.f k a0_0 l0_1).bind fun bt360 => ((laws_toBits.f k a1_0 l1_1).bind fun bt365 => ((impl_UnpackDirectory.f k bt360.1 bt360.2 bt365.1 bt365.2).bind fun bt370 => ((laws_eqRanked.f k bt370.1 bt370.2.1 bt370.2.2.1 bt370.2.2.2.1 bt348.1 bt348.2.1 bt348.2.2.1 bt348.2.2.2.1).bind fun t382 => (if t382 = true then (laws_FnExactUnpackDirectory.j0 k bt348.2.2.2.2 bt370.2.2.2.2 (bt370.2.2.2.2 != bt348.2.2.2.2) a0_0 l0_1 a1_0 l1_1 bt348.1 bt348.2.1 bt348.2.2.1 bt348.2.2.2.1 bt360.1 bt360.2 bt365.1 bt365.2 bt370.1 bt370.2.1 bt370.2.2.1 bt370.2.2.2.1) else (none))))))))))))) = some r := h
 clear h
 replace H := Option.bind_eq_some_iff.mp H
 obtain ⟨t338, A30, H⟩ := H
 replace H : (if t338 < 0 then (some true) else ((laws_szBits.f a1_0 l1_1 t338).bind fun t339 => (if t339 < 0 then (some true) else ((laws_toBits.f k a0_0 l0_1).bind fun bt340 => ((laws_toBits.f k a1_0 l1_1).bind fun bt344 => ((spec_UnpackDirectory.f k bt340.1 bt340.2 bt344.1 bt344.2).bind fun bt348 => ((laws_toBits.f k a0_0 l0_1).bind fun bt360 => ((laws_toBits.f k a1_0 l1_1).bind fun bt365 => ((impl_UnpackDirectory.f k bt360.1 bt360.2 bt365.1 bt365.2).bind fun bt370 => ((laws_eqRanked.f k bt370.1 bt370.2.1 bt370.2.2.1 bt370.2.2.2.1 bt348.1 bt348.2.1 bt348.2.2.1 bt348.2.2.2.1).bind fun t382 => (if t382 = true then (laws_FnExactUnpackDirectory.j0 k bt348.2.2.2.2 bt370.2.2.2.2 (bt370.2.2.2.2 != bt348.2.2.2.2) a0_0 l0_1 a1_0 l1_1 bt348.1 bt348.2.1 bt348.2.2.1 bt348.2.2.2.1 bt360.1 bt360.2 bt365.1 bt365.2 bt370.1 bt370.2.1 bt370.2.2.1 bt370.2.2.2.1) else (none)))))))))))) = some r := H
 have A3 := am_ A30
 clear A30
 by_cases c4 : t338 < 0
 ·rw [if_pos c4] at H
  have c4b0 : decide (t338 < 0) = true := decide_eq_true c4
  clear c4
  obtain rfl := Option.some.inj H
  go_enter Try.func10, Try.ntmps10
  go_wp2_with (first | ((with_reducible refine gate_dst (N := 2) rfl ?_); refine bev_ 2 #[.int .i64 a0_0, .slice A0_1 l0_1.length c0_1] 24 rfl rfl ?_; intro gb336 hg w5 hbox hb; have BK336 := am_ (hbox); have GW336 := am_ ((by rw [hg]; exact (below_size (lw_ HB)) : w.heap.size ≤ gb336)); have GE336 := am_ ((by rw [hg]; exact (below_size (lw_ HB)) : w.heap.size ≤ gb336)); replace HB := am_ (below_step (lw_ HB) hb); clear hb hbox hg) | ((with_reducible refine gate_dst (N := 3) rfl ?_); refine bev_ 3 #[.int .i64 a1_0, .slice A1_1 l1_1.length c1_1] 24 rfl rfl ?_; intro gb337 hg w6 hbox hb; have BK337 := am_ (hbox); have GW337 := am_ ((by rw [hg]; exact (below_size (lw_ HB)) : w.heap.size ≤ gb337)); have GE337 := am_ ((by rw [hg]; exact (below_size (lw_ HB)) : w.heap.size ≤ gb337)); have NB336_337 := am_ ((by rw [hg]; exact Nat.ne_of_lt (blk_lt (g := gb336) (lb_ BK336)) : gb336 ≠ gb337)); have NB337_336 := am_ ((by rw [hg]; exact Nat.ne_of_gt (blk_lt (g := gb336) (lb_ BK336)) : gb337 ≠ gb336)); replace BK336 := am_ (blk_below (g := gb336) (lb_ BK336) hb); replace HB := am_ (below_step (lw_ HB) hb); clear hb hbox hg; have hnb7 := NB336_337.out; have hnc7 := NB337_336.out; obtain ⟨hcz8_0, hcz8_1, hfz8_0, hfz8_1⟩ := bx2_ BK336.out) | ((with_reducible refine gate_callee (f := 16) rfl ?_); refine goesL_ (some 19) rfl rfl Try.func16 (by kernel_rfl) rfl #[.agg #[.int .i64 a0_0, .slice A0_1 l0_1.length c0_1], .int .i64 1048576] rfl lm_ ?_; (with_reducible refine (laws_szBits.calls a0_0 _ _ l0_1 1048576 t338 _ ?side1 ?side2 A3.out).mono ?_); (case side1 => exact lc_ (Kd.C_below HR0_1.out HB.out)); (case side2 => exact HC0_1.out); rintro e w9 ⟨rfl, hb⟩; refine ⟨_, rfl, ?_⟩; replace BK336 := am_ (blk_below (g := gb336) (lb_ BK336) hb); replace BK337 := am_ (blk_below (g := gb337) (lb_ BK337) hb); replace HB := am_ (below_step (lw_ HB) hb); (try clear hb); (try clear hb2); (try clear hk); (try clear hi)))
  go_ret
  exact ⟨er_, lw_ HB⟩
 ·rw [if_neg c4] at H
  have c4b0 : decide (t338 < 0) = false := decide_eq_false c4
  clear c4
  replace H := Option.bind_eq_some_iff.mp H
  obtain ⟨t339, A100, H⟩ := H
  replace H : (if t339 < 0 then (some true) else ((laws_toBits.f k a0_0 l0_1).bind fun bt340 => ((laws_toBits.f k a1_0 l1_1).bind fun bt344 => ((spec_UnpackDirectory.f k bt340.1 bt340.2 bt344.1 bt344.2).bind fun bt348 => ((laws_toBits.f k a0_0 l0_1).bind fun bt360 => ((laws_toBits.f k a1_0 l1_1).bind fun bt365 => ((impl_UnpackDirectory.f k bt360.1 bt360.2 bt365.1 bt365.2).bind fun bt370 => ((laws_eqRanked.f k bt370.1 bt370.2.1 bt370.2.2.1 bt370.2.2.2.1 bt348.1 bt348.2.1 bt348.2.2.1 bt348.2.2.2.1).bind fun t382 => (if t382 = true then (laws_FnExactUnpackDirectory.j0 k bt348.2.2.2.2 bt370.2.2.2.2 (bt370.2.2.2.2 != bt348.2.2.2.2) a0_0 l0_1 a1_0 l1_1 bt348.1 bt348.2.1 bt348.2.2.1 bt348.2.2.2.1 bt360.1 bt360.2 bt365.1 bt365.2 bt370.1 bt370.2.1 bt370.2.2.1 bt370.2.2.2.1) else (none)))))))))) = some r := H
  have A10 := am_ A100
  clear A100
  by_cases c11 : t339 < 0
  ·rw [if_pos c11] at H
   have c11b0 : decide (t339 < 0) = true := decide_eq_true c11
   clear c11
   obtain rfl := Option.some.inj H
   go_enter Try.func10, Try.ntmps10
   go_wp2_with (first | ((with_reducible refine gate_dst (N := 2) rfl ?_); refine bev_ 2 #[.int .i64 a0_0, .slice A0_1 l0_1.length c0_1] 24 rfl rfl ?_; intro gb336 hg w12 hbox hb; have BK336 := am_ (hbox); have GW336 := am_ ((by rw [hg]; exact (below_size (lw_ HB)) : w.heap.size ≤ gb336)); have GE336 := am_ ((by rw [hg]; exact (below_size (lw_ HB)) : w.heap.size ≤ gb336)); replace HB := am_ (below_step (lw_ HB) hb); clear hb hbox hg) | ((with_reducible refine gate_dst (N := 3) rfl ?_); refine bev_ 3 #[.int .i64 a1_0, .slice A1_1 l1_1.length c1_1] 24 rfl rfl ?_; intro gb337 hg w13 hbox hb; have BK337 := am_ (hbox); have GW337 := am_ ((by rw [hg]; exact (below_size (lw_ HB)) : w.heap.size ≤ gb337)); have GE337 := am_ ((by rw [hg]; exact (below_size (lw_ HB)) : w.heap.size ≤ gb337)); have NB336_337 := am_ ((by rw [hg]; exact Nat.ne_of_lt (blk_lt (g := gb336) (lb_ BK336)) : gb336 ≠ gb337)); have NB337_336 := am_ ((by rw [hg]; exact Nat.ne_of_gt (blk_lt (g := gb336) (lb_ BK336)) : gb337 ≠ gb336)); replace BK336 := am_ (blk_below (g := gb336) (lb_ BK336) hb); replace HB := am_ (below_step (lw_ HB) hb); clear hb hbox hg; have hnb14 := NB336_337.out; have hnc14 := NB337_336.out; obtain ⟨hcz15_0, hcz15_1, hfz15_0, hfz15_1⟩ := bx2_ BK336.out) | ((with_reducible refine gate_callee (f := 16) rfl ?_); refine goesL_ (some 19) rfl rfl Try.func16 (by kernel_rfl) rfl #[.agg #[.int .i64 a0_0, .slice A0_1 l0_1.length c0_1], .int .i64 1048576] rfl lm_ ?_; (with_reducible refine (laws_szBits.calls a0_0 _ _ l0_1 1048576 t338 _ ?side1 ?side2 A3.out).mono ?_); (case side1 => exact lc_ (Kd.C_below HR0_1.out HB.out)); (case side2 => exact HC0_1.out); rintro e w16 ⟨rfl, hb⟩; refine ⟨_, rfl, ?_⟩; replace BK336 := am_ (blk_below (g := gb336) (lb_ BK336) hb); replace BK337 := am_ (blk_below (g := gb337) (lb_ BK337) hb); replace HB := am_ (below_step (lw_ HB) hb); (try clear hb); (try clear hb2); (try clear hk); (try clear hi); obtain ⟨hcz17_0, hcz17_1, hfz17_0, hfz17_1⟩ := bx2_ BK337.out) | ((with_reducible refine gate_callee (f := 16) rfl ?_); refine goesL_ (some 24) rfl rfl Try.func16 (by kernel_rfl) rfl #[.agg #[.int .i64 a1_0, .slice A1_1 l1_1.length c1_1], .int .i64 t338] rfl lm_ ?_; (with_reducible refine (laws_szBits.calls a1_0 _ _ l1_1 t338 t339 _ ?side1 ?side2 A10.out).mono ?_); (case side1 => exact lc_ (Kd.C_below HR1_1.out HB.out)); (case side2 => exact HC1_1.out); rintro e w18 ⟨rfl, hb⟩; refine ⟨_, rfl, ?_⟩; replace BK336 := am_ (blk_below (g := gb336) (lb_ BK336) hb); replace BK337 := am_ (blk_below (g := gb337) (lb_ BK337) hb); replace HB := am_ (below_step (lw_ HB) hb); (try clear hb); (try clear hb2); (try clear hk); (try clear hi)))
   go_ret
   exact ⟨er_, lw_ HB⟩
  ·rw [if_neg c11] at H
   have c11b0 : decide (t339 < 0) = false := decide_eq_false c11
   clear c11
   replace H := Option.bind_eq_some_iff.mp H
   obtain ⟨⟨t340, t341⟩, A190, H⟩ := H
   replace H : ((laws_toBits.f k a1_0 l1_1).bind fun bt344 => ((spec_UnpackDirectory.f k t340 t341 bt344.1 bt344.2).bind fun bt348 => ((laws_toBits.f k a0_0 l0_1).bind fun bt360 => ((laws_toBits.f k a1_0 l1_1).bind fun bt365 => ((impl_UnpackDirectory.f k bt360.1 bt360.2 bt365.1 bt365.2).bind fun bt370 => ((laws_eqRanked.f k bt370.1 bt370.2.1 bt370.2.2.1 bt370.2.2.2.1 bt348.1 bt348.2.1 bt348.2.2.1 bt348.2.2.2.1).bind fun t382 => (if t382 = true then (laws_FnExactUnpackDirectory.j0 k bt348.2.2.2.2 bt370.2.2.2.2 (bt370.2.2.2.2 != bt348.2.2.2.2) a0_0 l0_1 a1_0 l1_1 bt348.1 bt348.2.1 bt348.2.2.1 bt348.2.2.2.1 bt360.1 bt360.2 bt365.1 bt365.2 bt370.1 bt370.2.1 bt370.2.2.1 bt370.2.2.2.1) else (none)))))))) = some r := H
   have A19 := am_ A190
   clear A190
   replace H := Option.bind_eq_some_iff.mp H
   obtain ⟨⟨t344, t345⟩, A200, H⟩ := H
   replace H : ((spec_UnpackDirectory.f k t340 t341 t344 t345).bind fun bt348 => ((laws_toBits.f k a0_0 l0_1).bind fun bt360 => ((laws_toBits.f k a1_0 l1_1).bind fun bt365 => ((impl_UnpackDirectory.f k bt360.1 bt360.2 bt365.1 bt365.2).bind fun bt370 => ((laws_eqRanked.f k bt370.1 bt370.2.1 bt370.2.2.1 bt370.2.2.2.1 bt348.1 bt348.2.1 bt348.2.2.1 bt348.2.2.2.1).bind fun t382 => (if t382 = true then (laws_FnExactUnpackDirectory.j0 k bt348.2.2.2.2 bt370.2.2.2.2 (bt370.2.2.2.2 != bt348.2.2.2.2) a0_0 l0_1 a1_0 l1_1 bt348.1 bt348.2.1 bt348.2.2.1 bt348.2.2.2.1 bt360.1 bt360.2 bt365.1 bt365.2 bt370.1 bt370.2.1 bt370.2.2.1 bt370.2.2.2.1) else (none))))))) = some r := H
   have A20 := am_ A200
   clear A200
   replace H := Option.bind_eq_some_iff.mp H
   obtain ⟨⟨t348, t349, t352, t355, t358⟩, A210, H⟩ := H
   replace H : ((laws_toBits.f k a0_0 l0_1).bind fun bt360 => ((laws_toBits.f k a1_0 l1_1).bind fun bt365 => ((impl_UnpackDirectory.f k bt360.1 bt360.2 bt365.1 bt365.2).bind fun bt370 => ((laws_eqRanked.f k bt370.1 bt370.2.1 bt370.2.2.1 bt370.2.2.2.1 t348 t349 t352 t355).bind fun t382 => (if t382 = true then (laws_FnExactUnpackDirectory.j0 k t358 bt370.2.2.2.2 (bt370.2.2.2.2 != t358) a0_0 l0_1 a1_0 l1_1 t348 t349 t352 t355 bt360.1 bt360.2 bt365.1 bt365.2 bt370.1 bt370.2.1 bt370.2.2.1 bt370.2.2.2.1) else (none)))))) = some r := H
   have A21 := am_ A210
   clear A210
   replace H := Option.bind_eq_some_iff.mp H
   obtain ⟨⟨t360, t361⟩, A220, H⟩ := H
   replace H : ((laws_toBits.f k a1_0 l1_1).bind fun bt365 => ((impl_UnpackDirectory.f k t360 t361 bt365.1 bt365.2).bind fun bt370 => ((laws_eqRanked.f k bt370.1 bt370.2.1 bt370.2.2.1 bt370.2.2.2.1 t348 t349 t352 t355).bind fun t382 => (if t382 = true then (laws_FnExactUnpackDirectory.j0 k t358 bt370.2.2.2.2 (bt370.2.2.2.2 != t358) a0_0 l0_1 a1_0 l1_1 t348 t349 t352 t355 t360 t361 bt365.1 bt365.2 bt370.1 bt370.2.1 bt370.2.2.1 bt370.2.2.2.1) else (none))))) = some r := H
   have A22 := am_ A220
   clear A220
   replace H := Option.bind_eq_some_iff.mp H
   obtain ⟨⟨t365, t366⟩, A230, H⟩ := H
   replace H : ((impl_UnpackDirectory.f k t360 t361 t365 t366).bind fun bt370 => ((laws_eqRanked.f k bt370.1 bt370.2.1 bt370.2.2.1 bt370.2.2.2.1 t348 t349 t352 t355).bind fun t382 => (if t382 = true then (laws_FnExactUnpackDirectory.j0 k t358 bt370.2.2.2.2 (bt370.2.2.2.2 != t358) a0_0 l0_1 a1_0 l1_1 t348 t349 t352 t355 t360 t361 t365 t366 bt370.1 bt370.2.1 bt370.2.2.1 bt370.2.2.2.1) else (none)))) = some r := H
   have A23 := am_ A230
   clear A230
   replace H := Option.bind_eq_some_iff.mp H
   obtain ⟨⟨t370, t371, t374, t377, t380⟩, A240, H⟩ := H
   replace H : ((laws_eqRanked.f k t370 t371 t374 t377 t348 t349 t352 t355).bind fun t382 => (if t382 = true then (laws_FnExactUnpackDirectory.j0 k t358 t380 (t380 != t358) a0_0 l0_1 a1_0 l1_1 t348 t349 t352 t355 t360 t361 t365 t366 t370 t371 t374 t377) else (none))) = some r := H
   have A24 := am_ A240
   clear A240
   have HC25 := am_ H
   clear H
   go_enter Try.func10, Try.ntmps10
   try go_wp2_with (first | ((with_reducible refine gate_dst (N := 2) rfl ?_); refine bev_ 2 #[.int .i64 a0_0, .slice A0_1 l0_1.length c0_1] 24 rfl rfl ?_; intro gb336 hg w26 hbox hb; have BK336 := am_ (hbox); have GW336 := am_ ((by rw [hg]; exact (below_size (lw_ HB)) : w.heap.size ≤ gb336)); have GE336 := am_ ((by rw [hg]; exact (below_size (lw_ HB)) : w.heap.size ≤ gb336)); replace HB := am_ (below_step (lw_ HB) hb); clear hb hbox hg) | ((with_reducible refine gate_dst (N := 3) rfl ?_); refine bev_ 3 #[.int .i64 a1_0, .slice A1_1 l1_1.length c1_1] 24 rfl rfl ?_; intro gb337 hg w27 hbox hb; have BK337 := am_ (hbox); have GW337 := am_ ((by rw [hg]; exact (below_size (lw_ HB)) : w.heap.size ≤ gb337)); have GE337 := am_ ((by rw [hg]; exact (below_size (lw_ HB)) : w.heap.size ≤ gb337)); have NB336_337 := am_ ((by rw [hg]; exact Nat.ne_of_lt (blk_lt (g := gb336) (lb_ BK336)) : gb336 ≠ gb337)); have NB337_336 := am_ ((by rw [hg]; exact Nat.ne_of_gt (blk_lt (g := gb336) (lb_ BK336)) : gb337 ≠ gb336)); replace BK336 := am_ (blk_below (g := gb336) (lb_ BK336) hb); replace HB := am_ (below_step (lw_ HB) hb); clear hb hbox hg; have hnb28 := NB336_337.out; have hnc28 := NB337_336.out; obtain ⟨hcz29_0, hcz29_1, hfz29_0, hfz29_1⟩ := bx2_ BK336.out) | ((with_reducible refine gate_callee (f := 16) rfl ?_); refine goesL_ (some 19) rfl rfl Try.func16 (by kernel_rfl) rfl #[.agg #[.int .i64 a0_0, .slice A0_1 l0_1.length c0_1], .int .i64 1048576] rfl lm_ ?_; (with_reducible refine (laws_szBits.calls a0_0 _ _ l0_1 1048576 t338 _ ?side1 ?side2 A3.out).mono ?_); (case side1 => exact lc_ (Kd.C_below HR0_1.out HB.out)); (case side2 => exact HC0_1.out); rintro e w30 ⟨rfl, hb⟩; refine ⟨_, rfl, ?_⟩; replace BK336 := am_ (blk_below (g := gb336) (lb_ BK336) hb); replace BK337 := am_ (blk_below (g := gb337) (lb_ BK337) hb); replace HB := am_ (below_step (lw_ HB) hb); (try clear hb); (try clear hb2); (try clear hk); (try clear hi); obtain ⟨hcz31_0, hcz31_1, hfz31_0, hfz31_1⟩ := bx2_ BK337.out) | ((with_reducible refine gate_callee (f := 16) rfl ?_); refine goesL_ (some 24) rfl rfl Try.func16 (by kernel_rfl) rfl #[.agg #[.int .i64 a1_0, .slice A1_1 l1_1.length c1_1], .int .i64 t338] rfl lm_ ?_; (with_reducible refine (laws_szBits.calls a1_0 _ _ l1_1 t338 t339 _ ?side1 ?side2 A10.out).mono ?_); (case side1 => exact lc_ (Kd.C_below HR1_1.out HB.out)); (case side2 => exact HC1_1.out); rintro e w32 ⟨rfl, hb⟩; refine ⟨_, rfl, ?_⟩; replace BK336 := am_ (blk_below (g := gb336) (lb_ BK336) hb); replace BK337 := am_ (blk_below (g := gb337) (lb_ BK337) hb); replace HB := am_ (below_step (lw_ HB) hb); (try clear hb); (try clear hb2); (try clear hk); (try clear hi)))
   replace BK336 := am_ (blk_drew BK336.out); replace BK337 := am_ (blk_drew BK337.out); replace HB := am_ (below_drew1 HB.out)
   refine start_ (n := 11) (S := fun w' => w'.cell? ⟨gb336, 0, none⟩ = some (.int .i64 a0_0) ∧ w'.cell? ⟨gb336, 1, none⟩ = some (.slice A0_1 l0_1.length c0_1) ∧ w'.cell? ⟨gb337, 0, none⟩ = some (.int .i64 a1_0) ∧ w'.cell? ⟨gb337, 1, none⟩ = some (.slice A1_1 l1_1.length c1_1)) (ds := []) #[false, false, false, false, false, false, false, false, false, false, false] (by kernel_rfl) rfl rfl ⟨(blk_cell BK336.out 0).trans rfl, (blk_cell BK336.out 1).trans rfl, (blk_cell BK337.out 0).trans rfl, (blk_cell BK337.out 1).trans rfl⟩ (fun hHeld => ?_); refine with_tabW laws_FnExactUnpackDirectory.tab8 laws_FnExactUnpackDirectory.bits8 (fun HT_ HW_ => ?_)
   generalize w32.drew = w33 at BK336 BK337 HB hHeld ⊢
   refine take_ (i := 0) (N := some 28) (v := ?_) (a' := ?_) #[true, false, false, false, false, false, false, false, false, false, false] rfl rfl (take_ofW HT_.out HW_.out (by kernel_rfl)) (fun _ _ _ h => h) (Or.inl ⟨by rfl, ?_⟩) hHeld ?_ ?_
   rotate_left
   ·rintro w' ⟨s0, s1, s2, s3⟩
    go_simp
    with_reducible rfl
   rotate_left
   ·simp only [Act.put, List.setIfInBounds_toArray, List.set_cons_zero, List.set_cons_succ, i64_w, i32_w]
    rfl
   refine take_ (i := 2) (N := some 30) (v := ?_) (a' := ?_) #[true, false, true, false, false, false, false, false, false, false, false] rfl rfl (take_ofW HT_.out HW_.out (by kernel_rfl)) (fun _ _ _ h => h) (Or.inl ⟨by rfl, ?_⟩) hHeld ?_ ?_
   rotate_left
   ·rintro w' ⟨s0, s1, s2, s3⟩
    go_simp
    with_reducible rfl
   rotate_left
   ·simp only [Act.put, List.setIfInBounds_toArray, List.set_cons_zero, List.set_cons_succ, i64_w, i32_w]
    rfl
   refine join_ (σ := Value × Value × Value × Value × Value × Nat) 2 #[true, true, true, true, true, true, true, true, true, false, false] (fun s_ => [(29, .agg #[.int .i64 t340, s_.1]), (31, .agg #[.int .i64 t344, s_.2.1]), (32, .tuple #[.agg #[.int .i64 t348, s_.2.2.1, s_.2.2.2.1, s_.2.2.2.2.1], .bool t358]), (6, .pointer (some ⟨s_.2.2.2.2.2, 0, none⟩)), (27, .tuple #[.agg #[.int .i64 t348, s_.2.2.1, s_.2.2.2.1, s_.2.2.2.2.1], .bool t358]), (33, .agg #[.int .i64 t348, s_.2.2.1, s_.2.2.2.1, s_.2.2.2.2.1]), (34, .bool t358)]) (fun s_ w' => (w'.cell? ⟨gb336, 0, none⟩ = some (.int .i64 a0_0) ∧ w'.cell? ⟨gb336, 1, none⟩ = some (.slice A0_1 l0_1.length c0_1) ∧ w'.cell? ⟨gb337, 0, none⟩ = some (.int .i64 a1_0) ∧ w'.cell? ⟨gb337, 1, none⟩ = some (.slice A1_1 l1_1.length c1_1)) ∧ (Kd.R (Kd.int .i64) 3 w' w.heap.size (fun k_ => some k_ ≠ (s_.2.1 : Value).ownBlock ∧ some k_ ≠ (s_.2.2.1 : Value).ownBlock ∧ some k_ ≠ (s_.2.2.2.1 : Value).ownBlock ∧ some k_ ≠ (s_.2.2.2.2.1 : Value).ownBlock) s_.1 t341) ∧ (Kd.R (Kd.int .i64) 3 w' w.heap.size (fun k_ => some k_ ≠ (s_.1 : Value).ownBlock ∧ some k_ ≠ (s_.2.2.1 : Value).ownBlock ∧ some k_ ≠ (s_.2.2.2.1 : Value).ownBlock ∧ some k_ ≠ (s_.2.2.2.2.1 : Value).ownBlock) s_.2.1 t345) ∧ (Kd.R (Kd.int .i64) 3 w' w.heap.size (fun k_ => some k_ ≠ (s_.1 : Value).ownBlock ∧ some k_ ≠ (s_.2.1 : Value).ownBlock ∧ some k_ ≠ (s_.2.2.2.1 : Value).ownBlock ∧ some k_ ≠ (s_.2.2.2.2.1 : Value).ownBlock) s_.2.2.1 t349) ∧ (Kd.R (Kd.int .i64) 3 w' w.heap.size (fun k_ => some k_ ≠ (s_.1 : Value).ownBlock ∧ some k_ ≠ (s_.2.1 : Value).ownBlock ∧ some k_ ≠ (s_.2.2.1 : Value).ownBlock ∧ some k_ ≠ (s_.2.2.2.2.1 : Value).ownBlock) s_.2.2.2.1 t352) ∧ (Kd.R (Kd.int .i64) 3 w' w.heap.size (fun k_ => some k_ ≠ (s_.1 : Value).ownBlock ∧ some k_ ≠ (s_.2.1 : Value).ownBlock ∧ some k_ ≠ (s_.2.2.1 : Value).ownBlock ∧ some k_ ≠ (s_.2.2.2.1 : Value).ownBlock) s_.2.2.2.2.1 t355) ∧ (w'.heap[gb336]? = some (.cells #[.int .i64 a0_0, .slice A0_1 l0_1.length c0_1] 24 (0, 0))) ∧ (w'.heap[gb337]? = some (.cells #[.int .i64 a1_0, .slice A1_1 l1_1.length c1_1] 24 (0, 0))) ∧ (w'.heap[s_.2.2.2.2.2]? = some (.cells #[.int .i64 0, .slice none 0 0, .slice none 0 0, .slice none 0 0] 48 (0, 0))) ∧ (w.heap.size ≤ s_.2.2.2.2.2) ∧ (w.heap.size ≤ s_.2.2.2.2.2) ∧ (gb336 ≠ s_.2.2.2.2.2) ∧ (s_.2.2.2.2.2 ≠ gb336) ∧ (gb337 ≠ s_.2.2.2.2.2) ∧ (s_.2.2.2.2.2 ≠ gb337) ∧ (Below w.heap.size w w')) ?_ ?_
   rotate_left
   ·intro hCont
    refine two_ (i := 1) (j := 8) (Ni := some 29) (Nj := some 6) #[true, true, true, false, false, false, false, false, false, false, false] #[true, false, true, false, false, false, false, false, true, false, false] rfl rfl rfl rfl (two_of HT_.out (by kernel_rfl)) (by decide) (by decide) (fun K hK => ?_) (fun K hK => ?_)
    ·skip
     refine goes_ Try.func18 (by kernel_rfl) rfl #[.agg #[.int .i64 a0_0, .slice A0_1 l0_1.length c0_1]] (by rfl) rfl rfl lm_ ?_
     with_reducible refine (laws_toBits.calls k a0_0 _ _ l0_1 t340 t341 _ ?side1 ?side2 A19.out).mono ?_
     (case side1 => exact lc_ (Kd.C_below HR0_1.out HB.out))
     (case side2 => exact HC0_1.out)
     rintro e w34 ⟨v342, rfl, ho0, hb⟩
     refine ⟨_, rfl, ?_⟩
     have HO343 := am_ (Kd.R_lower ho0 (below_size (lw_ HB))); replace BK336 := am_ (blk_below (g := gb336) (lb_ BK336) hb); replace BK337 := am_ (blk_below (g := gb337) (lb_ BK337) hb); replace HB := am_ (below_step (lw_ HB) hb)
     (try clear hb)
     (try clear hb2)
     (try clear hk)
     (try clear hi)
     (try clear ho0)
     refine hK.out _ _ ⟨(blk_cell BK336.out 0).trans rfl, (blk_cell BK336.out 1).trans rfl, (blk_cell BK337.out 0).trans rfl, (blk_cell BK337.out 1).trans rfl⟩ (fun hHeld => ?_)
     clear hK K
     refine norm_ (a' := ?_) ?_ ?_
     rotate_left
     ·show Act.put _ (some 29) _ = _
      simp only [Act.put, List.setIfInBounds_toArray, List.set_cons_zero, List.set_cons_succ, i64_w, i32_w]
      rfl
     refine two_ (i := 3) (j := 8) (Ni := some 31) (Nj := some 6) #[true, true, true, true, false, false, false, false, false, false, false] #[true, true, true, false, false, false, false, false, true, false, false] rfl rfl rfl rfl (two_of HT_.out (by kernel_rfl)) (by decide) (by decide) (fun K hK => ?_) (fun K hK => ?_)
     ·skip
      refine goes_ Try.func18 (by kernel_rfl) rfl #[.agg #[.int .i64 a1_0, .slice A1_1 l1_1.length c1_1]] (by rfl) rfl rfl lm_ ?_
      with_reducible refine (laws_toBits.calls k a1_0 _ _ l1_1 t344 t345 _ ?side1 ?side2 A20.out).mono ?_
      (case side1 => exact lc_ (Kd.C_below HR1_1.out HB.out))
      (case side2 => exact HC1_1.out)
      rintro e w35 ⟨v346, rfl, ho0, hb⟩
      refine ⟨_, rfl, ?_⟩
      have HO347 := am_ (Kd.R_lower (nw_ ho0 HO343) (below_size (lw_ HB))); replace HO343 := am_ (Kd.R_elder' (lf_ HO343) (Kd.R_base ho0) hb); replace BK336 := am_ (blk_below (g := gb336) (lb_ BK336) hb); replace BK337 := am_ (blk_below (g := gb337) (lb_ BK337) hb); replace HB := am_ (below_step (lw_ HB) hb)
      (try clear hb)
      (try clear hb2)
      (try clear hk)
      (try clear hi)
      (try clear ho0)
      obtain ⟨Ao36, co36, eo36⟩ := Kd.R_slice HO343.out
      (first | subst eo36 | (injection eo36 with f1_ f2_ f3_; have f4_ := f1_.symm; have f5_ := f3_.symm; clear f1_ f2_ f3_; subst f4_; subst f5_))
      obtain ⟨Ao37, co37, eo37⟩ := Kd.R_slice HO347.out
      (first | subst eo37 | (injection eo37 with f1_ f2_ f3_; have f4_ := f1_.symm; have f5_ := f3_.symm; clear f1_ f2_ f3_; subst f4_; subst f5_))
      refine hK.out _ _ ⟨(blk_cell BK336.out 0).trans rfl, (blk_cell BK336.out 1).trans rfl, (blk_cell BK337.out 0).trans rfl, (blk_cell BK337.out 1).trans rfl⟩ (fun hHeld => ?_)
      clear hK K
      refine norm_ (a' := ?_) ?_ ?_
      rotate_left
      ·show Act.put _ (some 31) _ = _
       simp only [Act.put, List.setIfInBounds_toArray, List.set_cons_zero, List.set_cons_succ, i64_w, i32_w]
       rfl
      refine two_ (i := 4) (j := 8) (Ni := some 32) (Nj := some 6) #[true, true, true, true, true, false, false, false, false, false, false] #[true, true, true, true, false, false, false, false, true, false, false] rfl rfl rfl rfl (two_of HT_.out (by kernel_rfl)) (by decide) (by decide) (fun K hK => ?_) (fun K hK => ?_)
      ·skip
       refine goes_ Try.func43 (by kernel_rfl) rfl #[.agg #[.int .i64 t340, .slice Ao36 t341.length co36], .agg #[.int .i64 t344, .slice Ao37 t345.length co37]] (by rfl) rfl rfl lm_ ?_
       with_reducible refine (spec_UnpackDirectory.calls k t340 _ _ t341 t344 _ _ t345 t348 t349 t352 t355 t358 _ ?side1 ?side2 ?side3 ?side4 A21.out).mono ?_
       (case side1 => exact lc_ (Kd.R_reads' HO343.out).2.2)
       (case side2 => exact (Kd.R_reads' HO343.out).2.1)
       (case side3 => exact lc_ (Kd.R_reads' HO347.out).2.2)
       (case side4 => exact (Kd.R_reads' HO347.out).2.1)
       rintro e w38 ⟨v350, v353, v356, rfl, ho0, ho1, ho2, hb⟩
       refine ⟨_, rfl, ?_⟩
       have HO351 := am_ (Kd.R_lower (nw_ (nw_ ho0 HO343) HO347) (below_size (lw_ HB))); have HO354 := am_ (Kd.R_lower (nw_ (nw_ ho1 HO343) HO347) (below_size (lw_ HB))); have HO357 := am_ (Kd.R_lower (nw_ (nw_ ho2 HO343) HO347) (below_size (lw_ HB))); replace HO343 := am_ (m1_ (td_ (td_ (td_ (Kd.R_old (lf_ HO343) hb) ho0) ho1) ho2)); replace HO347 := am_ (m1_ (td_ (td_ (td_ (Kd.R_old (lf_ HO347) hb) ho0) ho1) ho2)); replace BK336 := am_ (blk_below (g := gb336) (lb_ BK336) hb); replace BK337 := am_ (blk_below (g := gb337) (lb_ BK337) hb); replace HB := am_ (below_step (lw_ HB) hb)
       (try clear hb)
       (try clear hb2)
       (try clear hk)
       (try clear hi)
       (try clear ho0)
       (try clear ho1)
       (try clear ho2)
       refine hK.out _ _ ⟨(blk_cell BK336.out 0).trans rfl, (blk_cell BK336.out 1).trans rfl, (blk_cell BK337.out 0).trans rfl, (blk_cell BK337.out 1).trans rfl⟩ (fun hHeld => ?_)
       clear hK K
       refine norm_ (a' := ?_) ?_ ?_
       rotate_left
       ·show Act.put _ (some 32) _ = _
        simp only [Act.put, List.setIfInBounds_toArray, List.set_cons_zero, List.set_cons_succ, i64_w, i32_w]
        rfl
       refine pure_ (i := 5) (N := some 27) (v := ?_) (a' := ?_) #[true, true, true, true, true, true, false, false, false, false, false] rfl rfl (any_of HT_.out (by kernel_rfl)) (fun _ _ _ h => h) (Or.inl ⟨by rfl, ?_⟩) ?_ ?_
       rotate_left
       ·intro w'
        go_simp
        with_reducible rfl
       rotate_left
       ·simp only [Act.put, List.setIfInBounds_toArray, List.set_cons_zero, List.set_cons_succ, i64_w, i32_w]
        rfl
       refine pure_ (i := 6) (N := some 33) (v := ?_) (a' := ?_) #[true, true, true, true, true, true, true, false, false, false, false] rfl rfl (any_of HT_.out (by kernel_rfl)) (fun _ _ _ h => h) (Or.inl ⟨by rfl, ?_⟩) ?_ ?_
       rotate_left
       ·intro w'
        go_simp
        with_reducible rfl
       rotate_left
       ·simp only [Act.put, List.setIfInBounds_toArray, List.set_cons_zero, List.set_cons_succ, i64_w, i32_w]
        rfl
       refine pure_ (i := 7) (N := some 34) (v := ?_) (a' := ?_) #[true, true, true, true, true, true, true, true, false, false, false] rfl rfl (any_of HT_.out (by kernel_rfl)) (fun _ _ _ h => h) (Or.inl ⟨by rfl, ?_⟩) ?_ ?_
       rotate_left
       ·intro w'
        go_simp
        with_reducible rfl
       rotate_left
       ·simp only [Act.put, List.setIfInBounds_toArray, List.set_cons_zero, List.set_cons_succ, i64_w, i32_w]
        rfl
       refine one_ (i := 8) (N := some 6) #[true, true, true, true, true, true, true, true, true, false, false] rfl rfl (one_of HT_.out (by kernel_rfl)) (by decide) (fun K hK => ?_)
       refine box_step ?hg (N := 6) ?hd (cs := #[.int .i64 0, .slice none 0 0, .slice none 0 0, .slice none 0 0]) (t := 48) ?hr ?_; (case hd => rfl); (case hg => rfl); (case hr => first | (go_simp; done) | (go_simp; rfl))
       intro gb359 hg w39 hbox hb
       have BK359 := am_ (hbox); have GW359 := am_ ((by rw [hg]; exact (below_size (lw_ HB)) : w.heap.size ≤ gb359)); have GE359 := am_ ((by rw [hg]; exact (below_size (lw_ HB)) : w.heap.size ≤ gb359)); have NB336_359 := am_ ((by rw [hg]; exact Nat.ne_of_lt (blk_lt (g := gb336) (lb_ BK336)) : gb336 ≠ gb359)); have NB359_336 := am_ ((by rw [hg]; exact Nat.ne_of_gt (blk_lt (g := gb336) (lb_ BK336)) : gb359 ≠ gb336)); have NB337_359 := am_ ((by rw [hg]; exact Nat.ne_of_lt (blk_lt (g := gb337) (lb_ BK337)) : gb337 ≠ gb359)); have NB359_337 := am_ ((by rw [hg]; exact Nat.ne_of_gt (blk_lt (g := gb337) (lb_ BK337)) : gb359 ≠ gb337)); replace HO343 := am_ (Kd.R_below (lf_ HO343) hb); replace HO347 := am_ (Kd.R_below (lf_ HO347) hb); replace HO351 := am_ (Kd.R_below (lf_ HO351) hb); replace HO354 := am_ (Kd.R_below (lf_ HO354) hb); replace HO357 := am_ (Kd.R_below (lf_ HO357) hb); replace BK336 := am_ (blk_below (g := gb336) (lb_ BK336) hb); replace BK337 := am_ (blk_below (g := gb337) (lb_ BK337) hb); replace HB := am_ (below_step (lw_ HB) hb)
       clear hb hbox hg
       refine hK.out _ _ ⟨(blk_cell BK336.out 0).trans rfl, (blk_cell BK336.out 1).trans rfl, (blk_cell BK337.out 0).trans rfl, (blk_cell BK337.out 1).trans rfl⟩ (fun hHeld => ?_)
       clear hK K
       refine norm_ (a' := ?_) ?_ ?_
       rotate_left
       ·show Act.put _ (some 6) _ = _
        simp only [Act.put, List.setIfInBounds_toArray, List.set_cons_zero, List.set_cons_succ, i64_w, i32_w]
        rfl
       exact norm_ (by simp only [putAll, Act.put, List.setIfInBounds_toArray, List.set_cons_zero, List.set_cons_succ]) (hCont (.slice Ao36 t341.length co36, .slice Ao37 t345.length co37, v350, v353, v356, gb359) _ ⟨hHeld, (lo_ HO343), (lo_ HO347), (lo_ HO351), (lo_ HO354), (lo_ HO357), (lb_ BK336), (lb_ BK337), (lb_ BK359), GW359.out, GE359.out, NB336_359.out, NB359_336.out, NB337_359.out, NB359_337.out, (lw_ HB)⟩)
      ·skip
       refine box_step ?hg (N := 6) ?hd (cs := #[.int .i64 0, .slice none 0 0, .slice none 0 0, .slice none 0 0]) (t := 48) ?hr ?_; (case hd => rfl); (case hg => rfl); (case hr => first | (go_simp; done) | (go_simp; rfl))
       intro gb359 hg w36 hbox hb
       have BK359 := am_ (hbox); have GW359 := am_ ((by rw [hg]; exact (below_size (lw_ HB)) : w.heap.size ≤ gb359)); have GE359 := am_ ((by rw [hg]; exact (below_size (lw_ HB)) : w.heap.size ≤ gb359)); have NB336_359 := am_ ((by rw [hg]; exact Nat.ne_of_lt (blk_lt (g := gb336) (lb_ BK336)) : gb336 ≠ gb359)); have NB359_336 := am_ ((by rw [hg]; exact Nat.ne_of_gt (blk_lt (g := gb336) (lb_ BK336)) : gb359 ≠ gb336)); have NB337_359 := am_ ((by rw [hg]; exact Nat.ne_of_lt (blk_lt (g := gb337) (lb_ BK337)) : gb337 ≠ gb359)); have NB359_337 := am_ ((by rw [hg]; exact Nat.ne_of_gt (blk_lt (g := gb337) (lb_ BK337)) : gb359 ≠ gb337)); replace HO343 := am_ (Kd.R_below (lf_ HO343) hb); replace HO347 := am_ (Kd.R_below (lf_ HO347) hb); replace BK336 := am_ (blk_below (g := gb336) (lb_ BK336) hb); replace BK337 := am_ (blk_below (g := gb337) (lb_ BK337) hb); replace HB := am_ (below_step (lw_ HB) hb)
       clear hb hbox hg
       obtain ⟨Ao37, co37, eo37⟩ := Kd.R_slice HO343.out
       (first | subst eo37 | (injection eo37 with f1_ f2_ f3_; have f4_ := f1_.symm; have f5_ := f3_.symm; clear f1_ f2_ f3_; subst f4_; subst f5_))
       obtain ⟨Ao38, co38, eo38⟩ := Kd.R_slice HO347.out
       (first | subst eo38 | (injection eo38 with f1_ f2_ f3_; have f4_ := f1_.symm; have f5_ := f3_.symm; clear f1_ f2_ f3_; subst f4_; subst f5_))
       refine hK.out _ _ ⟨(blk_cell BK336.out 0).trans rfl, (blk_cell BK336.out 1).trans rfl, (blk_cell BK337.out 0).trans rfl, (blk_cell BK337.out 1).trans rfl⟩ (fun hHeld => ?_)
       clear hK K
       refine norm_ (a' := ?_) ?_ ?_
       rotate_left
       ·show Act.put _ (some 6) _ = _
        simp only [Act.put, List.setIfInBounds_toArray, List.set_cons_zero, List.set_cons_succ, i64_w, i32_w]
        rfl
       refine one_ (i := 4) (N := some 32) #[true, true, true, true, true, false, false, false, true, false, false] rfl rfl (one_of HT_.out (by kernel_rfl)) (by decide) (fun K hK => ?_)
       refine goes_ Try.func43 (by kernel_rfl) rfl #[.agg #[.int .i64 t340, .slice Ao37 t341.length co37], .agg #[.int .i64 t344, .slice Ao38 t345.length co38]] (by rfl) rfl rfl lm_ ?_
       with_reducible refine (spec_UnpackDirectory.calls k t340 _ _ t341 t344 _ _ t345 t348 t349 t352 t355 t358 _ ?side1 ?side2 ?side3 ?side4 A21.out).mono ?_
       (case side1 => exact lc_ (Kd.R_reads' HO343.out).2.2)
       (case side2 => exact (Kd.R_reads' HO343.out).2.1)
       (case side3 => exact lc_ (Kd.R_reads' HO347.out).2.2)
       (case side4 => exact (Kd.R_reads' HO347.out).2.1)
       rintro e w39 ⟨v350, v353, v356, rfl, ho0, ho1, ho2, hb⟩
       refine ⟨_, rfl, ?_⟩
       have HO351 := am_ (Kd.R_lower (nw_ (nw_ ho0 HO343) HO347) (below_size (lw_ HB))); have HO354 := am_ (Kd.R_lower (nw_ (nw_ ho1 HO343) HO347) (below_size (lw_ HB))); have HO357 := am_ (Kd.R_lower (nw_ (nw_ ho2 HO343) HO347) (below_size (lw_ HB))); replace HO343 := am_ (m1_ (td_ (td_ (td_ (Kd.R_old (lf_ HO343) hb) ho0) ho1) ho2)); replace HO347 := am_ (m1_ (td_ (td_ (td_ (Kd.R_old (lf_ HO347) hb) ho0) ho1) ho2)); replace BK336 := am_ (blk_below (g := gb336) (lb_ BK336) hb); replace BK337 := am_ (blk_below (g := gb337) (lb_ BK337) hb); replace BK359 := am_ (blk_below (g := gb359) (lb_ BK359) hb); replace HB := am_ (below_step (lw_ HB) hb)
       (try clear hb)
       (try clear hb2)
       (try clear hk)
       (try clear hi)
       (try clear ho0)
       (try clear ho1)
       (try clear ho2)
       refine hK.out _ _ ⟨(blk_cell BK336.out 0).trans rfl, (blk_cell BK336.out 1).trans rfl, (blk_cell BK337.out 0).trans rfl, (blk_cell BK337.out 1).trans rfl⟩ (fun hHeld => ?_)
       clear hK K
       refine norm_ (a' := ?_) ?_ ?_
       rotate_left
       ·show Act.put _ (some 32) _ = _
        simp only [Act.put, List.setIfInBounds_toArray, List.set_cons_zero, List.set_cons_succ, i64_w, i32_w]
        rfl
       refine pure_ (i := 5) (N := some 27) (v := ?_) (a' := ?_) #[true, true, true, true, true, true, false, false, true, false, false] rfl rfl (any_of HT_.out (by kernel_rfl)) (fun _ _ _ h => h) (Or.inl ⟨by rfl, ?_⟩) ?_ ?_
       rotate_left
       ·intro w'
        go_simp
        with_reducible rfl
       rotate_left
       ·simp only [Act.put, List.setIfInBounds_toArray, List.set_cons_zero, List.set_cons_succ, i64_w, i32_w]
        rfl
       refine pure_ (i := 6) (N := some 33) (v := ?_) (a' := ?_) #[true, true, true, true, true, true, true, false, true, false, false] rfl rfl (any_of HT_.out (by kernel_rfl)) (fun _ _ _ h => h) (Or.inl ⟨by rfl, ?_⟩) ?_ ?_
       rotate_left
       ·intro w'
        go_simp
        with_reducible rfl
       rotate_left
       ·simp only [Act.put, List.setIfInBounds_toArray, List.set_cons_zero, List.set_cons_succ, i64_w, i32_w]
        rfl
       refine pure_ (i := 7) (N := some 34) (v := ?_) (a' := ?_) #[true, true, true, true, true, true, true, true, true, false, false] rfl rfl (any_of HT_.out (by kernel_rfl)) (fun _ _ _ h => h) (Or.inl ⟨by rfl, ?_⟩) ?_ ?_
       rotate_left
       ·intro w'
        go_simp
        with_reducible rfl
       rotate_left
       ·simp only [Act.put, List.setIfInBounds_toArray, List.set_cons_zero, List.set_cons_succ, i64_w, i32_w]
        rfl
       exact norm_ (by simp only [putAll, Act.put, List.setIfInBounds_toArray, List.set_cons_zero, List.set_cons_succ]) (hCont (.slice Ao37 t341.length co37, .slice Ao38 t345.length co38, v350, v353, v356, gb359) _ ⟨hHeld, (lo_ HO343), (lo_ HO347), (lo_ HO351), (lo_ HO354), (lo_ HO357), (lb_ BK336), (lb_ BK337), (lb_ BK359), GW359.out, GE359.out, NB336_359.out, NB359_336.out, NB337_359.out, NB359_337.out, (lw_ HB)⟩)
     ·skip
      refine box_step ?hg (N := 6) ?hd (cs := #[.int .i64 0, .slice none 0 0, .slice none 0 0, .slice none 0 0]) (t := 48) ?hr ?_; (case hd => rfl); (case hg => rfl); (case hr => first | (go_simp; done) | (go_simp; rfl))
      intro gb359 hg w35 hbox hb
      have BK359 := am_ (hbox); have GW359 := am_ ((by rw [hg]; exact (below_size (lw_ HB)) : w.heap.size ≤ gb359)); have GE359 := am_ ((by rw [hg]; exact (below_size (lw_ HB)) : w.heap.size ≤ gb359)); have NB336_359 := am_ ((by rw [hg]; exact Nat.ne_of_lt (blk_lt (g := gb336) (lb_ BK336)) : gb336 ≠ gb359)); have NB359_336 := am_ ((by rw [hg]; exact Nat.ne_of_gt (blk_lt (g := gb336) (lb_ BK336)) : gb359 ≠ gb336)); have NB337_359 := am_ ((by rw [hg]; exact Nat.ne_of_lt (blk_lt (g := gb337) (lb_ BK337)) : gb337 ≠ gb359)); have NB359_337 := am_ ((by rw [hg]; exact Nat.ne_of_gt (blk_lt (g := gb337) (lb_ BK337)) : gb359 ≠ gb337)); replace HO343 := am_ (Kd.R_below (lf_ HO343) hb); replace BK336 := am_ (blk_below (g := gb336) (lb_ BK336) hb); replace BK337 := am_ (blk_below (g := gb337) (lb_ BK337) hb); replace HB := am_ (below_step (lw_ HB) hb)
      clear hb hbox hg
      refine hK.out _ _ ⟨(blk_cell BK336.out 0).trans rfl, (blk_cell BK336.out 1).trans rfl, (blk_cell BK337.out 0).trans rfl, (blk_cell BK337.out 1).trans rfl⟩ (fun hHeld => ?_)
      clear hK K
      refine norm_ (a' := ?_) ?_ ?_
      rotate_left
      ·show Act.put _ (some 6) _ = _
       simp only [Act.put, List.setIfInBounds_toArray, List.set_cons_zero, List.set_cons_succ, i64_w, i32_w]
       rfl
      refine one_ (i := 3) (N := some 31) #[true, true, true, true, false, false, false, false, true, false, false] rfl rfl (one_of HT_.out (by kernel_rfl)) (by decide) (fun K hK => ?_)
      refine goes_ Try.func18 (by kernel_rfl) rfl #[.agg #[.int .i64 a1_0, .slice A1_1 l1_1.length c1_1]] (by rfl) rfl rfl lm_ ?_
      with_reducible refine (laws_toBits.calls k a1_0 _ _ l1_1 t344 t345 _ ?side1 ?side2 A20.out).mono ?_
      (case side1 => exact lc_ (Kd.C_below HR1_1.out HB.out))
      (case side2 => exact HC1_1.out)
      rintro e w36 ⟨v346, rfl, ho0, hb⟩
      refine ⟨_, rfl, ?_⟩
      have HO347 := am_ (Kd.R_lower (nw_ ho0 HO343) (below_size (lw_ HB))); replace HO343 := am_ (Kd.R_elder' (lf_ HO343) (Kd.R_base ho0) hb); replace BK336 := am_ (blk_below (g := gb336) (lb_ BK336) hb); replace BK337 := am_ (blk_below (g := gb337) (lb_ BK337) hb); replace BK359 := am_ (blk_below (g := gb359) (lb_ BK359) hb); replace HB := am_ (below_step (lw_ HB) hb)
      (try clear hb)
      (try clear hb2)
      (try clear hk)
      (try clear hi)
      (try clear ho0)
      obtain ⟨Ao37, co37, eo37⟩ := Kd.R_slice HO343.out
      (first | subst eo37 | (injection eo37 with f1_ f2_ f3_; have f4_ := f1_.symm; have f5_ := f3_.symm; clear f1_ f2_ f3_; subst f4_; subst f5_))
      obtain ⟨Ao38, co38, eo38⟩ := Kd.R_slice HO347.out
      (first | subst eo38 | (injection eo38 with f1_ f2_ f3_; have f4_ := f1_.symm; have f5_ := f3_.symm; clear f1_ f2_ f3_; subst f4_; subst f5_))
      refine hK.out _ _ ⟨(blk_cell BK336.out 0).trans rfl, (blk_cell BK336.out 1).trans rfl, (blk_cell BK337.out 0).trans rfl, (blk_cell BK337.out 1).trans rfl⟩ (fun hHeld => ?_)
      clear hK K
      refine norm_ (a' := ?_) ?_ ?_
      rotate_left
      ·show Act.put _ (some 31) _ = _
       simp only [Act.put, List.setIfInBounds_toArray, List.set_cons_zero, List.set_cons_succ, i64_w, i32_w]
       rfl
      refine one_ (i := 4) (N := some 32) #[true, true, true, true, true, false, false, false, true, false, false] rfl rfl (one_of HT_.out (by kernel_rfl)) (by decide) (fun K hK => ?_)
      refine goes_ Try.func43 (by kernel_rfl) rfl #[.agg #[.int .i64 t340, .slice Ao37 t341.length co37], .agg #[.int .i64 t344, .slice Ao38 t345.length co38]] (by rfl) rfl rfl lm_ ?_
      with_reducible refine (spec_UnpackDirectory.calls k t340 _ _ t341 t344 _ _ t345 t348 t349 t352 t355 t358 _ ?side1 ?side2 ?side3 ?side4 A21.out).mono ?_
      (case side1 => exact lc_ (Kd.R_reads' HO343.out).2.2)
      (case side2 => exact (Kd.R_reads' HO343.out).2.1)
      (case side3 => exact lc_ (Kd.R_reads' HO347.out).2.2)
      (case side4 => exact (Kd.R_reads' HO347.out).2.1)
      rintro e w39 ⟨v350, v353, v356, rfl, ho0, ho1, ho2, hb⟩
      refine ⟨_, rfl, ?_⟩
      have HO351 := am_ (Kd.R_lower (nw_ (nw_ ho0 HO343) HO347) (below_size (lw_ HB))); have HO354 := am_ (Kd.R_lower (nw_ (nw_ ho1 HO343) HO347) (below_size (lw_ HB))); have HO357 := am_ (Kd.R_lower (nw_ (nw_ ho2 HO343) HO347) (below_size (lw_ HB))); replace HO343 := am_ (m1_ (td_ (td_ (td_ (Kd.R_old (lf_ HO343) hb) ho0) ho1) ho2)); replace HO347 := am_ (m1_ (td_ (td_ (td_ (Kd.R_old (lf_ HO347) hb) ho0) ho1) ho2)); replace BK336 := am_ (blk_below (g := gb336) (lb_ BK336) hb); replace BK337 := am_ (blk_below (g := gb337) (lb_ BK337) hb); replace BK359 := am_ (blk_below (g := gb359) (lb_ BK359) hb); replace HB := am_ (below_step (lw_ HB) hb)
      (try clear hb)
      (try clear hb2)
      (try clear hk)
      (try clear hi)
      (try clear ho0)
      (try clear ho1)
      (try clear ho2)
      refine hK.out _ _ ⟨(blk_cell BK336.out 0).trans rfl, (blk_cell BK336.out 1).trans rfl, (blk_cell BK337.out 0).trans rfl, (blk_cell BK337.out 1).trans rfl⟩ (fun hHeld => ?_)
      clear hK K
      refine norm_ (a' := ?_) ?_ ?_
      rotate_left
      ·show Act.put _ (some 32) _ = _
       simp only [Act.put, List.setIfInBounds_toArray, List.set_cons_zero, List.set_cons_succ, i64_w, i32_w]
       rfl
      refine pure_ (i := 5) (N := some 27) (v := ?_) (a' := ?_) #[true, true, true, true, true, true, false, false, true, false, false] rfl rfl (any_of HT_.out (by kernel_rfl)) (fun _ _ _ h => h) (Or.inl ⟨by rfl, ?_⟩) ?_ ?_
      rotate_left
      ·intro w'
       go_simp
       with_reducible rfl
      rotate_left
      ·simp only [Act.put, List.setIfInBounds_toArray, List.set_cons_zero, List.set_cons_succ, i64_w, i32_w]
       rfl
      refine pure_ (i := 6) (N := some 33) (v := ?_) (a' := ?_) #[true, true, true, true, true, true, true, false, true, false, false] rfl rfl (any_of HT_.out (by kernel_rfl)) (fun _ _ _ h => h) (Or.inl ⟨by rfl, ?_⟩) ?_ ?_
      rotate_left
      ·intro w'
       go_simp
       with_reducible rfl
      rotate_left
      ·simp only [Act.put, List.setIfInBounds_toArray, List.set_cons_zero, List.set_cons_succ, i64_w, i32_w]
       rfl
      refine pure_ (i := 7) (N := some 34) (v := ?_) (a' := ?_) #[true, true, true, true, true, true, true, true, true, false, false] rfl rfl (any_of HT_.out (by kernel_rfl)) (fun _ _ _ h => h) (Or.inl ⟨by rfl, ?_⟩) ?_ ?_
      rotate_left
      ·intro w'
       go_simp
       with_reducible rfl
      rotate_left
      ·simp only [Act.put, List.setIfInBounds_toArray, List.set_cons_zero, List.set_cons_succ, i64_w, i32_w]
       rfl
      exact norm_ (by simp only [putAll, Act.put, List.setIfInBounds_toArray, List.set_cons_zero, List.set_cons_succ]) (hCont (.slice Ao37 t341.length co37, .slice Ao38 t345.length co38, v350, v353, v356, gb359) _ ⟨hHeld, (lo_ HO343), (lo_ HO347), (lo_ HO351), (lo_ HO354), (lo_ HO357), (lb_ BK336), (lb_ BK337), (lb_ BK359), GW359.out, GE359.out, NB336_359.out, NB359_336.out, NB337_359.out, NB359_337.out, (lw_ HB)⟩)
    ·skip
     refine box_step ?hg (N := 6) ?hd (cs := #[.int .i64 0, .slice none 0 0, .slice none 0 0, .slice none 0 0]) (t := 48) ?hr ?_; (case hd => rfl); (case hg => rfl); (case hr => first | (go_simp; done) | (go_simp; rfl))
     intro gb359 hg w34 hbox hb
     have BK359 := am_ (hbox); have GW359 := am_ ((by rw [hg]; exact (below_size (lw_ HB)) : w.heap.size ≤ gb359)); have GE359 := am_ ((by rw [hg]; exact (below_size (lw_ HB)) : w.heap.size ≤ gb359)); have NB336_359 := am_ ((by rw [hg]; exact Nat.ne_of_lt (blk_lt (g := gb336) (lb_ BK336)) : gb336 ≠ gb359)); have NB359_336 := am_ ((by rw [hg]; exact Nat.ne_of_gt (blk_lt (g := gb336) (lb_ BK336)) : gb359 ≠ gb336)); have NB337_359 := am_ ((by rw [hg]; exact Nat.ne_of_lt (blk_lt (g := gb337) (lb_ BK337)) : gb337 ≠ gb359)); have NB359_337 := am_ ((by rw [hg]; exact Nat.ne_of_gt (blk_lt (g := gb337) (lb_ BK337)) : gb359 ≠ gb337)); replace BK336 := am_ (blk_below (g := gb336) (lb_ BK336) hb); replace BK337 := am_ (blk_below (g := gb337) (lb_ BK337) hb); replace HB := am_ (below_step (lw_ HB) hb)
     clear hb hbox hg
     refine hK.out _ _ ⟨(blk_cell BK336.out 0).trans rfl, (blk_cell BK336.out 1).trans rfl, (blk_cell BK337.out 0).trans rfl, (blk_cell BK337.out 1).trans rfl⟩ (fun hHeld => ?_)
     clear hK K
     refine norm_ (a' := ?_) ?_ ?_
     rotate_left
     ·show Act.put _ (some 6) _ = _
      simp only [Act.put, List.setIfInBounds_toArray, List.set_cons_zero, List.set_cons_succ, i64_w, i32_w]
      rfl
     refine one_ (i := 1) (N := some 29) #[true, true, true, false, false, false, false, false, true, false, false] rfl rfl (one_of HT_.out (by kernel_rfl)) (by decide) (fun K hK => ?_)
     refine goes_ Try.func18 (by kernel_rfl) rfl #[.agg #[.int .i64 a0_0, .slice A0_1 l0_1.length c0_1]] (by rfl) rfl rfl lm_ ?_
     with_reducible refine (laws_toBits.calls k a0_0 _ _ l0_1 t340 t341 _ ?side1 ?side2 A19.out).mono ?_
     (case side1 => exact lc_ (Kd.C_below HR0_1.out HB.out))
     (case side2 => exact HC0_1.out)
     rintro e w35 ⟨v342, rfl, ho0, hb⟩
     refine ⟨_, rfl, ?_⟩
     have HO343 := am_ (Kd.R_lower ho0 (below_size (lw_ HB))); replace BK336 := am_ (blk_below (g := gb336) (lb_ BK336) hb); replace BK337 := am_ (blk_below (g := gb337) (lb_ BK337) hb); replace BK359 := am_ (blk_below (g := gb359) (lb_ BK359) hb); replace HB := am_ (below_step (lw_ HB) hb)
     (try clear hb)
     (try clear hb2)
     (try clear hk)
     (try clear hi)
     (try clear ho0)
     refine hK.out _ _ ⟨(blk_cell BK336.out 0).trans rfl, (blk_cell BK336.out 1).trans rfl, (blk_cell BK337.out 0).trans rfl, (blk_cell BK337.out 1).trans rfl⟩ (fun hHeld => ?_)
     clear hK K
     refine norm_ (a' := ?_) ?_ ?_
     rotate_left
     ·show Act.put _ (some 29) _ = _
      simp only [Act.put, List.setIfInBounds_toArray, List.set_cons_zero, List.set_cons_succ, i64_w, i32_w]
      rfl
     refine one_ (i := 3) (N := some 31) #[true, true, true, true, false, false, false, false, true, false, false] rfl rfl (one_of HT_.out (by kernel_rfl)) (by decide) (fun K hK => ?_)
     refine goes_ Try.func18 (by kernel_rfl) rfl #[.agg #[.int .i64 a1_0, .slice A1_1 l1_1.length c1_1]] (by rfl) rfl rfl lm_ ?_
     with_reducible refine (laws_toBits.calls k a1_0 _ _ l1_1 t344 t345 _ ?side1 ?side2 A20.out).mono ?_
     (case side1 => exact lc_ (Kd.C_below HR1_1.out HB.out))
     (case side2 => exact HC1_1.out)
     rintro e w36 ⟨v346, rfl, ho0, hb⟩
     refine ⟨_, rfl, ?_⟩
     have HO347 := am_ (Kd.R_lower (nw_ ho0 HO343) (below_size (lw_ HB))); replace HO343 := am_ (Kd.R_elder' (lf_ HO343) (Kd.R_base ho0) hb); replace BK336 := am_ (blk_below (g := gb336) (lb_ BK336) hb); replace BK337 := am_ (blk_below (g := gb337) (lb_ BK337) hb); replace BK359 := am_ (blk_below (g := gb359) (lb_ BK359) hb); replace HB := am_ (below_step (lw_ HB) hb)
     (try clear hb)
     (try clear hb2)
     (try clear hk)
     (try clear hi)
     (try clear ho0)
     obtain ⟨Ao37, co37, eo37⟩ := Kd.R_slice HO343.out
     (first | subst eo37 | (injection eo37 with f1_ f2_ f3_; have f4_ := f1_.symm; have f5_ := f3_.symm; clear f1_ f2_ f3_; subst f4_; subst f5_))
     obtain ⟨Ao38, co38, eo38⟩ := Kd.R_slice HO347.out
     (first | subst eo38 | (injection eo38 with f1_ f2_ f3_; have f4_ := f1_.symm; have f5_ := f3_.symm; clear f1_ f2_ f3_; subst f4_; subst f5_))
     refine hK.out _ _ ⟨(blk_cell BK336.out 0).trans rfl, (blk_cell BK336.out 1).trans rfl, (blk_cell BK337.out 0).trans rfl, (blk_cell BK337.out 1).trans rfl⟩ (fun hHeld => ?_)
     clear hK K
     refine norm_ (a' := ?_) ?_ ?_
     rotate_left
     ·show Act.put _ (some 31) _ = _
      simp only [Act.put, List.setIfInBounds_toArray, List.set_cons_zero, List.set_cons_succ, i64_w, i32_w]
      rfl
     refine one_ (i := 4) (N := some 32) #[true, true, true, true, true, false, false, false, true, false, false] rfl rfl (one_of HT_.out (by kernel_rfl)) (by decide) (fun K hK => ?_)
     refine goes_ Try.func43 (by kernel_rfl) rfl #[.agg #[.int .i64 t340, .slice Ao37 t341.length co37], .agg #[.int .i64 t344, .slice Ao38 t345.length co38]] (by rfl) rfl rfl lm_ ?_
     with_reducible refine (spec_UnpackDirectory.calls k t340 _ _ t341 t344 _ _ t345 t348 t349 t352 t355 t358 _ ?side1 ?side2 ?side3 ?side4 A21.out).mono ?_
     (case side1 => exact lc_ (Kd.R_reads' HO343.out).2.2)
     (case side2 => exact (Kd.R_reads' HO343.out).2.1)
     (case side3 => exact lc_ (Kd.R_reads' HO347.out).2.2)
     (case side4 => exact (Kd.R_reads' HO347.out).2.1)
     rintro e w39 ⟨v350, v353, v356, rfl, ho0, ho1, ho2, hb⟩
     refine ⟨_, rfl, ?_⟩
     have HO351 := am_ (Kd.R_lower (nw_ (nw_ ho0 HO343) HO347) (below_size (lw_ HB))); have HO354 := am_ (Kd.R_lower (nw_ (nw_ ho1 HO343) HO347) (below_size (lw_ HB))); have HO357 := am_ (Kd.R_lower (nw_ (nw_ ho2 HO343) HO347) (below_size (lw_ HB))); replace HO343 := am_ (m1_ (td_ (td_ (td_ (Kd.R_old (lf_ HO343) hb) ho0) ho1) ho2)); replace HO347 := am_ (m1_ (td_ (td_ (td_ (Kd.R_old (lf_ HO347) hb) ho0) ho1) ho2)); replace BK336 := am_ (blk_below (g := gb336) (lb_ BK336) hb); replace BK337 := am_ (blk_below (g := gb337) (lb_ BK337) hb); replace BK359 := am_ (blk_below (g := gb359) (lb_ BK359) hb); replace HB := am_ (below_step (lw_ HB) hb)
     (try clear hb)
     (try clear hb2)
     (try clear hk)
     (try clear hi)
     (try clear ho0)
     (try clear ho1)
     (try clear ho2)
     refine hK.out _ _ ⟨(blk_cell BK336.out 0).trans rfl, (blk_cell BK336.out 1).trans rfl, (blk_cell BK337.out 0).trans rfl, (blk_cell BK337.out 1).trans rfl⟩ (fun hHeld => ?_)
     clear hK K
     refine norm_ (a' := ?_) ?_ ?_
     rotate_left
     ·show Act.put _ (some 32) _ = _
      simp only [Act.put, List.setIfInBounds_toArray, List.set_cons_zero, List.set_cons_succ, i64_w, i32_w]
      rfl
     refine pure_ (i := 5) (N := some 27) (v := ?_) (a' := ?_) #[true, true, true, true, true, true, false, false, true, false, false] rfl rfl (any_of HT_.out (by kernel_rfl)) (fun _ _ _ h => h) (Or.inl ⟨by rfl, ?_⟩) ?_ ?_
     rotate_left
     ·intro w'
      go_simp
      with_reducible rfl
     rotate_left
     ·simp only [Act.put, List.setIfInBounds_toArray, List.set_cons_zero, List.set_cons_succ, i64_w, i32_w]
      rfl
     refine pure_ (i := 6) (N := some 33) (v := ?_) (a' := ?_) #[true, true, true, true, true, true, true, false, true, false, false] rfl rfl (any_of HT_.out (by kernel_rfl)) (fun _ _ _ h => h) (Or.inl ⟨by rfl, ?_⟩) ?_ ?_
     rotate_left
     ·intro w'
      go_simp
      with_reducible rfl
     rotate_left
     ·simp only [Act.put, List.setIfInBounds_toArray, List.set_cons_zero, List.set_cons_succ, i64_w, i32_w]
      rfl
     refine pure_ (i := 7) (N := some 34) (v := ?_) (a' := ?_) #[true, true, true, true, true, true, true, true, true, false, false] rfl rfl (any_of HT_.out (by kernel_rfl)) (fun _ _ _ h => h) (Or.inl ⟨by rfl, ?_⟩) ?_ ?_
     rotate_left
     ·intro w'
      go_simp
      with_reducible rfl
     rotate_left
     ·simp only [Act.put, List.setIfInBounds_toArray, List.set_cons_zero, List.set_cons_succ, i64_w, i32_w]
      rfl
     exact norm_ (by simp only [putAll, Act.put, List.setIfInBounds_toArray, List.set_cons_zero, List.set_cons_succ]) (hCont (.slice Ao37 t341.length co37, .slice Ao38 t345.length co38, v350, v353, v356, gb359) _ ⟨hHeld, (lo_ HO343), (lo_ HO347), (lo_ HO351), (lo_ HO354), (lo_ HO357), (lb_ BK336), (lb_ BK337), (lb_ BK359), GW359.out, GE359.out, NB336_359.out, NB359_336.out, NB337_359.out, NB359_337.out, (lw_ HB)⟩)
   rintro ⟨v342, v346, v350, v353, v356, gb359⟩ w40 ⟨hS_, h0_, h1_, h2_, h3_, h4_, h5_, h6_, h7_, h8_, h9_, h10_, h11_, h12_, h13_, h14_⟩
   have n0_ : Aside0 (Kd.R (Kd.int .i64) 3 w40 w.heap.size (fun k_ => nb_ k_ v346 ∧ nb_ k_ v350 ∧ nb_ k_ v353 ∧ nb_ k_ v356) v342 t341) := ⟨h0_⟩; have n1_ : Aside0 (Kd.R (Kd.int .i64) 3 w40 w.heap.size (fun k_ => nb_ k_ v342 ∧ nb_ k_ v350 ∧ nb_ k_ v353 ∧ nb_ k_ v356) v346 t345) := ⟨h1_⟩; have n2_ : Aside0 (Kd.R (Kd.int .i64) 3 w40 w.heap.size (fun k_ => nb_ k_ v342 ∧ nb_ k_ v346 ∧ nb_ k_ v353 ∧ nb_ k_ v356) v350 t349) := ⟨h2_⟩; have n3_ : Aside0 (Kd.R (Kd.int .i64) 3 w40 w.heap.size (fun k_ => nb_ k_ v342 ∧ nb_ k_ v346 ∧ nb_ k_ v350 ∧ nb_ k_ v356) v353 t352) := ⟨h3_⟩; have n4_ : Aside0 (Kd.R (Kd.int .i64) 3 w40 w.heap.size (fun k_ => nb_ k_ v342 ∧ nb_ k_ v346 ∧ nb_ k_ v350 ∧ nb_ k_ v353) v356 t355) := ⟨h4_⟩; have n5_ : Aside0 (w40.heap[gb336]? = some (.cells #[.int .i64 a0_0, .slice A0_1 l0_1.length c0_1] 24 (0, 0))) := ⟨h5_⟩; have n6_ : Aside0 (w40.heap[gb337]? = some (.cells #[.int .i64 a1_0, .slice A1_1 l1_1.length c1_1] 24 (0, 0))) := ⟨h6_⟩; have n7_ : Aside0 (w40.heap[gb359]? = some (.cells #[.int .i64 0, .slice none 0 0, .slice none 0 0, .slice none 0 0] 48 (0, 0))) := ⟨h7_⟩; have n8_ : Aside0 (w.heap.size ≤ gb359) := ⟨h8_⟩; have n9_ : Aside0 (w.heap.size ≤ gb359) := ⟨h9_⟩; have n10_ : Aside0 (gb336 ≠ gb359) := ⟨h10_⟩; have n11_ : Aside0 (gb359 ≠ gb336) := ⟨h11_⟩; have n12_ : Aside0 (gb337 ≠ gb359) := ⟨h12_⟩; have n13_ : Aside0 (gb359 ≠ gb337) := ⟨h13_⟩; have n14_ : Aside0 (Below w.heap.size w w40) := ⟨h14_⟩; clear BK336; clear BK337; clear HB
   clear h0_ h1_ h2_ h3_ h4_ h5_ h6_ h7_ h8_ h9_ h10_ h11_ h12_ h13_ h14_
   have HO343 := n0_
   have HO347 := n1_
   have HO351 := n2_
   have HO354 := n3_
   have HO357 := n4_
   have BK336 := n5_
   have BK337 := n6_
   have BK359 := n7_
   have GW359 := n8_
   have GE359 := n9_
   have NB336_359 := n10_
   have NB359_336 := n11_
   have NB337_359 := n12_
   have NB359_337 := n13_
   have HB := n14_
   clear n0_ n1_ n2_ n3_ n4_ n5_ n6_ n7_ n8_ n9_ n10_ n11_ n12_ n13_ n14_
   have hHeld : w40.cell? ⟨gb336, 0, none⟩ = some (.int .i64 a0_0) ∧ w40.cell? ⟨gb336, 1, none⟩ = some (.slice A0_1 l0_1.length c0_1) ∧ w40.cell? ⟨gb337, 0, none⟩ = some (.int .i64 a1_0) ∧ w40.cell? ⟨gb337, 1, none⟩ = some (.slice A1_1 l1_1.length c1_1) := hS_
   obtain ⟨Ao42, co42, eo42⟩ := Kd.R_slice HO351.out
   (first | subst eo42 | (injection eo42 with f1_ f2_ f3_; have f4_ := f1_.symm; have f5_ := f3_.symm; clear f1_ f2_ f3_; subst f4_; subst f5_))
   obtain ⟨Ao44, co44, eo44⟩ := Kd.R_slice HO354.out
   (first | subst eo44 | (injection eo44 with f1_ f2_ f3_; have f4_ := f1_.symm; have f5_ := f3_.symm; clear f1_ f2_ f3_; subst f4_; subst f5_))
   obtain ⟨Ao46, co46, eo46⟩ := Kd.R_slice HO357.out
   (first | subst eo46 | (injection eo46 with f1_ f2_ f3_; have f4_ := f1_.symm; have f5_ := f3_.symm; clear f1_ f2_ f3_; subst f4_; subst f5_))
   refine norm_ (a' := ?_) ?_ ?_
   rotate_left
   ·simp only [putAll, Act.put, List.setIfInBounds_toArray, List.set_cons_zero, List.set_cons_succ]
    rfl
   refine one_ (i := 9) (N := none) #[true, true, true, true, true, true, true, true, true, true, false] rfl rfl (one_of HT_.out (by kernel_rfl)) (by decide) (fun K hK => ?_)
   have hs41 : w40.cell? ⟨gb359, 0, none⟩ = some (.int .i64 0) := (blk_cell BK359.out 0).trans rfl
   have hfs41 := blk_frozen BK359.out 0
   have hns41_0 := NB336_359.out
   have hns41_1 := NB337_359.out
   have hms41_0 := NB359_336.out
   have hms41_1 := NB359_337.out
   have hs43 : w40.cell? ⟨gb359, 1, none⟩ = some (.slice none 0 0) := (blk_cell BK359.out 1).trans rfl
   have hfs43 := blk_frozen BK359.out 1
   have hns43_0 := NB336_359.out
   have hns43_1 := NB337_359.out
   have hms43_0 := NB359_336.out
   have hms43_1 := NB359_337.out
   have hs45 : w40.cell? ⟨gb359, 2, none⟩ = some (.slice none 0 0) := (blk_cell BK359.out 2).trans rfl
   have hfs45 := blk_frozen BK359.out 2
   have hns45_0 := NB336_359.out
   have hns45_1 := NB337_359.out
   have hms45_0 := NB359_336.out
   have hms45_1 := NB359_337.out
   have hs47 : w40.cell? ⟨gb359, 3, none⟩ = some (.slice none 0 0) := (blk_cell BK359.out 3).trans rfl
   have hfs47 := blk_frozen BK359.out 3
   have hns47_0 := NB336_359.out
   have hns47_1 := NB337_359.out
   have hms47_0 := NB359_336.out
   have hms47_1 := NB359_337.out
   refine skip_ (w1 := ?_) (by rfl) rfl ?_ ?_
   rotate_left
   ·go_simp
    rfl
   refine hK.out _ _ ⟨((cell_far (p := ⟨gb359, _, none⟩) NB336_359.out _).trans (((cell_far (p := ⟨gb359, _, none⟩) NB336_359.out _).trans (((cell_far (p := ⟨gb359, _, none⟩) NB336_359.out _).trans (((cell_far (p := ⟨gb359, _, none⟩) NB336_359.out _).trans (hHeld.1)))))))), ((cell_far (p := ⟨gb359, _, none⟩) NB336_359.out _).trans (((cell_far (p := ⟨gb359, _, none⟩) NB336_359.out _).trans (((cell_far (p := ⟨gb359, _, none⟩) NB336_359.out _).trans (((cell_far (p := ⟨gb359, _, none⟩) NB336_359.out _).trans (hHeld.2.1)))))))), ((cell_far (p := ⟨gb359, _, none⟩) NB337_359.out _).trans (((cell_far (p := ⟨gb359, _, none⟩) NB337_359.out _).trans (((cell_far (p := ⟨gb359, _, none⟩) NB337_359.out _).trans (((cell_far (p := ⟨gb359, _, none⟩) NB337_359.out _).trans (hHeld.2.2.1)))))))), ((cell_far (p := ⟨gb359, _, none⟩) NB337_359.out _).trans (((cell_far (p := ⟨gb359, _, none⟩) NB337_359.out _).trans (((cell_far (p := ⟨gb359, _, none⟩) NB337_359.out _).trans (((cell_far (p := ⟨gb359, _, none⟩) NB337_359.out _).trans (hHeld.2.2.2))))))))⟩ (fun hHeld => ?_)
   clear hK K
   refine pure_ (i := 10) (N := some 7) (v := ?_) (a' := ?_) #[true, true, true, true, true, true, true, true, true, true, true] rfl rfl (any_of HT_.out (by kernel_rfl)) (fun _ _ _ h => h) (Or.inl ⟨by rfl, ?_⟩) ?_ ?_
   rotate_left
   ·intro w'
    go_simp
    with_reducible rfl
   rotate_left
   ·simp only [Act.put, List.setIfInBounds_toArray, List.set_cons_zero, List.set_cons_succ, i64_w, i32_w]
    rfl
   refine done_ (done_of HT_.out (by kernel_rfl)) ?_
   have hnb48 := NB336_359.out
   have hnc48 := NB359_336.out
   obtain ⟨hcz49_0, hcz49_1, hfz49_0, hfz49_1⟩ := bx2_ BK336.out
   go_upto_region 12 with (first | ((with_reducible refine gate_callee (f := 18) rfl ?_); refine goesL_ (some 36) rfl rfl Try.func18 (by kernel_rfl) rfl #[.agg #[.int .i64 a0_0, .slice A0_1 l0_1.length c0_1]] rfl lm_ ?_; (with_reducible refine (laws_toBits.calls k a0_0 _ _ l0_1 t360 t361 _ ?side1 ?side2 A22.out).mono ?_); (case side1 => exact Kd.C_below HR0_1.out (lw_ HB)); (case side2 => exact HC0_1.out); rintro e w50 ⟨v362, rfl, ho0, hb⟩; refine ⟨_, rfl, ?_⟩; have HO363 := am_ (Kd.R_lower (Kd.R_new' (Kd.R_new' (Kd.R_new' (Kd.R_new' (Kd.R_new' ho0 (Kd.R_lt (lt_ ((m1_ (fr4_ HO343.out BK359.out (.int .i64 t348) (.slice Ao42 t349.length co42) (.slice Ao44 t352.length co44) (.slice Ao46 t355.length co46))))))) (Kd.R_lt (lt_ ((m1_ (fr4_ HO347.out BK359.out (.int .i64 t348) (.slice Ao42 t349.length co42) (.slice Ao44 t352.length co44) (.slice Ao46 t355.length co46))))))) (Kd.R_lt (lt_ ((m1_ (fr4_ HO351.out BK359.out (.int .i64 t348) (.slice Ao42 t349.length co42) (.slice Ao44 t352.length co44) (.slice Ao46 t355.length co46))))))) (Kd.R_lt (lt_ ((m1_ (fr4_ HO354.out BK359.out (.int .i64 t348) (.slice Ao42 t349.length co42) (.slice Ao44 t352.length co44) (.slice Ao46 t355.length co46))))))) (Kd.R_lt (lt_ ((m1_ (fr4_ HO357.out BK359.out (.int .i64 t348) (.slice Ao42 t349.length co42) (.slice Ao44 t352.length co44) (.slice Ao46 t355.length co46))))))) (below_size (lw_ HB))); replace HO343 := am_ (Kd.R_elder' (lt_ ((m1_ (fr4_ HO343.out BK359.out (.int .i64 t348) (.slice Ao42 t349.length co42) (.slice Ao44 t352.length co44) (.slice Ao46 t355.length co46))))) (Kd.R_base ho0) hb); replace HO347 := am_ (Kd.R_elder' (lt_ ((m1_ (fr4_ HO347.out BK359.out (.int .i64 t348) (.slice Ao42 t349.length co42) (.slice Ao44 t352.length co44) (.slice Ao46 t355.length co46))))) (Kd.R_base ho0) hb); replace HO351 := am_ (Kd.R_elder' (lt_ ((m1_ (fr4_ HO351.out BK359.out (.int .i64 t348) (.slice Ao42 t349.length co42) (.slice Ao44 t352.length co44) (.slice Ao46 t355.length co46))))) (Kd.R_base ho0) hb); replace HO354 := am_ (Kd.R_elder' (lt_ ((m1_ (fr4_ HO354.out BK359.out (.int .i64 t348) (.slice Ao42 t349.length co42) (.slice Ao44 t352.length co44) (.slice Ao46 t355.length co46))))) (Kd.R_base ho0) hb); replace HO357 := am_ (Kd.R_elder' (lt_ ((m1_ (fr4_ HO357.out BK359.out (.int .i64 t348) (.slice Ao42 t349.length co42) (.slice Ao44 t352.length co44) (.slice Ao46 t355.length co46))))) (Kd.R_base ho0) hb); replace BK336 := am_ (blk_below (g := gb336) (lg_ BK336) hb); replace BK337 := am_ (blk_below (g := gb337) (lg_ BK337) hb); replace BK359 := am_ (blk_below (g := gb359) (o := .cells #[.int .i64 t348, .slice Ao42 t349.length co42, .slice Ao44 t352.length co44, .slice Ao46 t355.length co46] 48 (0, 0)) (lq_ BK359) hb); replace HB := am_ (below_step (lw_ HB) hb); (try clear hb); (try clear hb2); (try clear hk); (try clear hi); (try clear ho0)) | ((with_reducible refine gate_dst (N := 8) rfl ?_); refine bev_ 8 #[.int .i64 0, .slice none 0 0] 26 rfl rfl ?_; intro gb364 hg w51 hbox hb; have BK364 := am_ (hbox); have GW364 := am_ ((by rw [hg]; exact (below_size (lw_ HB)) : w.heap.size ≤ gb364)); have GE364 := am_ ((by rw [hg]; exact (below_size (lw_ HB)) : w.heap.size ≤ gb364)); have NB336_364 := am_ ((by rw [hg]; exact Nat.ne_of_lt (blk_lt (g := gb336) (lb_ BK336)) : gb336 ≠ gb364)); have NB364_336 := am_ ((by rw [hg]; exact Nat.ne_of_gt (blk_lt (g := gb336) (lb_ BK336)) : gb364 ≠ gb336)); have NB337_364 := am_ ((by rw [hg]; exact Nat.ne_of_lt (blk_lt (g := gb337) (lb_ BK337)) : gb337 ≠ gb364)); have NB364_337 := am_ ((by rw [hg]; exact Nat.ne_of_gt (blk_lt (g := gb337) (lb_ BK337)) : gb364 ≠ gb337)); have NB359_364 := am_ ((by rw [hg]; exact Nat.ne_of_lt (blk_lt (g := gb359) (lb_ BK359)) : gb359 ≠ gb364)); have NB364_359 := am_ ((by rw [hg]; exact Nat.ne_of_gt (blk_lt (g := gb359) (lb_ BK359)) : gb364 ≠ gb359)); replace HO343 := am_ (Kd.R_below (lf_ HO343) hb); replace HO347 := am_ (Kd.R_below (lf_ HO347) hb); replace HO351 := am_ (Kd.R_below (lf_ HO351) hb); replace HO354 := am_ (Kd.R_below (lf_ HO354) hb); replace HO357 := am_ (Kd.R_below (lf_ HO357) hb); replace HO363 := am_ (Kd.R_below (lf_ HO363) hb); replace BK336 := am_ (blk_below (g := gb336) (lb_ BK336) hb); replace BK337 := am_ (blk_below (g := gb337) (lb_ BK337) hb); replace BK359 := am_ (blk_below (g := gb359) (lb_ BK359) hb); replace HB := am_ (below_step (lw_ HB) hb); clear hb hbox hg; have hnb52 := NB364_336.out; have hnc52 := NB336_364.out; have hnb53 := NB364_337.out; have hnc53 := NB337_364.out; have hnb54 := NB364_359.out; have hnc54 := NB359_364.out; obtain ⟨hcz55_0, hcz55_1, hfz55_0, hfz55_1⟩ := bx2_ BK364.out; obtain ⟨Ao56, co56, eo56⟩ := Kd.R_slice HO363.out; subst eo56; have hnb57 := NB337_359.out; have hnc57 := NB359_337.out; obtain ⟨hcz58_0, hcz58_1, hfz58_0, hfz58_1⟩ := bx2_ BK337.out) | ((with_reducible refine gate_callee (f := 18) rfl ?_); refine goesL_ (some 38) rfl rfl Try.func18 (by kernel_rfl) rfl #[.agg #[.int .i64 a1_0, .slice A1_1 l1_1.length c1_1]] rfl lm_ ?_; (with_reducible refine (laws_toBits.calls k a1_0 _ _ l1_1 t365 t366 _ ?side1 ?side2 A23.out).mono ?_); (case side1 => exact Kd.C_below HR1_1.out (lw_ HB)); (case side2 => exact HC1_1.out); rintro e w59 ⟨v367, rfl, ho0, hb⟩; refine ⟨_, rfl, ?_⟩; have HO368 := am_ (Kd.R_lower (Kd.R_new' (Kd.R_new' (Kd.R_new' (Kd.R_new' (Kd.R_new' (Kd.R_new' ho0 (Kd.R_lt (lt_ ((m1_ (fr2_ HO343.out BK364.out (.int .i64 t360) (.slice Ao56 t361.length co56))))))) (Kd.R_lt (lt_ ((m1_ (fr2_ HO347.out BK364.out (.int .i64 t360) (.slice Ao56 t361.length co56))))))) (Kd.R_lt (lt_ ((m1_ (fr2_ HO351.out BK364.out (.int .i64 t360) (.slice Ao56 t361.length co56))))))) (Kd.R_lt (lt_ ((m1_ (fr2_ HO354.out BK364.out (.int .i64 t360) (.slice Ao56 t361.length co56))))))) (Kd.R_lt (lt_ ((m1_ (fr2_ HO357.out BK364.out (.int .i64 t360) (.slice Ao56 t361.length co56))))))) (Kd.R_lt (lt_ ((m1_ (fr2_ HO363.out BK364.out (.int .i64 t360) (.slice Ao56 t361.length co56))))))) (below_size (lw_ HB))); replace HO343 := am_ (Kd.R_elder' (lt_ ((m1_ (fr2_ HO343.out BK364.out (.int .i64 t360) (.slice Ao56 t361.length co56))))) (Kd.R_base ho0) hb); replace HO347 := am_ (Kd.R_elder' (lt_ ((m1_ (fr2_ HO347.out BK364.out (.int .i64 t360) (.slice Ao56 t361.length co56))))) (Kd.R_base ho0) hb); replace HO351 := am_ (Kd.R_elder' (lt_ ((m1_ (fr2_ HO351.out BK364.out (.int .i64 t360) (.slice Ao56 t361.length co56))))) (Kd.R_base ho0) hb); replace HO354 := am_ (Kd.R_elder' (lt_ ((m1_ (fr2_ HO354.out BK364.out (.int .i64 t360) (.slice Ao56 t361.length co56))))) (Kd.R_base ho0) hb); replace HO357 := am_ (Kd.R_elder' (lt_ ((m1_ (fr2_ HO357.out BK364.out (.int .i64 t360) (.slice Ao56 t361.length co56))))) (Kd.R_base ho0) hb); replace HO363 := am_ (Kd.R_elder' (lt_ ((m1_ (fr2_ HO363.out BK364.out (.int .i64 t360) (.slice Ao56 t361.length co56))))) (Kd.R_base ho0) hb); replace BK336 := am_ (blk_below (g := gb336) (lg_ BK336) hb); replace BK337 := am_ (blk_below (g := gb337) (lg_ BK337) hb); replace BK359 := am_ (blk_below (g := gb359) (lg_ BK359) hb); replace BK364 := am_ (blk_below (g := gb364) (o := .cells #[.int .i64 t360, .slice Ao56 t361.length co56] 26 (0, 0)) (lq_ BK364) hb); replace HB := am_ (below_step (lw_ HB) hb); (try clear hb); (try clear hb2); (try clear hk); (try clear hi); (try clear ho0)) | ((with_reducible refine gate_dst (N := 9) rfl ?_); refine bev_ 9 #[.int .i64 0, .slice none 0 0] 26 rfl rfl ?_; intro gb369 hg w60 hbox hb; have BK369 := am_ (hbox); have GW369 := am_ ((by rw [hg]; exact (below_size (lw_ HB)) : w.heap.size ≤ gb369)); have GE369 := am_ ((by rw [hg]; exact (below_size (lw_ HB)) : w.heap.size ≤ gb369)); have NB336_369 := am_ ((by rw [hg]; exact Nat.ne_of_lt (blk_lt (g := gb336) (lb_ BK336)) : gb336 ≠ gb369)); have NB369_336 := am_ ((by rw [hg]; exact Nat.ne_of_gt (blk_lt (g := gb336) (lb_ BK336)) : gb369 ≠ gb336)); have NB337_369 := am_ ((by rw [hg]; exact Nat.ne_of_lt (blk_lt (g := gb337) (lb_ BK337)) : gb337 ≠ gb369)); have NB369_337 := am_ ((by rw [hg]; exact Nat.ne_of_gt (blk_lt (g := gb337) (lb_ BK337)) : gb369 ≠ gb337)); have NB359_369 := am_ ((by rw [hg]; exact Nat.ne_of_lt (blk_lt (g := gb359) (lb_ BK359)) : gb359 ≠ gb369)); have NB369_359 := am_ ((by rw [hg]; exact Nat.ne_of_gt (blk_lt (g := gb359) (lb_ BK359)) : gb369 ≠ gb359)); have NB364_369 := am_ ((by rw [hg]; exact Nat.ne_of_lt (blk_lt (g := gb364) (lb_ BK364)) : gb364 ≠ gb369)); have NB369_364 := am_ ((by rw [hg]; exact Nat.ne_of_gt (blk_lt (g := gb364) (lb_ BK364)) : gb369 ≠ gb364)); replace HO343 := am_ (Kd.R_below (lf_ HO343) hb); replace HO347 := am_ (Kd.R_below (lf_ HO347) hb); replace HO351 := am_ (Kd.R_below (lf_ HO351) hb); replace HO354 := am_ (Kd.R_below (lf_ HO354) hb); replace HO357 := am_ (Kd.R_below (lf_ HO357) hb); replace HO363 := am_ (Kd.R_below (lf_ HO363) hb); replace HO368 := am_ (Kd.R_below (lf_ HO368) hb); replace BK336 := am_ (blk_below (g := gb336) (lb_ BK336) hb); replace BK337 := am_ (blk_below (g := gb337) (lb_ BK337) hb); replace BK359 := am_ (blk_below (g := gb359) (lb_ BK359) hb); replace BK364 := am_ (blk_below (g := gb364) (lb_ BK364) hb); replace HB := am_ (below_step (lw_ HB) hb); clear hb hbox hg; have hnb61 := NB369_336.out; have hnc61 := NB336_369.out; have hnb62 := NB369_337.out; have hnc62 := NB337_369.out; have hnb63 := NB369_359.out; have hnc63 := NB359_369.out; have hnb64 := NB369_364.out; have hnc64 := NB364_369.out; obtain ⟨hcz65_0, hcz65_1, hfz65_0, hfz65_1⟩ := bx2_ BK369.out; obtain ⟨Ao66, co66, eo66⟩ := Kd.R_slice HO368.out; subst eo66; obtain ⟨hcz67_0, hcz67_1, hfz67_0, hfz67_1⟩ := bx2_ BK364.out) | ((with_reducible refine gate_callee (f := 44) rfl ?_); refine goesL_ (some 42) rfl rfl Try.func44 (by kernel_rfl) rfl #[.agg #[.int .i64 t360, .slice Ao56 t361.length co56], .agg #[.int .i64 t365, .slice Ao66 t366.length co66]] rfl lm_ ?_; (with_reducible refine (impl_UnpackDirectory.calls k t360 _ _ t361 t365 _ _ t366 t370 t371 t374 t377 t380 _ ?side1 ?side2 ?side3 ?side4 A24.out).mono ?_); (case side1 => refine (Kd.R_reads' (e := 3) (base := w.heap.size) (ok := fun k_ => ((((((True ∧ nb_ k_ v342) ∧ nb_ k_ v346) ∧ ns_ k_ Ao42 t349 co42) ∧ ns_ k_ Ao44 t352 co44) ∧ ns_ k_ Ao46 t355 co46) ∧ ns_ k_ Ao66 t366 co66)) (n := t361.length) (c := co56) ?_).2.2; exact (lt_ ((m1_ (fr2_ HO363.out BK369.out (.int .i64 t365) (.slice Ao66 t366.length co66)))))); (case side2 => exact (Kd.R_reads' HO363.out).2.1); (case side3 => refine (Kd.R_reads' (e := 3) (base := w.heap.size) (ok := fun k_ => ((((((True ∧ nb_ k_ v342) ∧ nb_ k_ v346) ∧ ns_ k_ Ao42 t349 co42) ∧ ns_ k_ Ao44 t352 co44) ∧ ns_ k_ Ao46 t355 co46) ∧ ns_ k_ Ao56 t361 co56)) (n := t366.length) (c := co66) ?_).2.2; exact (lt_ ((m1_ (fr2_ HO368.out BK369.out (.int .i64 t365) (.slice Ao66 t366.length co66)))))); (case side4 => exact (Kd.R_reads' HO368.out).2.1); rintro e w68 ⟨v372, v375, v378, rfl, ho0, ho1, ho2, hb⟩; refine ⟨_, rfl, ?_⟩; have HO373 := am_ (Kd.R_lower (Kd.R_new' (Kd.R_new' (Kd.R_new' (Kd.R_new' (Kd.R_new' (Kd.R_new' (Kd.R_new' ho0 (Kd.R_lt (lt_ ((m1_ (fr2_ HO343.out BK369.out (.int .i64 t365) (.slice Ao66 t366.length co66))))))) (Kd.R_lt (lt_ ((m1_ (fr2_ HO347.out BK369.out (.int .i64 t365) (.slice Ao66 t366.length co66))))))) (Kd.R_lt (lt_ ((m1_ (fr2_ HO351.out BK369.out (.int .i64 t365) (.slice Ao66 t366.length co66))))))) (Kd.R_lt (lt_ ((m1_ (fr2_ HO354.out BK369.out (.int .i64 t365) (.slice Ao66 t366.length co66))))))) (Kd.R_lt (lt_ ((m1_ (fr2_ HO357.out BK369.out (.int .i64 t365) (.slice Ao66 t366.length co66))))))) (Kd.R_lt (lt_ ((m1_ (fr2_ HO363.out BK369.out (.int .i64 t365) (.slice Ao66 t366.length co66))))))) (Kd.R_lt (lt_ ((m1_ (fr2_ HO368.out BK369.out (.int .i64 t365) (.slice Ao66 t366.length co66))))))) (below_size (lw_ HB))); have HO376 := am_ (Kd.R_lower (Kd.R_new' (Kd.R_new' (Kd.R_new' (Kd.R_new' (Kd.R_new' (Kd.R_new' (Kd.R_new' ho1 (Kd.R_lt (lt_ ((m1_ (fr2_ HO343.out BK369.out (.int .i64 t365) (.slice Ao66 t366.length co66))))))) (Kd.R_lt (lt_ ((m1_ (fr2_ HO347.out BK369.out (.int .i64 t365) (.slice Ao66 t366.length co66))))))) (Kd.R_lt (lt_ ((m1_ (fr2_ HO351.out BK369.out (.int .i64 t365) (.slice Ao66 t366.length co66))))))) (Kd.R_lt (lt_ ((m1_ (fr2_ HO354.out BK369.out (.int .i64 t365) (.slice Ao66 t366.length co66))))))) (Kd.R_lt (lt_ ((m1_ (fr2_ HO357.out BK369.out (.int .i64 t365) (.slice Ao66 t366.length co66))))))) (Kd.R_lt (lt_ ((m1_ (fr2_ HO363.out BK369.out (.int .i64 t365) (.slice Ao66 t366.length co66))))))) (Kd.R_lt (lt_ ((m1_ (fr2_ HO368.out BK369.out (.int .i64 t365) (.slice Ao66 t366.length co66))))))) (below_size (lw_ HB))); have HO379 := am_ (Kd.R_lower (Kd.R_new' (Kd.R_new' (Kd.R_new' (Kd.R_new' (Kd.R_new' (Kd.R_new' (Kd.R_new' ho2 (Kd.R_lt (lt_ ((m1_ (fr2_ HO343.out BK369.out (.int .i64 t365) (.slice Ao66 t366.length co66))))))) (Kd.R_lt (lt_ ((m1_ (fr2_ HO347.out BK369.out (.int .i64 t365) (.slice Ao66 t366.length co66))))))) (Kd.R_lt (lt_ ((m1_ (fr2_ HO351.out BK369.out (.int .i64 t365) (.slice Ao66 t366.length co66))))))) (Kd.R_lt (lt_ ((m1_ (fr2_ HO354.out BK369.out (.int .i64 t365) (.slice Ao66 t366.length co66))))))) (Kd.R_lt (lt_ ((m1_ (fr2_ HO357.out BK369.out (.int .i64 t365) (.slice Ao66 t366.length co66))))))) (Kd.R_lt (lt_ ((m1_ (fr2_ HO363.out BK369.out (.int .i64 t365) (.slice Ao66 t366.length co66))))))) (Kd.R_lt (lt_ ((m1_ (fr2_ HO368.out BK369.out (.int .i64 t365) (.slice Ao66 t366.length co66))))))) (below_size (lw_ HB))); replace HO343 := am_ (m1_ (td_ (td_ (td_ (Kd.R_old (lt_ ((m1_ (fr2_ HO343.out BK369.out (.int .i64 t365) (.slice Ao66 t366.length co66))))) hb) ho0) ho1) ho2)); replace HO347 := am_ (m1_ (td_ (td_ (td_ (Kd.R_old (lt_ ((m1_ (fr2_ HO347.out BK369.out (.int .i64 t365) (.slice Ao66 t366.length co66))))) hb) ho0) ho1) ho2)); replace HO351 := am_ (m1_ (td_ (td_ (td_ (Kd.R_old (lt_ ((m1_ (fr2_ HO351.out BK369.out (.int .i64 t365) (.slice Ao66 t366.length co66))))) hb) ho0) ho1) ho2)); replace HO354 := am_ (m1_ (td_ (td_ (td_ (Kd.R_old (lt_ ((m1_ (fr2_ HO354.out BK369.out (.int .i64 t365) (.slice Ao66 t366.length co66))))) hb) ho0) ho1) ho2)); replace HO357 := am_ (m1_ (td_ (td_ (td_ (Kd.R_old (lt_ ((m1_ (fr2_ HO357.out BK369.out (.int .i64 t365) (.slice Ao66 t366.length co66))))) hb) ho0) ho1) ho2)); replace HO363 := am_ (m1_ (td_ (td_ (td_ (Kd.R_old (lt_ ((m1_ (fr2_ HO363.out BK369.out (.int .i64 t365) (.slice Ao66 t366.length co66))))) hb) ho0) ho1) ho2)); replace HO368 := am_ (m1_ (td_ (td_ (td_ (Kd.R_old (lt_ ((m1_ (fr2_ HO368.out BK369.out (.int .i64 t365) (.slice Ao66 t366.length co66))))) hb) ho0) ho1) ho2)); replace BK336 := am_ (blk_below (g := gb336) (lg_ BK336) hb); replace BK337 := am_ (blk_below (g := gb337) (lg_ BK337) hb); replace BK359 := am_ (blk_below (g := gb359) (lg_ BK359) hb); replace BK364 := am_ (blk_below (g := gb364) (lg_ BK364) hb); replace BK369 := am_ (blk_below (g := gb369) (o := .cells #[.int .i64 t365, .slice Ao66 t366.length co66] 26 (0, 0)) (lq_ BK369) hb); replace HB := am_ (below_step (lw_ HB) hb); (try clear hb); (try clear hb2); (try clear hk); (try clear hi); (try clear ho0); (try clear ho1); (try clear ho2)) | ((with_reducible refine gate_dst (N := 10) rfl ?_); refine bev_ 10 #[.int .i64 0, .slice none 0 0, .slice none 0 0, .slice none 0 0] 48 rfl rfl ?_; intro gb381 hg w69 hbox hb; have BK381 := am_ (hbox); have GW381 := am_ ((by rw [hg]; exact (below_size (lw_ HB)) : w.heap.size ≤ gb381)); have GE381 := am_ ((by rw [hg]; exact (below_size (lw_ HB)) : w.heap.size ≤ gb381)); have NB336_381 := am_ ((by rw [hg]; exact Nat.ne_of_lt (blk_lt (g := gb336) (lb_ BK336)) : gb336 ≠ gb381)); have NB381_336 := am_ ((by rw [hg]; exact Nat.ne_of_gt (blk_lt (g := gb336) (lb_ BK336)) : gb381 ≠ gb336)); have NB337_381 := am_ ((by rw [hg]; exact Nat.ne_of_lt (blk_lt (g := gb337) (lb_ BK337)) : gb337 ≠ gb381)); have NB381_337 := am_ ((by rw [hg]; exact Nat.ne_of_gt (blk_lt (g := gb337) (lb_ BK337)) : gb381 ≠ gb337)); have NB359_381 := am_ ((by rw [hg]; exact Nat.ne_of_lt (blk_lt (g := gb359) (lb_ BK359)) : gb359 ≠ gb381)); have NB381_359 := am_ ((by rw [hg]; exact Nat.ne_of_gt (blk_lt (g := gb359) (lb_ BK359)) : gb381 ≠ gb359)); have NB364_381 := am_ ((by rw [hg]; exact Nat.ne_of_lt (blk_lt (g := gb364) (lb_ BK364)) : gb364 ≠ gb381)); have NB381_364 := am_ ((by rw [hg]; exact Nat.ne_of_gt (blk_lt (g := gb364) (lb_ BK364)) : gb381 ≠ gb364)); have NB369_381 := am_ ((by rw [hg]; exact Nat.ne_of_lt (blk_lt (g := gb369) (lb_ BK369)) : gb369 ≠ gb381)); have NB381_369 := am_ ((by rw [hg]; exact Nat.ne_of_gt (blk_lt (g := gb369) (lb_ BK369)) : gb381 ≠ gb369)); replace HO343 := am_ (Kd.R_below (lf_ HO343) hb); replace HO347 := am_ (Kd.R_below (lf_ HO347) hb); replace HO351 := am_ (Kd.R_below (lf_ HO351) hb); replace HO354 := am_ (Kd.R_below (lf_ HO354) hb); replace HO357 := am_ (Kd.R_below (lf_ HO357) hb); replace HO363 := am_ (Kd.R_below (lf_ HO363) hb); replace HO368 := am_ (Kd.R_below (lf_ HO368) hb); replace HO373 := am_ (Kd.R_below (lf_ HO373) hb); replace HO376 := am_ (Kd.R_below (lf_ HO376) hb); replace HO379 := am_ (Kd.R_below (lf_ HO379) hb); replace BK336 := am_ (blk_below (g := gb336) (lb_ BK336) hb); replace BK337 := am_ (blk_below (g := gb337) (lb_ BK337) hb); replace BK359 := am_ (blk_below (g := gb359) (lb_ BK359) hb); replace BK364 := am_ (blk_below (g := gb364) (lb_ BK364) hb); replace BK369 := am_ (blk_below (g := gb369) (lb_ BK369) hb); replace HB := am_ (below_step (lw_ HB) hb); clear hb hbox hg; have hnb70 := NB381_336.out; have hnc70 := NB336_381.out; have hnb71 := NB381_337.out; have hnc71 := NB337_381.out; have hnb72 := NB381_359.out; have hnc72 := NB359_381.out; have hnb73 := NB381_364.out; have hnc73 := NB364_381.out; have hnb74 := NB381_369.out; have hnc74 := NB369_381.out; obtain ⟨hcz75_0, hcz75_1, hcz75_2, hcz75_3, hfz75_0, hfz75_1, hfz75_2, hfz75_3⟩ := bx4_ BK381.out; obtain ⟨Ao76, co76, eo76⟩ := Kd.R_slice HO373.out; subst eo76; obtain ⟨Ao77, co77, eo77⟩ := Kd.R_slice HO376.out; subst eo77; obtain ⟨Ao78, co78, eo78⟩ := Kd.R_slice HO379.out; subst eo78))
   (try simp only [Act.put, List.setIfInBounds_toArray, List.set_cons_zero, List.set_cons_succ])
   go_cut [53] (fun v53 wc => ∃ (kq : Nat) (x53_24 : Bool), v53 = .bool x53_24 ∧ Aside0 (laws_FnExactUnpackDirectory.j0 kq t358 t380 x53_24 a0_0 l0_1 a1_0 l1_1 t348 t349 t352 t355 t360 t361 t365 t366 t370 t371 t374 t377 = some r) ∧ Aside0 (kq ≤ k) ∧ Aside0 (Kd.R (Kd.int .i64) 3 wc w.heap.size (fun k_ => ns_ k_ Ao44 t352 co44 ∧ ns_ k_ Ao46 t355 co46 ∧ ns_ k_ Ao56 t361 co56 ∧ ns_ k_ Ao66 t366 co66 ∧ ns_ k_ Ao76 t371 co76 ∧ ns_ k_ Ao77 t374 co77 ∧ ns_ k_ Ao78 t377 co78) (.slice Ao42 t349.length co42) t349) ∧ Aside0 (Kd.R (Kd.int .i64) 3 wc w.heap.size (fun k_ => ns_ k_ Ao42 t349 co42 ∧ ns_ k_ Ao46 t355 co46 ∧ ns_ k_ Ao56 t361 co56 ∧ ns_ k_ Ao66 t366 co66 ∧ ns_ k_ Ao76 t371 co76 ∧ ns_ k_ Ao77 t374 co77 ∧ ns_ k_ Ao78 t377 co78) (.slice Ao44 t352.length co44) t352) ∧ Aside0 (Kd.R (Kd.int .i64) 3 wc w.heap.size (fun k_ => ns_ k_ Ao42 t349 co42 ∧ ns_ k_ Ao44 t352 co44 ∧ ns_ k_ Ao56 t361 co56 ∧ ns_ k_ Ao66 t366 co66 ∧ ns_ k_ Ao76 t371 co76 ∧ ns_ k_ Ao77 t374 co77 ∧ ns_ k_ Ao78 t377 co78) (.slice Ao46 t355.length co46) t355) ∧ Aside0 (Kd.R (Kd.int .i64) 3 wc w.heap.size (fun k_ => ns_ k_ Ao42 t349 co42 ∧ ns_ k_ Ao44 t352 co44 ∧ ns_ k_ Ao46 t355 co46 ∧ ns_ k_ Ao66 t366 co66 ∧ ns_ k_ Ao76 t371 co76 ∧ ns_ k_ Ao77 t374 co77 ∧ ns_ k_ Ao78 t377 co78) (.slice Ao56 t361.length co56) t361) ∧ Aside0 (Kd.R (Kd.int .i64) 3 wc w.heap.size (fun k_ => ns_ k_ Ao42 t349 co42 ∧ ns_ k_ Ao44 t352 co44 ∧ ns_ k_ Ao46 t355 co46 ∧ ns_ k_ Ao56 t361 co56 ∧ ns_ k_ Ao76 t371 co76 ∧ ns_ k_ Ao77 t374 co77 ∧ ns_ k_ Ao78 t377 co78) (.slice Ao66 t366.length co66) t366) ∧ Aside0 (Kd.R (Kd.int .i64) 3 wc w.heap.size (fun k_ => ns_ k_ Ao42 t349 co42 ∧ ns_ k_ Ao44 t352 co44 ∧ ns_ k_ Ao46 t355 co46 ∧ ns_ k_ Ao56 t361 co56 ∧ ns_ k_ Ao66 t366 co66 ∧ ns_ k_ Ao77 t374 co77 ∧ ns_ k_ Ao78 t377 co78) (.slice Ao76 t371.length co76) t371) ∧ Aside0 (Kd.R (Kd.int .i64) 3 wc w.heap.size (fun k_ => ns_ k_ Ao42 t349 co42 ∧ ns_ k_ Ao44 t352 co44 ∧ ns_ k_ Ao46 t355 co46 ∧ ns_ k_ Ao56 t361 co56 ∧ ns_ k_ Ao66 t366 co66 ∧ ns_ k_ Ao76 t371 co76 ∧ ns_ k_ Ao78 t377 co78) (.slice Ao77 t374.length co77) t374) ∧ Aside0 (Kd.R (Kd.int .i64) 3 wc w.heap.size (fun k_ => ns_ k_ Ao42 t349 co42 ∧ ns_ k_ Ao44 t352 co44 ∧ ns_ k_ Ao46 t355 co46 ∧ ns_ k_ Ao56 t361 co56 ∧ ns_ k_ Ao66 t366 co66 ∧ ns_ k_ Ao76 t371 co76 ∧ ns_ k_ Ao77 t374 co77) (.slice Ao78 t377.length co78) t377) ∧ Aside0 (wc.heap[gb336]? = some (.cells #[.int .i64 a0_0, (.slice A0_1 l0_1.length c0_1)] 24 (0, 0))) ∧ Aside0 (wc.heap[gb337]? = some (.cells #[.int .i64 a1_0, (.slice A1_1 l1_1.length c1_1)] 24 (0, 0))) ∧ Aside0 (wc.heap[gb359]? = some (.cells #[.int .i64 t348, (.slice Ao42 t349.length co42), (.slice Ao44 t352.length co44), (.slice Ao46 t355.length co46)] 48 (0, 0))) ∧ Aside0 (wc.heap[gb364]? = some (.cells #[.int .i64 t360, (.slice Ao56 t361.length co56)] 26 (0, 0))) ∧ Aside0 (wc.heap[gb369]? = some (.cells #[.int .i64 t365, (.slice Ao66 t366.length co66)] 26 (0, 0))) ∧ Aside0 (wc.heap[gb381]? = some (.cells #[.int .i64 t370, (.slice Ao76 t371.length co76), (.slice Ao77 t374.length co77), (.slice Ao78 t377.length co78)] 48 (0, 0))) ∧ Aside0 (Below w.heap.size w wc))
   case first =>
    have H := HC25.out
    clear HC25
    replace H := Option.bind_eq_some_iff.mp H
    obtain ⟨t382, A790, H⟩ := H
    replace H : (if t382 = true then (laws_FnExactUnpackDirectory.j0 k t358 t380 (t380 != t358) a0_0 l0_1 a1_0 l1_1 t348 t349 t352 t355 t360 t361 t365 t366 t370 t371 t374 t377) else (none)) = some r := H
    have A79 := am_ A790
    clear A790
    by_cases c80 : t382 = true
    ·subst c80
     have H1 : (laws_FnExactUnpackDirectory.j0 k t358 t380 (t380 != t358) a0_0 l0_1 a1_0 l1_1 t348 t349 t352 t355 t360 t361 t365 t366 t370 t371 t374 t377) = some r := by rw [if_pos rfl] at H; exact H
     clear H
     have H := H1
     clear H1
     have H' := am_ H
     clear H
     have hnb81 := NB381_336.out
     have hnc81 := NB336_381.out
     have hnb82 := NB381_337.out
     have hnc82 := NB337_381.out
     have hnb83 := NB381_359.out
     have hnc83 := NB359_381.out
     have hnb84 := NB381_364.out
     have hnc84 := NB364_381.out
     have hnb85 := NB381_369.out
     have hnc85 := NB369_381.out
     obtain ⟨hcz86_0, hcz86_1, hcz86_2, hcz86_3, hfz86_0, hfz86_1, hfz86_2, hfz86_3⟩ := bx4_ BK381.out
     have hnb87 := NB359_336.out
     have hnc87 := NB336_359.out
     have hnb88 := NB359_337.out
     have hnc88 := NB337_359.out
     have hnb89 := NB359_364.out
     have hnc89 := NB364_359.out
     have hnb90 := NB359_369.out
     have hnc90 := NB369_359.out
     have hcz91_0 : w69.cell? ⟨gb359, 0, none⟩ = some (.int .i64 t348) := (blk_cell BK359.out 0).trans rfl
     have hcz91_1 : w69.cell? ⟨gb359, 1, none⟩ = some (.slice Ao42 t349.length co42) := (blk_cell BK359.out 1).trans rfl
     have hcz91_2 : w69.cell? ⟨gb359, 2, none⟩ = some (.slice Ao44 t352.length co44) := (blk_cell BK359.out 2).trans rfl
     have hcz91_3 : w69.cell? ⟨gb359, 3, none⟩ = some (.slice Ao46 t355.length co46) := (blk_cell BK359.out 3).trans rfl
     have hfz91_0 := blk_frozen BK359.out 0
     have hfz91_1 := blk_frozen BK359.out 1
     have hfz91_2 := blk_frozen BK359.out 2
     have hfz91_3 := blk_frozen BK359.out 3
     go_wp2_with (first | ((with_reducible refine gate_callee (f := 38) rfl ?_); refine goesL_ (some 47) rfl rfl Try.func38 (by kernel_rfl) rfl #[.agg #[.int .i64 t370, .slice Ao76 t371.length co76, .slice Ao77 t374.length co77, .slice Ao78 t377.length co78], .agg #[.int .i64 t348, .slice Ao42 t349.length co42, .slice Ao44 t352.length co44, .slice Ao46 t355.length co46]] rfl lm_ ?_; (with_reducible refine (laws_eqRanked.calls k t370 _ _ t371 _ _ t374 _ _ t377 t348 _ _ t349 _ _ t352 _ _ t355 true _ ?side1 ?side2 ?side3 ?side4 ?side5 ?side6 ?side7 ?side8 ?side9 ?side10 ?side11 ?side12 A79.out).mono ?_); (case side1 => refine (Kd.R_reads' (e := 3) (base := w.heap.size) (ok := fun k_ => ((((((((ns_ k_ Ao77 t374 co77 ∧ ns_ k_ Ao78 t377 co78) ∧ nb_ k_ v342) ∧ nb_ k_ v346) ∧ ns_ k_ Ao42 t349 co42) ∧ ns_ k_ Ao44 t352 co44) ∧ ns_ k_ Ao46 t355 co46) ∧ ns_ k_ Ao56 t361 co56) ∧ ns_ k_ Ao66 t366 co66)) (n := t371.length) (c := co76) ?_).2.2; exact (lt_ ((m1_ (fr4_ HO373.out BK381.out (.int .i64 t370) (.slice Ao76 t371.length co76) (.slice Ao77 t374.length co77) (.slice Ao78 t377.length co78)))))); (case side2 => exact (Kd.R_reads' HO373.out).2.1); (case side3 => refine (Kd.R_reads' (e := 3) (base := w.heap.size) (ok := fun k_ => ((((((((ns_ k_ Ao76 t371 co76 ∧ ns_ k_ Ao78 t377 co78) ∧ nb_ k_ v342) ∧ nb_ k_ v346) ∧ ns_ k_ Ao42 t349 co42) ∧ ns_ k_ Ao44 t352 co44) ∧ ns_ k_ Ao46 t355 co46) ∧ ns_ k_ Ao56 t361 co56) ∧ ns_ k_ Ao66 t366 co66)) (n := t374.length) (c := co77) ?_).2.2; exact (lt_ ((m1_ (fr4_ HO376.out BK381.out (.int .i64 t370) (.slice Ao76 t371.length co76) (.slice Ao77 t374.length co77) (.slice Ao78 t377.length co78)))))); (case side4 => exact (Kd.R_reads' HO376.out).2.1); (case side5 => refine (Kd.R_reads' (e := 3) (base := w.heap.size) (ok := fun k_ => ((((((((ns_ k_ Ao76 t371 co76 ∧ ns_ k_ Ao77 t374 co77) ∧ nb_ k_ v342) ∧ nb_ k_ v346) ∧ ns_ k_ Ao42 t349 co42) ∧ ns_ k_ Ao44 t352 co44) ∧ ns_ k_ Ao46 t355 co46) ∧ ns_ k_ Ao56 t361 co56) ∧ ns_ k_ Ao66 t366 co66)) (n := t377.length) (c := co78) ?_).2.2; exact (lt_ ((m1_ (fr4_ HO379.out BK381.out (.int .i64 t370) (.slice Ao76 t371.length co76) (.slice Ao77 t374.length co77) (.slice Ao78 t377.length co78)))))); (case side6 => exact (Kd.R_reads' HO379.out).2.1); (case side7 => refine (Kd.R_reads' (e := 3) (base := w.heap.size) (ok := fun k_ => ((((((nb_ k_ v342 ∧ (nb_ k_ v346 ∧ (ns_ k_ Ao44 t352 co44 ∧ ns_ k_ Ao46 t355 co46))) ∧ ns_ k_ Ao56 t361 co56) ∧ ns_ k_ Ao66 t366 co66) ∧ ns_ k_ Ao76 t371 co76) ∧ ns_ k_ Ao77 t374 co77) ∧ ns_ k_ Ao78 t377 co78)) (n := t349.length) (c := co42) ?_).2.2; exact (lt_ ((m1_ (fr4_ HO351.out BK381.out (.int .i64 t370) (.slice Ao76 t371.length co76) (.slice Ao77 t374.length co77) (.slice Ao78 t377.length co78)))))); (case side8 => exact (Kd.R_reads' HO351.out).2.1); (case side9 => refine (Kd.R_reads' (e := 3) (base := w.heap.size) (ok := fun k_ => ((((((nb_ k_ v342 ∧ (nb_ k_ v346 ∧ (ns_ k_ Ao42 t349 co42 ∧ ns_ k_ Ao46 t355 co46))) ∧ ns_ k_ Ao56 t361 co56) ∧ ns_ k_ Ao66 t366 co66) ∧ ns_ k_ Ao76 t371 co76) ∧ ns_ k_ Ao77 t374 co77) ∧ ns_ k_ Ao78 t377 co78)) (n := t352.length) (c := co44) ?_).2.2; exact (lt_ ((m1_ (fr4_ HO354.out BK381.out (.int .i64 t370) (.slice Ao76 t371.length co76) (.slice Ao77 t374.length co77) (.slice Ao78 t377.length co78)))))); (case side10 => exact (Kd.R_reads' HO354.out).2.1); (case side11 => refine (Kd.R_reads' (e := 3) (base := w.heap.size) (ok := fun k_ => ((((((nb_ k_ v342 ∧ (nb_ k_ v346 ∧ (ns_ k_ Ao42 t349 co42 ∧ ns_ k_ Ao44 t352 co44))) ∧ ns_ k_ Ao56 t361 co56) ∧ ns_ k_ Ao66 t366 co66) ∧ ns_ k_ Ao76 t371 co76) ∧ ns_ k_ Ao77 t374 co77) ∧ ns_ k_ Ao78 t377 co78)) (n := t355.length) (c := co46) ?_).2.2; exact (lt_ ((m1_ (fr4_ HO357.out BK381.out (.int .i64 t370) (.slice Ao76 t371.length co76) (.slice Ao77 t374.length co77) (.slice Ao78 t377.length co78)))))); (case side12 => exact (Kd.R_reads' HO357.out).2.1); rintro e w92 ⟨rfl, hb⟩; refine ⟨_, rfl, ?_⟩; replace HO343 := am_ (Kd.R_below (lt_ ((m1_ (fr4_ HO343.out BK381.out (.int .i64 t370) (.slice Ao76 t371.length co76) (.slice Ao77 t374.length co77) (.slice Ao78 t377.length co78))))) hb); replace HO347 := am_ (Kd.R_below (lt_ ((m1_ (fr4_ HO347.out BK381.out (.int .i64 t370) (.slice Ao76 t371.length co76) (.slice Ao77 t374.length co77) (.slice Ao78 t377.length co78))))) hb); replace HO351 := am_ (Kd.R_below (lt_ ((m1_ (fr4_ HO351.out BK381.out (.int .i64 t370) (.slice Ao76 t371.length co76) (.slice Ao77 t374.length co77) (.slice Ao78 t377.length co78))))) hb); replace HO354 := am_ (Kd.R_below (lt_ ((m1_ (fr4_ HO354.out BK381.out (.int .i64 t370) (.slice Ao76 t371.length co76) (.slice Ao77 t374.length co77) (.slice Ao78 t377.length co78))))) hb); replace HO357 := am_ (Kd.R_below (lt_ ((m1_ (fr4_ HO357.out BK381.out (.int .i64 t370) (.slice Ao76 t371.length co76) (.slice Ao77 t374.length co77) (.slice Ao78 t377.length co78))))) hb); replace HO363 := am_ (Kd.R_below (lt_ ((m1_ (fr4_ HO363.out BK381.out (.int .i64 t370) (.slice Ao76 t371.length co76) (.slice Ao77 t374.length co77) (.slice Ao78 t377.length co78))))) hb); replace HO368 := am_ (Kd.R_below (lt_ ((m1_ (fr4_ HO368.out BK381.out (.int .i64 t370) (.slice Ao76 t371.length co76) (.slice Ao77 t374.length co77) (.slice Ao78 t377.length co78))))) hb); replace HO373 := am_ (Kd.R_below (lt_ ((m1_ (fr4_ HO373.out BK381.out (.int .i64 t370) (.slice Ao76 t371.length co76) (.slice Ao77 t374.length co77) (.slice Ao78 t377.length co78))))) hb); replace HO376 := am_ (Kd.R_below (lt_ ((m1_ (fr4_ HO376.out BK381.out (.int .i64 t370) (.slice Ao76 t371.length co76) (.slice Ao77 t374.length co77) (.slice Ao78 t377.length co78))))) hb); replace HO379 := am_ (Kd.R_below (lt_ ((m1_ (fr4_ HO379.out BK381.out (.int .i64 t370) (.slice Ao76 t371.length co76) (.slice Ao77 t374.length co77) (.slice Ao78 t377.length co78))))) hb); replace BK336 := am_ (blk_below (g := gb336) (lg_ BK336) hb); replace BK337 := am_ (blk_below (g := gb337) (lg_ BK337) hb); replace BK359 := am_ (blk_below (g := gb359) (lg_ BK359) hb); replace BK364 := am_ (blk_below (g := gb364) (lg_ BK364) hb); replace BK369 := am_ (blk_below (g := gb369) (lg_ BK369) hb); replace BK381 := am_ (blk_below (g := gb381) (o := .cells #[.int .i64 t370, .slice Ao76 t371.length co76, .slice Ao77 t374.length co77, .slice Ao78 t377.length co78] 48 (0, 0)) (lq_ BK381) hb); replace HB := am_ (below_step (lw_ HB) hb); (try clear hb); (try clear hb2); (try clear hk); (try clear hi)))
     go_meet
     case rel => exact ⟨_, ((t380 != t358)), sr_, H', ⟨by first | omega | exact Nat.le_refl _⟩, ⟨lo_ HO351⟩, ⟨lo_ HO354⟩, ⟨lo_ HO357⟩, ⟨lo_ HO363⟩, ⟨lo_ HO368⟩, ⟨lo_ HO373⟩, ⟨lo_ HO376⟩, ⟨lo_ HO379⟩, ⟨lb_ BK336⟩, ⟨lb_ BK337⟩, ⟨lb_ BK359⟩, ⟨lb_ BK364⟩, ⟨lb_ BK369⟩, ⟨lb_ BK381⟩, ⟨lw_ HB⟩⟩
    ·replace c80 := Bool.eq_false_iff.mpr c80
     subst c80
     have H1 : (none) = some r := by rw [if_neg (show ¬ (false = true) by decide)] at H; exact H
     clear H
     have H := H1
     clear H1
     exact absurd H (by simp)
   case rest =>
    clear HC25
    try clear c1
    try clear p2
    try clear c3
    try clear c4
    try clear c5
    try clear c6
    try clear c7
    try clear c8
    try clear c9
    try clear c18
    try clear c38
    try clear c43
    try clear c44
    try clear c48
    try clear c52
    try clear c53
    try clear c54
    try clear c57
    try clear c61
    try clear c62
    try clear c63
    try clear c64
    try clear c70
    try clear c71
    try clear c72
    try clear c73
    try clear c74
    try clear c80
    try clear c81
    try clear c82
    try clear c83
    try clear c84
    try clear c85
    try clear c87
    try clear c88
    try clear c89
    try clear c90
    try clear hcz49_0
    try clear hcz49_1
    try clear hcz55_0
    try clear hcz55_1
    try clear hcz58_0
    try clear hcz58_1
    try clear hcz65_0
    try clear hcz65_1
    try clear hcz67_0
    try clear hcz67_1
    try clear hcz75_0
    try clear hcz75_1
    try clear hcz75_2
    try clear hcz75_3
    try clear hcz86_0
    try clear hcz86_1
    try clear hcz86_2
    try clear hcz86_3
    try clear hcz91_0
    try clear hcz91_1
    try clear hcz91_2
    try clear hcz91_3
    try clear hfz49_0
    try clear hfz49_1
    try clear hfz55_0
    try clear hfz55_1
    try clear hfz58_0
    try clear hfz58_1
    try clear hfz65_0
    try clear hfz65_1
    try clear hfz67_0
    try clear hfz67_1
    try clear hfz75_0
    try clear hfz75_1
    try clear hfz75_2
    try clear hfz75_3
    try clear hfz86_0
    try clear hfz86_1
    try clear hfz86_2
    try clear hfz86_3
    try clear hfz91_0
    try clear hfz91_1
    try clear hfz91_2
    try clear hfz91_3
    obtain ⟨kq, x53_24, rfl, HA, HJ24, HO_360001, HO_360002, HO_360003, HO_365001, HO_370001, HO_382001, HO_382002, HO_382003, BK336, BK337, BK359, BK364, BK369, BK381, HB⟩ := hcut
    cases kq with
    | zero => exact absurd HA.out (by simp [laws_FnExactUnpackDirectory.j0])
    | succ kj24 =>
     have H := HA.out
     clear HA
     simp only [laws_FnExactUnpackDirectory.j0] at H
     by_cases c93 : x53_24 = true
     ·subst c93
      have H1 : (none) = some r := by rw [if_pos rfl] at H; exact H
      clear H
      have H := H1
      clear H1
      exact absurd H (by simp)
     ·replace c93 := Bool.eq_false_iff.mpr c93
      subst c93
      have H1 : ((laws_toBits.f kj24 a0_0 l0_1).bind fun bt383 => ((laws_eqBits.f kj24 t360 t361 bt383.1 bt383.2).bind fun t387 => (if t387 = true then ((laws_toBits.f kj24 a1_0 l1_1).bind fun bt388 => ((laws_eqBits.f kj24 t365 t366 bt388.1 bt388.2).bind fun t392 => (if t392 = true then ((laws_markBits.f kj24 t360 t361 1).bind fun bt393 => ((laws_markBits.f kj24 t365 t366 bt393.1).bind fun bt395 => (if bt395.1 < 0 then (none) else ((laws_eqRanked.f kj24 t370 t371 t374 t377 t348 t349 t352 t355).bind fun t397 => (if t397 = true then (laws_FnExactUnpackDirectory.j1 kj24 t358 (t380 != t358) a0_0 l0_1 a1_0 l1_1 t348 t349 t352 t355 t370 t371 t374 t377) else (none)))))) else (none)))) else (none)))) = some r := by rw [if_neg (show ¬ (false = true) by decide)] at H; exact H
      clear H
      have H := H1
      clear H1
      replace H := Option.bind_eq_some_iff.mp H
      obtain ⟨⟨t383, t384⟩, A940, H⟩ := H
      replace H : ((laws_eqBits.f kj24 t360 t361 t383 t384).bind fun t387 => (if t387 = true then ((laws_toBits.f kj24 a1_0 l1_1).bind fun bt388 => ((laws_eqBits.f kj24 t365 t366 bt388.1 bt388.2).bind fun t392 => (if t392 = true then ((laws_markBits.f kj24 t360 t361 1).bind fun bt393 => ((laws_markBits.f kj24 t365 t366 bt393.1).bind fun bt395 => (if bt395.1 < 0 then (none) else ((laws_eqRanked.f kj24 t370 t371 t374 t377 t348 t349 t352 t355).bind fun t397 => (if t397 = true then (laws_FnExactUnpackDirectory.j1 kj24 t358 (t380 != t358) a0_0 l0_1 a1_0 l1_1 t348 t349 t352 t355 t370 t371 t374 t377) else (none)))))) else (none)))) else (none))) = some r := H
      have A94 := am_ A940
      clear A940
      replace H := Option.bind_eq_some_iff.mp H
      obtain ⟨t387, A950, H⟩ := H
      replace H : (if t387 = true then ((laws_toBits.f kj24 a1_0 l1_1).bind fun bt388 => ((laws_eqBits.f kj24 t365 t366 bt388.1 bt388.2).bind fun t392 => (if t392 = true then ((laws_markBits.f kj24 t360 t361 1).bind fun bt393 => ((laws_markBits.f kj24 t365 t366 bt393.1).bind fun bt395 => (if bt395.1 < 0 then (none) else ((laws_eqRanked.f kj24 t370 t371 t374 t377 t348 t349 t352 t355).bind fun t397 => (if t397 = true then (laws_FnExactUnpackDirectory.j1 kj24 t358 (t380 != t358) a0_0 l0_1 a1_0 l1_1 t348 t349 t352 t355 t370 t371 t374 t377) else (none)))))) else (none)))) else (none)) = some r := H
      have A95 := am_ A950
      clear A950
      by_cases c96 : t387 = true
      ·subst c96
       have H1 : ((laws_toBits.f kj24 a1_0 l1_1).bind fun bt388 => ((laws_eqBits.f kj24 t365 t366 bt388.1 bt388.2).bind fun t392 => (if t392 = true then ((laws_markBits.f kj24 t360 t361 1).bind fun bt393 => ((laws_markBits.f kj24 t365 t366 bt393.1).bind fun bt395 => (if bt395.1 < 0 then (none) else ((laws_eqRanked.f kj24 t370 t371 t374 t377 t348 t349 t352 t355).bind fun t397 => (if t397 = true then (laws_FnExactUnpackDirectory.j1 kj24 t358 (t380 != t358) a0_0 l0_1 a1_0 l1_1 t348 t349 t352 t355 t370 t371 t374 t377) else (none)))))) else (none)))) = some r := by rw [if_pos rfl] at H; exact H
       clear H
       have H := H1
       clear H1
       replace H := Option.bind_eq_some_iff.mp H
       obtain ⟨⟨t388, t389⟩, A970, H⟩ := H
       replace H : ((laws_eqBits.f kj24 t365 t366 t388 t389).bind fun t392 => (if t392 = true then ((laws_markBits.f kj24 t360 t361 1).bind fun bt393 => ((laws_markBits.f kj24 t365 t366 bt393.1).bind fun bt395 => (if bt395.1 < 0 then (none) else ((laws_eqRanked.f kj24 t370 t371 t374 t377 t348 t349 t352 t355).bind fun t397 => (if t397 = true then (laws_FnExactUnpackDirectory.j1 kj24 t358 (t380 != t358) a0_0 l0_1 a1_0 l1_1 t348 t349 t352 t355 t370 t371 t374 t377) else (none)))))) else (none))) = some r := H
       have A97 := am_ A970
       clear A970
       replace H := Option.bind_eq_some_iff.mp H
       obtain ⟨t392, A980, H⟩ := H
       replace H : (if t392 = true then ((laws_markBits.f kj24 t360 t361 1).bind fun bt393 => ((laws_markBits.f kj24 t365 t366 bt393.1).bind fun bt395 => (if bt395.1 < 0 then (none) else ((laws_eqRanked.f kj24 t370 t371 t374 t377 t348 t349 t352 t355).bind fun t397 => (if t397 = true then (laws_FnExactUnpackDirectory.j1 kj24 t358 (t380 != t358) a0_0 l0_1 a1_0 l1_1 t348 t349 t352 t355 t370 t371 t374 t377) else (none)))))) else (none)) = some r := H
       have A98 := am_ A980
       clear A980
       by_cases c99 : t392 = true
       ·subst c99
        have H1 : ((laws_markBits.f kj24 t360 t361 1).bind fun bt393 => ((laws_markBits.f kj24 t365 t366 bt393.1).bind fun bt395 => (if bt395.1 < 0 then (none) else ((laws_eqRanked.f kj24 t370 t371 t374 t377 t348 t349 t352 t355).bind fun t397 => (if t397 = true then (laws_FnExactUnpackDirectory.j1 kj24 t358 (t380 != t358) a0_0 l0_1 a1_0 l1_1 t348 t349 t352 t355 t370 t371 t374 t377) else (none)))))) = some r := by rw [if_pos rfl] at H; exact H
        clear H
        have H := H1
        clear H1
        replace H := Option.bind_eq_some_iff.mp H
        obtain ⟨⟨t393, t394⟩, A1000, H⟩ := H
        replace H : ((laws_markBits.f kj24 t365 t366 t393).bind fun bt395 => (if bt395.1 < 0 then (none) else ((laws_eqRanked.f kj24 t370 t371 t374 t377 t348 t349 t352 t355).bind fun t397 => (if t397 = true then (laws_FnExactUnpackDirectory.j1 kj24 t358 (t380 != t358) a0_0 l0_1 a1_0 l1_1 t348 t349 t352 t355 t370 t371 t374 t377) else (none))))) = some r := H
        have A100 := am_ A1000
        clear A1000
        replace H := Option.bind_eq_some_iff.mp H
        obtain ⟨⟨t395, t396⟩, A1010, H⟩ := H
        replace H : (if t395 < 0 then (none) else ((laws_eqRanked.f kj24 t370 t371 t374 t377 t348 t349 t352 t355).bind fun t397 => (if t397 = true then (laws_FnExactUnpackDirectory.j1 kj24 t358 (t380 != t358) a0_0 l0_1 a1_0 l1_1 t348 t349 t352 t355 t370 t371 t374 t377) else (none)))) = some r := H
        have A101 := am_ A1010
        clear A1010
        have HC102 := am_ H
        clear H
        try go_wp2
        replace HO_360001 := am_ (Kd.R_drew HO_360001.out); replace HO_360002 := am_ (Kd.R_drew HO_360002.out); replace HO_360003 := am_ (Kd.R_drew HO_360003.out); replace HO_365001 := am_ (Kd.R_drew HO_365001.out); replace HO_370001 := am_ (Kd.R_drew HO_370001.out); replace HO_382001 := am_ (Kd.R_drew HO_382001.out); replace HO_382002 := am_ (Kd.R_drew HO_382002.out); replace HO_382003 := am_ (Kd.R_drew HO_382003.out); replace BK336 := am_ (blk_drew BK336.out); replace BK337 := am_ (blk_drew BK337.out); replace BK359 := am_ (blk_drew BK359.out); replace BK364 := am_ (blk_drew BK364.out); replace BK369 := am_ (blk_drew BK369.out); replace BK381 := am_ (blk_drew BK381.out); replace HB := am_ (below_drew1 HB.out)
        refine start_ (n := 5) (S := fun w' => w'.cell? ⟨gb364, 0, none⟩ = some (.int .i64 t360) ∧ w'.cell? ⟨gb364, 1, none⟩ = some (.slice Ao56 t361.length co56) ∧ w'.cell? ⟨gb336, 0, none⟩ = some (.int .i64 a0_0) ∧ w'.cell? ⟨gb336, 1, none⟩ = some (.slice A0_1 l0_1.length c0_1)) (ds := []) #[false, false, false, false, false] (by kernel_rfl) rfl rfl ⟨(blk_cell BK364.out 0).trans rfl, (blk_cell BK364.out 1).trans rfl, (blk_cell BK336.out 0).trans rfl, (blk_cell BK336.out 1).trans rfl⟩ (fun hHeld => ?_)
        generalize wc.drew = w103 at HO_360001 HO_360002 HO_360003 HO_365001 HO_370001 HO_382001 HO_382002 HO_382003 BK336 BK337 BK359 BK364 BK369 BK381 HB hHeld ⊢
        refine take_ (i := 0) (N := some 54) (v := ?_) (a' := ?_) #[true, false, false, false, false] rfl rfl (by kernel_rfl) (fun _ _ _ h => h) (Or.inl ⟨by rfl, ?_⟩) hHeld ?_ ?_
        rotate_left
        ·rintro w' ⟨s0, s1, s2, s3⟩
         go_simp
         with_reducible rfl
        rotate_left
        ·simp only [Act.put, List.setIfInBounds_toArray, List.set_cons_zero, List.set_cons_succ, i64_w, i32_w]
         rfl
        refine take_ (i := 1) (N := some 55) (v := ?_) (a' := ?_) #[true, true, false, false, false] rfl rfl (by kernel_rfl) (fun _ _ _ h => h) (Or.inl ⟨by rfl, ?_⟩) hHeld ?_ ?_
        rotate_left
        ·rintro w' ⟨s0, s1, s2, s3⟩
         go_simp
         with_reducible rfl
        rotate_left
        ·simp only [Act.put, List.setIfInBounds_toArray, List.set_cons_zero, List.set_cons_succ, i64_w, i32_w]
         rfl
        refine one_ (i := 2) (N := some 56) #[true, true, true, false, false] rfl rfl (by kernel_rfl) (by decide) (fun K hK => ?_)
        refine goes_ Try.func18 (by kernel_rfl) rfl #[.agg #[.int .i64 a0_0, .slice A0_1 l0_1.length c0_1]] (by rfl) rfl rfl lm_ ?_
        with_reducible refine (laws_toBits.calls kj24 a0_0 _ _ l0_1 t383 t384 _ ?side1 ?side2 A94.out).mono ?_
        (case side1 => exact lc_ (Kd.C_below HR0_1.out HB.out))
        (case side2 => exact HC0_1.out)
        rintro e w104 ⟨v385, rfl, ho0, hb⟩
        refine ⟨_, rfl, ?_⟩
        have HO386 := am_ (Kd.R_lower (nw_ (nw_ (nw_ (nw_ (nw_ (nw_ (nw_ (nw_ ho0 HO_360001) HO_360002) HO_360003) HO_365001) HO_370001) HO_382001) HO_382002) HO_382003) (below_size (lw_ HB))); replace HO_360001 := am_ (Kd.R_elder' (lf_ HO_360001) (Kd.R_base ho0) hb); replace HO_360002 := am_ (Kd.R_elder' (lf_ HO_360002) (Kd.R_base ho0) hb); replace HO_360003 := am_ (Kd.R_elder' (lf_ HO_360003) (Kd.R_base ho0) hb); replace HO_365001 := am_ (Kd.R_elder' (lf_ HO_365001) (Kd.R_base ho0) hb); replace HO_370001 := am_ (Kd.R_elder' (lf_ HO_370001) (Kd.R_base ho0) hb); replace HO_382001 := am_ (Kd.R_elder' (lf_ HO_382001) (Kd.R_base ho0) hb); replace HO_382002 := am_ (Kd.R_elder' (lf_ HO_382002) (Kd.R_base ho0) hb); replace HO_382003 := am_ (Kd.R_elder' (lf_ HO_382003) (Kd.R_base ho0) hb); replace BK336 := am_ (blk_below (g := gb336) (lb_ BK336) hb); replace BK337 := am_ (blk_below (g := gb337) (lb_ BK337) hb); replace BK359 := am_ (blk_below (g := gb359) (lb_ BK359) hb); replace BK364 := am_ (blk_below (g := gb364) (lb_ BK364) hb); replace BK369 := am_ (blk_below (g := gb369) (lb_ BK369) hb); replace BK381 := am_ (blk_below (g := gb381) (lb_ BK381) hb); replace HB := am_ (below_step (lw_ HB) hb)
        (try clear hb)
        (try clear hb2)
        (try clear hk)
        (try clear hi)
        (try clear ho0)
        obtain ⟨Ao105, co105, eo105⟩ := Kd.R_slice HO386.out
        (first | subst eo105 | (injection eo105 with f1_ f2_ f3_; have f4_ := f1_.symm; have f5_ := f3_.symm; clear f1_ f2_ f3_; subst f4_; subst f5_))
        refine hK.out _ _ ⟨(blk_cell BK364.out 0).trans rfl, (blk_cell BK364.out 1).trans rfl, (blk_cell BK336.out 0).trans rfl, (blk_cell BK336.out 1).trans rfl⟩ (fun hHeld => ?_)
        clear hK K
        refine norm_ (a' := ?_) ?_ ?_
        rotate_left
        ·show Act.put _ (some 56) _ = _
         simp only [Act.put, List.setIfInBounds_toArray, List.set_cons_zero, List.set_cons_succ, i64_w, i32_w]
         rfl
        refine one_ (i := 3) (N := some 57) #[true, true, true, true, false] rfl rfl (by kernel_rfl) (by decide) (fun K hK => ?_)
        refine goes_ Try.func20 (by kernel_rfl) rfl #[.agg #[.int .i64 t360, .slice Ao56 t361.length co56], .agg #[.int .i64 t383, .slice Ao105 t384.length co105]] (by rfl) rfl rfl lm_ ?_
        with_reducible refine (laws_eqBits.calls kj24 t360 _ _ t361 t383 _ _ t384 true _ ?side1 ?side2 ?side3 ?side4 A95.out).mono ?_
        (case side1 => exact lc_ (Kd.R_reads' HO_365001.out).2.2)
        (case side2 => exact (Kd.R_reads' HO_365001.out).2.1)
        (case side3 => exact lc_ (Kd.R_reads' HO386.out).2.2)
        (case side4 => exact (Kd.R_reads' HO386.out).2.1)
        rintro e w106 ⟨rfl, hb⟩
        refine ⟨_, rfl, ?_⟩
        replace HO_360001 := am_ (Kd.R_below (lf_ HO_360001) hb); replace HO_360002 := am_ (Kd.R_below (lf_ HO_360002) hb); replace HO_360003 := am_ (Kd.R_below (lf_ HO_360003) hb); replace HO_365001 := am_ (Kd.R_below (lf_ HO_365001) hb); replace HO_370001 := am_ (Kd.R_below (lf_ HO_370001) hb); replace HO_382001 := am_ (Kd.R_below (lf_ HO_382001) hb); replace HO_382002 := am_ (Kd.R_below (lf_ HO_382002) hb); replace HO_382003 := am_ (Kd.R_below (lf_ HO_382003) hb); replace HO386 := am_ (Kd.R_below (lf_ HO386) hb); replace BK336 := am_ (blk_below (g := gb336) (lb_ BK336) hb); replace BK337 := am_ (blk_below (g := gb337) (lb_ BK337) hb); replace BK359 := am_ (blk_below (g := gb359) (lb_ BK359) hb); replace BK364 := am_ (blk_below (g := gb364) (lb_ BK364) hb); replace BK369 := am_ (blk_below (g := gb369) (lb_ BK369) hb); replace BK381 := am_ (blk_below (g := gb381) (lb_ BK381) hb); replace HB := am_ (below_step (lw_ HB) hb)
        (try clear hb)
        (try clear hb2)
        (try clear hk)
        (try clear hi)
        refine hK.out _ _ ⟨(blk_cell BK364.out 0).trans rfl, (blk_cell BK364.out 1).trans rfl, (blk_cell BK336.out 0).trans rfl, (blk_cell BK336.out 1).trans rfl⟩ (fun hHeld => ?_)
        clear hK K
        refine norm_ (a' := ?_) ?_ ?_
        rotate_left
        ·show Act.put _ (some 57) _ = _
         simp only [Act.put, List.setIfInBounds_toArray, List.set_cons_zero, List.set_cons_succ, i64_w, i32_w]
         rfl
        refine pure_ (i := 4) (N := some 58) (v := ?_) (a' := ?_) #[true, true, true, true, true] rfl rfl (by kernel_rfl) (fun _ _ _ h => h) (Or.inl ⟨by rfl, ?_⟩) ?_ ?_
        rotate_left
        ·intro w'
         go_simp
         with_reducible rfl
        rotate_left
        ·simp only [Act.put, List.setIfInBounds_toArray, List.set_cons_zero, List.set_cons_succ, i64_w, i32_w]
         rfl
        refine done_ (by kernel_rfl) ?_
        try go_wp2
        replace HO_360001 := am_ (Kd.R_drew HO_360001.out); replace HO_360002 := am_ (Kd.R_drew HO_360002.out); replace HO_360003 := am_ (Kd.R_drew HO_360003.out); replace HO_365001 := am_ (Kd.R_drew HO_365001.out); replace HO_370001 := am_ (Kd.R_drew HO_370001.out); replace HO_382001 := am_ (Kd.R_drew HO_382001.out); replace HO_382002 := am_ (Kd.R_drew HO_382002.out); replace HO_382003 := am_ (Kd.R_drew HO_382003.out); replace HO386 := am_ (Kd.R_drew HO386.out); replace BK336 := am_ (blk_drew BK336.out); replace BK337 := am_ (blk_drew BK337.out); replace BK359 := am_ (blk_drew BK359.out); replace BK364 := am_ (blk_drew BK364.out); replace BK369 := am_ (blk_drew BK369.out); replace BK381 := am_ (blk_drew BK381.out); replace HB := am_ (below_drew1 HB.out)
        refine start_ (n := 5) (S := fun w' => w'.cell? ⟨gb369, 0, none⟩ = some (.int .i64 t365) ∧ w'.cell? ⟨gb369, 1, none⟩ = some (.slice Ao66 t366.length co66) ∧ w'.cell? ⟨gb337, 0, none⟩ = some (.int .i64 a1_0) ∧ w'.cell? ⟨gb337, 1, none⟩ = some (.slice A1_1 l1_1.length c1_1)) (ds := []) #[false, false, false, false, false] (by kernel_rfl) rfl rfl ⟨(blk_cell BK369.out 0).trans rfl, (blk_cell BK369.out 1).trans rfl, (blk_cell BK337.out 0).trans rfl, (blk_cell BK337.out 1).trans rfl⟩ (fun hHeld => ?_)
        generalize w106.drew = w107 at HO_360001 HO_360002 HO_360003 HO_365001 HO_370001 HO_382001 HO_382002 HO_382003 HO386 BK336 BK337 BK359 BK364 BK369 BK381 HB hHeld ⊢
        refine take_ (i := 0) (N := some 59) (v := ?_) (a' := ?_) #[true, false, false, false, false] rfl rfl (by kernel_rfl) (fun _ _ _ h => h) (Or.inl ⟨by rfl, ?_⟩) hHeld ?_ ?_
        rotate_left
        ·rintro w' ⟨s0, s1, s2, s3⟩
         go_simp
         with_reducible rfl
        rotate_left
        ·simp only [Act.put, List.setIfInBounds_toArray, List.set_cons_zero, List.set_cons_succ, i64_w, i32_w]
         rfl
        refine take_ (i := 1) (N := some 60) (v := ?_) (a' := ?_) #[true, true, false, false, false] rfl rfl (by kernel_rfl) (fun _ _ _ h => h) (Or.inl ⟨by rfl, ?_⟩) hHeld ?_ ?_
        rotate_left
        ·rintro w' ⟨s0, s1, s2, s3⟩
         go_simp
         with_reducible rfl
        rotate_left
        ·simp only [Act.put, List.setIfInBounds_toArray, List.set_cons_zero, List.set_cons_succ, i64_w, i32_w]
         rfl
        refine one_ (i := 2) (N := some 61) #[true, true, true, false, false] rfl rfl (by kernel_rfl) (by decide) (fun K hK => ?_)
        refine goes_ Try.func18 (by kernel_rfl) rfl #[.agg #[.int .i64 a1_0, .slice A1_1 l1_1.length c1_1]] (by rfl) rfl rfl lm_ ?_
        with_reducible refine (laws_toBits.calls kj24 a1_0 _ _ l1_1 t388 t389 _ ?side1 ?side2 A97.out).mono ?_
        (case side1 => exact lc_ (Kd.C_below HR1_1.out HB.out))
        (case side2 => exact HC1_1.out)
        rintro e w108 ⟨v390, rfl, ho0, hb⟩
        refine ⟨_, rfl, ?_⟩
        have HO391 := am_ (Kd.R_lower (nw_ (nw_ (nw_ (nw_ (nw_ (nw_ (nw_ (nw_ (nw_ ho0 HO_360001) HO_360002) HO_360003) HO_365001) HO_370001) HO_382001) HO_382002) HO_382003) HO386) (below_size (lw_ HB))); replace HO_360001 := am_ (Kd.R_elder' (lf_ HO_360001) (Kd.R_base ho0) hb); replace HO_360002 := am_ (Kd.R_elder' (lf_ HO_360002) (Kd.R_base ho0) hb); replace HO_360003 := am_ (Kd.R_elder' (lf_ HO_360003) (Kd.R_base ho0) hb); replace HO_365001 := am_ (Kd.R_elder' (lf_ HO_365001) (Kd.R_base ho0) hb); replace HO_370001 := am_ (Kd.R_elder' (lf_ HO_370001) (Kd.R_base ho0) hb); replace HO_382001 := am_ (Kd.R_elder' (lf_ HO_382001) (Kd.R_base ho0) hb); replace HO_382002 := am_ (Kd.R_elder' (lf_ HO_382002) (Kd.R_base ho0) hb); replace HO_382003 := am_ (Kd.R_elder' (lf_ HO_382003) (Kd.R_base ho0) hb); replace HO386 := am_ (Kd.R_elder' (lf_ HO386) (Kd.R_base ho0) hb); replace BK336 := am_ (blk_below (g := gb336) (lb_ BK336) hb); replace BK337 := am_ (blk_below (g := gb337) (lb_ BK337) hb); replace BK359 := am_ (blk_below (g := gb359) (lb_ BK359) hb); replace BK364 := am_ (blk_below (g := gb364) (lb_ BK364) hb); replace BK369 := am_ (blk_below (g := gb369) (lb_ BK369) hb); replace BK381 := am_ (blk_below (g := gb381) (lb_ BK381) hb); replace HB := am_ (below_step (lw_ HB) hb)
        (try clear hb)
        (try clear hb2)
        (try clear hk)
        (try clear hi)
        (try clear ho0)
        obtain ⟨Ao109, co109, eo109⟩ := Kd.R_slice HO391.out
        (first | subst eo109 | (injection eo109 with f1_ f2_ f3_; have f4_ := f1_.symm; have f5_ := f3_.symm; clear f1_ f2_ f3_; subst f4_; subst f5_))
        refine hK.out _ _ ⟨(blk_cell BK369.out 0).trans rfl, (blk_cell BK369.out 1).trans rfl, (blk_cell BK337.out 0).trans rfl, (blk_cell BK337.out 1).trans rfl⟩ (fun hHeld => ?_)
        clear hK K
        refine norm_ (a' := ?_) ?_ ?_
        rotate_left
        ·show Act.put _ (some 61) _ = _
         simp only [Act.put, List.setIfInBounds_toArray, List.set_cons_zero, List.set_cons_succ, i64_w, i32_w]
         rfl
        refine one_ (i := 3) (N := some 62) #[true, true, true, true, false] rfl rfl (by kernel_rfl) (by decide) (fun K hK => ?_)
        refine goes_ Try.func20 (by kernel_rfl) rfl #[.agg #[.int .i64 t365, .slice Ao66 t366.length co66], .agg #[.int .i64 t388, .slice Ao109 t389.length co109]] (by rfl) rfl rfl lm_ ?_
        with_reducible refine (laws_eqBits.calls kj24 t365 _ _ t366 t388 _ _ t389 true _ ?side1 ?side2 ?side3 ?side4 A98.out).mono ?_
        (case side1 => exact lc_ (Kd.R_reads' HO_370001.out).2.2)
        (case side2 => exact (Kd.R_reads' HO_370001.out).2.1)
        (case side3 => exact lc_ (Kd.R_reads' HO391.out).2.2)
        (case side4 => exact (Kd.R_reads' HO391.out).2.1)
        rintro e w110 ⟨rfl, hb⟩
        refine ⟨_, rfl, ?_⟩
        replace HO_360001 := am_ (Kd.R_below (lf_ HO_360001) hb); replace HO_360002 := am_ (Kd.R_below (lf_ HO_360002) hb); replace HO_360003 := am_ (Kd.R_below (lf_ HO_360003) hb); replace HO_365001 := am_ (Kd.R_below (lf_ HO_365001) hb); replace HO_370001 := am_ (Kd.R_below (lf_ HO_370001) hb); replace HO_382001 := am_ (Kd.R_below (lf_ HO_382001) hb); replace HO_382002 := am_ (Kd.R_below (lf_ HO_382002) hb); replace HO_382003 := am_ (Kd.R_below (lf_ HO_382003) hb); replace HO386 := am_ (Kd.R_below (lf_ HO386) hb); replace HO391 := am_ (Kd.R_below (lf_ HO391) hb); replace BK336 := am_ (blk_below (g := gb336) (lb_ BK336) hb); replace BK337 := am_ (blk_below (g := gb337) (lb_ BK337) hb); replace BK359 := am_ (blk_below (g := gb359) (lb_ BK359) hb); replace BK364 := am_ (blk_below (g := gb364) (lb_ BK364) hb); replace BK369 := am_ (blk_below (g := gb369) (lb_ BK369) hb); replace BK381 := am_ (blk_below (g := gb381) (lb_ BK381) hb); replace HB := am_ (below_step (lw_ HB) hb)
        (try clear hb)
        (try clear hb2)
        (try clear hk)
        (try clear hi)
        refine hK.out _ _ ⟨(blk_cell BK369.out 0).trans rfl, (blk_cell BK369.out 1).trans rfl, (blk_cell BK337.out 0).trans rfl, (blk_cell BK337.out 1).trans rfl⟩ (fun hHeld => ?_)
        clear hK K
        refine norm_ (a' := ?_) ?_ ?_
        rotate_left
        ·show Act.put _ (some 62) _ = _
         simp only [Act.put, List.setIfInBounds_toArray, List.set_cons_zero, List.set_cons_succ, i64_w, i32_w]
         rfl
        refine pure_ (i := 4) (N := some 63) (v := ?_) (a' := ?_) #[true, true, true, true, true] rfl rfl (by kernel_rfl) (fun _ _ _ h => h) (Or.inl ⟨by rfl, ?_⟩) ?_ ?_
        rotate_left
        ·intro w'
         go_simp
         with_reducible rfl
        rotate_left
        ·simp only [Act.put, List.setIfInBounds_toArray, List.set_cons_zero, List.set_cons_succ, i64_w, i32_w]
         rfl
        refine done_ (by kernel_rfl) ?_
        have hnb111 := NB364_336.out
        have hnc111 := NB336_364.out
        have hnb112 := NB364_337.out
        have hnc112 := NB337_364.out
        have hnb113 := NB364_359.out
        have hnc113 := NB359_364.out
        have hnb114 := NB364_369.out
        have hnc114 := NB369_364.out
        have hnb115 := NB364_381.out
        have hnc115 := NB381_364.out
        obtain ⟨hcz116_0, hcz116_1, hfz116_0, hfz116_1⟩ := bx2_ BK364.out
        go_upto_region 21 with (first | ((with_reducible refine gate_callee (f := 21) rfl ?_); refine goesL_ (some 66) rfl rfl Try.func21 (by kernel_rfl) rfl #[.agg #[.int .i64 t360, .slice Ao56 t361.length co56], .int .i64 1] rfl lm_ ?_; (with_reducible refine (laws_markBits.calls kj24 t360 (fun k_ => some k_ = (.slice Ao56 t361.length co56 : Value).ownBlock) (.slice Ao56 t361.length co56) t361 1 t393 t394 w _ ?side1 ?side2 A100.out).mono ?_); (case side1 => exact lw_ HB); (case side2 => exact Kd.R_tight rfl HO_365001.out); rintro e w117 ⟨rfl, hy0, hb, hkp⟩; refine ⟨_, rfl, ?_⟩; replace HO_360001 := am_ (lj_ (ok' := fun k_ => ns_ k_ Ao44 t352 co44 ∧ ns_ k_ Ao46 t355 co46 ∧ ns_ k_ Ao56 t361 co56 ∧ ns_ k_ Ao66 t366 co66 ∧ ns_ k_ Ao76 t371 co76 ∧ ns_ k_ Ao77 t374 co77 ∧ ns_ k_ Ao78 t377 co78 ∧ ns_ k_ Ao105 t384 co105 ∧ ns_ k_ Ao109 t389 co109) (Kd.R_keptB (HO_360001.out) hkp (fun k_ hk_ hs_ => (hk_.1.1.2.2.1) hs_))); replace HO_360002 := am_ (lj_ (ok' := fun k_ => ns_ k_ Ao42 t349 co42 ∧ ns_ k_ Ao46 t355 co46 ∧ ns_ k_ Ao56 t361 co56 ∧ ns_ k_ Ao66 t366 co66 ∧ ns_ k_ Ao76 t371 co76 ∧ ns_ k_ Ao77 t374 co77 ∧ ns_ k_ Ao78 t377 co78 ∧ ns_ k_ Ao105 t384 co105 ∧ ns_ k_ Ao109 t389 co109) (Kd.R_keptB (HO_360002.out) hkp (fun k_ hk_ hs_ => (hk_.1.1.2.2.1) hs_))); replace HO_360003 := am_ (lj_ (ok' := fun k_ => ns_ k_ Ao42 t349 co42 ∧ ns_ k_ Ao44 t352 co44 ∧ ns_ k_ Ao56 t361 co56 ∧ ns_ k_ Ao66 t366 co66 ∧ ns_ k_ Ao76 t371 co76 ∧ ns_ k_ Ao77 t374 co77 ∧ ns_ k_ Ao78 t377 co78 ∧ ns_ k_ Ao105 t384 co105 ∧ ns_ k_ Ao109 t389 co109) (Kd.R_keptB (HO_360003.out) hkp (fun k_ hk_ hs_ => (hk_.1.1.2.2.1) hs_))); replace HO_370001 := am_ (lj_ (ok' := fun k_ => ns_ k_ Ao42 t349 co42 ∧ ns_ k_ Ao44 t352 co44 ∧ ns_ k_ Ao46 t355 co46 ∧ ns_ k_ Ao56 t361 co56 ∧ ns_ k_ Ao76 t371 co76 ∧ ns_ k_ Ao77 t374 co77 ∧ ns_ k_ Ao78 t377 co78 ∧ ns_ k_ Ao105 t384 co105 ∧ ns_ k_ Ao109 t389 co109) (Kd.R_keptB (HO_370001.out) hkp (fun k_ hk_ hs_ => (hk_.1.1.2.2.2.1) hs_))); replace HO_382001 := am_ (lj_ (ok' := fun k_ => ns_ k_ Ao42 t349 co42 ∧ ns_ k_ Ao44 t352 co44 ∧ ns_ k_ Ao46 t355 co46 ∧ ns_ k_ Ao56 t361 co56 ∧ ns_ k_ Ao66 t366 co66 ∧ ns_ k_ Ao77 t374 co77 ∧ ns_ k_ Ao78 t377 co78 ∧ ns_ k_ Ao105 t384 co105 ∧ ns_ k_ Ao109 t389 co109) (Kd.R_keptB (HO_382001.out) hkp (fun k_ hk_ hs_ => (hk_.1.1.2.2.2.1) hs_))); replace HO_382002 := am_ (lj_ (ok' := fun k_ => ns_ k_ Ao42 t349 co42 ∧ ns_ k_ Ao44 t352 co44 ∧ ns_ k_ Ao46 t355 co46 ∧ ns_ k_ Ao56 t361 co56 ∧ ns_ k_ Ao66 t366 co66 ∧ ns_ k_ Ao76 t371 co76 ∧ ns_ k_ Ao78 t377 co78 ∧ ns_ k_ Ao105 t384 co105 ∧ ns_ k_ Ao109 t389 co109) (Kd.R_keptB (HO_382002.out) hkp (fun k_ hk_ hs_ => (hk_.1.1.2.2.2.1) hs_))); replace HO_382003 := am_ (lj_ (ok' := fun k_ => ns_ k_ Ao42 t349 co42 ∧ ns_ k_ Ao44 t352 co44 ∧ ns_ k_ Ao46 t355 co46 ∧ ns_ k_ Ao56 t361 co56 ∧ ns_ k_ Ao66 t366 co66 ∧ ns_ k_ Ao76 t371 co76 ∧ ns_ k_ Ao77 t374 co77 ∧ ns_ k_ Ao105 t384 co105 ∧ ns_ k_ Ao109 t389 co109) (Kd.R_keptB (HO_382003.out) hkp (fun k_ hk_ hs_ => (hk_.1.1.2.2.2.1) hs_))); replace BK336 := am_ (blk_kept (lb_ BK336) hkp (fun hs_ => (fun e_ => (Kd.R_ne HO_365001.out BK336.out (by decide)) e_) hs_)); replace BK337 := am_ (blk_kept (lb_ BK337) hkp (fun hs_ => (fun e_ => (Kd.R_ne HO_365001.out BK337.out (by decide)) e_) hs_)); replace BK359 := am_ (blk_kept (lb_ BK359) hkp (fun hs_ => (fun e_ => (Kd.R_ne HO_365001.out BK359.out (by decide)) e_) hs_)); replace BK364 := am_ (blk_kept (lb_ BK364) hkp (fun hs_ => (fun e_ => (Kd.R_ne HO_365001.out BK364.out (by decide)) e_) hs_)); replace BK369 := am_ (blk_kept (lb_ BK369) hkp (fun hs_ => (fun e_ => (Kd.R_ne HO_365001.out BK369.out (by decide)) e_) hs_)); replace BK381 := am_ (blk_kept (lb_ BK381) hkp (fun hs_ => (fun e_ => (Kd.R_ne HO_365001.out BK381.out (by decide)) e_) hs_)); replace HO_365001 := am_ (Kd.R_reok rfl hy0 (fun k_ e_ => HO_365001.out.1 k_ e_)); replace HO386 := am_ (lj_ (ok' := fun k_ => ns_ k_ Ao42 t349 co42 ∧ ns_ k_ Ao44 t352 co44 ∧ ns_ k_ Ao46 t355 co46 ∧ ns_ k_ Ao56 t361 co56 ∧ ns_ k_ Ao66 t366 co66 ∧ ns_ k_ Ao76 t371 co76 ∧ ns_ k_ Ao77 t374 co77 ∧ ns_ k_ Ao78 t377 co78 ∧ ns_ k_ Ao109 t389 co109) (Kd.R_keptB (HO386.out) hkp (fun k_ hk_ hs_ => (hk_.1.1.1.1.1.2) hs_))); replace HO391 := am_ (lj_ (ok' := fun k_ => ns_ k_ Ao42 t349 co42 ∧ ns_ k_ Ao44 t352 co44 ∧ ns_ k_ Ao46 t355 co46 ∧ ns_ k_ Ao56 t361 co56 ∧ ns_ k_ Ao66 t366 co66 ∧ ns_ k_ Ao76 t371 co76 ∧ ns_ k_ Ao77 t374 co77 ∧ ns_ k_ Ao78 t377 co78 ∧ ns_ k_ Ao105 t384 co105) (Kd.R_keptB (HO391.out) hkp (fun k_ hk_ hs_ => (hk_.1.1.1.1.1.2) hs_))); replace HB := am_ (hb); (try clear hb); (try clear hkp); (try clear hy0); have hnb118 := NB369_336.out; have hnc118 := NB336_369.out; have hnb119 := NB369_337.out; have hnc119 := NB337_369.out; have hnb120 := NB369_359.out; have hnc120 := NB359_369.out; have hnb121 := NB369_381.out; have hnc121 := NB381_369.out; obtain ⟨hcz122_0, hcz122_1, hfz122_0, hfz122_1⟩ := bx2_ BK369.out) | ((with_reducible refine gate_callee (f := 21) rfl ?_); refine goesL_ (some 69) rfl rfl Try.func21 (by kernel_rfl) rfl #[.agg #[.int .i64 t365, .slice Ao66 t366.length co66], .int .i64 t393] rfl lm_ ?_; (with_reducible refine (laws_markBits.calls kj24 t365 (fun k_ => some k_ = (.slice Ao66 t366.length co66 : Value).ownBlock) (.slice Ao66 t366.length co66) t366 t393 t395 t396 w _ ?side1 ?side2 A101.out).mono ?_); (case side1 => exact lw_ HB); (case side2 => exact Kd.R_tight rfl HO_370001.out); rintro e w123 ⟨rfl, hy0, hb, hkp⟩; refine ⟨_, rfl, ?_⟩; replace HO_360001 := am_ (lj_ (ok' := fun k_ => ns_ k_ Ao44 t352 co44 ∧ ns_ k_ Ao46 t355 co46 ∧ ns_ k_ Ao56 t361 co56 ∧ ns_ k_ Ao66 t366 co66 ∧ ns_ k_ Ao76 t371 co76 ∧ ns_ k_ Ao77 t374 co77 ∧ ns_ k_ Ao78 t377 co78 ∧ ns_ k_ Ao105 t384 co105 ∧ ns_ k_ Ao109 t389 co109) (Kd.R_keptB (HO_360001.out) hkp (fun k_ hk_ hs_ => (hk_.2.2.2.1) hs_))); replace HO_360002 := am_ (lj_ (ok' := fun k_ => ns_ k_ Ao42 t349 co42 ∧ ns_ k_ Ao46 t355 co46 ∧ ns_ k_ Ao56 t361 co56 ∧ ns_ k_ Ao66 t366 co66 ∧ ns_ k_ Ao76 t371 co76 ∧ ns_ k_ Ao77 t374 co77 ∧ ns_ k_ Ao78 t377 co78 ∧ ns_ k_ Ao105 t384 co105 ∧ ns_ k_ Ao109 t389 co109) (Kd.R_keptB (HO_360002.out) hkp (fun k_ hk_ hs_ => (hk_.2.2.2.1) hs_))); replace HO_360003 := am_ (lj_ (ok' := fun k_ => ns_ k_ Ao42 t349 co42 ∧ ns_ k_ Ao44 t352 co44 ∧ ns_ k_ Ao56 t361 co56 ∧ ns_ k_ Ao66 t366 co66 ∧ ns_ k_ Ao76 t371 co76 ∧ ns_ k_ Ao77 t374 co77 ∧ ns_ k_ Ao78 t377 co78 ∧ ns_ k_ Ao105 t384 co105 ∧ ns_ k_ Ao109 t389 co109) (Kd.R_keptB (HO_360003.out) hkp (fun k_ hk_ hs_ => (hk_.2.2.2.1) hs_))); replace HO_365001 := am_ (lj_ (ok' := fun k_ => ns_ k_ Ao42 t349 co42 ∧ ns_ k_ Ao44 t352 co44 ∧ ns_ k_ Ao46 t355 co46 ∧ ns_ k_ Ao66 t366 co66 ∧ ns_ k_ Ao76 t371 co76 ∧ ns_ k_ Ao77 t374 co77 ∧ ns_ k_ Ao78 t377 co78 ∧ ns_ k_ Ao105 t384 co105 ∧ ns_ k_ Ao109 t389 co109) (Kd.R_keptB (HO_365001.out) hkp (fun k_ hk_ hs_ => (hk_.1.1.2.2.2.1) hs_))); replace HO_382001 := am_ (lj_ (ok' := fun k_ => ns_ k_ Ao42 t349 co42 ∧ ns_ k_ Ao44 t352 co44 ∧ ns_ k_ Ao46 t355 co46 ∧ ns_ k_ Ao56 t361 co56 ∧ ns_ k_ Ao66 t366 co66 ∧ ns_ k_ Ao77 t374 co77 ∧ ns_ k_ Ao78 t377 co78 ∧ ns_ k_ Ao105 t384 co105 ∧ ns_ k_ Ao109 t389 co109) (Kd.R_keptB (HO_382001.out) hkp (fun k_ hk_ hs_ => (hk_.2.2.2.2.1) hs_))); replace HO_382002 := am_ (lj_ (ok' := fun k_ => ns_ k_ Ao42 t349 co42 ∧ ns_ k_ Ao44 t352 co44 ∧ ns_ k_ Ao46 t355 co46 ∧ ns_ k_ Ao56 t361 co56 ∧ ns_ k_ Ao66 t366 co66 ∧ ns_ k_ Ao76 t371 co76 ∧ ns_ k_ Ao78 t377 co78 ∧ ns_ k_ Ao105 t384 co105 ∧ ns_ k_ Ao109 t389 co109) (Kd.R_keptB (HO_382002.out) hkp (fun k_ hk_ hs_ => (hk_.2.2.2.2.1) hs_))); replace HO_382003 := am_ (lj_ (ok' := fun k_ => ns_ k_ Ao42 t349 co42 ∧ ns_ k_ Ao44 t352 co44 ∧ ns_ k_ Ao46 t355 co46 ∧ ns_ k_ Ao56 t361 co56 ∧ ns_ k_ Ao66 t366 co66 ∧ ns_ k_ Ao76 t371 co76 ∧ ns_ k_ Ao77 t374 co77 ∧ ns_ k_ Ao105 t384 co105 ∧ ns_ k_ Ao109 t389 co109) (Kd.R_keptB (HO_382003.out) hkp (fun k_ hk_ hs_ => (hk_.2.2.2.2.1) hs_))); replace BK336 := am_ (blk_kept (lb_ BK336) hkp (fun hs_ => (fun e_ => (Kd.R_ne HO_370001.out BK336.out (by decide)) e_) hs_)); replace BK337 := am_ (blk_kept (lb_ BK337) hkp (fun hs_ => (fun e_ => (Kd.R_ne HO_370001.out BK337.out (by decide)) e_) hs_)); replace BK359 := am_ (blk_kept (lb_ BK359) hkp (fun hs_ => (fun e_ => (Kd.R_ne HO_370001.out BK359.out (by decide)) e_) hs_)); replace BK364 := am_ (blk_kept (lb_ BK364) hkp (fun hs_ => (fun e_ => (Kd.R_ne HO_370001.out BK364.out (by decide)) e_) hs_)); replace BK369 := am_ (blk_kept (lb_ BK369) hkp (fun hs_ => (fun e_ => (Kd.R_ne HO_370001.out BK369.out (by decide)) e_) hs_)); replace BK381 := am_ (blk_kept (lb_ BK381) hkp (fun hs_ => (fun e_ => (Kd.R_ne HO_370001.out BK381.out (by decide)) e_) hs_)); replace HO_370001 := am_ (Kd.R_reok rfl hy0 (fun k_ e_ => HO_370001.out.1 k_ e_)); replace HO386 := am_ (lj_ (ok' := fun k_ => ns_ k_ Ao42 t349 co42 ∧ ns_ k_ Ao44 t352 co44 ∧ ns_ k_ Ao46 t355 co46 ∧ ns_ k_ Ao56 t361 co56 ∧ ns_ k_ Ao66 t366 co66 ∧ ns_ k_ Ao76 t371 co76 ∧ ns_ k_ Ao77 t374 co77 ∧ ns_ k_ Ao78 t377 co78 ∧ ns_ k_ Ao109 t389 co109) (Kd.R_keptB (HO386.out) hkp (fun k_ hk_ hs_ => (hk_.2.2.2.2.1) hs_))); replace HO391 := am_ (lj_ (ok' := fun k_ => ns_ k_ Ao42 t349 co42 ∧ ns_ k_ Ao44 t352 co44 ∧ ns_ k_ Ao46 t355 co46 ∧ ns_ k_ Ao56 t361 co56 ∧ ns_ k_ Ao66 t366 co66 ∧ ns_ k_ Ao76 t371 co76 ∧ ns_ k_ Ao77 t374 co77 ∧ ns_ k_ Ao78 t377 co78 ∧ ns_ k_ Ao105 t384 co105) (Kd.R_keptB (HO391.out) hkp (fun k_ hk_ hs_ => (hk_.2.2.2.2.1) hs_))); replace HB := am_ (hb); (try clear hb); (try clear hkp); (try clear hy0)))
        (try simp only [Act.put, List.setIfInBounds_toArray, List.set_cons_zero, List.set_cons_succ])
        go_cut [82] (fun v82 wc => ∃ (kq : Nat) (x82_101 : Bool), v82 = .bool x82_101 ∧ Aside0 (laws_FnExactUnpackDirectory.j1 kq t358 x82_101 a0_0 l0_1 a1_0 l1_1 t348 t349 t352 t355 t370 t371 t374 t377 = some r) ∧ Aside0 (kq ≤ kj24) ∧ Aside0 (Kd.R (Kd.int .i64) 3 wc w.heap.size (fun k_ => ns_ k_ Ao44 t352 co44 ∧ ns_ k_ Ao46 t355 co46 ∧ ns_ k_ Ao56 t361 co56 ∧ ns_ k_ Ao66 t366 co66 ∧ ns_ k_ Ao76 t371 co76 ∧ ns_ k_ Ao77 t374 co77 ∧ ns_ k_ Ao78 t377 co78) (.slice Ao42 t349.length co42) t349) ∧ Aside0 (Kd.R (Kd.int .i64) 3 wc w.heap.size (fun k_ => ns_ k_ Ao42 t349 co42 ∧ ns_ k_ Ao46 t355 co46 ∧ ns_ k_ Ao56 t361 co56 ∧ ns_ k_ Ao66 t366 co66 ∧ ns_ k_ Ao76 t371 co76 ∧ ns_ k_ Ao77 t374 co77 ∧ ns_ k_ Ao78 t377 co78) (.slice Ao44 t352.length co44) t352) ∧ Aside0 (Kd.R (Kd.int .i64) 3 wc w.heap.size (fun k_ => ns_ k_ Ao42 t349 co42 ∧ ns_ k_ Ao44 t352 co44 ∧ ns_ k_ Ao56 t361 co56 ∧ ns_ k_ Ao66 t366 co66 ∧ ns_ k_ Ao76 t371 co76 ∧ ns_ k_ Ao77 t374 co77 ∧ ns_ k_ Ao78 t377 co78) (.slice Ao46 t355.length co46) t355) ∧ Aside0 (Kd.R (Kd.int .i64) 3 wc w.heap.size (fun k_ => ns_ k_ Ao42 t349 co42 ∧ ns_ k_ Ao44 t352 co44 ∧ ns_ k_ Ao46 t355 co46 ∧ ns_ k_ Ao66 t366 co66 ∧ ns_ k_ Ao76 t371 co76 ∧ ns_ k_ Ao77 t374 co77 ∧ ns_ k_ Ao78 t377 co78) (.slice Ao56 t361.length co56) t394) ∧ Aside0 (Kd.R (Kd.int .i64) 3 wc w.heap.size (fun k_ => ns_ k_ Ao42 t349 co42 ∧ ns_ k_ Ao44 t352 co44 ∧ ns_ k_ Ao46 t355 co46 ∧ ns_ k_ Ao56 t361 co56 ∧ ns_ k_ Ao76 t371 co76 ∧ ns_ k_ Ao77 t374 co77 ∧ ns_ k_ Ao78 t377 co78) (.slice Ao66 t366.length co66) t396) ∧ Aside0 (Kd.R (Kd.int .i64) 3 wc w.heap.size (fun k_ => ns_ k_ Ao42 t349 co42 ∧ ns_ k_ Ao44 t352 co44 ∧ ns_ k_ Ao46 t355 co46 ∧ ns_ k_ Ao56 t361 co56 ∧ ns_ k_ Ao66 t366 co66 ∧ ns_ k_ Ao77 t374 co77 ∧ ns_ k_ Ao78 t377 co78) (.slice Ao76 t371.length co76) t371) ∧ Aside0 (Kd.R (Kd.int .i64) 3 wc w.heap.size (fun k_ => ns_ k_ Ao42 t349 co42 ∧ ns_ k_ Ao44 t352 co44 ∧ ns_ k_ Ao46 t355 co46 ∧ ns_ k_ Ao56 t361 co56 ∧ ns_ k_ Ao66 t366 co66 ∧ ns_ k_ Ao76 t371 co76 ∧ ns_ k_ Ao78 t377 co78) (.slice Ao77 t374.length co77) t374) ∧ Aside0 (Kd.R (Kd.int .i64) 3 wc w.heap.size (fun k_ => ns_ k_ Ao42 t349 co42 ∧ ns_ k_ Ao44 t352 co44 ∧ ns_ k_ Ao46 t355 co46 ∧ ns_ k_ Ao56 t361 co56 ∧ ns_ k_ Ao66 t366 co66 ∧ ns_ k_ Ao76 t371 co76 ∧ ns_ k_ Ao77 t374 co77) (.slice Ao78 t377.length co78) t377) ∧ Aside0 (wc.heap[gb336]? = some (.cells #[.int .i64 a0_0, (.slice A0_1 l0_1.length c0_1)] 24 (0, 0))) ∧ Aside0 (wc.heap[gb337]? = some (.cells #[.int .i64 a1_0, (.slice A1_1 l1_1.length c1_1)] 24 (0, 0))) ∧ Aside0 (wc.heap[gb359]? = some (.cells #[.int .i64 t348, (.slice Ao42 t349.length co42), (.slice Ao44 t352.length co44), (.slice Ao46 t355.length co46)] 48 (0, 0))) ∧ Aside0 (wc.heap[gb364]? = some (.cells #[.int .i64 t360, (.slice Ao56 t361.length co56)] 26 (0, 0))) ∧ Aside0 (wc.heap[gb369]? = some (.cells #[.int .i64 t365, (.slice Ao66 t366.length co66)] 26 (0, 0))) ∧ Aside0 (wc.heap[gb381]? = some (.cells #[.int .i64 t370, (.slice Ao76 t371.length co76), (.slice Ao77 t374.length co77), (.slice Ao78 t377.length co78)] 48 (0, 0))) ∧ Aside0 (Below w.heap.size w wc))
        case first =>
         have H := HC102.out
         clear HC102
         by_cases c124 : t395 < 0
         ·rw [if_pos c124] at H
          exact absurd H (by simp)
         ·rw [if_neg c124] at H
          have c124b0 : decide (t395 < 0) = false := decide_eq_false c124
          clear c124
          (first | rw [c124b0] | (simp only [i64_w, i32_w]; rw [c124b0]) | skip)
          replace H := Option.bind_eq_some_iff.mp H
          obtain ⟨t397, A1250, H⟩ := H
          replace H : (if t397 = true then (laws_FnExactUnpackDirectory.j1 kj24 t358 (t380 != t358) a0_0 l0_1 a1_0 l1_1 t348 t349 t352 t355 t370 t371 t374 t377) else (none)) = some r := H
          have A125 := am_ A1250
          clear A1250
          by_cases c126 : t397 = true
          ·subst c126
           have H1 : (laws_FnExactUnpackDirectory.j1 kj24 t358 (t380 != t358) a0_0 l0_1 a1_0 l1_1 t348 t349 t352 t355 t370 t371 t374 t377) = some r := by rw [if_pos rfl] at H; exact H
           clear H
           have H := H1
           clear H1
           have H' := am_ H
           clear H
           have hnb127 := NB381_336.out
           have hnc127 := NB336_381.out
           have hnb128 := NB381_337.out
           have hnc128 := NB337_381.out
           have hnb129 := NB381_359.out
           have hnc129 := NB359_381.out
           have hnb130 := NB381_364.out
           have hnc130 := NB364_381.out
           have hnb131 := NB381_369.out
           have hnc131 := NB369_381.out
           obtain ⟨hcz132_0, hcz132_1, hcz132_2, hcz132_3, hfz132_0, hfz132_1, hfz132_2, hfz132_3⟩ := bx4_ BK381.out
           have hnb133 := NB359_336.out
           have hnc133 := NB336_359.out
           have hnb134 := NB359_337.out
           have hnc134 := NB337_359.out
           have hnb135 := NB359_364.out
           have hnc135 := NB364_359.out
           have hnb136 := NB359_369.out
           have hnc136 := NB369_359.out
           have hcz137_0 : w123.cell? ⟨gb359, 0, none⟩ = some (.int .i64 t348) := (blk_cell BK359.out 0).trans rfl
           have hcz137_1 : w123.cell? ⟨gb359, 1, none⟩ = some (.slice Ao42 t349.length co42) := (blk_cell BK359.out 1).trans rfl
           have hcz137_2 : w123.cell? ⟨gb359, 2, none⟩ = some (.slice Ao44 t352.length co44) := (blk_cell BK359.out 2).trans rfl
           have hcz137_3 : w123.cell? ⟨gb359, 3, none⟩ = some (.slice Ao46 t355.length co46) := (blk_cell BK359.out 3).trans rfl
           have hfz137_0 := blk_frozen BK359.out 0
           have hfz137_1 := blk_frozen BK359.out 1
           have hfz137_2 := blk_frozen BK359.out 2
           have hfz137_3 := blk_frozen BK359.out 3
           go_wp2_with (first | (go_at_call 38; (with_reducible refine (laws_eqRanked.calls kj24 t370 _ _ t371 _ _ t374 _ _ t377 t348 _ _ t349 _ _ t352 _ _ t355 true _ ?side1 ?side2 ?side3 ?side4 ?side5 ?side6 ?side7 ?side8 ?side9 ?side10 ?side11 ?side12 A125.out).mono ?_); (case side1 => exact lc_ (Kd.R_reads' HO_382001.out).2.2); (case side2 => exact (Kd.R_reads' HO_382001.out).2.1); (case side3 => exact lc_ (Kd.R_reads' HO_382002.out).2.2); (case side4 => exact (Kd.R_reads' HO_382002.out).2.1); (case side5 => exact lc_ (Kd.R_reads' HO_382003.out).2.2); (case side6 => exact (Kd.R_reads' HO_382003.out).2.1); (case side7 => exact lc_ (Kd.R_reads' HO_360001.out).2.2); (case side8 => exact (Kd.R_reads' HO_360001.out).2.1); (case side9 => exact lc_ (Kd.R_reads' HO_360002.out).2.2); (case side10 => exact (Kd.R_reads' HO_360002.out).2.1); (case side11 => exact lc_ (Kd.R_reads' HO_360003.out).2.2); (case side12 => exact (Kd.R_reads' HO_360003.out).2.1); rintro e w138 ⟨rfl, hb⟩; replace HO_360001 := am_ (Kd.R_below (lf_ HO_360001) hb); replace HO_360002 := am_ (Kd.R_below (lf_ HO_360002) hb); replace HO_360003 := am_ (Kd.R_below (lf_ HO_360003) hb); replace HO_365001 := am_ (Kd.R_below (lf_ HO_365001) hb); replace HO_370001 := am_ (Kd.R_below (lf_ HO_370001) hb); replace HO_382001 := am_ (Kd.R_below (lf_ HO_382001) hb); replace HO_382002 := am_ (Kd.R_below (lf_ HO_382002) hb); replace HO_382003 := am_ (Kd.R_below (lf_ HO_382003) hb); replace HO386 := am_ (Kd.R_below (lf_ HO386) hb); replace HO391 := am_ (Kd.R_below (lf_ HO391) hb); replace BK336 := am_ (blk_below (g := gb336) (lb_ BK336) hb); replace BK337 := am_ (blk_below (g := gb337) (lb_ BK337) hb); replace BK359 := am_ (blk_below (g := gb359) (lb_ BK359) hb); replace BK364 := am_ (blk_below (g := gb364) (lb_ BK364) hb); replace BK369 := am_ (blk_below (g := gb369) (lb_ BK369) hb); replace BK381 := am_ (blk_below (g := gb381) (lb_ BK381) hb); replace HB := am_ (below_step (lw_ HB) hb); (try clear hb); (try clear hb2); (try clear hk); (try clear hi)))
           go_meet
           case rel => exact ⟨_, ((t380 != t358)), sr_, H', ⟨by have := HJ24.out; first | omega | exact Nat.le_refl _⟩, ⟨lo_ HO_360001⟩, ⟨lo_ HO_360002⟩, ⟨lo_ HO_360003⟩, ⟨lo_ HO_365001⟩, ⟨lo_ HO_370001⟩, ⟨lo_ HO_382001⟩, ⟨lo_ HO_382002⟩, ⟨lo_ HO_382003⟩, ⟨lb_ BK336⟩, ⟨lb_ BK337⟩, ⟨lb_ BK359⟩, ⟨lb_ BK364⟩, ⟨lb_ BK369⟩, ⟨lb_ BK381⟩, ⟨lw_ HB⟩⟩
          ·replace c126 := Bool.eq_false_iff.mpr c126
           subst c126
           have H1 : (none) = some r := by rw [if_neg (show ¬ (false = true) by decide)] at H; exact H
           clear H
           have H := H1
           clear H1
           exact absurd H (by simp)
        case rest =>
         clear HC102
         try clear c1
         try clear c2
         try clear p2
         try clear c9
         try clear c11
         try clear c12
         try clear c13
         try clear c18
         try clear c20
         try clear c21
         try clear c93
         try clear c96
         try clear c99
         try clear c111
         try clear c112
         try clear c113
         try clear c114
         try clear c115
         try clear c118
         try clear c119
         try clear c120
         try clear c121
         try clear c124
         try clear c124b0
         try clear c126
         try clear c127
         try clear c128
         try clear c129
         try clear c130
         try clear c131
         try clear c133
         try clear c134
         try clear c135
         try clear c136
         try clear hcz116_0
         try clear hcz116_1
         try clear hcz122_0
         try clear hcz122_1
         try clear hcz132_0
         try clear hcz132_1
         try clear hcz132_2
         try clear hcz132_3
         try clear hcz137_0
         try clear hcz137_1
         try clear hcz137_2
         try clear hcz137_3
         try clear hfz116_0
         try clear hfz116_1
         try clear hfz122_0
         try clear hfz122_1
         try clear hfz132_0
         try clear hfz132_1
         try clear hfz132_2
         try clear hfz132_3
         try clear hfz137_0
         try clear hfz137_1
         try clear hfz137_2
         try clear hfz137_3
         try clear hfz58_1
         try clear hfz65_0
         try clear hfz65_1
         try clear hfz67_0
         try clear hfz67_1
         try clear hfz75_0
         try clear hfz75_1
         try clear hfz75_2
         try clear hfz75_3
         try clear hfz86_0
         try clear hfz86_1
         try clear hfz86_2
         try clear hfz86_3
         try clear hfz91_0
         try clear hfz91_1
         try clear hfz91_2
         try clear hfz91_3
         obtain ⟨kq, x82_101, rfl, HA, HJ101, HO_360001, HO_360002, HO_360003, HO_365001, HO_370001, HO_382001, HO_382002, HO_382003, BK336, BK337, BK359, BK364, BK369, BK381, HB⟩ := hcut
         have hl365001_101 := (Kd.R_reads' HO_365001.out).1
         rw [hl365001_101] at HO_365001
         (try simp only [hl365001_101])
         (try simp only [hl365001_101] at BK336)
         (try simp only [hl365001_101] at BK337)
         (try simp only [hl365001_101] at BK359)
         (try simp only [hl365001_101] at BK364)
         (try simp only [hl365001_101] at BK369)
         (try simp only [hl365001_101] at BK381)
         (try simp only [hl365001_101] at HO_360001)
         (try simp only [hl365001_101] at HO_360002)
         (try simp only [hl365001_101] at HO_360003)
         (try simp only [hl365001_101] at HO_370001)
         (try simp only [hl365001_101] at HO_382001)
         (try simp only [hl365001_101] at HO_382002)
         (try simp only [hl365001_101] at HO_382003)
         have hl370001_101 := (Kd.R_reads' HO_370001.out).1
         rw [hl370001_101] at HO_370001
         (try simp only [hl370001_101])
         (try simp only [hl370001_101] at BK336)
         (try simp only [hl370001_101] at BK337)
         (try simp only [hl370001_101] at BK359)
         (try simp only [hl370001_101] at BK364)
         (try simp only [hl370001_101] at BK369)
         (try simp only [hl370001_101] at BK381)
         (try simp only [hl370001_101] at HO_360001)
         (try simp only [hl370001_101] at HO_360002)
         (try simp only [hl370001_101] at HO_360003)
         (try simp only [hl370001_101] at HO_365001)
         (try simp only [hl370001_101] at HO_382001)
         (try simp only [hl370001_101] at HO_382002)
         (try simp only [hl370001_101] at HO_382003)
         cases kq with
         | zero => exact absurd HA.out (by simp [laws_FnExactUnpackDirectory.j1])
         | succ kj101 =>
          have H := HA.out
          clear HA
          simp only [laws_FnExactUnpackDirectory.j1] at H
          by_cases c139 : x82_101 = true
          ·subst c139
           have H1 : (none) = some r := by rw [if_pos rfl] at H; exact H
           clear H
           have H := H1
           clear H1
           exact absurd H (by simp)
          ·replace c139 := Bool.eq_false_iff.mpr c139
           subst c139
           have H1 : ((laws_markRanked.f kj101 t370 t371 t374 t377 1).bind fun bt398 => ((laws_heldRanked.f kj101 t370 bt398.2.1 bt398.2.2.1 bt398.2.2.2 1).bind fun t402 => (if t402 < 0 then (none) else (if t402 = bt398.1 then ((laws_toBits.f kj101 a0_0 l0_1).bind fun bt403 => ((laws_toBits.f kj101 a1_0 l1_1).bind fun bt407 => ((impl_UnpackDirectory.f kj101 bt403.1 bt403.2 bt407.1 bt407.2).bind fun bt411 => ((laws_eqRanked.f kj101 bt411.1 bt411.2.1 bt411.2.2.1 bt411.2.2.2.1 t348 t349 t352 t355).bind fun t423 => (if t423 = true then (laws_FnExactUnpackDirectory.j2 kj101 bt398.1 (bt411.2.2.2.2 != t358) t370 bt398.2.1 bt398.2.2.1 bt398.2.2.2) else (none)))))) else (none))))) = some r := by rw [if_neg (show ¬ (false = true) by decide)] at H; exact H
           clear H
           have H := H1
           clear H1
           replace H := Option.bind_eq_some_iff.mp H
           obtain ⟨⟨t398, t399, t400, t401⟩, A1400, H⟩ := H
           replace H : ((laws_heldRanked.f kj101 t370 t399 t400 t401 1).bind fun t402 => (if t402 < 0 then (none) else (if t402 = t398 then ((laws_toBits.f kj101 a0_0 l0_1).bind fun bt403 => ((laws_toBits.f kj101 a1_0 l1_1).bind fun bt407 => ((impl_UnpackDirectory.f kj101 bt403.1 bt403.2 bt407.1 bt407.2).bind fun bt411 => ((laws_eqRanked.f kj101 bt411.1 bt411.2.1 bt411.2.2.1 bt411.2.2.2.1 t348 t349 t352 t355).bind fun t423 => (if t423 = true then (laws_FnExactUnpackDirectory.j2 kj101 t398 (bt411.2.2.2.2 != t358) t370 t399 t400 t401) else (none)))))) else (none)))) = some r := H
           have A140 := am_ A1400
           clear A1400
           replace H := Option.bind_eq_some_iff.mp H
           obtain ⟨t402, A1410, H⟩ := H
           replace H : (if t402 < 0 then (none) else (if t402 = t398 then ((laws_toBits.f kj101 a0_0 l0_1).bind fun bt403 => ((laws_toBits.f kj101 a1_0 l1_1).bind fun bt407 => ((impl_UnpackDirectory.f kj101 bt403.1 bt403.2 bt407.1 bt407.2).bind fun bt411 => ((laws_eqRanked.f kj101 bt411.1 bt411.2.1 bt411.2.2.1 bt411.2.2.2.1 t348 t349 t352 t355).bind fun t423 => (if t423 = true then (laws_FnExactUnpackDirectory.j2 kj101 t398 (bt411.2.2.2.2 != t358) t370 t399 t400 t401) else (none)))))) else (none))) = some r := H
           have A141 := am_ A1410
           clear A1410
           by_cases c142 : t402 < 0
           ·rw [if_pos c142] at H
            exact absurd H (by simp)
           ·rw [if_neg c142] at H
            have c142b0 : decide (t402 < 0) = false := decide_eq_false c142
            clear c142
            by_cases c143 : t402 = t398
            ·rw [if_pos c143] at H
             have c143b0 : (t402 == t398) = true := beq_iff_eq.mpr c143
             have c143b1 : (t402 != t398) = false := bne_eq_false_iff_eq.mpr c143
             clear c143
             replace H := Option.bind_eq_some_iff.mp H
             obtain ⟨⟨t403, t404⟩, A1440, H⟩ := H
             replace H : ((laws_toBits.f kj101 a1_0 l1_1).bind fun bt407 => ((impl_UnpackDirectory.f kj101 t403 t404 bt407.1 bt407.2).bind fun bt411 => ((laws_eqRanked.f kj101 bt411.1 bt411.2.1 bt411.2.2.1 bt411.2.2.2.1 t348 t349 t352 t355).bind fun t423 => (if t423 = true then (laws_FnExactUnpackDirectory.j2 kj101 t398 (bt411.2.2.2.2 != t358) t370 t399 t400 t401) else (none))))) = some r := H
             have A144 := am_ A1440
             clear A1440
             replace H := Option.bind_eq_some_iff.mp H
             obtain ⟨⟨t407, t408⟩, A1450, H⟩ := H
             replace H : ((impl_UnpackDirectory.f kj101 t403 t404 t407 t408).bind fun bt411 => ((laws_eqRanked.f kj101 bt411.1 bt411.2.1 bt411.2.2.1 bt411.2.2.2.1 t348 t349 t352 t355).bind fun t423 => (if t423 = true then (laws_FnExactUnpackDirectory.j2 kj101 t398 (bt411.2.2.2.2 != t358) t370 t399 t400 t401) else (none)))) = some r := H
             have A145 := am_ A1450
             clear A1450
             replace H := Option.bind_eq_some_iff.mp H
             obtain ⟨⟨t411, t412, t415, t418, t421⟩, A1460, H⟩ := H
             replace H : ((laws_eqRanked.f kj101 t411 t412 t415 t418 t348 t349 t352 t355).bind fun t423 => (if t423 = true then (laws_FnExactUnpackDirectory.j2 kj101 t398 (t421 != t358) t370 t399 t400 t401) else (none))) = some r := H
             have A146 := am_ A1460
             clear A1460
             have HC147 := am_ H
             clear H
             have hnb148 := NB381_336.out
             have hnc148 := NB336_381.out
             have hnb149 := NB381_337.out
             have hnc149 := NB337_381.out
             have hnb150 := NB381_359.out
             have hnc150 := NB359_381.out
             have hnb151 := NB381_364.out
             have hnc151 := NB364_381.out
             have hnb152 := NB381_369.out
             have hnc152 := NB369_381.out
             obtain ⟨hcz153_0, hcz153_1, hcz153_2, hcz153_3, hfz153_0, hfz153_1, hfz153_2, hfz153_3⟩ := bx4_ BK381.out
             try go_wp2_with (first | ((with_reducible refine gate_callee (f := 39) rfl ?_); refine goesL_ (some 85) rfl rfl Try.func39 (by kernel_rfl) rfl #[.agg #[.int .i64 t370, .slice Ao76 t371.length co76, .slice Ao77 t374.length co77, .slice Ao78 t377.length co78], .int .i64 1] rfl lm_ ?_; (with_reducible refine (laws_markRanked.calls kj101 t370 (fun k_ => some k_ = (.slice Ao76 t371.length co76 : Value).ownBlock) (.slice Ao76 t371.length co76) t371 (fun k_ => some k_ = (.slice Ao77 t374.length co77 : Value).ownBlock) (.slice Ao77 t374.length co77) t374 (fun k_ => some k_ = (.slice Ao78 t377.length co78 : Value).ownBlock) (.slice Ao78 t377.length co78) t377 1 t398 t399 t400 t401 w _ ?side1 ?side2 ?side3 ?side4 ?side5 ?side6 ?side7 ?side8 ?side9 ?side10 A140.out).mono ?_); (case side1 => exact lw_ HB); (case side2 => exact Kd.R_tight rfl HO_382001.out); (case side3 => exact fun k_ e_ => (HO_382001.out.1 k_ e_.symm).2.2.2.2.2.1); (case side4 => exact fun k_ e_ => (HO_382001.out.1 k_ e_.symm).2.2.2.2.2.2); (case side5 => exact Kd.R_tight rfl HO_382002.out); (case side6 => exact fun k_ e_ => (HO_382002.out.1 k_ e_.symm).2.2.2.2.2.1); (case side7 => exact fun k_ e_ => (HO_382002.out.1 k_ e_.symm).2.2.2.2.2.2); (case side8 => exact Kd.R_tight rfl HO_382003.out); (case side9 => exact fun k_ e_ => (HO_382003.out.1 k_ e_.symm).2.2.2.2.2.1); (case side10 => exact fun k_ e_ => (HO_382003.out.1 k_ e_.symm).2.2.2.2.2.2); rintro e w154 ⟨rfl, hy0, hy1, hy2, hb, hkp⟩; refine ⟨_, rfl, ?_⟩; replace HO_360001 := am_ (lj_ (ok' := fun k_ => ns_ k_ Ao44 t352 co44 ∧ ns_ k_ Ao46 t355 co46 ∧ ns_ k_ Ao56 t394 co56 ∧ ns_ k_ Ao66 t396 co66 ∧ ns_ k_ Ao76 t371 co76 ∧ ns_ k_ Ao77 t374 co77 ∧ ns_ k_ Ao78 t377 co78) (Kd.R_keptB (HO_360001.out) hkp (fun k_ hk_ hs_ => Or.elim hs_ (fun e_ => (hk_.2.2.2.2.1) e_) (fun e_ => Or.elim e_ (fun e_ => (hk_.2.2.2.2.2.1) e_) (fun e_ => (hk_.2.2.2.2.2.2) e_))))); replace HO_360002 := am_ (lj_ (ok' := fun k_ => ns_ k_ Ao42 t349 co42 ∧ ns_ k_ Ao46 t355 co46 ∧ ns_ k_ Ao56 t394 co56 ∧ ns_ k_ Ao66 t396 co66 ∧ ns_ k_ Ao76 t371 co76 ∧ ns_ k_ Ao77 t374 co77 ∧ ns_ k_ Ao78 t377 co78) (Kd.R_keptB (HO_360002.out) hkp (fun k_ hk_ hs_ => Or.elim hs_ (fun e_ => (hk_.2.2.2.2.1) e_) (fun e_ => Or.elim e_ (fun e_ => (hk_.2.2.2.2.2.1) e_) (fun e_ => (hk_.2.2.2.2.2.2) e_))))); replace HO_360003 := am_ (lj_ (ok' := fun k_ => ns_ k_ Ao42 t349 co42 ∧ ns_ k_ Ao44 t352 co44 ∧ ns_ k_ Ao56 t394 co56 ∧ ns_ k_ Ao66 t396 co66 ∧ ns_ k_ Ao76 t371 co76 ∧ ns_ k_ Ao77 t374 co77 ∧ ns_ k_ Ao78 t377 co78) (Kd.R_keptB (HO_360003.out) hkp (fun k_ hk_ hs_ => Or.elim hs_ (fun e_ => (hk_.2.2.2.2.1) e_) (fun e_ => Or.elim e_ (fun e_ => (hk_.2.2.2.2.2.1) e_) (fun e_ => (hk_.2.2.2.2.2.2) e_))))); replace HO_365001 := am_ (lj_ (ok' := fun k_ => ns_ k_ Ao42 t349 co42 ∧ ns_ k_ Ao44 t352 co44 ∧ ns_ k_ Ao46 t355 co46 ∧ ns_ k_ Ao66 t396 co66 ∧ ns_ k_ Ao76 t371 co76 ∧ ns_ k_ Ao77 t374 co77 ∧ ns_ k_ Ao78 t377 co78) (Kd.R_keptB (HO_365001.out) hkp (fun k_ hk_ hs_ => Or.elim hs_ (fun e_ => (hk_.2.2.2.2.1) e_) (fun e_ => Or.elim e_ (fun e_ => (hk_.2.2.2.2.2.1) e_) (fun e_ => (hk_.2.2.2.2.2.2) e_))))); replace HO_370001 := am_ (lj_ (ok' := fun k_ => ns_ k_ Ao42 t349 co42 ∧ ns_ k_ Ao44 t352 co44 ∧ ns_ k_ Ao46 t355 co46 ∧ ns_ k_ Ao56 t394 co56 ∧ ns_ k_ Ao76 t371 co76 ∧ ns_ k_ Ao77 t374 co77 ∧ ns_ k_ Ao78 t377 co78) (Kd.R_keptB (HO_370001.out) hkp (fun k_ hk_ hs_ => Or.elim hs_ (fun e_ => (hk_.2.2.2.2.1) e_) (fun e_ => Or.elim e_ (fun e_ => (hk_.2.2.2.2.2.1) e_) (fun e_ => (hk_.2.2.2.2.2.2) e_))))); replace BK336 := am_ (blk_kept (lb_ BK336) hkp (fun hs_ => Or.elim hs_ (fun e_ => (fun e_ => (Kd.R_ne HO_382001.out BK336.out (by decide)) e_) e_) (fun e_ => Or.elim e_ (fun e_ => (fun e_ => (Kd.R_ne HO_382002.out BK336.out (by decide)) e_) e_) (fun e_ => (fun e_ => (Kd.R_ne HO_382003.out BK336.out (by decide)) e_) e_)))); replace BK337 := am_ (blk_kept (lb_ BK337) hkp (fun hs_ => Or.elim hs_ (fun e_ => (fun e_ => (Kd.R_ne HO_382001.out BK337.out (by decide)) e_) e_) (fun e_ => Or.elim e_ (fun e_ => (fun e_ => (Kd.R_ne HO_382002.out BK337.out (by decide)) e_) e_) (fun e_ => (fun e_ => (Kd.R_ne HO_382003.out BK337.out (by decide)) e_) e_)))); replace BK359 := am_ (blk_kept (lb_ BK359) hkp (fun hs_ => Or.elim hs_ (fun e_ => (fun e_ => (Kd.R_ne HO_382001.out BK359.out (by decide)) e_) e_) (fun e_ => Or.elim e_ (fun e_ => (fun e_ => (Kd.R_ne HO_382002.out BK359.out (by decide)) e_) e_) (fun e_ => (fun e_ => (Kd.R_ne HO_382003.out BK359.out (by decide)) e_) e_)))); replace BK364 := am_ (blk_kept (lb_ BK364) hkp (fun hs_ => Or.elim hs_ (fun e_ => (fun e_ => (Kd.R_ne HO_382001.out BK364.out (by decide)) e_) e_) (fun e_ => Or.elim e_ (fun e_ => (fun e_ => (Kd.R_ne HO_382002.out BK364.out (by decide)) e_) e_) (fun e_ => (fun e_ => (Kd.R_ne HO_382003.out BK364.out (by decide)) e_) e_)))); replace BK369 := am_ (blk_kept (lb_ BK369) hkp (fun hs_ => Or.elim hs_ (fun e_ => (fun e_ => (Kd.R_ne HO_382001.out BK369.out (by decide)) e_) e_) (fun e_ => Or.elim e_ (fun e_ => (fun e_ => (Kd.R_ne HO_382002.out BK369.out (by decide)) e_) e_) (fun e_ => (fun e_ => (Kd.R_ne HO_382003.out BK369.out (by decide)) e_) e_)))); replace BK381 := am_ (blk_kept (lb_ BK381) hkp (fun hs_ => Or.elim hs_ (fun e_ => (fun e_ => (Kd.R_ne HO_382001.out BK381.out (by decide)) e_) e_) (fun e_ => Or.elim e_ (fun e_ => (fun e_ => (Kd.R_ne HO_382002.out BK381.out (by decide)) e_) e_) (fun e_ => (fun e_ => (Kd.R_ne HO_382003.out BK381.out (by decide)) e_) e_)))); replace HO_382001 := am_ (Kd.R_reok rfl hy0 (fun k_ e_ => HO_382001.out.1 k_ e_)); replace HO_382002 := am_ (Kd.R_reok rfl hy1 (fun k_ e_ => HO_382002.out.1 k_ e_)); replace HO_382003 := am_ (Kd.R_reok rfl hy2 (fun k_ e_ => HO_382003.out.1 k_ e_)); replace HB := am_ (hb); (try clear hb); (try clear hkp); (try clear hy0); (try clear hy1); (try clear hy2); obtain ⟨hcz155_0, hcz155_1, hcz155_2, hcz155_3, hfz155_0, hfz155_1, hfz155_2, hfz155_3⟩ := bx4_ BK381.out) | ((with_reducible refine gate_callee (f := 40) rfl ?_); refine goesL_ (some 88) rfl rfl Try.func40 (by kernel_rfl) rfl #[.agg #[.int .i64 t370, .slice Ao76 t399.length co76, .slice Ao77 t400.length co77, .slice Ao78 t401.length co78], .int .i64 1] rfl (by (try simp only [List.map_toArray, List.map_cons, List.map_nil]); first | done | (rw [show t399.length = t371.length from (Kd.R_reads' HO_382001.out).1.symm, show t400.length = t374.length from (Kd.R_reads' HO_382002.out).1.symm, show t401.length = t377.length from (Kd.R_reads' HO_382003.out).1.symm] <;> rfl) | rfl | (simp only [List.length_drop, List.length_take]; rfl)) ?_; (with_reducible refine (laws_heldRanked.calls kj101 t370 _ _ t399 _ _ t400 _ _ t401 1 t402 _ ?side1 ?side2 ?side3 ?side4 ?side5 ?side6 A141.out).mono ?_); (case side1 => exact lc_ (Kd.R_reads' HO_382001.out).2.2); (case side2 => rw [show t399.length = t371.length from (Kd.R_reads' HO_382001.out).1.symm]; exact (Kd.R_reads' HO_382001.out).2.1); (case side3 => exact lc_ (Kd.R_reads' HO_382002.out).2.2); (case side4 => rw [show t400.length = t374.length from (Kd.R_reads' HO_382002.out).1.symm]; exact (Kd.R_reads' HO_382002.out).2.1); (case side5 => exact lc_ (Kd.R_reads' HO_382003.out).2.2); (case side6 => rw [show t401.length = t377.length from (Kd.R_reads' HO_382003.out).1.symm]; exact (Kd.R_reads' HO_382003.out).2.1); rintro e w156 ⟨rfl, hb⟩; refine ⟨_, rfl, ?_⟩; replace HO_360001 := am_ (Kd.R_below (lf_ HO_360001) hb); replace HO_360002 := am_ (Kd.R_below (lf_ HO_360002) hb); replace HO_360003 := am_ (Kd.R_below (lf_ HO_360003) hb); replace HO_365001 := am_ (Kd.R_below (lf_ HO_365001) hb); replace HO_370001 := am_ (Kd.R_below (lf_ HO_370001) hb); replace HO_382001 := am_ (Kd.R_below (lf_ HO_382001) hb); replace HO_382002 := am_ (Kd.R_below (lf_ HO_382002) hb); replace HO_382003 := am_ (Kd.R_below (lf_ HO_382003) hb); replace BK336 := am_ (blk_below (g := gb336) (lb_ BK336) hb); replace BK337 := am_ (blk_below (g := gb337) (lb_ BK337) hb); replace BK359 := am_ (blk_below (g := gb359) (lb_ BK359) hb); replace BK364 := am_ (blk_below (g := gb364) (lb_ BK364) hb); replace BK369 := am_ (blk_below (g := gb369) (lb_ BK369) hb); replace BK381 := am_ (blk_below (g := gb381) (lb_ BK381) hb); replace HB := am_ (below_step (lw_ HB) hb); (try clear hb); (try clear hb2); (try clear hk); (try clear hi)))
             replace HO_360001 := am_ (Kd.R_drew HO_360001.out); replace HO_360002 := am_ (Kd.R_drew HO_360002.out); replace HO_360003 := am_ (Kd.R_drew HO_360003.out); replace HO_365001 := am_ (Kd.R_drew HO_365001.out); replace HO_370001 := am_ (Kd.R_drew HO_370001.out); replace HO_382001 := am_ (Kd.R_drew HO_382001.out); replace HO_382002 := am_ (Kd.R_drew HO_382002.out); replace HO_382003 := am_ (Kd.R_drew HO_382003.out); replace BK336 := am_ (blk_drew BK336.out); replace BK337 := am_ (blk_drew BK337.out); replace BK359 := am_ (blk_drew BK359.out); replace BK364 := am_ (blk_drew BK364.out); replace BK369 := am_ (blk_drew BK369.out); replace BK381 := am_ (blk_drew BK381.out); replace HB := am_ (below_drew1 HB.out)
             refine start_ (n := 11) (S := fun w' => w'.cell? ⟨gb336, 0, none⟩ = some (.int .i64 a0_0) ∧ w'.cell? ⟨gb336, 1, none⟩ = some (.slice A0_1 l0_1.length c0_1) ∧ w'.cell? ⟨gb337, 0, none⟩ = some (.int .i64 a1_0) ∧ w'.cell? ⟨gb337, 1, none⟩ = some (.slice A1_1 l1_1.length c1_1)) (ds := []) #[false, false, false, false, false, false, false, false, false, false, false] (by kernel_rfl) rfl rfl ⟨(blk_cell BK336.out 0).trans rfl, (blk_cell BK336.out 1).trans rfl, (blk_cell BK337.out 0).trans rfl, (blk_cell BK337.out 1).trans rfl⟩ (fun hHeld => ?_); refine with_tabW laws_FnExactUnpackDirectory.tab31 laws_FnExactUnpackDirectory.bits31 (fun HT_ HW_ => ?_)
             generalize w156.drew = w157 at HO_360001 HO_360002 HO_360003 HO_365001 HO_370001 HO_382001 HO_382002 HO_382003 BK336 BK337 BK359 BK364 BK369 BK381 HB hHeld ⊢
             refine take_ (i := 0) (N := some 95) (v := ?_) (a' := ?_) #[true, false, false, false, false, false, false, false, false, false, false] rfl rfl (take_ofW HT_.out HW_.out (by kernel_rfl)) (fun _ _ _ h => h) (Or.inl ⟨by rfl, ?_⟩) hHeld ?_ ?_
             rotate_left
             ·rintro w' ⟨s0, s1, s2, s3⟩
              go_simp
              with_reducible rfl
             rotate_left
             ·simp only [Act.put, List.setIfInBounds_toArray, List.set_cons_zero, List.set_cons_succ, i64_w, i32_w]
              rfl
             refine take_ (i := 2) (N := some 97) (v := ?_) (a' := ?_) #[true, false, true, false, false, false, false, false, false, false, false] rfl rfl (take_ofW HT_.out HW_.out (by kernel_rfl)) (fun _ _ _ h => h) (Or.inl ⟨by rfl, ?_⟩) hHeld ?_ ?_
             rotate_left
             ·rintro w' ⟨s0, s1, s2, s3⟩
              go_simp
              with_reducible rfl
             rotate_left
             ·simp only [Act.put, List.setIfInBounds_toArray, List.set_cons_zero, List.set_cons_succ, i64_w, i32_w]
              rfl
             refine join_ (σ := Value × Value × Value × Value × Value × Nat) 2 #[true, true, true, true, true, true, true, true, true, false, false] (fun s_ => [(96, .agg #[.int .i64 t403, s_.1]), (98, .agg #[.int .i64 t407, s_.2.1]), (99, .tuple #[.agg #[.int .i64 t411, s_.2.2.1, s_.2.2.2.1, s_.2.2.2.2.1], .bool t421]), (15, .pointer (some ⟨s_.2.2.2.2.2, 0, none⟩)), (94, .tuple #[.agg #[.int .i64 t411, s_.2.2.1, s_.2.2.2.1, s_.2.2.2.2.1], .bool t421]), (100, .agg #[.int .i64 t411, s_.2.2.1, s_.2.2.2.1, s_.2.2.2.2.1]), (101, .bool t421)]) (fun s_ w' => (w'.cell? ⟨gb336, 0, none⟩ = some (.int .i64 a0_0) ∧ w'.cell? ⟨gb336, 1, none⟩ = some (.slice A0_1 l0_1.length c0_1) ∧ w'.cell? ⟨gb337, 0, none⟩ = some (.int .i64 a1_0) ∧ w'.cell? ⟨gb337, 1, none⟩ = some (.slice A1_1 l1_1.length c1_1)) ∧ (Kd.R (Kd.int .i64) 3 w' w.heap.size (fun k_ => some k_ ≠ (s_.2.1 : Value).ownBlock ∧ some k_ ≠ (s_.2.2.1 : Value).ownBlock ∧ some k_ ≠ (s_.2.2.2.1 : Value).ownBlock ∧ some k_ ≠ (s_.2.2.2.2.1 : Value).ownBlock ∧ ns_ k_ Ao42 t349 co42 ∧ ns_ k_ Ao44 t352 co44 ∧ ns_ k_ Ao46 t355 co46 ∧ ns_ k_ Ao56 t394 co56 ∧ ns_ k_ Ao66 t396 co66 ∧ ns_ k_ Ao76 t371 co76 ∧ ns_ k_ Ao77 t374 co77 ∧ ns_ k_ Ao78 t377 co78) s_.1 t404) ∧ (Kd.R (Kd.int .i64) 3 w' w.heap.size (fun k_ => some k_ ≠ (s_.1 : Value).ownBlock ∧ some k_ ≠ (s_.2.2.1 : Value).ownBlock ∧ some k_ ≠ (s_.2.2.2.1 : Value).ownBlock ∧ some k_ ≠ (s_.2.2.2.2.1 : Value).ownBlock ∧ ns_ k_ Ao42 t349 co42 ∧ ns_ k_ Ao44 t352 co44 ∧ ns_ k_ Ao46 t355 co46 ∧ ns_ k_ Ao56 t394 co56 ∧ ns_ k_ Ao66 t396 co66 ∧ ns_ k_ Ao76 t371 co76 ∧ ns_ k_ Ao77 t374 co77 ∧ ns_ k_ Ao78 t377 co78) s_.2.1 t408) ∧ (Kd.R (Kd.int .i64) 3 w' w.heap.size (fun k_ => some k_ ≠ (s_.1 : Value).ownBlock ∧ some k_ ≠ (s_.2.1 : Value).ownBlock ∧ some k_ ≠ (s_.2.2.2.1 : Value).ownBlock ∧ some k_ ≠ (s_.2.2.2.2.1 : Value).ownBlock ∧ ns_ k_ Ao42 t349 co42 ∧ ns_ k_ Ao44 t352 co44 ∧ ns_ k_ Ao46 t355 co46 ∧ ns_ k_ Ao56 t394 co56 ∧ ns_ k_ Ao66 t396 co66 ∧ ns_ k_ Ao76 t371 co76 ∧ ns_ k_ Ao77 t374 co77 ∧ ns_ k_ Ao78 t377 co78) s_.2.2.1 t412) ∧ (Kd.R (Kd.int .i64) 3 w' w.heap.size (fun k_ => some k_ ≠ (s_.1 : Value).ownBlock ∧ some k_ ≠ (s_.2.1 : Value).ownBlock ∧ some k_ ≠ (s_.2.2.1 : Value).ownBlock ∧ some k_ ≠ (s_.2.2.2.2.1 : Value).ownBlock ∧ ns_ k_ Ao42 t349 co42 ∧ ns_ k_ Ao44 t352 co44 ∧ ns_ k_ Ao46 t355 co46 ∧ ns_ k_ Ao56 t394 co56 ∧ ns_ k_ Ao66 t396 co66 ∧ ns_ k_ Ao76 t371 co76 ∧ ns_ k_ Ao77 t374 co77 ∧ ns_ k_ Ao78 t377 co78) s_.2.2.2.1 t415) ∧ (Kd.R (Kd.int .i64) 3 w' w.heap.size (fun k_ => some k_ ≠ (s_.1 : Value).ownBlock ∧ some k_ ≠ (s_.2.1 : Value).ownBlock ∧ some k_ ≠ (s_.2.2.1 : Value).ownBlock ∧ some k_ ≠ (s_.2.2.2.1 : Value).ownBlock ∧ ns_ k_ Ao42 t349 co42 ∧ ns_ k_ Ao44 t352 co44 ∧ ns_ k_ Ao46 t355 co46 ∧ ns_ k_ Ao56 t394 co56 ∧ ns_ k_ Ao66 t396 co66 ∧ ns_ k_ Ao76 t371 co76 ∧ ns_ k_ Ao77 t374 co77 ∧ ns_ k_ Ao78 t377 co78) s_.2.2.2.2.1 t418) ∧ (Kd.R (Kd.int .i64) 3 w' w.heap.size (fun k_ => some k_ ≠ (s_.1 : Value).ownBlock ∧ some k_ ≠ (s_.2.1 : Value).ownBlock ∧ some k_ ≠ (s_.2.2.1 : Value).ownBlock ∧ some k_ ≠ (s_.2.2.2.1 : Value).ownBlock ∧ some k_ ≠ (s_.2.2.2.2.1 : Value).ownBlock ∧ ns_ k_ Ao44 t352 co44 ∧ ns_ k_ Ao46 t355 co46 ∧ ns_ k_ Ao56 t394 co56 ∧ ns_ k_ Ao66 t396 co66 ∧ ns_ k_ Ao76 t371 co76 ∧ ns_ k_ Ao77 t374 co77 ∧ ns_ k_ Ao78 t377 co78) (.slice Ao42 t349.length co42) t349) ∧ (Kd.R (Kd.int .i64) 3 w' w.heap.size (fun k_ => some k_ ≠ (s_.1 : Value).ownBlock ∧ some k_ ≠ (s_.2.1 : Value).ownBlock ∧ some k_ ≠ (s_.2.2.1 : Value).ownBlock ∧ some k_ ≠ (s_.2.2.2.1 : Value).ownBlock ∧ some k_ ≠ (s_.2.2.2.2.1 : Value).ownBlock ∧ ns_ k_ Ao42 t349 co42 ∧ ns_ k_ Ao46 t355 co46 ∧ ns_ k_ Ao56 t394 co56 ∧ ns_ k_ Ao66 t396 co66 ∧ ns_ k_ Ao76 t371 co76 ∧ ns_ k_ Ao77 t374 co77 ∧ ns_ k_ Ao78 t377 co78) (.slice Ao44 t352.length co44) t352) ∧ (Kd.R (Kd.int .i64) 3 w' w.heap.size (fun k_ => some k_ ≠ (s_.1 : Value).ownBlock ∧ some k_ ≠ (s_.2.1 : Value).ownBlock ∧ some k_ ≠ (s_.2.2.1 : Value).ownBlock ∧ some k_ ≠ (s_.2.2.2.1 : Value).ownBlock ∧ some k_ ≠ (s_.2.2.2.2.1 : Value).ownBlock ∧ ns_ k_ Ao42 t349 co42 ∧ ns_ k_ Ao44 t352 co44 ∧ ns_ k_ Ao56 t394 co56 ∧ ns_ k_ Ao66 t396 co66 ∧ ns_ k_ Ao76 t371 co76 ∧ ns_ k_ Ao77 t374 co77 ∧ ns_ k_ Ao78 t377 co78) (.slice Ao46 t355.length co46) t355) ∧ (Kd.R (Kd.int .i64) 3 w' w.heap.size (fun k_ => some k_ ≠ (s_.1 : Value).ownBlock ∧ some k_ ≠ (s_.2.1 : Value).ownBlock ∧ some k_ ≠ (s_.2.2.1 : Value).ownBlock ∧ some k_ ≠ (s_.2.2.2.1 : Value).ownBlock ∧ some k_ ≠ (s_.2.2.2.2.1 : Value).ownBlock ∧ ns_ k_ Ao42 t349 co42 ∧ ns_ k_ Ao44 t352 co44 ∧ ns_ k_ Ao46 t355 co46 ∧ ns_ k_ Ao66 t396 co66 ∧ ns_ k_ Ao76 t371 co76 ∧ ns_ k_ Ao77 t374 co77 ∧ ns_ k_ Ao78 t377 co78) (.slice Ao56 t394.length co56) t394) ∧ (Kd.R (Kd.int .i64) 3 w' w.heap.size (fun k_ => some k_ ≠ (s_.1 : Value).ownBlock ∧ some k_ ≠ (s_.2.1 : Value).ownBlock ∧ some k_ ≠ (s_.2.2.1 : Value).ownBlock ∧ some k_ ≠ (s_.2.2.2.1 : Value).ownBlock ∧ some k_ ≠ (s_.2.2.2.2.1 : Value).ownBlock ∧ ns_ k_ Ao42 t349 co42 ∧ ns_ k_ Ao44 t352 co44 ∧ ns_ k_ Ao46 t355 co46 ∧ ns_ k_ Ao56 t394 co56 ∧ ns_ k_ Ao76 t371 co76 ∧ ns_ k_ Ao77 t374 co77 ∧ ns_ k_ Ao78 t377 co78) (.slice Ao66 t396.length co66) t396) ∧ (Kd.R (Kd.int .i64) 3 w' w.heap.size (fun k_ => some k_ ≠ (s_.1 : Value).ownBlock ∧ some k_ ≠ (s_.2.1 : Value).ownBlock ∧ some k_ ≠ (s_.2.2.1 : Value).ownBlock ∧ some k_ ≠ (s_.2.2.2.1 : Value).ownBlock ∧ some k_ ≠ (s_.2.2.2.2.1 : Value).ownBlock ∧ ns_ k_ Ao42 t349 co42 ∧ ns_ k_ Ao44 t352 co44 ∧ ns_ k_ Ao46 t355 co46 ∧ ns_ k_ Ao56 t394 co56 ∧ ns_ k_ Ao66 t396 co66 ∧ ns_ k_ Ao77 t374 co77 ∧ ns_ k_ Ao78 t377 co78) (.slice Ao76 t371.length co76) t399) ∧ (Kd.R (Kd.int .i64) 3 w' w.heap.size (fun k_ => some k_ ≠ (s_.1 : Value).ownBlock ∧ some k_ ≠ (s_.2.1 : Value).ownBlock ∧ some k_ ≠ (s_.2.2.1 : Value).ownBlock ∧ some k_ ≠ (s_.2.2.2.1 : Value).ownBlock ∧ some k_ ≠ (s_.2.2.2.2.1 : Value).ownBlock ∧ ns_ k_ Ao42 t349 co42 ∧ ns_ k_ Ao44 t352 co44 ∧ ns_ k_ Ao46 t355 co46 ∧ ns_ k_ Ao56 t394 co56 ∧ ns_ k_ Ao66 t396 co66 ∧ ns_ k_ Ao76 t371 co76 ∧ ns_ k_ Ao78 t377 co78) (.slice Ao77 t374.length co77) t400) ∧ (Kd.R (Kd.int .i64) 3 w' w.heap.size (fun k_ => some k_ ≠ (s_.1 : Value).ownBlock ∧ some k_ ≠ (s_.2.1 : Value).ownBlock ∧ some k_ ≠ (s_.2.2.1 : Value).ownBlock ∧ some k_ ≠ (s_.2.2.2.1 : Value).ownBlock ∧ some k_ ≠ (s_.2.2.2.2.1 : Value).ownBlock ∧ ns_ k_ Ao42 t349 co42 ∧ ns_ k_ Ao44 t352 co44 ∧ ns_ k_ Ao46 t355 co46 ∧ ns_ k_ Ao56 t394 co56 ∧ ns_ k_ Ao66 t396 co66 ∧ ns_ k_ Ao76 t371 co76 ∧ ns_ k_ Ao77 t374 co77) (.slice Ao78 t377.length co78) t401) ∧ (w'.heap[gb336]? = some (.cells #[.int .i64 a0_0, .slice A0_1 l0_1.length c0_1] 24 (0, 0))) ∧ (w'.heap[gb337]? = some (.cells #[.int .i64 a1_0, .slice A1_1 l1_1.length c1_1] 24 (0, 0))) ∧ (w'.heap[gb359]? = some (.cells #[.int .i64 t348, .slice Ao42 t349.length co42, .slice Ao44 t352.length co44, .slice Ao46 t355.length co46] 48 (0, 0))) ∧ (w'.heap[gb364]? = some (.cells #[.int .i64 t360, .slice Ao56 t394.length co56] 26 (0, 0))) ∧ (w'.heap[gb369]? = some (.cells #[.int .i64 t365, .slice Ao66 t396.length co66] 26 (0, 0))) ∧ (w'.heap[gb381]? = some (.cells #[.int .i64 t370, .slice Ao76 t371.length co76, .slice Ao77 t374.length co77, .slice Ao78 t377.length co78] 48 (0, 0))) ∧ (w'.heap[s_.2.2.2.2.2]? = some (.cells #[.int .i64 0, .slice none 0 0, .slice none 0 0, .slice none 0 0] 48 (0, 0))) ∧ (w.heap.size ≤ s_.2.2.2.2.2) ∧ (w.heap.size ≤ s_.2.2.2.2.2) ∧ (gb336 ≠ s_.2.2.2.2.2) ∧ (s_.2.2.2.2.2 ≠ gb336) ∧ (gb337 ≠ s_.2.2.2.2.2) ∧ (s_.2.2.2.2.2 ≠ gb337) ∧ (gb359 ≠ s_.2.2.2.2.2) ∧ (s_.2.2.2.2.2 ≠ gb359) ∧ (gb364 ≠ s_.2.2.2.2.2) ∧ (s_.2.2.2.2.2 ≠ gb364) ∧ (gb369 ≠ s_.2.2.2.2.2) ∧ (s_.2.2.2.2.2 ≠ gb369) ∧ (gb381 ≠ s_.2.2.2.2.2) ∧ (s_.2.2.2.2.2 ≠ gb381) ∧ (Below w.heap.size w w')) ?_ ?_
             rotate_left
             ·intro hCont
              refine two_ (i := 1) (j := 8) (Ni := some 96) (Nj := some 15) #[true, true, true, false, false, false, false, false, false, false, false] #[true, false, true, false, false, false, false, false, true, false, false] rfl rfl rfl rfl (two_of HT_.out (by kernel_rfl)) (by decide) (by decide) (fun K hK => ?_) (fun K hK => ?_)
              ·skip
               refine goes_ Try.func18 (by kernel_rfl) rfl #[.agg #[.int .i64 a0_0, .slice A0_1 l0_1.length c0_1]] (by rfl) rfl rfl lm_ ?_
               with_reducible refine (laws_toBits.calls kj101 a0_0 _ _ l0_1 t403 t404 _ ?side1 ?side2 A144.out).mono ?_
               (case side1 => exact lc_ (Kd.C_below HR0_1.out HB.out))
               (case side2 => exact HC0_1.out)
               rintro e w158 ⟨v405, rfl, ho0, hb⟩
               refine ⟨_, rfl, ?_⟩
               have HO406 := am_ (Kd.R_lower (nw_ (nw_ (nw_ (nw_ (nw_ (nw_ (nw_ (nw_ ho0 HO_360001) HO_360002) HO_360003) HO_365001) HO_370001) HO_382001) HO_382002) HO_382003) (below_size (lw_ HB))); replace HO_360001 := am_ (Kd.R_elder' (lf_ HO_360001) (Kd.R_base ho0) hb); replace HO_360002 := am_ (Kd.R_elder' (lf_ HO_360002) (Kd.R_base ho0) hb); replace HO_360003 := am_ (Kd.R_elder' (lf_ HO_360003) (Kd.R_base ho0) hb); replace HO_365001 := am_ (Kd.R_elder' (lf_ HO_365001) (Kd.R_base ho0) hb); replace HO_370001 := am_ (Kd.R_elder' (lf_ HO_370001) (Kd.R_base ho0) hb); replace HO_382001 := am_ (Kd.R_elder' (lf_ HO_382001) (Kd.R_base ho0) hb); replace HO_382002 := am_ (Kd.R_elder' (lf_ HO_382002) (Kd.R_base ho0) hb); replace HO_382003 := am_ (Kd.R_elder' (lf_ HO_382003) (Kd.R_base ho0) hb); replace BK336 := am_ (blk_below (g := gb336) (lb_ BK336) hb); replace BK337 := am_ (blk_below (g := gb337) (lb_ BK337) hb); replace BK359 := am_ (blk_below (g := gb359) (lb_ BK359) hb); replace BK364 := am_ (blk_below (g := gb364) (lb_ BK364) hb); replace BK369 := am_ (blk_below (g := gb369) (lb_ BK369) hb); replace BK381 := am_ (blk_below (g := gb381) (lb_ BK381) hb); replace HB := am_ (below_step (lw_ HB) hb)
               (try clear hb)
               (try clear hb2)
               (try clear hk)
               (try clear hi)
               (try clear ho0)
               refine hK.out _ _ ⟨(blk_cell BK336.out 0).trans rfl, (blk_cell BK336.out 1).trans rfl, (blk_cell BK337.out 0).trans rfl, (blk_cell BK337.out 1).trans rfl⟩ (fun hHeld => ?_)
               clear hK K
               refine norm_ (a' := ?_) ?_ ?_
               rotate_left
               ·show Act.put _ (some 96) _ = _
                simp only [Act.put, List.setIfInBounds_toArray, List.set_cons_zero, List.set_cons_succ, i64_w, i32_w]
                rfl
               refine two_ (i := 3) (j := 8) (Ni := some 98) (Nj := some 15) #[true, true, true, true, false, false, false, false, false, false, false] #[true, true, true, false, false, false, false, false, true, false, false] rfl rfl rfl rfl (two_of HT_.out (by kernel_rfl)) (by decide) (by decide) (fun K hK => ?_) (fun K hK => ?_)
               ·skip
                refine goes_ Try.func18 (by kernel_rfl) rfl #[.agg #[.int .i64 a1_0, .slice A1_1 l1_1.length c1_1]] (by rfl) rfl rfl lm_ ?_
                with_reducible refine (laws_toBits.calls kj101 a1_0 _ _ l1_1 t407 t408 _ ?side1 ?side2 A145.out).mono ?_
                (case side1 => exact lc_ (Kd.C_below HR1_1.out HB.out))
                (case side2 => exact HC1_1.out)
                rintro e w159 ⟨v409, rfl, ho0, hb⟩
                refine ⟨_, rfl, ?_⟩
                have HO410 := am_ (Kd.R_lower (nw_ (nw_ (nw_ (nw_ (nw_ (nw_ (nw_ (nw_ (nw_ ho0 HO_360001) HO_360002) HO_360003) HO_365001) HO_370001) HO_382001) HO_382002) HO_382003) HO406) (below_size (lw_ HB))); replace HO_360001 := am_ (Kd.R_elder' (lf_ HO_360001) (Kd.R_base ho0) hb); replace HO_360002 := am_ (Kd.R_elder' (lf_ HO_360002) (Kd.R_base ho0) hb); replace HO_360003 := am_ (Kd.R_elder' (lf_ HO_360003) (Kd.R_base ho0) hb); replace HO_365001 := am_ (Kd.R_elder' (lf_ HO_365001) (Kd.R_base ho0) hb); replace HO_370001 := am_ (Kd.R_elder' (lf_ HO_370001) (Kd.R_base ho0) hb); replace HO_382001 := am_ (Kd.R_elder' (lf_ HO_382001) (Kd.R_base ho0) hb); replace HO_382002 := am_ (Kd.R_elder' (lf_ HO_382002) (Kd.R_base ho0) hb); replace HO_382003 := am_ (Kd.R_elder' (lf_ HO_382003) (Kd.R_base ho0) hb); replace HO406 := am_ (Kd.R_elder' (lf_ HO406) (Kd.R_base ho0) hb); replace BK336 := am_ (blk_below (g := gb336) (lb_ BK336) hb); replace BK337 := am_ (blk_below (g := gb337) (lb_ BK337) hb); replace BK359 := am_ (blk_below (g := gb359) (lb_ BK359) hb); replace BK364 := am_ (blk_below (g := gb364) (lb_ BK364) hb); replace BK369 := am_ (blk_below (g := gb369) (lb_ BK369) hb); replace BK381 := am_ (blk_below (g := gb381) (lb_ BK381) hb); replace HB := am_ (below_step (lw_ HB) hb)
                (try clear hb)
                (try clear hb2)
                (try clear hk)
                (try clear hi)
                (try clear ho0)
                obtain ⟨Ao160, co160, eo160⟩ := Kd.R_slice HO406.out
                (first | subst eo160 | (injection eo160 with f1_ f2_ f3_; have f4_ := f1_.symm; have f5_ := f3_.symm; clear f1_ f2_ f3_; subst f4_; subst f5_))
                obtain ⟨Ao161, co161, eo161⟩ := Kd.R_slice HO410.out
                (first | subst eo161 | (injection eo161 with f1_ f2_ f3_; have f4_ := f1_.symm; have f5_ := f3_.symm; clear f1_ f2_ f3_; subst f4_; subst f5_))
                refine hK.out _ _ ⟨(blk_cell BK336.out 0).trans rfl, (blk_cell BK336.out 1).trans rfl, (blk_cell BK337.out 0).trans rfl, (blk_cell BK337.out 1).trans rfl⟩ (fun hHeld => ?_)
                clear hK K
                refine norm_ (a' := ?_) ?_ ?_
                rotate_left
                ·show Act.put _ (some 98) _ = _
                 simp only [Act.put, List.setIfInBounds_toArray, List.set_cons_zero, List.set_cons_succ, i64_w, i32_w]
                 rfl
                refine two_ (i := 4) (j := 8) (Ni := some 99) (Nj := some 15) #[true, true, true, true, true, false, false, false, false, false, false] #[true, true, true, true, false, false, false, false, true, false, false] rfl rfl rfl rfl (two_of HT_.out (by kernel_rfl)) (by decide) (by decide) (fun K hK => ?_) (fun K hK => ?_)
                ·skip
                 refine goes_ Try.func44 (by kernel_rfl) rfl #[.agg #[.int .i64 t403, .slice Ao160 t404.length co160], .agg #[.int .i64 t407, .slice Ao161 t408.length co161]] (by rfl) rfl rfl lm_ ?_
                 with_reducible refine (impl_UnpackDirectory.calls kj101 t403 _ _ t404 t407 _ _ t408 t411 t412 t415 t418 t421 _ ?side1 ?side2 ?side3 ?side4 A146.out).mono ?_
                 (case side1 => exact lc_ (Kd.R_reads' HO406.out).2.2)
                 (case side2 => exact (Kd.R_reads' HO406.out).2.1)
                 (case side3 => exact lc_ (Kd.R_reads' HO410.out).2.2)
                 (case side4 => exact (Kd.R_reads' HO410.out).2.1)
                 rintro e w162 ⟨v413, v416, v419, rfl, ho0, ho1, ho2, hb⟩
                 refine ⟨_, rfl, ?_⟩
                 have HO414 := am_ (Kd.R_lower (nw_ (nw_ (nw_ (nw_ (nw_ (nw_ (nw_ (nw_ (nw_ (nw_ ho0 HO_360001) HO_360002) HO_360003) HO_365001) HO_370001) HO_382001) HO_382002) HO_382003) HO406) HO410) (below_size (lw_ HB))); have HO417 := am_ (Kd.R_lower (nw_ (nw_ (nw_ (nw_ (nw_ (nw_ (nw_ (nw_ (nw_ (nw_ ho1 HO_360001) HO_360002) HO_360003) HO_365001) HO_370001) HO_382001) HO_382002) HO_382003) HO406) HO410) (below_size (lw_ HB))); have HO420 := am_ (Kd.R_lower (nw_ (nw_ (nw_ (nw_ (nw_ (nw_ (nw_ (nw_ (nw_ (nw_ ho2 HO_360001) HO_360002) HO_360003) HO_365001) HO_370001) HO_382001) HO_382002) HO_382003) HO406) HO410) (below_size (lw_ HB))); replace HO_360001 := am_ (m1_ (td_ (td_ (td_ (Kd.R_old (lf_ HO_360001) hb) ho0) ho1) ho2)); replace HO_360002 := am_ (m1_ (td_ (td_ (td_ (Kd.R_old (lf_ HO_360002) hb) ho0) ho1) ho2)); replace HO_360003 := am_ (m1_ (td_ (td_ (td_ (Kd.R_old (lf_ HO_360003) hb) ho0) ho1) ho2)); replace HO_365001 := am_ (m1_ (td_ (td_ (td_ (Kd.R_old (lf_ HO_365001) hb) ho0) ho1) ho2)); replace HO_370001 := am_ (m1_ (td_ (td_ (td_ (Kd.R_old (lf_ HO_370001) hb) ho0) ho1) ho2)); replace HO_382001 := am_ (m1_ (td_ (td_ (td_ (Kd.R_old (lf_ HO_382001) hb) ho0) ho1) ho2)); replace HO_382002 := am_ (m1_ (td_ (td_ (td_ (Kd.R_old (lf_ HO_382002) hb) ho0) ho1) ho2)); replace HO_382003 := am_ (m1_ (td_ (td_ (td_ (Kd.R_old (lf_ HO_382003) hb) ho0) ho1) ho2)); replace HO406 := am_ (m1_ (td_ (td_ (td_ (Kd.R_old (lf_ HO406) hb) ho0) ho1) ho2)); replace HO410 := am_ (m1_ (td_ (td_ (td_ (Kd.R_old (lf_ HO410) hb) ho0) ho1) ho2)); replace BK336 := am_ (blk_below (g := gb336) (lb_ BK336) hb); replace BK337 := am_ (blk_below (g := gb337) (lb_ BK337) hb); replace BK359 := am_ (blk_below (g := gb359) (lb_ BK359) hb); replace BK364 := am_ (blk_below (g := gb364) (lb_ BK364) hb); replace BK369 := am_ (blk_below (g := gb369) (lb_ BK369) hb); replace BK381 := am_ (blk_below (g := gb381) (lb_ BK381) hb); replace HB := am_ (below_step (lw_ HB) hb)
                 (try clear hb)
                 (try clear hb2)
                 (try clear hk)
                 (try clear hi)
                 (try clear ho0)
                 (try clear ho1)
                 (try clear ho2)
                 refine hK.out _ _ ⟨(blk_cell BK336.out 0).trans rfl, (blk_cell BK336.out 1).trans rfl, (blk_cell BK337.out 0).trans rfl, (blk_cell BK337.out 1).trans rfl⟩ (fun hHeld => ?_)
                 clear hK K
                 refine norm_ (a' := ?_) ?_ ?_
                 rotate_left
                 ·show Act.put _ (some 99) _ = _
                  simp only [Act.put, List.setIfInBounds_toArray, List.set_cons_zero, List.set_cons_succ, i64_w, i32_w]
                  rfl
                 refine pure_ (i := 5) (N := some 94) (v := ?_) (a' := ?_) #[true, true, true, true, true, true, false, false, false, false, false] rfl rfl (any_of HT_.out (by kernel_rfl)) (fun _ _ _ h => h) (Or.inl ⟨by rfl, ?_⟩) ?_ ?_
                 rotate_left
                 ·intro w'
                  go_simp
                  with_reducible rfl
                 rotate_left
                 ·simp only [Act.put, List.setIfInBounds_toArray, List.set_cons_zero, List.set_cons_succ, i64_w, i32_w]
                  rfl
                 refine pure_ (i := 6) (N := some 100) (v := ?_) (a' := ?_) #[true, true, true, true, true, true, true, false, false, false, false] rfl rfl (any_of HT_.out (by kernel_rfl)) (fun _ _ _ h => h) (Or.inl ⟨by rfl, ?_⟩) ?_ ?_
                 rotate_left
                 ·intro w'
                  go_simp
                  with_reducible rfl
                 rotate_left
                 ·simp only [Act.put, List.setIfInBounds_toArray, List.set_cons_zero, List.set_cons_succ, i64_w, i32_w]
                  rfl
                 refine pure_ (i := 7) (N := some 101) (v := ?_) (a' := ?_) #[true, true, true, true, true, true, true, true, false, false, false] rfl rfl (any_of HT_.out (by kernel_rfl)) (fun _ _ _ h => h) (Or.inl ⟨by rfl, ?_⟩) ?_ ?_
                 rotate_left
                 ·intro w'
                  go_simp
                  with_reducible rfl
                 rotate_left
                 ·simp only [Act.put, List.setIfInBounds_toArray, List.set_cons_zero, List.set_cons_succ, i64_w, i32_w]
                  rfl
                 refine one_ (i := 8) (N := some 15) #[true, true, true, true, true, true, true, true, true, false, false] rfl rfl (one_of HT_.out (by kernel_rfl)) (by decide) (fun K hK => ?_)
                 refine box_step ?hg (N := 15) ?hd (cs := #[.int .i64 0, .slice none 0 0, .slice none 0 0, .slice none 0 0]) (t := 48) ?hr ?_; (case hd => rfl); (case hg => rfl); (case hr => first | (go_simp; done) | (go_simp; rfl))
                 intro gb422 hg w163 hbox hb
                 have BK422 := am_ (hbox); have GW422 := am_ ((by rw [hg]; exact (below_size (lw_ HB)) : w.heap.size ≤ gb422)); have GE422 := am_ ((by rw [hg]; exact (below_size (lw_ HB)) : w.heap.size ≤ gb422)); have NB336_422 := am_ ((by rw [hg]; exact Nat.ne_of_lt (blk_lt (g := gb336) (lb_ BK336)) : gb336 ≠ gb422)); have NB422_336 := am_ ((by rw [hg]; exact Nat.ne_of_gt (blk_lt (g := gb336) (lb_ BK336)) : gb422 ≠ gb336)); have NB337_422 := am_ ((by rw [hg]; exact Nat.ne_of_lt (blk_lt (g := gb337) (lb_ BK337)) : gb337 ≠ gb422)); have NB422_337 := am_ ((by rw [hg]; exact Nat.ne_of_gt (blk_lt (g := gb337) (lb_ BK337)) : gb422 ≠ gb337)); have NB359_422 := am_ ((by rw [hg]; exact Nat.ne_of_lt (blk_lt (g := gb359) (lb_ BK359)) : gb359 ≠ gb422)); have NB422_359 := am_ ((by rw [hg]; exact Nat.ne_of_gt (blk_lt (g := gb359) (lb_ BK359)) : gb422 ≠ gb359)); have NB364_422 := am_ ((by rw [hg]; exact Nat.ne_of_lt (blk_lt (g := gb364) (lb_ BK364)) : gb364 ≠ gb422)); have NB422_364 := am_ ((by rw [hg]; exact Nat.ne_of_gt (blk_lt (g := gb364) (lb_ BK364)) : gb422 ≠ gb364)); have NB369_422 := am_ ((by rw [hg]; exact Nat.ne_of_lt (blk_lt (g := gb369) (lb_ BK369)) : gb369 ≠ gb422)); have NB422_369 := am_ ((by rw [hg]; exact Nat.ne_of_gt (blk_lt (g := gb369) (lb_ BK369)) : gb422 ≠ gb369)); have NB381_422 := am_ ((by rw [hg]; exact Nat.ne_of_lt (blk_lt (g := gb381) (lb_ BK381)) : gb381 ≠ gb422)); have NB422_381 := am_ ((by rw [hg]; exact Nat.ne_of_gt (blk_lt (g := gb381) (lb_ BK381)) : gb422 ≠ gb381)); replace HO_360001 := am_ (Kd.R_below (lf_ HO_360001) hb); replace HO_360002 := am_ (Kd.R_below (lf_ HO_360002) hb); replace HO_360003 := am_ (Kd.R_below (lf_ HO_360003) hb); replace HO_365001 := am_ (Kd.R_below (lf_ HO_365001) hb); replace HO_370001 := am_ (Kd.R_below (lf_ HO_370001) hb); replace HO_382001 := am_ (Kd.R_below (lf_ HO_382001) hb); replace HO_382002 := am_ (Kd.R_below (lf_ HO_382002) hb); replace HO_382003 := am_ (Kd.R_below (lf_ HO_382003) hb); replace HO406 := am_ (Kd.R_below (lf_ HO406) hb); replace HO410 := am_ (Kd.R_below (lf_ HO410) hb); replace HO414 := am_ (Kd.R_below (lf_ HO414) hb); replace HO417 := am_ (Kd.R_below (lf_ HO417) hb); replace HO420 := am_ (Kd.R_below (lf_ HO420) hb); replace BK336 := am_ (blk_below (g := gb336) (lb_ BK336) hb); replace BK337 := am_ (blk_below (g := gb337) (lb_ BK337) hb); replace BK359 := am_ (blk_below (g := gb359) (lb_ BK359) hb); replace BK364 := am_ (blk_below (g := gb364) (lb_ BK364) hb); replace BK369 := am_ (blk_below (g := gb369) (lb_ BK369) hb); replace BK381 := am_ (blk_below (g := gb381) (lb_ BK381) hb); replace HB := am_ (below_step (lw_ HB) hb)
                 clear hb hbox hg
                 refine hK.out _ _ ⟨(blk_cell BK336.out 0).trans rfl, (blk_cell BK336.out 1).trans rfl, (blk_cell BK337.out 0).trans rfl, (blk_cell BK337.out 1).trans rfl⟩ (fun hHeld => ?_)
                 clear hK K
                 refine norm_ (a' := ?_) ?_ ?_
                 rotate_left
                 ·show Act.put _ (some 15) _ = _
                  simp only [Act.put, List.setIfInBounds_toArray, List.set_cons_zero, List.set_cons_succ, i64_w, i32_w]
                  rfl
                 exact norm_ (by simp only [putAll, Act.put, List.setIfInBounds_toArray, List.set_cons_zero, List.set_cons_succ]) (hCont (.slice Ao160 t404.length co160, .slice Ao161 t408.length co161, v413, v416, v419, gb422) _ ⟨hHeld, (lo_ HO406), (lo_ HO410), (lo_ HO414), (lo_ HO417), (lo_ HO420), (lo_ HO_360001), (lo_ HO_360002), (lo_ HO_360003), (lo_ HO_365001), (lo_ HO_370001), (lo_ HO_382001), (lo_ HO_382002), (lo_ HO_382003), (lb_ BK336), (lb_ BK337), (lb_ BK359), (lb_ BK364), (lb_ BK369), (lb_ BK381), (lb_ BK422), GW422.out, GE422.out, NB336_422.out, NB422_336.out, NB337_422.out, NB422_337.out, NB359_422.out, NB422_359.out, NB364_422.out, NB422_364.out, NB369_422.out, NB422_369.out, NB381_422.out, NB422_381.out, (lw_ HB)⟩)
                ·skip
                 refine box_step ?hg (N := 15) ?hd (cs := #[.int .i64 0, .slice none 0 0, .slice none 0 0, .slice none 0 0]) (t := 48) ?hr ?_; (case hd => rfl); (case hg => rfl); (case hr => first | (go_simp; done) | (go_simp; rfl))
                 intro gb422 hg w160 hbox hb
                 have BK422 := am_ (hbox); have GW422 := am_ ((by rw [hg]; exact (below_size (lw_ HB)) : w.heap.size ≤ gb422)); have GE422 := am_ ((by rw [hg]; exact (below_size (lw_ HB)) : w.heap.size ≤ gb422)); have NB336_422 := am_ ((by rw [hg]; exact Nat.ne_of_lt (blk_lt (g := gb336) (lb_ BK336)) : gb336 ≠ gb422)); have NB422_336 := am_ ((by rw [hg]; exact Nat.ne_of_gt (blk_lt (g := gb336) (lb_ BK336)) : gb422 ≠ gb336)); have NB337_422 := am_ ((by rw [hg]; exact Nat.ne_of_lt (blk_lt (g := gb337) (lb_ BK337)) : gb337 ≠ gb422)); have NB422_337 := am_ ((by rw [hg]; exact Nat.ne_of_gt (blk_lt (g := gb337) (lb_ BK337)) : gb422 ≠ gb337)); have NB359_422 := am_ ((by rw [hg]; exact Nat.ne_of_lt (blk_lt (g := gb359) (lb_ BK359)) : gb359 ≠ gb422)); have NB422_359 := am_ ((by rw [hg]; exact Nat.ne_of_gt (blk_lt (g := gb359) (lb_ BK359)) : gb422 ≠ gb359)); have NB364_422 := am_ ((by rw [hg]; exact Nat.ne_of_lt (blk_lt (g := gb364) (lb_ BK364)) : gb364 ≠ gb422)); have NB422_364 := am_ ((by rw [hg]; exact Nat.ne_of_gt (blk_lt (g := gb364) (lb_ BK364)) : gb422 ≠ gb364)); have NB369_422 := am_ ((by rw [hg]; exact Nat.ne_of_lt (blk_lt (g := gb369) (lb_ BK369)) : gb369 ≠ gb422)); have NB422_369 := am_ ((by rw [hg]; exact Nat.ne_of_gt (blk_lt (g := gb369) (lb_ BK369)) : gb422 ≠ gb369)); have NB381_422 := am_ ((by rw [hg]; exact Nat.ne_of_lt (blk_lt (g := gb381) (lb_ BK381)) : gb381 ≠ gb422)); have NB422_381 := am_ ((by rw [hg]; exact Nat.ne_of_gt (blk_lt (g := gb381) (lb_ BK381)) : gb422 ≠ gb381)); replace HO_360001 := am_ (Kd.R_below (lf_ HO_360001) hb); replace HO_360002 := am_ (Kd.R_below (lf_ HO_360002) hb); replace HO_360003 := am_ (Kd.R_below (lf_ HO_360003) hb); replace HO_365001 := am_ (Kd.R_below (lf_ HO_365001) hb); replace HO_370001 := am_ (Kd.R_below (lf_ HO_370001) hb); replace HO_382001 := am_ (Kd.R_below (lf_ HO_382001) hb); replace HO_382002 := am_ (Kd.R_below (lf_ HO_382002) hb); replace HO_382003 := am_ (Kd.R_below (lf_ HO_382003) hb); replace HO406 := am_ (Kd.R_below (lf_ HO406) hb); replace HO410 := am_ (Kd.R_below (lf_ HO410) hb); replace BK336 := am_ (blk_below (g := gb336) (lb_ BK336) hb); replace BK337 := am_ (blk_below (g := gb337) (lb_ BK337) hb); replace BK359 := am_ (blk_below (g := gb359) (lb_ BK359) hb); replace BK364 := am_ (blk_below (g := gb364) (lb_ BK364) hb); replace BK369 := am_ (blk_below (g := gb369) (lb_ BK369) hb); replace BK381 := am_ (blk_below (g := gb381) (lb_ BK381) hb); replace HB := am_ (below_step (lw_ HB) hb)
                 clear hb hbox hg
                 obtain ⟨Ao161, co161, eo161⟩ := Kd.R_slice HO406.out
                 (first | subst eo161 | (injection eo161 with f1_ f2_ f3_; have f4_ := f1_.symm; have f5_ := f3_.symm; clear f1_ f2_ f3_; subst f4_; subst f5_))
                 obtain ⟨Ao162, co162, eo162⟩ := Kd.R_slice HO410.out
                 (first | subst eo162 | (injection eo162 with f1_ f2_ f3_; have f4_ := f1_.symm; have f5_ := f3_.symm; clear f1_ f2_ f3_; subst f4_; subst f5_))
                 refine hK.out _ _ ⟨(blk_cell BK336.out 0).trans rfl, (blk_cell BK336.out 1).trans rfl, (blk_cell BK337.out 0).trans rfl, (blk_cell BK337.out 1).trans rfl⟩ (fun hHeld => ?_)
                 clear hK K
                 refine norm_ (a' := ?_) ?_ ?_
                 rotate_left
                 ·show Act.put _ (some 15) _ = _
                  simp only [Act.put, List.setIfInBounds_toArray, List.set_cons_zero, List.set_cons_succ, i64_w, i32_w]
                  rfl
                 refine one_ (i := 4) (N := some 99) #[true, true, true, true, true, false, false, false, true, false, false] rfl rfl (one_of HT_.out (by kernel_rfl)) (by decide) (fun K hK => ?_)
                 refine goes_ Try.func44 (by kernel_rfl) rfl #[.agg #[.int .i64 t403, .slice Ao161 t404.length co161], .agg #[.int .i64 t407, .slice Ao162 t408.length co162]] (by rfl) rfl rfl lm_ ?_
                 with_reducible refine (impl_UnpackDirectory.calls kj101 t403 _ _ t404 t407 _ _ t408 t411 t412 t415 t418 t421 _ ?side1 ?side2 ?side3 ?side4 A146.out).mono ?_
                 (case side1 => exact lc_ (Kd.R_reads' HO406.out).2.2)
                 (case side2 => exact (Kd.R_reads' HO406.out).2.1)
                 (case side3 => exact lc_ (Kd.R_reads' HO410.out).2.2)
                 (case side4 => exact (Kd.R_reads' HO410.out).2.1)
                 rintro e w163 ⟨v413, v416, v419, rfl, ho0, ho1, ho2, hb⟩
                 refine ⟨_, rfl, ?_⟩
                 have HO414 := am_ (Kd.R_lower (nw_ (nw_ (nw_ (nw_ (nw_ (nw_ (nw_ (nw_ (nw_ (nw_ ho0 HO_360001) HO_360002) HO_360003) HO_365001) HO_370001) HO_382001) HO_382002) HO_382003) HO406) HO410) (below_size (lw_ HB))); have HO417 := am_ (Kd.R_lower (nw_ (nw_ (nw_ (nw_ (nw_ (nw_ (nw_ (nw_ (nw_ (nw_ ho1 HO_360001) HO_360002) HO_360003) HO_365001) HO_370001) HO_382001) HO_382002) HO_382003) HO406) HO410) (below_size (lw_ HB))); have HO420 := am_ (Kd.R_lower (nw_ (nw_ (nw_ (nw_ (nw_ (nw_ (nw_ (nw_ (nw_ (nw_ ho2 HO_360001) HO_360002) HO_360003) HO_365001) HO_370001) HO_382001) HO_382002) HO_382003) HO406) HO410) (below_size (lw_ HB))); replace HO_360001 := am_ (m1_ (td_ (td_ (td_ (Kd.R_old (lf_ HO_360001) hb) ho0) ho1) ho2)); replace HO_360002 := am_ (m1_ (td_ (td_ (td_ (Kd.R_old (lf_ HO_360002) hb) ho0) ho1) ho2)); replace HO_360003 := am_ (m1_ (td_ (td_ (td_ (Kd.R_old (lf_ HO_360003) hb) ho0) ho1) ho2)); replace HO_365001 := am_ (m1_ (td_ (td_ (td_ (Kd.R_old (lf_ HO_365001) hb) ho0) ho1) ho2)); replace HO_370001 := am_ (m1_ (td_ (td_ (td_ (Kd.R_old (lf_ HO_370001) hb) ho0) ho1) ho2)); replace HO_382001 := am_ (m1_ (td_ (td_ (td_ (Kd.R_old (lf_ HO_382001) hb) ho0) ho1) ho2)); replace HO_382002 := am_ (m1_ (td_ (td_ (td_ (Kd.R_old (lf_ HO_382002) hb) ho0) ho1) ho2)); replace HO_382003 := am_ (m1_ (td_ (td_ (td_ (Kd.R_old (lf_ HO_382003) hb) ho0) ho1) ho2)); replace HO406 := am_ (m1_ (td_ (td_ (td_ (Kd.R_old (lf_ HO406) hb) ho0) ho1) ho2)); replace HO410 := am_ (m1_ (td_ (td_ (td_ (Kd.R_old (lf_ HO410) hb) ho0) ho1) ho2)); replace BK336 := am_ (blk_below (g := gb336) (lb_ BK336) hb); replace BK337 := am_ (blk_below (g := gb337) (lb_ BK337) hb); replace BK359 := am_ (blk_below (g := gb359) (lb_ BK359) hb); replace BK364 := am_ (blk_below (g := gb364) (lb_ BK364) hb); replace BK369 := am_ (blk_below (g := gb369) (lb_ BK369) hb); replace BK381 := am_ (blk_below (g := gb381) (lb_ BK381) hb); replace BK422 := am_ (blk_below (g := gb422) (lb_ BK422) hb); replace HB := am_ (below_step (lw_ HB) hb)
                 (try clear hb)
                 (try clear hb2)
                 (try clear hk)
                 (try clear hi)
                 (try clear ho0)
                 (try clear ho1)
                 (try clear ho2)
                 refine hK.out _ _ ⟨(blk_cell BK336.out 0).trans rfl, (blk_cell BK336.out 1).trans rfl, (blk_cell BK337.out 0).trans rfl, (blk_cell BK337.out 1).trans rfl⟩ (fun hHeld => ?_)
                 clear hK K
                 refine norm_ (a' := ?_) ?_ ?_
                 rotate_left
                 ·show Act.put _ (some 99) _ = _
                  simp only [Act.put, List.setIfInBounds_toArray, List.set_cons_zero, List.set_cons_succ, i64_w, i32_w]
                  rfl
                 refine pure_ (i := 5) (N := some 94) (v := ?_) (a' := ?_) #[true, true, true, true, true, true, false, false, true, false, false] rfl rfl (any_of HT_.out (by kernel_rfl)) (fun _ _ _ h => h) (Or.inl ⟨by rfl, ?_⟩) ?_ ?_
                 rotate_left
                 ·intro w'
                  go_simp
                  with_reducible rfl
                 rotate_left
                 ·simp only [Act.put, List.setIfInBounds_toArray, List.set_cons_zero, List.set_cons_succ, i64_w, i32_w]
                  rfl
                 refine pure_ (i := 6) (N := some 100) (v := ?_) (a' := ?_) #[true, true, true, true, true, true, true, false, true, false, false] rfl rfl (any_of HT_.out (by kernel_rfl)) (fun _ _ _ h => h) (Or.inl ⟨by rfl, ?_⟩) ?_ ?_
                 rotate_left
                 ·intro w'
                  go_simp
                  with_reducible rfl
                 rotate_left
                 ·simp only [Act.put, List.setIfInBounds_toArray, List.set_cons_zero, List.set_cons_succ, i64_w, i32_w]
                  rfl
                 refine pure_ (i := 7) (N := some 101) (v := ?_) (a' := ?_) #[true, true, true, true, true, true, true, true, true, false, false] rfl rfl (any_of HT_.out (by kernel_rfl)) (fun _ _ _ h => h) (Or.inl ⟨by rfl, ?_⟩) ?_ ?_
                 rotate_left
                 ·intro w'
                  go_simp
                  with_reducible rfl
                 rotate_left
                 ·simp only [Act.put, List.setIfInBounds_toArray, List.set_cons_zero, List.set_cons_succ, i64_w, i32_w]
                  rfl
                 exact norm_ (by simp only [putAll, Act.put, List.setIfInBounds_toArray, List.set_cons_zero, List.set_cons_succ]) (hCont (.slice Ao161 t404.length co161, .slice Ao162 t408.length co162, v413, v416, v419, gb422) _ ⟨hHeld, (lo_ HO406), (lo_ HO410), (lo_ HO414), (lo_ HO417), (lo_ HO420), (lo_ HO_360001), (lo_ HO_360002), (lo_ HO_360003), (lo_ HO_365001), (lo_ HO_370001), (lo_ HO_382001), (lo_ HO_382002), (lo_ HO_382003), (lb_ BK336), (lb_ BK337), (lb_ BK359), (lb_ BK364), (lb_ BK369), (lb_ BK381), (lb_ BK422), GW422.out, GE422.out, NB336_422.out, NB422_336.out, NB337_422.out, NB422_337.out, NB359_422.out, NB422_359.out, NB364_422.out, NB422_364.out, NB369_422.out, NB422_369.out, NB381_422.out, NB422_381.out, (lw_ HB)⟩)
               ·skip
                refine box_step ?hg (N := 15) ?hd (cs := #[.int .i64 0, .slice none 0 0, .slice none 0 0, .slice none 0 0]) (t := 48) ?hr ?_; (case hd => rfl); (case hg => rfl); (case hr => first | (go_simp; done) | (go_simp; rfl))
                intro gb422 hg w159 hbox hb
                have BK422 := am_ (hbox); have GW422 := am_ ((by rw [hg]; exact (below_size (lw_ HB)) : w.heap.size ≤ gb422)); have GE422 := am_ ((by rw [hg]; exact (below_size (lw_ HB)) : w.heap.size ≤ gb422)); have NB336_422 := am_ ((by rw [hg]; exact Nat.ne_of_lt (blk_lt (g := gb336) (lb_ BK336)) : gb336 ≠ gb422)); have NB422_336 := am_ ((by rw [hg]; exact Nat.ne_of_gt (blk_lt (g := gb336) (lb_ BK336)) : gb422 ≠ gb336)); have NB337_422 := am_ ((by rw [hg]; exact Nat.ne_of_lt (blk_lt (g := gb337) (lb_ BK337)) : gb337 ≠ gb422)); have NB422_337 := am_ ((by rw [hg]; exact Nat.ne_of_gt (blk_lt (g := gb337) (lb_ BK337)) : gb422 ≠ gb337)); have NB359_422 := am_ ((by rw [hg]; exact Nat.ne_of_lt (blk_lt (g := gb359) (lb_ BK359)) : gb359 ≠ gb422)); have NB422_359 := am_ ((by rw [hg]; exact Nat.ne_of_gt (blk_lt (g := gb359) (lb_ BK359)) : gb422 ≠ gb359)); have NB364_422 := am_ ((by rw [hg]; exact Nat.ne_of_lt (blk_lt (g := gb364) (lb_ BK364)) : gb364 ≠ gb422)); have NB422_364 := am_ ((by rw [hg]; exact Nat.ne_of_gt (blk_lt (g := gb364) (lb_ BK364)) : gb422 ≠ gb364)); have NB369_422 := am_ ((by rw [hg]; exact Nat.ne_of_lt (blk_lt (g := gb369) (lb_ BK369)) : gb369 ≠ gb422)); have NB422_369 := am_ ((by rw [hg]; exact Nat.ne_of_gt (blk_lt (g := gb369) (lb_ BK369)) : gb422 ≠ gb369)); have NB381_422 := am_ ((by rw [hg]; exact Nat.ne_of_lt (blk_lt (g := gb381) (lb_ BK381)) : gb381 ≠ gb422)); have NB422_381 := am_ ((by rw [hg]; exact Nat.ne_of_gt (blk_lt (g := gb381) (lb_ BK381)) : gb422 ≠ gb381)); replace HO_360001 := am_ (Kd.R_below (lf_ HO_360001) hb); replace HO_360002 := am_ (Kd.R_below (lf_ HO_360002) hb); replace HO_360003 := am_ (Kd.R_below (lf_ HO_360003) hb); replace HO_365001 := am_ (Kd.R_below (lf_ HO_365001) hb); replace HO_370001 := am_ (Kd.R_below (lf_ HO_370001) hb); replace HO_382001 := am_ (Kd.R_below (lf_ HO_382001) hb); replace HO_382002 := am_ (Kd.R_below (lf_ HO_382002) hb); replace HO_382003 := am_ (Kd.R_below (lf_ HO_382003) hb); replace HO406 := am_ (Kd.R_below (lf_ HO406) hb); replace BK336 := am_ (blk_below (g := gb336) (lb_ BK336) hb); replace BK337 := am_ (blk_below (g := gb337) (lb_ BK337) hb); replace BK359 := am_ (blk_below (g := gb359) (lb_ BK359) hb); replace BK364 := am_ (blk_below (g := gb364) (lb_ BK364) hb); replace BK369 := am_ (blk_below (g := gb369) (lb_ BK369) hb); replace BK381 := am_ (blk_below (g := gb381) (lb_ BK381) hb); replace HB := am_ (below_step (lw_ HB) hb)
                clear hb hbox hg
                refine hK.out _ _ ⟨(blk_cell BK336.out 0).trans rfl, (blk_cell BK336.out 1).trans rfl, (blk_cell BK337.out 0).trans rfl, (blk_cell BK337.out 1).trans rfl⟩ (fun hHeld => ?_)
                clear hK K
                refine norm_ (a' := ?_) ?_ ?_
                rotate_left
                ·show Act.put _ (some 15) _ = _
                 simp only [Act.put, List.setIfInBounds_toArray, List.set_cons_zero, List.set_cons_succ, i64_w, i32_w]
                 rfl
                refine one_ (i := 3) (N := some 98) #[true, true, true, true, false, false, false, false, true, false, false] rfl rfl (one_of HT_.out (by kernel_rfl)) (by decide) (fun K hK => ?_)
                refine goes_ Try.func18 (by kernel_rfl) rfl #[.agg #[.int .i64 a1_0, .slice A1_1 l1_1.length c1_1]] (by rfl) rfl rfl lm_ ?_
                with_reducible refine (laws_toBits.calls kj101 a1_0 _ _ l1_1 t407 t408 _ ?side1 ?side2 A145.out).mono ?_
                (case side1 => exact lc_ (Kd.C_below HR1_1.out HB.out))
                (case side2 => exact HC1_1.out)
                rintro e w160 ⟨v409, rfl, ho0, hb⟩
                refine ⟨_, rfl, ?_⟩
                have HO410 := am_ (Kd.R_lower (nw_ (nw_ (nw_ (nw_ (nw_ (nw_ (nw_ (nw_ (nw_ ho0 HO_360001) HO_360002) HO_360003) HO_365001) HO_370001) HO_382001) HO_382002) HO_382003) HO406) (below_size (lw_ HB))); replace HO_360001 := am_ (Kd.R_elder' (lf_ HO_360001) (Kd.R_base ho0) hb); replace HO_360002 := am_ (Kd.R_elder' (lf_ HO_360002) (Kd.R_base ho0) hb); replace HO_360003 := am_ (Kd.R_elder' (lf_ HO_360003) (Kd.R_base ho0) hb); replace HO_365001 := am_ (Kd.R_elder' (lf_ HO_365001) (Kd.R_base ho0) hb); replace HO_370001 := am_ (Kd.R_elder' (lf_ HO_370001) (Kd.R_base ho0) hb); replace HO_382001 := am_ (Kd.R_elder' (lf_ HO_382001) (Kd.R_base ho0) hb); replace HO_382002 := am_ (Kd.R_elder' (lf_ HO_382002) (Kd.R_base ho0) hb); replace HO_382003 := am_ (Kd.R_elder' (lf_ HO_382003) (Kd.R_base ho0) hb); replace HO406 := am_ (Kd.R_elder' (lf_ HO406) (Kd.R_base ho0) hb); replace BK336 := am_ (blk_below (g := gb336) (lb_ BK336) hb); replace BK337 := am_ (blk_below (g := gb337) (lb_ BK337) hb); replace BK359 := am_ (blk_below (g := gb359) (lb_ BK359) hb); replace BK364 := am_ (blk_below (g := gb364) (lb_ BK364) hb); replace BK369 := am_ (blk_below (g := gb369) (lb_ BK369) hb); replace BK381 := am_ (blk_below (g := gb381) (lb_ BK381) hb); replace BK422 := am_ (blk_below (g := gb422) (lb_ BK422) hb); replace HB := am_ (below_step (lw_ HB) hb)
                (try clear hb)
                (try clear hb2)
                (try clear hk)
                (try clear hi)
                (try clear ho0)
                obtain ⟨Ao161, co161, eo161⟩ := Kd.R_slice HO406.out
                (first | subst eo161 | (injection eo161 with f1_ f2_ f3_; have f4_ := f1_.symm; have f5_ := f3_.symm; clear f1_ f2_ f3_; subst f4_; subst f5_))
                obtain ⟨Ao162, co162, eo162⟩ := Kd.R_slice HO410.out
                (first | subst eo162 | (injection eo162 with f1_ f2_ f3_; have f4_ := f1_.symm; have f5_ := f3_.symm; clear f1_ f2_ f3_; subst f4_; subst f5_))
                refine hK.out _ _ ⟨(blk_cell BK336.out 0).trans rfl, (blk_cell BK336.out 1).trans rfl, (blk_cell BK337.out 0).trans rfl, (blk_cell BK337.out 1).trans rfl⟩ (fun hHeld => ?_)
                clear hK K
                refine norm_ (a' := ?_) ?_ ?_
                rotate_left
                ·show Act.put _ (some 98) _ = _
                 simp only [Act.put, List.setIfInBounds_toArray, List.set_cons_zero, List.set_cons_succ, i64_w, i32_w]
                 rfl
                refine one_ (i := 4) (N := some 99) #[true, true, true, true, true, false, false, false, true, false, false] rfl rfl (one_of HT_.out (by kernel_rfl)) (by decide) (fun K hK => ?_)
                refine goes_ Try.func44 (by kernel_rfl) rfl #[.agg #[.int .i64 t403, .slice Ao161 t404.length co161], .agg #[.int .i64 t407, .slice Ao162 t408.length co162]] (by rfl) rfl rfl lm_ ?_
                with_reducible refine (impl_UnpackDirectory.calls kj101 t403 _ _ t404 t407 _ _ t408 t411 t412 t415 t418 t421 _ ?side1 ?side2 ?side3 ?side4 A146.out).mono ?_
                (case side1 => exact lc_ (Kd.R_reads' HO406.out).2.2)
                (case side2 => exact (Kd.R_reads' HO406.out).2.1)
                (case side3 => exact lc_ (Kd.R_reads' HO410.out).2.2)
                (case side4 => exact (Kd.R_reads' HO410.out).2.1)
                rintro e w163 ⟨v413, v416, v419, rfl, ho0, ho1, ho2, hb⟩
                refine ⟨_, rfl, ?_⟩
                have HO414 := am_ (Kd.R_lower (nw_ (nw_ (nw_ (nw_ (nw_ (nw_ (nw_ (nw_ (nw_ (nw_ ho0 HO_360001) HO_360002) HO_360003) HO_365001) HO_370001) HO_382001) HO_382002) HO_382003) HO406) HO410) (below_size (lw_ HB))); have HO417 := am_ (Kd.R_lower (nw_ (nw_ (nw_ (nw_ (nw_ (nw_ (nw_ (nw_ (nw_ (nw_ ho1 HO_360001) HO_360002) HO_360003) HO_365001) HO_370001) HO_382001) HO_382002) HO_382003) HO406) HO410) (below_size (lw_ HB))); have HO420 := am_ (Kd.R_lower (nw_ (nw_ (nw_ (nw_ (nw_ (nw_ (nw_ (nw_ (nw_ (nw_ ho2 HO_360001) HO_360002) HO_360003) HO_365001) HO_370001) HO_382001) HO_382002) HO_382003) HO406) HO410) (below_size (lw_ HB))); replace HO_360001 := am_ (m1_ (td_ (td_ (td_ (Kd.R_old (lf_ HO_360001) hb) ho0) ho1) ho2)); replace HO_360002 := am_ (m1_ (td_ (td_ (td_ (Kd.R_old (lf_ HO_360002) hb) ho0) ho1) ho2)); replace HO_360003 := am_ (m1_ (td_ (td_ (td_ (Kd.R_old (lf_ HO_360003) hb) ho0) ho1) ho2)); replace HO_365001 := am_ (m1_ (td_ (td_ (td_ (Kd.R_old (lf_ HO_365001) hb) ho0) ho1) ho2)); replace HO_370001 := am_ (m1_ (td_ (td_ (td_ (Kd.R_old (lf_ HO_370001) hb) ho0) ho1) ho2)); replace HO_382001 := am_ (m1_ (td_ (td_ (td_ (Kd.R_old (lf_ HO_382001) hb) ho0) ho1) ho2)); replace HO_382002 := am_ (m1_ (td_ (td_ (td_ (Kd.R_old (lf_ HO_382002) hb) ho0) ho1) ho2)); replace HO_382003 := am_ (m1_ (td_ (td_ (td_ (Kd.R_old (lf_ HO_382003) hb) ho0) ho1) ho2)); replace HO406 := am_ (m1_ (td_ (td_ (td_ (Kd.R_old (lf_ HO406) hb) ho0) ho1) ho2)); replace HO410 := am_ (m1_ (td_ (td_ (td_ (Kd.R_old (lf_ HO410) hb) ho0) ho1) ho2)); replace BK336 := am_ (blk_below (g := gb336) (lb_ BK336) hb); replace BK337 := am_ (blk_below (g := gb337) (lb_ BK337) hb); replace BK359 := am_ (blk_below (g := gb359) (lb_ BK359) hb); replace BK364 := am_ (blk_below (g := gb364) (lb_ BK364) hb); replace BK369 := am_ (blk_below (g := gb369) (lb_ BK369) hb); replace BK381 := am_ (blk_below (g := gb381) (lb_ BK381) hb); replace BK422 := am_ (blk_below (g := gb422) (lb_ BK422) hb); replace HB := am_ (below_step (lw_ HB) hb)
                (try clear hb)
                (try clear hb2)
                (try clear hk)
                (try clear hi)
                (try clear ho0)
                (try clear ho1)
                (try clear ho2)
                refine hK.out _ _ ⟨(blk_cell BK336.out 0).trans rfl, (blk_cell BK336.out 1).trans rfl, (blk_cell BK337.out 0).trans rfl, (blk_cell BK337.out 1).trans rfl⟩ (fun hHeld => ?_)
                clear hK K
                refine norm_ (a' := ?_) ?_ ?_
                rotate_left
                ·show Act.put _ (some 99) _ = _
                 simp only [Act.put, List.setIfInBounds_toArray, List.set_cons_zero, List.set_cons_succ, i64_w, i32_w]
                 rfl
                refine pure_ (i := 5) (N := some 94) (v := ?_) (a' := ?_) #[true, true, true, true, true, true, false, false, true, false, false] rfl rfl (any_of HT_.out (by kernel_rfl)) (fun _ _ _ h => h) (Or.inl ⟨by rfl, ?_⟩) ?_ ?_
                rotate_left
                ·intro w'
                 go_simp
                 with_reducible rfl
                rotate_left
                ·simp only [Act.put, List.setIfInBounds_toArray, List.set_cons_zero, List.set_cons_succ, i64_w, i32_w]
                 rfl
                refine pure_ (i := 6) (N := some 100) (v := ?_) (a' := ?_) #[true, true, true, true, true, true, true, false, true, false, false] rfl rfl (any_of HT_.out (by kernel_rfl)) (fun _ _ _ h => h) (Or.inl ⟨by rfl, ?_⟩) ?_ ?_
                rotate_left
                ·intro w'
                 go_simp
                 with_reducible rfl
                rotate_left
                ·simp only [Act.put, List.setIfInBounds_toArray, List.set_cons_zero, List.set_cons_succ, i64_w, i32_w]
                 rfl
                refine pure_ (i := 7) (N := some 101) (v := ?_) (a' := ?_) #[true, true, true, true, true, true, true, true, true, false, false] rfl rfl (any_of HT_.out (by kernel_rfl)) (fun _ _ _ h => h) (Or.inl ⟨by rfl, ?_⟩) ?_ ?_
                rotate_left
                ·intro w'
                 go_simp
                 with_reducible rfl
                rotate_left
                ·simp only [Act.put, List.setIfInBounds_toArray, List.set_cons_zero, List.set_cons_succ, i64_w, i32_w]
                 rfl
                exact norm_ (by simp only [putAll, Act.put, List.setIfInBounds_toArray, List.set_cons_zero, List.set_cons_succ]) (hCont (.slice Ao161 t404.length co161, .slice Ao162 t408.length co162, v413, v416, v419, gb422) _ ⟨hHeld, (lo_ HO406), (lo_ HO410), (lo_ HO414), (lo_ HO417), (lo_ HO420), (lo_ HO_360001), (lo_ HO_360002), (lo_ HO_360003), (lo_ HO_365001), (lo_ HO_370001), (lo_ HO_382001), (lo_ HO_382002), (lo_ HO_382003), (lb_ BK336), (lb_ BK337), (lb_ BK359), (lb_ BK364), (lb_ BK369), (lb_ BK381), (lb_ BK422), GW422.out, GE422.out, NB336_422.out, NB422_336.out, NB337_422.out, NB422_337.out, NB359_422.out, NB422_359.out, NB364_422.out, NB422_364.out, NB369_422.out, NB422_369.out, NB381_422.out, NB422_381.out, (lw_ HB)⟩)
              ·skip
               refine box_step ?hg (N := 15) ?hd (cs := #[.int .i64 0, .slice none 0 0, .slice none 0 0, .slice none 0 0]) (t := 48) ?hr ?_; (case hd => rfl); (case hg => rfl); (case hr => first | (go_simp; done) | (go_simp; rfl))
               intro gb422 hg w158 hbox hb
               have BK422 := am_ (hbox); have GW422 := am_ ((by rw [hg]; exact (below_size (lw_ HB)) : w.heap.size ≤ gb422)); have GE422 := am_ ((by rw [hg]; exact (below_size (lw_ HB)) : w.heap.size ≤ gb422)); have NB336_422 := am_ ((by rw [hg]; exact Nat.ne_of_lt (blk_lt (g := gb336) (lb_ BK336)) : gb336 ≠ gb422)); have NB422_336 := am_ ((by rw [hg]; exact Nat.ne_of_gt (blk_lt (g := gb336) (lb_ BK336)) : gb422 ≠ gb336)); have NB337_422 := am_ ((by rw [hg]; exact Nat.ne_of_lt (blk_lt (g := gb337) (lb_ BK337)) : gb337 ≠ gb422)); have NB422_337 := am_ ((by rw [hg]; exact Nat.ne_of_gt (blk_lt (g := gb337) (lb_ BK337)) : gb422 ≠ gb337)); have NB359_422 := am_ ((by rw [hg]; exact Nat.ne_of_lt (blk_lt (g := gb359) (lb_ BK359)) : gb359 ≠ gb422)); have NB422_359 := am_ ((by rw [hg]; exact Nat.ne_of_gt (blk_lt (g := gb359) (lb_ BK359)) : gb422 ≠ gb359)); have NB364_422 := am_ ((by rw [hg]; exact Nat.ne_of_lt (blk_lt (g := gb364) (lb_ BK364)) : gb364 ≠ gb422)); have NB422_364 := am_ ((by rw [hg]; exact Nat.ne_of_gt (blk_lt (g := gb364) (lb_ BK364)) : gb422 ≠ gb364)); have NB369_422 := am_ ((by rw [hg]; exact Nat.ne_of_lt (blk_lt (g := gb369) (lb_ BK369)) : gb369 ≠ gb422)); have NB422_369 := am_ ((by rw [hg]; exact Nat.ne_of_gt (blk_lt (g := gb369) (lb_ BK369)) : gb422 ≠ gb369)); have NB381_422 := am_ ((by rw [hg]; exact Nat.ne_of_lt (blk_lt (g := gb381) (lb_ BK381)) : gb381 ≠ gb422)); have NB422_381 := am_ ((by rw [hg]; exact Nat.ne_of_gt (blk_lt (g := gb381) (lb_ BK381)) : gb422 ≠ gb381)); replace HO_360001 := am_ (Kd.R_below (lf_ HO_360001) hb); replace HO_360002 := am_ (Kd.R_below (lf_ HO_360002) hb); replace HO_360003 := am_ (Kd.R_below (lf_ HO_360003) hb); replace HO_365001 := am_ (Kd.R_below (lf_ HO_365001) hb); replace HO_370001 := am_ (Kd.R_below (lf_ HO_370001) hb); replace HO_382001 := am_ (Kd.R_below (lf_ HO_382001) hb); replace HO_382002 := am_ (Kd.R_below (lf_ HO_382002) hb); replace HO_382003 := am_ (Kd.R_below (lf_ HO_382003) hb); replace BK336 := am_ (blk_below (g := gb336) (lb_ BK336) hb); replace BK337 := am_ (blk_below (g := gb337) (lb_ BK337) hb); replace BK359 := am_ (blk_below (g := gb359) (lb_ BK359) hb); replace BK364 := am_ (blk_below (g := gb364) (lb_ BK364) hb); replace BK369 := am_ (blk_below (g := gb369) (lb_ BK369) hb); replace BK381 := am_ (blk_below (g := gb381) (lb_ BK381) hb); replace HB := am_ (below_step (lw_ HB) hb)
               clear hb hbox hg
               refine hK.out _ _ ⟨(blk_cell BK336.out 0).trans rfl, (blk_cell BK336.out 1).trans rfl, (blk_cell BK337.out 0).trans rfl, (blk_cell BK337.out 1).trans rfl⟩ (fun hHeld => ?_)
               clear hK K
               refine norm_ (a' := ?_) ?_ ?_
               rotate_left
               ·show Act.put _ (some 15) _ = _
                simp only [Act.put, List.setIfInBounds_toArray, List.set_cons_zero, List.set_cons_succ, i64_w, i32_w]
                rfl
               refine one_ (i := 1) (N := some 96) #[true, true, true, false, false, false, false, false, true, false, false] rfl rfl (one_of HT_.out (by kernel_rfl)) (by decide) (fun K hK => ?_)
               refine goes_ Try.func18 (by kernel_rfl) rfl #[.agg #[.int .i64 a0_0, .slice A0_1 l0_1.length c0_1]] (by rfl) rfl rfl lm_ ?_
               with_reducible refine (laws_toBits.calls kj101 a0_0 _ _ l0_1 t403 t404 _ ?side1 ?side2 A144.out).mono ?_
               (case side1 => exact lc_ (Kd.C_below HR0_1.out HB.out))
               (case side2 => exact HC0_1.out)
               rintro e w159 ⟨v405, rfl, ho0, hb⟩
               refine ⟨_, rfl, ?_⟩
               have HO406 := am_ (Kd.R_lower (nw_ (nw_ (nw_ (nw_ (nw_ (nw_ (nw_ (nw_ ho0 HO_360001) HO_360002) HO_360003) HO_365001) HO_370001) HO_382001) HO_382002) HO_382003) (below_size (lw_ HB))); replace HO_360001 := am_ (Kd.R_elder' (lf_ HO_360001) (Kd.R_base ho0) hb); replace HO_360002 := am_ (Kd.R_elder' (lf_ HO_360002) (Kd.R_base ho0) hb); replace HO_360003 := am_ (Kd.R_elder' (lf_ HO_360003) (Kd.R_base ho0) hb); replace HO_365001 := am_ (Kd.R_elder' (lf_ HO_365001) (Kd.R_base ho0) hb); replace HO_370001 := am_ (Kd.R_elder' (lf_ HO_370001) (Kd.R_base ho0) hb); replace HO_382001 := am_ (Kd.R_elder' (lf_ HO_382001) (Kd.R_base ho0) hb); replace HO_382002 := am_ (Kd.R_elder' (lf_ HO_382002) (Kd.R_base ho0) hb); replace HO_382003 := am_ (Kd.R_elder' (lf_ HO_382003) (Kd.R_base ho0) hb); replace BK336 := am_ (blk_below (g := gb336) (lb_ BK336) hb); replace BK337 := am_ (blk_below (g := gb337) (lb_ BK337) hb); replace BK359 := am_ (blk_below (g := gb359) (lb_ BK359) hb); replace BK364 := am_ (blk_below (g := gb364) (lb_ BK364) hb); replace BK369 := am_ (blk_below (g := gb369) (lb_ BK369) hb); replace BK381 := am_ (blk_below (g := gb381) (lb_ BK381) hb); replace BK422 := am_ (blk_below (g := gb422) (lb_ BK422) hb); replace HB := am_ (below_step (lw_ HB) hb)
               (try clear hb)
               (try clear hb2)
               (try clear hk)
               (try clear hi)
               (try clear ho0)
               refine hK.out _ _ ⟨(blk_cell BK336.out 0).trans rfl, (blk_cell BK336.out 1).trans rfl, (blk_cell BK337.out 0).trans rfl, (blk_cell BK337.out 1).trans rfl⟩ (fun hHeld => ?_)
               clear hK K
               refine norm_ (a' := ?_) ?_ ?_
               rotate_left
               ·show Act.put _ (some 96) _ = _
                simp only [Act.put, List.setIfInBounds_toArray, List.set_cons_zero, List.set_cons_succ, i64_w, i32_w]
                rfl
               refine one_ (i := 3) (N := some 98) #[true, true, true, true, false, false, false, false, true, false, false] rfl rfl (one_of HT_.out (by kernel_rfl)) (by decide) (fun K hK => ?_)
               refine goes_ Try.func18 (by kernel_rfl) rfl #[.agg #[.int .i64 a1_0, .slice A1_1 l1_1.length c1_1]] (by rfl) rfl rfl lm_ ?_
               with_reducible refine (laws_toBits.calls kj101 a1_0 _ _ l1_1 t407 t408 _ ?side1 ?side2 A145.out).mono ?_
               (case side1 => exact lc_ (Kd.C_below HR1_1.out HB.out))
               (case side2 => exact HC1_1.out)
               rintro e w160 ⟨v409, rfl, ho0, hb⟩
               refine ⟨_, rfl, ?_⟩
               have HO410 := am_ (Kd.R_lower (nw_ (nw_ (nw_ (nw_ (nw_ (nw_ (nw_ (nw_ (nw_ ho0 HO_360001) HO_360002) HO_360003) HO_365001) HO_370001) HO_382001) HO_382002) HO_382003) HO406) (below_size (lw_ HB))); replace HO_360001 := am_ (Kd.R_elder' (lf_ HO_360001) (Kd.R_base ho0) hb); replace HO_360002 := am_ (Kd.R_elder' (lf_ HO_360002) (Kd.R_base ho0) hb); replace HO_360003 := am_ (Kd.R_elder' (lf_ HO_360003) (Kd.R_base ho0) hb); replace HO_365001 := am_ (Kd.R_elder' (lf_ HO_365001) (Kd.R_base ho0) hb); replace HO_370001 := am_ (Kd.R_elder' (lf_ HO_370001) (Kd.R_base ho0) hb); replace HO_382001 := am_ (Kd.R_elder' (lf_ HO_382001) (Kd.R_base ho0) hb); replace HO_382002 := am_ (Kd.R_elder' (lf_ HO_382002) (Kd.R_base ho0) hb); replace HO_382003 := am_ (Kd.R_elder' (lf_ HO_382003) (Kd.R_base ho0) hb); replace HO406 := am_ (Kd.R_elder' (lf_ HO406) (Kd.R_base ho0) hb); replace BK336 := am_ (blk_below (g := gb336) (lb_ BK336) hb); replace BK337 := am_ (blk_below (g := gb337) (lb_ BK337) hb); replace BK359 := am_ (blk_below (g := gb359) (lb_ BK359) hb); replace BK364 := am_ (blk_below (g := gb364) (lb_ BK364) hb); replace BK369 := am_ (blk_below (g := gb369) (lb_ BK369) hb); replace BK381 := am_ (blk_below (g := gb381) (lb_ BK381) hb); replace BK422 := am_ (blk_below (g := gb422) (lb_ BK422) hb); replace HB := am_ (below_step (lw_ HB) hb)
               (try clear hb)
               (try clear hb2)
               (try clear hk)
               (try clear hi)
               (try clear ho0)
               obtain ⟨Ao161, co161, eo161⟩ := Kd.R_slice HO406.out
               (first | subst eo161 | (injection eo161 with f1_ f2_ f3_; have f4_ := f1_.symm; have f5_ := f3_.symm; clear f1_ f2_ f3_; subst f4_; subst f5_))
               obtain ⟨Ao162, co162, eo162⟩ := Kd.R_slice HO410.out
               (first | subst eo162 | (injection eo162 with f1_ f2_ f3_; have f4_ := f1_.symm; have f5_ := f3_.symm; clear f1_ f2_ f3_; subst f4_; subst f5_))
               refine hK.out _ _ ⟨(blk_cell BK336.out 0).trans rfl, (blk_cell BK336.out 1).trans rfl, (blk_cell BK337.out 0).trans rfl, (blk_cell BK337.out 1).trans rfl⟩ (fun hHeld => ?_)
               clear hK K
               refine norm_ (a' := ?_) ?_ ?_
               rotate_left
               ·show Act.put _ (some 98) _ = _
                simp only [Act.put, List.setIfInBounds_toArray, List.set_cons_zero, List.set_cons_succ, i64_w, i32_w]
                rfl
               refine one_ (i := 4) (N := some 99) #[true, true, true, true, true, false, false, false, true, false, false] rfl rfl (one_of HT_.out (by kernel_rfl)) (by decide) (fun K hK => ?_)
               refine goes_ Try.func44 (by kernel_rfl) rfl #[.agg #[.int .i64 t403, .slice Ao161 t404.length co161], .agg #[.int .i64 t407, .slice Ao162 t408.length co162]] (by rfl) rfl rfl lm_ ?_
               with_reducible refine (impl_UnpackDirectory.calls kj101 t403 _ _ t404 t407 _ _ t408 t411 t412 t415 t418 t421 _ ?side1 ?side2 ?side3 ?side4 A146.out).mono ?_
               (case side1 => exact lc_ (Kd.R_reads' HO406.out).2.2)
               (case side2 => exact (Kd.R_reads' HO406.out).2.1)
               (case side3 => exact lc_ (Kd.R_reads' HO410.out).2.2)
               (case side4 => exact (Kd.R_reads' HO410.out).2.1)
               rintro e w163 ⟨v413, v416, v419, rfl, ho0, ho1, ho2, hb⟩
               refine ⟨_, rfl, ?_⟩
               have HO414 := am_ (Kd.R_lower (nw_ (nw_ (nw_ (nw_ (nw_ (nw_ (nw_ (nw_ (nw_ (nw_ ho0 HO_360001) HO_360002) HO_360003) HO_365001) HO_370001) HO_382001) HO_382002) HO_382003) HO406) HO410) (below_size (lw_ HB))); have HO417 := am_ (Kd.R_lower (nw_ (nw_ (nw_ (nw_ (nw_ (nw_ (nw_ (nw_ (nw_ (nw_ ho1 HO_360001) HO_360002) HO_360003) HO_365001) HO_370001) HO_382001) HO_382002) HO_382003) HO406) HO410) (below_size (lw_ HB))); have HO420 := am_ (Kd.R_lower (nw_ (nw_ (nw_ (nw_ (nw_ (nw_ (nw_ (nw_ (nw_ (nw_ ho2 HO_360001) HO_360002) HO_360003) HO_365001) HO_370001) HO_382001) HO_382002) HO_382003) HO406) HO410) (below_size (lw_ HB))); replace HO_360001 := am_ (m1_ (td_ (td_ (td_ (Kd.R_old (lf_ HO_360001) hb) ho0) ho1) ho2)); replace HO_360002 := am_ (m1_ (td_ (td_ (td_ (Kd.R_old (lf_ HO_360002) hb) ho0) ho1) ho2)); replace HO_360003 := am_ (m1_ (td_ (td_ (td_ (Kd.R_old (lf_ HO_360003) hb) ho0) ho1) ho2)); replace HO_365001 := am_ (m1_ (td_ (td_ (td_ (Kd.R_old (lf_ HO_365001) hb) ho0) ho1) ho2)); replace HO_370001 := am_ (m1_ (td_ (td_ (td_ (Kd.R_old (lf_ HO_370001) hb) ho0) ho1) ho2)); replace HO_382001 := am_ (m1_ (td_ (td_ (td_ (Kd.R_old (lf_ HO_382001) hb) ho0) ho1) ho2)); replace HO_382002 := am_ (m1_ (td_ (td_ (td_ (Kd.R_old (lf_ HO_382002) hb) ho0) ho1) ho2)); replace HO_382003 := am_ (m1_ (td_ (td_ (td_ (Kd.R_old (lf_ HO_382003) hb) ho0) ho1) ho2)); replace HO406 := am_ (m1_ (td_ (td_ (td_ (Kd.R_old (lf_ HO406) hb) ho0) ho1) ho2)); replace HO410 := am_ (m1_ (td_ (td_ (td_ (Kd.R_old (lf_ HO410) hb) ho0) ho1) ho2)); replace BK336 := am_ (blk_below (g := gb336) (lb_ BK336) hb); replace BK337 := am_ (blk_below (g := gb337) (lb_ BK337) hb); replace BK359 := am_ (blk_below (g := gb359) (lb_ BK359) hb); replace BK364 := am_ (blk_below (g := gb364) (lb_ BK364) hb); replace BK369 := am_ (blk_below (g := gb369) (lb_ BK369) hb); replace BK381 := am_ (blk_below (g := gb381) (lb_ BK381) hb); replace BK422 := am_ (blk_below (g := gb422) (lb_ BK422) hb); replace HB := am_ (below_step (lw_ HB) hb)
               (try clear hb)
               (try clear hb2)
               (try clear hk)
               (try clear hi)
               (try clear ho0)
               (try clear ho1)
               (try clear ho2)
               refine hK.out _ _ ⟨(blk_cell BK336.out 0).trans rfl, (blk_cell BK336.out 1).trans rfl, (blk_cell BK337.out 0).trans rfl, (blk_cell BK337.out 1).trans rfl⟩ (fun hHeld => ?_)
               clear hK K
               refine norm_ (a' := ?_) ?_ ?_
               rotate_left
               ·show Act.put _ (some 99) _ = _
                simp only [Act.put, List.setIfInBounds_toArray, List.set_cons_zero, List.set_cons_succ, i64_w, i32_w]
                rfl
               refine pure_ (i := 5) (N := some 94) (v := ?_) (a' := ?_) #[true, true, true, true, true, true, false, false, true, false, false] rfl rfl (any_of HT_.out (by kernel_rfl)) (fun _ _ _ h => h) (Or.inl ⟨by rfl, ?_⟩) ?_ ?_
               rotate_left
               ·intro w'
                go_simp
                with_reducible rfl
               rotate_left
               ·simp only [Act.put, List.setIfInBounds_toArray, List.set_cons_zero, List.set_cons_succ, i64_w, i32_w]
                rfl
               refine pure_ (i := 6) (N := some 100) (v := ?_) (a' := ?_) #[true, true, true, true, true, true, true, false, true, false, false] rfl rfl (any_of HT_.out (by kernel_rfl)) (fun _ _ _ h => h) (Or.inl ⟨by rfl, ?_⟩) ?_ ?_
               rotate_left
               ·intro w'
                go_simp
                with_reducible rfl
               rotate_left
               ·simp only [Act.put, List.setIfInBounds_toArray, List.set_cons_zero, List.set_cons_succ, i64_w, i32_w]
                rfl
               refine pure_ (i := 7) (N := some 101) (v := ?_) (a' := ?_) #[true, true, true, true, true, true, true, true, true, false, false] rfl rfl (any_of HT_.out (by kernel_rfl)) (fun _ _ _ h => h) (Or.inl ⟨by rfl, ?_⟩) ?_ ?_
               rotate_left
               ·intro w'
                go_simp
                with_reducible rfl
               rotate_left
               ·simp only [Act.put, List.setIfInBounds_toArray, List.set_cons_zero, List.set_cons_succ, i64_w, i32_w]
                rfl
               exact norm_ (by simp only [putAll, Act.put, List.setIfInBounds_toArray, List.set_cons_zero, List.set_cons_succ]) (hCont (.slice Ao161 t404.length co161, .slice Ao162 t408.length co162, v413, v416, v419, gb422) _ ⟨hHeld, (lo_ HO406), (lo_ HO410), (lo_ HO414), (lo_ HO417), (lo_ HO420), (lo_ HO_360001), (lo_ HO_360002), (lo_ HO_360003), (lo_ HO_365001), (lo_ HO_370001), (lo_ HO_382001), (lo_ HO_382002), (lo_ HO_382003), (lb_ BK336), (lb_ BK337), (lb_ BK359), (lb_ BK364), (lb_ BK369), (lb_ BK381), (lb_ BK422), GW422.out, GE422.out, NB336_422.out, NB422_336.out, NB337_422.out, NB422_337.out, NB359_422.out, NB422_359.out, NB364_422.out, NB422_364.out, NB369_422.out, NB422_369.out, NB381_422.out, NB422_381.out, (lw_ HB)⟩)
             rintro ⟨v405, v409, v413, v416, v419, gb422⟩ w164 ⟨hS_, h0_, h1_, h2_, h3_, h4_, h5_, h6_, h7_, h8_, h9_, h10_, h11_, h12_, h13_, h14_, h15_, h16_, h17_, h18_, h19_, h20_, h21_, h22_, h23_, h24_, h25_, h26_, h27_, h28_, h29_, h30_, h31_, h32_, h33_, h34_⟩
             have n0_ : Aside0 (Kd.R (Kd.int .i64) 3 w164 w.heap.size (fun k_ => nb_ k_ v409 ∧ nb_ k_ v413 ∧ nb_ k_ v416 ∧ nb_ k_ v419 ∧ ns_ k_ Ao42 t349 co42 ∧ ns_ k_ Ao44 t352 co44 ∧ ns_ k_ Ao46 t355 co46 ∧ ns_ k_ Ao56 t394 co56 ∧ ns_ k_ Ao66 t396 co66 ∧ ns_ k_ Ao76 t371 co76 ∧ ns_ k_ Ao77 t374 co77 ∧ ns_ k_ Ao78 t377 co78) v405 t404) := ⟨h0_⟩; have n1_ : Aside0 (Kd.R (Kd.int .i64) 3 w164 w.heap.size (fun k_ => nb_ k_ v405 ∧ nb_ k_ v413 ∧ nb_ k_ v416 ∧ nb_ k_ v419 ∧ ns_ k_ Ao42 t349 co42 ∧ ns_ k_ Ao44 t352 co44 ∧ ns_ k_ Ao46 t355 co46 ∧ ns_ k_ Ao56 t394 co56 ∧ ns_ k_ Ao66 t396 co66 ∧ ns_ k_ Ao76 t371 co76 ∧ ns_ k_ Ao77 t374 co77 ∧ ns_ k_ Ao78 t377 co78) v409 t408) := ⟨h1_⟩; have n2_ : Aside0 (Kd.R (Kd.int .i64) 3 w164 w.heap.size (fun k_ => nb_ k_ v405 ∧ nb_ k_ v409 ∧ nb_ k_ v416 ∧ nb_ k_ v419 ∧ ns_ k_ Ao42 t349 co42 ∧ ns_ k_ Ao44 t352 co44 ∧ ns_ k_ Ao46 t355 co46 ∧ ns_ k_ Ao56 t394 co56 ∧ ns_ k_ Ao66 t396 co66 ∧ ns_ k_ Ao76 t371 co76 ∧ ns_ k_ Ao77 t374 co77 ∧ ns_ k_ Ao78 t377 co78) v413 t412) := ⟨h2_⟩; have n3_ : Aside0 (Kd.R (Kd.int .i64) 3 w164 w.heap.size (fun k_ => nb_ k_ v405 ∧ nb_ k_ v409 ∧ nb_ k_ v413 ∧ nb_ k_ v419 ∧ ns_ k_ Ao42 t349 co42 ∧ ns_ k_ Ao44 t352 co44 ∧ ns_ k_ Ao46 t355 co46 ∧ ns_ k_ Ao56 t394 co56 ∧ ns_ k_ Ao66 t396 co66 ∧ ns_ k_ Ao76 t371 co76 ∧ ns_ k_ Ao77 t374 co77 ∧ ns_ k_ Ao78 t377 co78) v416 t415) := ⟨h3_⟩; have n4_ : Aside0 (Kd.R (Kd.int .i64) 3 w164 w.heap.size (fun k_ => nb_ k_ v405 ∧ nb_ k_ v409 ∧ nb_ k_ v413 ∧ nb_ k_ v416 ∧ ns_ k_ Ao42 t349 co42 ∧ ns_ k_ Ao44 t352 co44 ∧ ns_ k_ Ao46 t355 co46 ∧ ns_ k_ Ao56 t394 co56 ∧ ns_ k_ Ao66 t396 co66 ∧ ns_ k_ Ao76 t371 co76 ∧ ns_ k_ Ao77 t374 co77 ∧ ns_ k_ Ao78 t377 co78) v419 t418) := ⟨h4_⟩; have n5_ : Aside0 (Kd.R (Kd.int .i64) 3 w164 w.heap.size (fun k_ => nb_ k_ v405 ∧ nb_ k_ v409 ∧ nb_ k_ v413 ∧ nb_ k_ v416 ∧ nb_ k_ v419 ∧ ns_ k_ Ao44 t352 co44 ∧ ns_ k_ Ao46 t355 co46 ∧ ns_ k_ Ao56 t394 co56 ∧ ns_ k_ Ao66 t396 co66 ∧ ns_ k_ Ao76 t371 co76 ∧ ns_ k_ Ao77 t374 co77 ∧ ns_ k_ Ao78 t377 co78) (.slice Ao42 t349.length co42) t349) := ⟨h5_⟩; have n6_ : Aside0 (Kd.R (Kd.int .i64) 3 w164 w.heap.size (fun k_ => nb_ k_ v405 ∧ nb_ k_ v409 ∧ nb_ k_ v413 ∧ nb_ k_ v416 ∧ nb_ k_ v419 ∧ ns_ k_ Ao42 t349 co42 ∧ ns_ k_ Ao46 t355 co46 ∧ ns_ k_ Ao56 t394 co56 ∧ ns_ k_ Ao66 t396 co66 ∧ ns_ k_ Ao76 t371 co76 ∧ ns_ k_ Ao77 t374 co77 ∧ ns_ k_ Ao78 t377 co78) (.slice Ao44 t352.length co44) t352) := ⟨h6_⟩; have n7_ : Aside0 (Kd.R (Kd.int .i64) 3 w164 w.heap.size (fun k_ => nb_ k_ v405 ∧ nb_ k_ v409 ∧ nb_ k_ v413 ∧ nb_ k_ v416 ∧ nb_ k_ v419 ∧ ns_ k_ Ao42 t349 co42 ∧ ns_ k_ Ao44 t352 co44 ∧ ns_ k_ Ao56 t394 co56 ∧ ns_ k_ Ao66 t396 co66 ∧ ns_ k_ Ao76 t371 co76 ∧ ns_ k_ Ao77 t374 co77 ∧ ns_ k_ Ao78 t377 co78) (.slice Ao46 t355.length co46) t355) := ⟨h7_⟩; have n8_ : Aside0 (Kd.R (Kd.int .i64) 3 w164 w.heap.size (fun k_ => nb_ k_ v405 ∧ nb_ k_ v409 ∧ nb_ k_ v413 ∧ nb_ k_ v416 ∧ nb_ k_ v419 ∧ ns_ k_ Ao42 t349 co42 ∧ ns_ k_ Ao44 t352 co44 ∧ ns_ k_ Ao46 t355 co46 ∧ ns_ k_ Ao66 t396 co66 ∧ ns_ k_ Ao76 t371 co76 ∧ ns_ k_ Ao77 t374 co77 ∧ ns_ k_ Ao78 t377 co78) (.slice Ao56 t394.length co56) t394) := ⟨h8_⟩; have n9_ : Aside0 (Kd.R (Kd.int .i64) 3 w164 w.heap.size (fun k_ => nb_ k_ v405 ∧ nb_ k_ v409 ∧ nb_ k_ v413 ∧ nb_ k_ v416 ∧ nb_ k_ v419 ∧ ns_ k_ Ao42 t349 co42 ∧ ns_ k_ Ao44 t352 co44 ∧ ns_ k_ Ao46 t355 co46 ∧ ns_ k_ Ao56 t394 co56 ∧ ns_ k_ Ao76 t371 co76 ∧ ns_ k_ Ao77 t374 co77 ∧ ns_ k_ Ao78 t377 co78) (.slice Ao66 t396.length co66) t396) := ⟨h9_⟩; have n10_ : Aside0 (Kd.R (Kd.int .i64) 3 w164 w.heap.size (fun k_ => nb_ k_ v405 ∧ nb_ k_ v409 ∧ nb_ k_ v413 ∧ nb_ k_ v416 ∧ nb_ k_ v419 ∧ ns_ k_ Ao42 t349 co42 ∧ ns_ k_ Ao44 t352 co44 ∧ ns_ k_ Ao46 t355 co46 ∧ ns_ k_ Ao56 t394 co56 ∧ ns_ k_ Ao66 t396 co66 ∧ ns_ k_ Ao77 t374 co77 ∧ ns_ k_ Ao78 t377 co78) (.slice Ao76 t371.length co76) t399) := ⟨h10_⟩; have n11_ : Aside0 (Kd.R (Kd.int .i64) 3 w164 w.heap.size (fun k_ => nb_ k_ v405 ∧ nb_ k_ v409 ∧ nb_ k_ v413 ∧ nb_ k_ v416 ∧ nb_ k_ v419 ∧ ns_ k_ Ao42 t349 co42 ∧ ns_ k_ Ao44 t352 co44 ∧ ns_ k_ Ao46 t355 co46 ∧ ns_ k_ Ao56 t394 co56 ∧ ns_ k_ Ao66 t396 co66 ∧ ns_ k_ Ao76 t371 co76 ∧ ns_ k_ Ao78 t377 co78) (.slice Ao77 t374.length co77) t400) := ⟨h11_⟩; have n12_ : Aside0 (Kd.R (Kd.int .i64) 3 w164 w.heap.size (fun k_ => nb_ k_ v405 ∧ nb_ k_ v409 ∧ nb_ k_ v413 ∧ nb_ k_ v416 ∧ nb_ k_ v419 ∧ ns_ k_ Ao42 t349 co42 ∧ ns_ k_ Ao44 t352 co44 ∧ ns_ k_ Ao46 t355 co46 ∧ ns_ k_ Ao56 t394 co56 ∧ ns_ k_ Ao66 t396 co66 ∧ ns_ k_ Ao76 t371 co76 ∧ ns_ k_ Ao77 t374 co77) (.slice Ao78 t377.length co78) t401) := ⟨h12_⟩; have n13_ : Aside0 (w164.heap[gb336]? = some (.cells #[.int .i64 a0_0, .slice A0_1 l0_1.length c0_1] 24 (0, 0))) := ⟨h13_⟩; have n14_ : Aside0 (w164.heap[gb337]? = some (.cells #[.int .i64 a1_0, .slice A1_1 l1_1.length c1_1] 24 (0, 0))) := ⟨h14_⟩; have n15_ : Aside0 (w164.heap[gb359]? = some (.cells #[.int .i64 t348, .slice Ao42 t349.length co42, .slice Ao44 t352.length co44, .slice Ao46 t355.length co46] 48 (0, 0))) := ⟨h15_⟩; have n16_ : Aside0 (w164.heap[gb364]? = some (.cells #[.int .i64 t360, .slice Ao56 t394.length co56] 26 (0, 0))) := ⟨h16_⟩; have n17_ : Aside0 (w164.heap[gb369]? = some (.cells #[.int .i64 t365, .slice Ao66 t396.length co66] 26 (0, 0))) := ⟨h17_⟩; have n18_ : Aside0 (w164.heap[gb381]? = some (.cells #[.int .i64 t370, .slice Ao76 t371.length co76, .slice Ao77 t374.length co77, .slice Ao78 t377.length co78] 48 (0, 0))) := ⟨h18_⟩; have n19_ : Aside0 (w164.heap[gb422]? = some (.cells #[.int .i64 0, .slice none 0 0, .slice none 0 0, .slice none 0 0] 48 (0, 0))) := ⟨h19_⟩; have n20_ : Aside0 (w.heap.size ≤ gb422) := ⟨h20_⟩; have n21_ : Aside0 (w.heap.size ≤ gb422) := ⟨h21_⟩; have n22_ : Aside0 (gb336 ≠ gb422) := ⟨h22_⟩; have n23_ : Aside0 (gb422 ≠ gb336) := ⟨h23_⟩; have n24_ : Aside0 (gb337 ≠ gb422) := ⟨h24_⟩; have n25_ : Aside0 (gb422 ≠ gb337) := ⟨h25_⟩; have n26_ : Aside0 (gb359 ≠ gb422) := ⟨h26_⟩; have n27_ : Aside0 (gb422 ≠ gb359) := ⟨h27_⟩; have n28_ : Aside0 (gb364 ≠ gb422) := ⟨h28_⟩; have n29_ : Aside0 (gb422 ≠ gb364) := ⟨h29_⟩; have n30_ : Aside0 (gb369 ≠ gb422) := ⟨h30_⟩; have n31_ : Aside0 (gb422 ≠ gb369) := ⟨h31_⟩; have n32_ : Aside0 (gb381 ≠ gb422) := ⟨h32_⟩; have n33_ : Aside0 (gb422 ≠ gb381) := ⟨h33_⟩; have n34_ : Aside0 (Below w.heap.size w w164) := ⟨h34_⟩; clear HO_360001; clear HO_360002; clear HO_360003; clear HO_365001; clear HO_370001; clear HO_382001; clear HO_382002; clear HO_382003; clear BK336; clear BK337; clear BK359; clear BK364; clear BK369; clear BK381; clear HB
             clear h0_ h1_ h2_ h3_ h4_ h5_ h6_ h7_ h8_ h9_ h10_ h11_ h12_ h13_ h14_ h15_ h16_ h17_ h18_ h19_ h20_ h21_ h22_ h23_ h24_ h25_ h26_ h27_ h28_ h29_ h30_ h31_ h32_ h33_ h34_
             have HO406 := n0_
             have HO410 := n1_
             have HO414 := n2_
             have HO417 := n3_
             have HO420 := n4_
             have HO_360001 := n5_
             have HO_360002 := n6_
             have HO_360003 := n7_
             have HO_365001 := n8_
             have HO_370001 := n9_
             have HO_382001 := n10_
             have HO_382002 := n11_
             have HO_382003 := n12_
             have BK336 := n13_
             have BK337 := n14_
             have BK359 := n15_
             have BK364 := n16_
             have BK369 := n17_
             have BK381 := n18_
             have BK422 := n19_
             have GW422 := n20_
             have GE422 := n21_
             have NB336_422 := n22_
             have NB422_336 := n23_
             have NB337_422 := n24_
             have NB422_337 := n25_
             have NB359_422 := n26_
             have NB422_359 := n27_
             have NB364_422 := n28_
             have NB422_364 := n29_
             have NB369_422 := n30_
             have NB422_369 := n31_
             have NB381_422 := n32_
             have NB422_381 := n33_
             have HB := n34_
             clear n0_ n1_ n2_ n3_ n4_ n5_ n6_ n7_ n8_ n9_ n10_ n11_ n12_ n13_ n14_ n15_ n16_ n17_ n18_ n19_ n20_ n21_ n22_ n23_ n24_ n25_ n26_ n27_ n28_ n29_ n30_ n31_ n32_ n33_ n34_
             have hHeld : w164.cell? ⟨gb336, 0, none⟩ = some (.int .i64 a0_0) ∧ w164.cell? ⟨gb336, 1, none⟩ = some (.slice A0_1 l0_1.length c0_1) ∧ w164.cell? ⟨gb337, 0, none⟩ = some (.int .i64 a1_0) ∧ w164.cell? ⟨gb337, 1, none⟩ = some (.slice A1_1 l1_1.length c1_1) := hS_
             obtain ⟨Ao166, co166, eo166⟩ := Kd.R_slice HO414.out
             (first | subst eo166 | (injection eo166 with f1_ f2_ f3_; have f4_ := f1_.symm; have f5_ := f3_.symm; clear f1_ f2_ f3_; subst f4_; subst f5_))
             obtain ⟨Ao168, co168, eo168⟩ := Kd.R_slice HO417.out
             (first | subst eo168 | (injection eo168 with f1_ f2_ f3_; have f4_ := f1_.symm; have f5_ := f3_.symm; clear f1_ f2_ f3_; subst f4_; subst f5_))
             obtain ⟨Ao170, co170, eo170⟩ := Kd.R_slice HO420.out
             (first | subst eo170 | (injection eo170 with f1_ f2_ f3_; have f4_ := f1_.symm; have f5_ := f3_.symm; clear f1_ f2_ f3_; subst f4_; subst f5_))
             refine norm_ (a' := ?_) ?_ ?_
             rotate_left
             ·simp only [putAll, Act.put, List.setIfInBounds_toArray, List.set_cons_zero, List.set_cons_succ]
              rfl
             refine one_ (i := 9) (N := none) #[true, true, true, true, true, true, true, true, true, true, false] rfl rfl (one_of HT_.out (by kernel_rfl)) (by decide) (fun K hK => ?_)
             have hs165 : w164.cell? ⟨gb422, 0, none⟩ = some (.int .i64 0) := (blk_cell BK422.out 0).trans rfl
             have hfs165 := blk_frozen BK422.out 0
             have hns165_0 := NB336_422.out
             have hns165_1 := NB337_422.out
             have hns165_2 := NB359_422.out
             have hns165_3 := NB364_422.out
             have hns165_4 := NB369_422.out
             have hns165_5 := NB381_422.out
             have hms165_0 := NB422_336.out
             have hms165_1 := NB422_337.out
             have hms165_2 := NB422_359.out
             have hms165_3 := NB422_364.out
             have hms165_4 := NB422_369.out
             have hms165_5 := NB422_381.out
             have hs167 : w164.cell? ⟨gb422, 1, none⟩ = some (.slice none 0 0) := (blk_cell BK422.out 1).trans rfl
             have hfs167 := blk_frozen BK422.out 1
             have hns167_0 := NB336_422.out
             have hns167_1 := NB337_422.out
             have hns167_2 := NB359_422.out
             have hns167_3 := NB364_422.out
             have hns167_4 := NB369_422.out
             have hns167_5 := NB381_422.out
             have hms167_0 := NB422_336.out
             have hms167_1 := NB422_337.out
             have hms167_2 := NB422_359.out
             have hms167_3 := NB422_364.out
             have hms167_4 := NB422_369.out
             have hms167_5 := NB422_381.out
             have hs169 : w164.cell? ⟨gb422, 2, none⟩ = some (.slice none 0 0) := (blk_cell BK422.out 2).trans rfl
             have hfs169 := blk_frozen BK422.out 2
             have hns169_0 := NB336_422.out
             have hns169_1 := NB337_422.out
             have hns169_2 := NB359_422.out
             have hns169_3 := NB364_422.out
             have hns169_4 := NB369_422.out
             have hns169_5 := NB381_422.out
             have hms169_0 := NB422_336.out
             have hms169_1 := NB422_337.out
             have hms169_2 := NB422_359.out
             have hms169_3 := NB422_364.out
             have hms169_4 := NB422_369.out
             have hms169_5 := NB422_381.out
             have hs171 : w164.cell? ⟨gb422, 3, none⟩ = some (.slice none 0 0) := (blk_cell BK422.out 3).trans rfl
             have hfs171 := blk_frozen BK422.out 3
             have hns171_0 := NB336_422.out
             have hns171_1 := NB337_422.out
             have hns171_2 := NB359_422.out
             have hns171_3 := NB364_422.out
             have hns171_4 := NB369_422.out
             have hns171_5 := NB381_422.out
             have hms171_0 := NB422_336.out
             have hms171_1 := NB422_337.out
             have hms171_2 := NB422_359.out
             have hms171_3 := NB422_364.out
             have hms171_4 := NB422_369.out
             have hms171_5 := NB422_381.out
             refine skip_ (w1 := ?_) (by rfl) rfl ?_ ?_
             rotate_left
             ·go_simp
              rfl
             refine hK.out _ _ ⟨((cell_far (p := ⟨gb422, _, none⟩) NB336_422.out _).trans (((cell_far (p := ⟨gb422, _, none⟩) NB336_422.out _).trans (((cell_far (p := ⟨gb422, _, none⟩) NB336_422.out _).trans (((cell_far (p := ⟨gb422, _, none⟩) NB336_422.out _).trans (hHeld.1)))))))), ((cell_far (p := ⟨gb422, _, none⟩) NB336_422.out _).trans (((cell_far (p := ⟨gb422, _, none⟩) NB336_422.out _).trans (((cell_far (p := ⟨gb422, _, none⟩) NB336_422.out _).trans (((cell_far (p := ⟨gb422, _, none⟩) NB336_422.out _).trans (hHeld.2.1)))))))), ((cell_far (p := ⟨gb422, _, none⟩) NB337_422.out _).trans (((cell_far (p := ⟨gb422, _, none⟩) NB337_422.out _).trans (((cell_far (p := ⟨gb422, _, none⟩) NB337_422.out _).trans (((cell_far (p := ⟨gb422, _, none⟩) NB337_422.out _).trans (hHeld.2.2.1)))))))), ((cell_far (p := ⟨gb422, _, none⟩) NB337_422.out _).trans (((cell_far (p := ⟨gb422, _, none⟩) NB337_422.out _).trans (((cell_far (p := ⟨gb422, _, none⟩) NB337_422.out _).trans (((cell_far (p := ⟨gb422, _, none⟩) NB337_422.out _).trans (hHeld.2.2.2))))))))⟩ (fun hHeld => ?_)
             clear hK K
             refine pure_ (i := 10) (N := some 16) (v := ?_) (a' := ?_) #[true, true, true, true, true, true, true, true, true, true, true] rfl rfl (any_of HT_.out (by kernel_rfl)) (fun _ _ _ h => h) (Or.inl ⟨by rfl, ?_⟩) ?_ ?_
             rotate_left
             ·intro w'
              go_simp
              with_reducible rfl
             rotate_left
             ·simp only [Act.put, List.setIfInBounds_toArray, List.set_cons_zero, List.set_cons_succ, i64_w, i32_w]
              rfl
             refine done_ (done_of HT_.out (by kernel_rfl)) ?_
             go_upto_region 32 with (fail)
             go_cut [110] (fun v110 wc => ∃ (kq : Nat) (x110_146 : Bool), v110 = .bool x110_146 ∧ Aside0 (laws_FnExactUnpackDirectory.j2 kq t398 x110_146 t370 t399 t400 t401 = some r) ∧ Aside0 (kq ≤ kj101) ∧ Aside0 (Kd.R (Kd.int .i64) 3 wc w.heap.size (fun k_ => ns_ k_ Ao44 t352 co44 ∧ ns_ k_ Ao46 t355 co46 ∧ ns_ k_ Ao56 t394 co56 ∧ ns_ k_ Ao66 t396 co66 ∧ ns_ k_ Ao76 t371 co76 ∧ ns_ k_ Ao77 t374 co77 ∧ ns_ k_ Ao78 t377 co78 ∧ ns_ k_ Ao166 t412 co166 ∧ ns_ k_ Ao168 t415 co168 ∧ ns_ k_ Ao170 t418 co170) (.slice Ao42 t349.length co42) t349) ∧ Aside0 (Kd.R (Kd.int .i64) 3 wc w.heap.size (fun k_ => ns_ k_ Ao42 t349 co42 ∧ ns_ k_ Ao46 t355 co46 ∧ ns_ k_ Ao56 t394 co56 ∧ ns_ k_ Ao66 t396 co66 ∧ ns_ k_ Ao76 t371 co76 ∧ ns_ k_ Ao77 t374 co77 ∧ ns_ k_ Ao78 t377 co78 ∧ ns_ k_ Ao166 t412 co166 ∧ ns_ k_ Ao168 t415 co168 ∧ ns_ k_ Ao170 t418 co170) (.slice Ao44 t352.length co44) t352) ∧ Aside0 (Kd.R (Kd.int .i64) 3 wc w.heap.size (fun k_ => ns_ k_ Ao42 t349 co42 ∧ ns_ k_ Ao44 t352 co44 ∧ ns_ k_ Ao56 t394 co56 ∧ ns_ k_ Ao66 t396 co66 ∧ ns_ k_ Ao76 t371 co76 ∧ ns_ k_ Ao77 t374 co77 ∧ ns_ k_ Ao78 t377 co78 ∧ ns_ k_ Ao166 t412 co166 ∧ ns_ k_ Ao168 t415 co168 ∧ ns_ k_ Ao170 t418 co170) (.slice Ao46 t355.length co46) t355) ∧ Aside0 (Kd.R (Kd.int .i64) 3 wc w.heap.size (fun k_ => ns_ k_ Ao42 t349 co42 ∧ ns_ k_ Ao44 t352 co44 ∧ ns_ k_ Ao46 t355 co46 ∧ ns_ k_ Ao66 t396 co66 ∧ ns_ k_ Ao76 t371 co76 ∧ ns_ k_ Ao77 t374 co77 ∧ ns_ k_ Ao78 t377 co78 ∧ ns_ k_ Ao166 t412 co166 ∧ ns_ k_ Ao168 t415 co168 ∧ ns_ k_ Ao170 t418 co170) (.slice Ao56 t394.length co56) t394) ∧ Aside0 (Kd.R (Kd.int .i64) 3 wc w.heap.size (fun k_ => ns_ k_ Ao42 t349 co42 ∧ ns_ k_ Ao44 t352 co44 ∧ ns_ k_ Ao46 t355 co46 ∧ ns_ k_ Ao56 t394 co56 ∧ ns_ k_ Ao76 t371 co76 ∧ ns_ k_ Ao77 t374 co77 ∧ ns_ k_ Ao78 t377 co78 ∧ ns_ k_ Ao166 t412 co166 ∧ ns_ k_ Ao168 t415 co168 ∧ ns_ k_ Ao170 t418 co170) (.slice Ao66 t396.length co66) t396) ∧ Aside0 (Kd.R (Kd.int .i64) 3 wc w.heap.size (fun k_ => ns_ k_ Ao42 t349 co42 ∧ ns_ k_ Ao44 t352 co44 ∧ ns_ k_ Ao46 t355 co46 ∧ ns_ k_ Ao56 t394 co56 ∧ ns_ k_ Ao66 t396 co66 ∧ ns_ k_ Ao77 t374 co77 ∧ ns_ k_ Ao78 t377 co78 ∧ ns_ k_ Ao166 t412 co166 ∧ ns_ k_ Ao168 t415 co168 ∧ ns_ k_ Ao170 t418 co170) (.slice Ao76 t371.length co76) t399) ∧ Aside0 (Kd.R (Kd.int .i64) 3 wc w.heap.size (fun k_ => ns_ k_ Ao42 t349 co42 ∧ ns_ k_ Ao44 t352 co44 ∧ ns_ k_ Ao46 t355 co46 ∧ ns_ k_ Ao56 t394 co56 ∧ ns_ k_ Ao66 t396 co66 ∧ ns_ k_ Ao76 t371 co76 ∧ ns_ k_ Ao78 t377 co78 ∧ ns_ k_ Ao166 t412 co166 ∧ ns_ k_ Ao168 t415 co168 ∧ ns_ k_ Ao170 t418 co170) (.slice Ao77 t374.length co77) t400) ∧ Aside0 (Kd.R (Kd.int .i64) 3 wc w.heap.size (fun k_ => ns_ k_ Ao42 t349 co42 ∧ ns_ k_ Ao44 t352 co44 ∧ ns_ k_ Ao46 t355 co46 ∧ ns_ k_ Ao56 t394 co56 ∧ ns_ k_ Ao66 t396 co66 ∧ ns_ k_ Ao76 t371 co76 ∧ ns_ k_ Ao77 t374 co77 ∧ ns_ k_ Ao166 t412 co166 ∧ ns_ k_ Ao168 t415 co168 ∧ ns_ k_ Ao170 t418 co170) (.slice Ao78 t377.length co78) t401) ∧ Aside0 (Kd.R (Kd.int .i64) 3 wc w.heap.size (fun k_ => ns_ k_ Ao42 t349 co42 ∧ ns_ k_ Ao44 t352 co44 ∧ ns_ k_ Ao46 t355 co46 ∧ ns_ k_ Ao56 t394 co56 ∧ ns_ k_ Ao66 t396 co66 ∧ ns_ k_ Ao76 t371 co76 ∧ ns_ k_ Ao77 t374 co77 ∧ ns_ k_ Ao78 t377 co78 ∧ ns_ k_ Ao168 t415 co168 ∧ ns_ k_ Ao170 t418 co170) (.slice Ao166 t412.length co166) t412) ∧ Aside0 (Kd.R (Kd.int .i64) 3 wc w.heap.size (fun k_ => ns_ k_ Ao42 t349 co42 ∧ ns_ k_ Ao44 t352 co44 ∧ ns_ k_ Ao46 t355 co46 ∧ ns_ k_ Ao56 t394 co56 ∧ ns_ k_ Ao66 t396 co66 ∧ ns_ k_ Ao76 t371 co76 ∧ ns_ k_ Ao77 t374 co77 ∧ ns_ k_ Ao78 t377 co78 ∧ ns_ k_ Ao166 t412 co166 ∧ ns_ k_ Ao170 t418 co170) (.slice Ao168 t415.length co168) t415) ∧ Aside0 (Kd.R (Kd.int .i64) 3 wc w.heap.size (fun k_ => ns_ k_ Ao42 t349 co42 ∧ ns_ k_ Ao44 t352 co44 ∧ ns_ k_ Ao46 t355 co46 ∧ ns_ k_ Ao56 t394 co56 ∧ ns_ k_ Ao66 t396 co66 ∧ ns_ k_ Ao76 t371 co76 ∧ ns_ k_ Ao77 t374 co77 ∧ ns_ k_ Ao78 t377 co78 ∧ ns_ k_ Ao166 t412 co166 ∧ ns_ k_ Ao168 t415 co168) (.slice Ao170 t418.length co170) t418) ∧ Aside0 (wc.heap[gb336]? = some (.cells #[.int .i64 a0_0, (.slice A0_1 l0_1.length c0_1)] 24 (0, 0))) ∧ Aside0 (wc.heap[gb337]? = some (.cells #[.int .i64 a1_0, (.slice A1_1 l1_1.length c1_1)] 24 (0, 0))) ∧ Aside0 (wc.heap[gb359]? = some (.cells #[.int .i64 t348, (.slice Ao42 t349.length co42), (.slice Ao44 t352.length co44), (.slice Ao46 t355.length co46)] 48 (0, 0))) ∧ Aside0 (wc.heap[gb364]? = some (.cells #[.int .i64 t360, (.slice Ao56 t394.length co56)] 26 (0, 0))) ∧ Aside0 (wc.heap[gb369]? = some (.cells #[.int .i64 t365, (.slice Ao66 t396.length co66)] 26 (0, 0))) ∧ Aside0 (wc.heap[gb381]? = some (.cells #[.int .i64 t370, (.slice Ao76 t371.length co76), (.slice Ao77 t374.length co77), (.slice Ao78 t377.length co78)] 48 (0, 0))) ∧ Aside0 (wc.heap[gb422]? = some (.cells #[.int .i64 t411, (.slice Ao166 t412.length co166), (.slice Ao168 t415.length co168), (.slice Ao170 t418.length co170)] 48 (0, 0))) ∧ Aside0 (Below w.heap.size w wc))
             case first =>
              have H := HC147.out
              clear HC147
              replace H := Option.bind_eq_some_iff.mp H
              obtain ⟨t423, A1720, H⟩ := H
              replace H : (if t423 = true then (laws_FnExactUnpackDirectory.j2 kj101 t398 (t421 != t358) t370 t399 t400 t401) else (none)) = some r := H
              have A172 := am_ A1720
              clear A1720
              by_cases c173 : t423 = true
              ·subst c173
               have H1 : (laws_FnExactUnpackDirectory.j2 kj101 t398 (t421 != t358) t370 t399 t400 t401) = some r := by rw [if_pos rfl] at H; exact H
               clear H
               have H := H1
               clear H1
               have H' := am_ H
               clear H
               have hnb174 := NB422_336.out
               have hnc174 := NB336_422.out
               have hnb175 := NB422_337.out
               have hnc175 := NB337_422.out
               have hnb176 := NB422_359.out
               have hnc176 := NB359_422.out
               have hnb177 := NB422_364.out
               have hnc177 := NB364_422.out
               have hnb178 := NB422_369.out
               have hnc178 := NB369_422.out
               have hnb179 := NB422_381.out
               have hnc179 := NB381_422.out
               have hcz180_0 : w164.cell? ⟨gb422, 0, none⟩ = some (.int .i64 0) := (blk_cell BK422.out 0).trans rfl
               have hcz180_1 : w164.cell? ⟨gb422, 1, none⟩ = some (.slice none 0 0) := (blk_cell BK422.out 1).trans rfl
               have hcz180_2 : w164.cell? ⟨gb422, 2, none⟩ = some (.slice none 0 0) := (blk_cell BK422.out 2).trans rfl
               have hcz180_3 : w164.cell? ⟨gb422, 3, none⟩ = some (.slice none 0 0) := (blk_cell BK422.out 3).trans rfl
               have hfz180_0 := blk_frozen BK422.out 0
               have hfz180_1 := blk_frozen BK422.out 1
               have hfz180_2 := blk_frozen BK422.out 2
               have hfz180_3 := blk_frozen BK422.out 3
               have hnb181 := NB359_336.out
               have hnc181 := NB336_359.out
               have hnb182 := NB359_337.out
               have hnc182 := NB337_359.out
               have hnb183 := NB359_364.out
               have hnc183 := NB364_359.out
               have hnb184 := NB359_369.out
               have hnc184 := NB369_359.out
               have hnb185 := NB359_381.out
               have hnc185 := NB381_359.out
               have hcz186_0 : w164.cell? ⟨gb359, 0, none⟩ = some (.int .i64 t348) := (blk_cell BK359.out 0).trans rfl
               have hcz186_1 : w164.cell? ⟨gb359, 1, none⟩ = some (.slice Ao42 t349.length co42) := (blk_cell BK359.out 1).trans rfl
               have hcz186_2 : w164.cell? ⟨gb359, 2, none⟩ = some (.slice Ao44 t352.length co44) := (blk_cell BK359.out 2).trans rfl
               have hcz186_3 : w164.cell? ⟨gb359, 3, none⟩ = some (.slice Ao46 t355.length co46) := (blk_cell BK359.out 3).trans rfl
               have hfz186_0 := blk_frozen BK359.out 0
               have hfz186_1 := blk_frozen BK359.out 1
               have hfz186_2 := blk_frozen BK359.out 2
               have hfz186_3 := blk_frozen BK359.out 3
               go_wp2_with (first | ((with_reducible refine gate_callee (f := 38) rfl ?_); refine goesL_ (some 104) rfl rfl Try.func38 (by kernel_rfl) rfl #[.agg #[.int .i64 t411, .slice Ao166 t412.length co166, .slice Ao168 t415.length co168, .slice Ao170 t418.length co170], .agg #[.int .i64 t348, .slice Ao42 t349.length co42, .slice Ao44 t352.length co44, .slice Ao46 t355.length co46]] rfl lm_ ?_; (with_reducible refine (laws_eqRanked.calls kj101 t411 _ _ t412 _ _ t415 _ _ t418 t348 _ _ t349 _ _ t352 _ _ t355 true _ ?side1 ?side2 ?side3 ?side4 ?side5 ?side6 ?side7 ?side8 ?side9 ?side10 ?side11 ?side12 A172.out).mono ?_); (case side1 => refine (Kd.R_reads' (e := 3) (base := w.heap.size) (ok := fun k_ => (nb_ k_ v405 ∧ (nb_ k_ v409 ∧ (ns_ k_ Ao168 t415 co168 ∧ (ns_ k_ Ao170 t418 co170 ∧ (ns_ k_ Ao42 t349 co42 ∧ (ns_ k_ Ao44 t352 co44 ∧ (ns_ k_ Ao46 t355 co46 ∧ (ns_ k_ Ao56 t394 co56 ∧ (ns_ k_ Ao66 t396 co66 ∧ (ns_ k_ Ao76 t371 co76 ∧ (ns_ k_ Ao77 t374 co77 ∧ ns_ k_ Ao78 t377 co78)))))))))))) (n := t412.length) (c := co166) ?_).2.2; exact (lt_ ((m1_ (fr4_ HO414.out BK422.out (.int .i64 t411) (.slice Ao166 t412.length co166) (.slice Ao168 t415.length co168) (.slice Ao170 t418.length co170)))))); (case side2 => exact (Kd.R_reads' HO414.out).2.1); (case side3 => refine (Kd.R_reads' (e := 3) (base := w.heap.size) (ok := fun k_ => (nb_ k_ v405 ∧ (nb_ k_ v409 ∧ (ns_ k_ Ao166 t412 co166 ∧ (ns_ k_ Ao170 t418 co170 ∧ (ns_ k_ Ao42 t349 co42 ∧ (ns_ k_ Ao44 t352 co44 ∧ (ns_ k_ Ao46 t355 co46 ∧ (ns_ k_ Ao56 t394 co56 ∧ (ns_ k_ Ao66 t396 co66 ∧ (ns_ k_ Ao76 t371 co76 ∧ (ns_ k_ Ao77 t374 co77 ∧ ns_ k_ Ao78 t377 co78)))))))))))) (n := t415.length) (c := co168) ?_).2.2; exact (lt_ ((m1_ (fr4_ HO417.out BK422.out (.int .i64 t411) (.slice Ao166 t412.length co166) (.slice Ao168 t415.length co168) (.slice Ao170 t418.length co170)))))); (case side4 => exact (Kd.R_reads' HO417.out).2.1); (case side5 => refine (Kd.R_reads' (e := 3) (base := w.heap.size) (ok := fun k_ => (nb_ k_ v405 ∧ (nb_ k_ v409 ∧ (ns_ k_ Ao166 t412 co166 ∧ (ns_ k_ Ao168 t415 co168 ∧ (ns_ k_ Ao42 t349 co42 ∧ (ns_ k_ Ao44 t352 co44 ∧ (ns_ k_ Ao46 t355 co46 ∧ (ns_ k_ Ao56 t394 co56 ∧ (ns_ k_ Ao66 t396 co66 ∧ (ns_ k_ Ao76 t371 co76 ∧ (ns_ k_ Ao77 t374 co77 ∧ ns_ k_ Ao78 t377 co78)))))))))))) (n := t418.length) (c := co170) ?_).2.2; exact (lt_ ((m1_ (fr4_ HO420.out BK422.out (.int .i64 t411) (.slice Ao166 t412.length co166) (.slice Ao168 t415.length co168) (.slice Ao170 t418.length co170)))))); (case side6 => exact (Kd.R_reads' HO420.out).2.1); (case side7 => refine (Kd.R_reads' (e := 3) (base := w.heap.size) (ok := fun k_ => (nb_ k_ v405 ∧ (nb_ k_ v409 ∧ (ns_ k_ Ao166 t412 co166 ∧ (ns_ k_ Ao168 t415 co168 ∧ (ns_ k_ Ao170 t418 co170 ∧ (ns_ k_ Ao44 t352 co44 ∧ (ns_ k_ Ao46 t355 co46 ∧ (ns_ k_ Ao56 t394 co56 ∧ (ns_ k_ Ao66 t396 co66 ∧ (ns_ k_ Ao76 t371 co76 ∧ (ns_ k_ Ao77 t374 co77 ∧ ns_ k_ Ao78 t377 co78)))))))))))) (n := t349.length) (c := co42) ?_).2.2; exact (lt_ ((m1_ (fr4_ HO_360001.out BK422.out (.int .i64 t411) (.slice Ao166 t412.length co166) (.slice Ao168 t415.length co168) (.slice Ao170 t418.length co170)))))); (case side8 => exact (Kd.R_reads' HO_360001.out).2.1); (case side9 => refine (Kd.R_reads' (e := 3) (base := w.heap.size) (ok := fun k_ => (nb_ k_ v405 ∧ (nb_ k_ v409 ∧ (ns_ k_ Ao166 t412 co166 ∧ (ns_ k_ Ao168 t415 co168 ∧ (ns_ k_ Ao170 t418 co170 ∧ (ns_ k_ Ao42 t349 co42 ∧ (ns_ k_ Ao46 t355 co46 ∧ (ns_ k_ Ao56 t394 co56 ∧ (ns_ k_ Ao66 t396 co66 ∧ (ns_ k_ Ao76 t371 co76 ∧ (ns_ k_ Ao77 t374 co77 ∧ ns_ k_ Ao78 t377 co78)))))))))))) (n := t352.length) (c := co44) ?_).2.2; exact (lt_ ((m1_ (fr4_ HO_360002.out BK422.out (.int .i64 t411) (.slice Ao166 t412.length co166) (.slice Ao168 t415.length co168) (.slice Ao170 t418.length co170)))))); (case side10 => exact (Kd.R_reads' HO_360002.out).2.1); (case side11 => refine (Kd.R_reads' (e := 3) (base := w.heap.size) (ok := fun k_ => (nb_ k_ v405 ∧ (nb_ k_ v409 ∧ (ns_ k_ Ao166 t412 co166 ∧ (ns_ k_ Ao168 t415 co168 ∧ (ns_ k_ Ao170 t418 co170 ∧ (ns_ k_ Ao42 t349 co42 ∧ (ns_ k_ Ao44 t352 co44 ∧ (ns_ k_ Ao56 t394 co56 ∧ (ns_ k_ Ao66 t396 co66 ∧ (ns_ k_ Ao76 t371 co76 ∧ (ns_ k_ Ao77 t374 co77 ∧ ns_ k_ Ao78 t377 co78)))))))))))) (n := t355.length) (c := co46) ?_).2.2; exact (lt_ ((m1_ (fr4_ HO_360003.out BK422.out (.int .i64 t411) (.slice Ao166 t412.length co166) (.slice Ao168 t415.length co168) (.slice Ao170 t418.length co170)))))); (case side12 => exact (Kd.R_reads' HO_360003.out).2.1); rintro e w187 ⟨rfl, hb⟩; refine ⟨_, rfl, ?_⟩; replace HO_360001 := am_ (Kd.R_below (lt_ ((m1_ (fr4_ HO_360001.out BK422.out (.int .i64 t411) (.slice Ao166 t412.length co166) (.slice Ao168 t415.length co168) (.slice Ao170 t418.length co170))))) hb); replace HO_360002 := am_ (Kd.R_below (lt_ ((m1_ (fr4_ HO_360002.out BK422.out (.int .i64 t411) (.slice Ao166 t412.length co166) (.slice Ao168 t415.length co168) (.slice Ao170 t418.length co170))))) hb); replace HO_360003 := am_ (Kd.R_below (lt_ ((m1_ (fr4_ HO_360003.out BK422.out (.int .i64 t411) (.slice Ao166 t412.length co166) (.slice Ao168 t415.length co168) (.slice Ao170 t418.length co170))))) hb); replace HO_365001 := am_ (Kd.R_below (lt_ ((m1_ (fr4_ HO_365001.out BK422.out (.int .i64 t411) (.slice Ao166 t412.length co166) (.slice Ao168 t415.length co168) (.slice Ao170 t418.length co170))))) hb); replace HO_370001 := am_ (Kd.R_below (lt_ ((m1_ (fr4_ HO_370001.out BK422.out (.int .i64 t411) (.slice Ao166 t412.length co166) (.slice Ao168 t415.length co168) (.slice Ao170 t418.length co170))))) hb); replace HO_382001 := am_ (Kd.R_below (lt_ ((m1_ (fr4_ HO_382001.out BK422.out (.int .i64 t411) (.slice Ao166 t412.length co166) (.slice Ao168 t415.length co168) (.slice Ao170 t418.length co170))))) hb); replace HO_382002 := am_ (Kd.R_below (lt_ ((m1_ (fr4_ HO_382002.out BK422.out (.int .i64 t411) (.slice Ao166 t412.length co166) (.slice Ao168 t415.length co168) (.slice Ao170 t418.length co170))))) hb); replace HO_382003 := am_ (Kd.R_below (lt_ ((m1_ (fr4_ HO_382003.out BK422.out (.int .i64 t411) (.slice Ao166 t412.length co166) (.slice Ao168 t415.length co168) (.slice Ao170 t418.length co170))))) hb); replace HO406 := am_ (Kd.R_below (lt_ ((m1_ (fr4_ HO406.out BK422.out (.int .i64 t411) (.slice Ao166 t412.length co166) (.slice Ao168 t415.length co168) (.slice Ao170 t418.length co170))))) hb); replace HO410 := am_ (Kd.R_below (lt_ ((m1_ (fr4_ HO410.out BK422.out (.int .i64 t411) (.slice Ao166 t412.length co166) (.slice Ao168 t415.length co168) (.slice Ao170 t418.length co170))))) hb); replace HO414 := am_ (Kd.R_below (lt_ ((m1_ (fr4_ HO414.out BK422.out (.int .i64 t411) (.slice Ao166 t412.length co166) (.slice Ao168 t415.length co168) (.slice Ao170 t418.length co170))))) hb); replace HO417 := am_ (Kd.R_below (lt_ ((m1_ (fr4_ HO417.out BK422.out (.int .i64 t411) (.slice Ao166 t412.length co166) (.slice Ao168 t415.length co168) (.slice Ao170 t418.length co170))))) hb); replace HO420 := am_ (Kd.R_below (lt_ ((m1_ (fr4_ HO420.out BK422.out (.int .i64 t411) (.slice Ao166 t412.length co166) (.slice Ao168 t415.length co168) (.slice Ao170 t418.length co170))))) hb); replace BK336 := am_ (blk_below (g := gb336) (lg_ BK336) hb); replace BK337 := am_ (blk_below (g := gb337) (lg_ BK337) hb); replace BK359 := am_ (blk_below (g := gb359) (lg_ BK359) hb); replace BK364 := am_ (blk_below (g := gb364) (lg_ BK364) hb); replace BK369 := am_ (blk_below (g := gb369) (lg_ BK369) hb); replace BK381 := am_ (blk_below (g := gb381) (lg_ BK381) hb); replace BK422 := am_ (blk_below (g := gb422) (o := .cells #[.int .i64 t411, .slice Ao166 t412.length co166, .slice Ao168 t415.length co168, .slice Ao170 t418.length co170] 48 (0, 0)) (lq_ BK422) hb); replace HB := am_ (below_step (lw_ HB) hb); (try clear hb); (try clear hb2); (try clear hk); (try clear hi)))
               go_meet
               case rel => exact ⟨_, ((t421 != t358)), sr_, H', ⟨by have := HJ24.out; have := HJ101.out; first | omega | exact Nat.le_refl _⟩, ⟨by (try simp only [hl365001_101]); (try simp only [hl370001_101]); (with_reducible repeat (first | apply Kd.R_alloc | apply Kd.R_drewN | apply Kd.R_drew)); exact Kd.R_mono HO_360001.out (fun _ hk => ⟨hk.2.2.2.2.2.1, ⟨hk.2.2.2.2.2.2.1, ⟨hk.2.2.2.2.2.2.2.1, ⟨hk.2.2.2.2.2.2.2.2.1, ⟨hk.2.2.2.2.2.2.2.2.2.1, ⟨hk.2.2.2.2.2.2.2.2.2.2.1, ⟨hk.2.2.2.2.2.2.2.2.2.2.2, ⟨hk.2.2.1, ⟨hk.2.2.2.1, hk.2.2.2.2.1⟩⟩⟩⟩⟩⟩⟩⟩⟩)⟩, ⟨by (try simp only [hl365001_101]); (try simp only [hl370001_101]); (with_reducible repeat (first | apply Kd.R_alloc | apply Kd.R_drewN | apply Kd.R_drew)); exact Kd.R_mono HO_360002.out (fun _ hk => ⟨hk.2.2.2.2.2.1, ⟨hk.2.2.2.2.2.2.1, ⟨hk.2.2.2.2.2.2.2.1, ⟨hk.2.2.2.2.2.2.2.2.1, ⟨hk.2.2.2.2.2.2.2.2.2.1, ⟨hk.2.2.2.2.2.2.2.2.2.2.1, ⟨hk.2.2.2.2.2.2.2.2.2.2.2, ⟨hk.2.2.1, ⟨hk.2.2.2.1, hk.2.2.2.2.1⟩⟩⟩⟩⟩⟩⟩⟩⟩)⟩, ⟨by (try simp only [hl365001_101]); (try simp only [hl370001_101]); (with_reducible repeat (first | apply Kd.R_alloc | apply Kd.R_drewN | apply Kd.R_drew)); exact Kd.R_mono HO_360003.out (fun _ hk => ⟨hk.2.2.2.2.2.1, ⟨hk.2.2.2.2.2.2.1, ⟨hk.2.2.2.2.2.2.2.1, ⟨hk.2.2.2.2.2.2.2.2.1, ⟨hk.2.2.2.2.2.2.2.2.2.1, ⟨hk.2.2.2.2.2.2.2.2.2.2.1, ⟨hk.2.2.2.2.2.2.2.2.2.2.2, ⟨hk.2.2.1, ⟨hk.2.2.2.1, hk.2.2.2.2.1⟩⟩⟩⟩⟩⟩⟩⟩⟩)⟩, ⟨by (try simp only [hl365001_101]); (try simp only [hl370001_101]); (with_reducible repeat (first | apply Kd.R_alloc | apply Kd.R_drewN | apply Kd.R_drew)); exact Kd.R_mono HO_365001.out (fun _ hk => ⟨hk.2.2.2.2.2.1, ⟨hk.2.2.2.2.2.2.1, ⟨hk.2.2.2.2.2.2.2.1, ⟨hk.2.2.2.2.2.2.2.2.1, ⟨hk.2.2.2.2.2.2.2.2.2.1, ⟨hk.2.2.2.2.2.2.2.2.2.2.1, ⟨hk.2.2.2.2.2.2.2.2.2.2.2, ⟨hk.2.2.1, ⟨hk.2.2.2.1, hk.2.2.2.2.1⟩⟩⟩⟩⟩⟩⟩⟩⟩)⟩, ⟨by (try simp only [hl365001_101]); (try simp only [hl370001_101]); (with_reducible repeat (first | apply Kd.R_alloc | apply Kd.R_drewN | apply Kd.R_drew)); exact Kd.R_mono HO_370001.out (fun _ hk => ⟨hk.2.2.2.2.2.1, ⟨hk.2.2.2.2.2.2.1, ⟨hk.2.2.2.2.2.2.2.1, ⟨hk.2.2.2.2.2.2.2.2.1, ⟨hk.2.2.2.2.2.2.2.2.2.1, ⟨hk.2.2.2.2.2.2.2.2.2.2.1, ⟨hk.2.2.2.2.2.2.2.2.2.2.2, ⟨hk.2.2.1, ⟨hk.2.2.2.1, hk.2.2.2.2.1⟩⟩⟩⟩⟩⟩⟩⟩⟩)⟩, ⟨by (try simp only [hl365001_101]); (try simp only [hl370001_101]); (with_reducible repeat (first | apply Kd.R_alloc | apply Kd.R_drewN | apply Kd.R_drew)); exact Kd.R_mono HO_382001.out (fun _ hk => ⟨hk.2.2.2.2.2.1, ⟨hk.2.2.2.2.2.2.1, ⟨hk.2.2.2.2.2.2.2.1, ⟨hk.2.2.2.2.2.2.2.2.1, ⟨hk.2.2.2.2.2.2.2.2.2.1, ⟨hk.2.2.2.2.2.2.2.2.2.2.1, ⟨hk.2.2.2.2.2.2.2.2.2.2.2, ⟨hk.2.2.1, ⟨hk.2.2.2.1, hk.2.2.2.2.1⟩⟩⟩⟩⟩⟩⟩⟩⟩)⟩, ⟨by (try simp only [hl365001_101]); (try simp only [hl370001_101]); (with_reducible repeat (first | apply Kd.R_alloc | apply Kd.R_drewN | apply Kd.R_drew)); exact Kd.R_mono HO_382002.out (fun _ hk => ⟨hk.2.2.2.2.2.1, ⟨hk.2.2.2.2.2.2.1, ⟨hk.2.2.2.2.2.2.2.1, ⟨hk.2.2.2.2.2.2.2.2.1, ⟨hk.2.2.2.2.2.2.2.2.2.1, ⟨hk.2.2.2.2.2.2.2.2.2.2.1, ⟨hk.2.2.2.2.2.2.2.2.2.2.2, ⟨hk.2.2.1, ⟨hk.2.2.2.1, hk.2.2.2.2.1⟩⟩⟩⟩⟩⟩⟩⟩⟩)⟩, ⟨by (try simp only [hl365001_101]); (try simp only [hl370001_101]); (with_reducible repeat (first | apply Kd.R_alloc | apply Kd.R_drewN | apply Kd.R_drew)); exact Kd.R_mono HO_382003.out (fun _ hk => ⟨hk.2.2.2.2.2.1, ⟨hk.2.2.2.2.2.2.1, ⟨hk.2.2.2.2.2.2.2.1, ⟨hk.2.2.2.2.2.2.2.2.1, ⟨hk.2.2.2.2.2.2.2.2.2.1, ⟨hk.2.2.2.2.2.2.2.2.2.2.1, ⟨hk.2.2.2.2.2.2.2.2.2.2.2, ⟨hk.2.2.1, ⟨hk.2.2.2.1, hk.2.2.2.2.1⟩⟩⟩⟩⟩⟩⟩⟩⟩)⟩, ⟨by (try simp only [hl365001_101]); (try simp only [hl370001_101]); (with_reducible repeat (first | apply Kd.R_alloc | apply Kd.R_drewN | apply Kd.R_drew)); exact Kd.R_mono HO414.out (fun _ hk => ⟨hk.2.2.2.2.1, ⟨hk.2.2.2.2.2.1, ⟨hk.2.2.2.2.2.2.1, ⟨hk.2.2.2.2.2.2.2.1, ⟨hk.2.2.2.2.2.2.2.2.1, ⟨hk.2.2.2.2.2.2.2.2.2.1, ⟨hk.2.2.2.2.2.2.2.2.2.2.1, ⟨hk.2.2.2.2.2.2.2.2.2.2.2, ⟨hk.2.2.1, hk.2.2.2.1⟩⟩⟩⟩⟩⟩⟩⟩⟩)⟩, ⟨by (try simp only [hl365001_101]); (try simp only [hl370001_101]); (with_reducible repeat (first | apply Kd.R_alloc | apply Kd.R_drewN | apply Kd.R_drew)); exact Kd.R_mono HO417.out (fun _ hk => ⟨hk.2.2.2.2.1, ⟨hk.2.2.2.2.2.1, ⟨hk.2.2.2.2.2.2.1, ⟨hk.2.2.2.2.2.2.2.1, ⟨hk.2.2.2.2.2.2.2.2.1, ⟨hk.2.2.2.2.2.2.2.2.2.1, ⟨hk.2.2.2.2.2.2.2.2.2.2.1, ⟨hk.2.2.2.2.2.2.2.2.2.2.2, ⟨hk.2.2.1, hk.2.2.2.1⟩⟩⟩⟩⟩⟩⟩⟩⟩)⟩, ⟨by (try simp only [hl365001_101]); (try simp only [hl370001_101]); (with_reducible repeat (first | apply Kd.R_alloc | apply Kd.R_drewN | apply Kd.R_drew)); exact Kd.R_mono HO420.out (fun _ hk => ⟨hk.2.2.2.2.1, ⟨hk.2.2.2.2.2.1, ⟨hk.2.2.2.2.2.2.1, ⟨hk.2.2.2.2.2.2.2.1, ⟨hk.2.2.2.2.2.2.2.2.1, ⟨hk.2.2.2.2.2.2.2.2.2.1, ⟨hk.2.2.2.2.2.2.2.2.2.2.1, ⟨hk.2.2.2.2.2.2.2.2.2.2.2, ⟨hk.2.2.1, hk.2.2.2.1⟩⟩⟩⟩⟩⟩⟩⟩⟩)⟩, ⟨by (try simp only [hl365001_101]); (try simp only [hl370001_101]); (with_reducible repeat (first | refine blk_drewN ?_ _ | refine blk_drew ?_ | refine blk_alloc ?_ _)); exact BK336.out⟩, ⟨by (try simp only [hl365001_101]); (try simp only [hl370001_101]); (with_reducible repeat (first | refine blk_drewN ?_ _ | refine blk_drew ?_ | refine blk_alloc ?_ _)); exact BK337.out⟩, ⟨by (try simp only [hl365001_101]); (try simp only [hl370001_101]); (with_reducible repeat (first | refine blk_drewN ?_ _ | refine blk_drew ?_ | refine blk_alloc ?_ _)); exact BK359.out⟩, ⟨by (try simp only [hl365001_101]); (try simp only [hl370001_101]); (with_reducible repeat (first | refine blk_drewN ?_ _ | refine blk_drew ?_ | refine blk_alloc ?_ _)); exact BK364.out⟩, ⟨by (try simp only [hl365001_101]); (try simp only [hl370001_101]); (with_reducible repeat (first | refine blk_drewN ?_ _ | refine blk_drew ?_ | refine blk_alloc ?_ _)); exact BK369.out⟩, ⟨by (try simp only [hl365001_101]); (try simp only [hl370001_101]); (with_reducible repeat (first | refine blk_drewN ?_ _ | refine blk_drew ?_ | refine blk_alloc ?_ _)); exact BK381.out⟩, ⟨by (try simp only [hl365001_101]); (try simp only [hl370001_101]); (with_reducible repeat (first | refine blk_drewN ?_ _ | refine blk_drew ?_ | refine blk_alloc ?_ _)); exact BK422.out⟩, ⟨lw_ HB⟩⟩
              ·replace c173 := Bool.eq_false_iff.mpr c173
               subst c173
               have H1 : (none) = some r := by rw [if_neg (show ¬ (false = true) by decide)] at H; exact H
               clear H
               have H := H1
               clear H1
               exact absurd H (by simp)
             case rest =>
              clear HC147
              try clear c1
              try clear p2
              try clear c3
              try clear c4
              try clear c17
              try clear c18
              try clear c38
              try clear c44
              try clear c173
              try clear c174
              try clear c175
              try clear c176
              try clear c177
              try clear c178
              try clear c179
              try clear c181
              try clear c182
              try clear c183
              try clear c184
              try clear c185
              try clear hcz180_0
              try clear hcz180_1
              try clear hcz180_2
              try clear hcz180_3
              try clear hcz186_0
              try clear hcz186_1
              try clear hcz186_2
              try clear hcz186_3
              try clear hfz180_0
              try clear hfz180_1
              try clear hfz180_2
              try clear hfz180_3
              try clear hfz186_0
              try clear hfz186_1
              try clear hfz186_2
              try clear hfz186_3
              obtain ⟨kq, x110_146, rfl, HA, HJ146, HO_360001, HO_360002, HO_360003, HO_365001, HO_370001, HO_382001, HO_382002, HO_382003, HO_423001, HO_423002, HO_423003, BK336, BK337, BK359, BK364, BK369, BK381, BK422, HB⟩ := hcut
              have hl382001_146 := (Kd.R_reads' HO_382001.out).1
              rw [hl382001_146] at HO_382001
              (try simp only [hl382001_146])
              (try simp only [hl382001_146] at BK336)
              (try simp only [hl382001_146] at BK337)
              (try simp only [hl382001_146] at BK359)
              (try simp only [hl382001_146] at BK364)
              (try simp only [hl382001_146] at BK369)
              (try simp only [hl382001_146] at BK381)
              (try simp only [hl382001_146] at BK422)
              (try simp only [hl382001_146] at HO_360001)
              (try simp only [hl382001_146] at HO_360002)
              (try simp only [hl382001_146] at HO_360003)
              (try simp only [hl382001_146] at HO_365001)
              (try simp only [hl382001_146] at HO_370001)
              (try simp only [hl382001_146] at HO_382002)
              (try simp only [hl382001_146] at HO_382003)
              (try simp only [hl382001_146] at HO_423001)
              (try simp only [hl382001_146] at HO_423002)
              (try simp only [hl382001_146] at HO_423003)
              have hl382002_146 := (Kd.R_reads' HO_382002.out).1
              rw [hl382002_146] at HO_382002
              (try simp only [hl382002_146])
              (try simp only [hl382002_146] at BK336)
              (try simp only [hl382002_146] at BK337)
              (try simp only [hl382002_146] at BK359)
              (try simp only [hl382002_146] at BK364)
              (try simp only [hl382002_146] at BK369)
              (try simp only [hl382002_146] at BK381)
              (try simp only [hl382002_146] at BK422)
              (try simp only [hl382002_146] at HO_360001)
              (try simp only [hl382002_146] at HO_360002)
              (try simp only [hl382002_146] at HO_360003)
              (try simp only [hl382002_146] at HO_365001)
              (try simp only [hl382002_146] at HO_370001)
              (try simp only [hl382002_146] at HO_382001)
              (try simp only [hl382002_146] at HO_382003)
              (try simp only [hl382002_146] at HO_423001)
              (try simp only [hl382002_146] at HO_423002)
              (try simp only [hl382002_146] at HO_423003)
              have hl382003_146 := (Kd.R_reads' HO_382003.out).1
              rw [hl382003_146] at HO_382003
              (try simp only [hl382003_146])
              (try simp only [hl382003_146] at BK336)
              (try simp only [hl382003_146] at BK337)
              (try simp only [hl382003_146] at BK359)
              (try simp only [hl382003_146] at BK364)
              (try simp only [hl382003_146] at BK369)
              (try simp only [hl382003_146] at BK381)
              (try simp only [hl382003_146] at BK422)
              (try simp only [hl382003_146] at HO_360001)
              (try simp only [hl382003_146] at HO_360002)
              (try simp only [hl382003_146] at HO_360003)
              (try simp only [hl382003_146] at HO_365001)
              (try simp only [hl382003_146] at HO_370001)
              (try simp only [hl382003_146] at HO_382001)
              (try simp only [hl382003_146] at HO_382002)
              (try simp only [hl382003_146] at HO_423001)
              (try simp only [hl382003_146] at HO_423002)
              (try simp only [hl382003_146] at HO_423003)
              cases kq with
              | zero => exact absurd HA.out (by simp [laws_FnExactUnpackDirectory.j2])
              | succ kj146 =>
               have H := HA.out
               clear HA
               simp only [laws_FnExactUnpackDirectory.j2] at H
               by_cases c188 : x110_146 = true
               ·subst c188
                have H1 : (none) = some r := by rw [if_pos rfl] at H; exact H
                clear H
                have H := H1
                clear H1
                exact absurd H (by simp)
               ·replace c188 := Bool.eq_false_iff.mpr c188
                subst c188
                have H1 : ((laws_heldRanked.f kj146 t370 t399 t400 t401 1).bind fun t424 => (if t424 < 0 then (none) else (if t424 = t398 then (some true) else (none)))) = some r := by rw [if_neg (show ¬ (false = true) by decide)] at H; exact H
                clear H
                have H := H1
                clear H1
                replace H := Option.bind_eq_some_iff.mp H
                obtain ⟨t424, A1890, H⟩ := H
                replace H : (if t424 < 0 then (none) else (if t424 = t398 then (some true) else (none))) = some r := H
                have A189 := am_ A1890
                clear A1890
                by_cases c190 : t424 < 0
                ·rw [if_pos c190] at H
                 exact absurd H (by simp)
                ·rw [if_neg c190] at H
                 have c190b0 : decide (t424 < 0) = false := decide_eq_false c190
                 clear c190
                 by_cases c191 : t424 = t398
                 ·rw [if_pos c191] at H
                  have c191b0 : (t424 == t398) = true := beq_iff_eq.mpr c191
                  have c191b1 : (t424 != t398) = false := bne_eq_false_iff_eq.mpr c191
                  clear c191
                  obtain rfl := Option.some.inj H
                  have hnb192 := NB381_336.out
                  have hnc192 := NB336_381.out
                  have hnb193 := NB381_337.out
                  have hnc193 := NB337_381.out
                  have hnb194 := NB381_359.out
                  have hnc194 := NB359_381.out
                  have hnb195 := NB381_364.out
                  have hnc195 := NB364_381.out
                  have hnb196 := NB381_369.out
                  have hnc196 := NB369_381.out
                  have hnb197 := NB381_422.out
                  have hnc197 := NB422_381.out
                  obtain ⟨hcz198_0, hcz198_1, hcz198_2, hcz198_3, hfz198_0, hfz198_1, hfz198_2, hfz198_3⟩ := bx4_ BK381.out
                  go_wp2_with (first | ((with_reducible refine gate_callee (f := 40) rfl ?_); refine goesL_ (some 113) rfl rfl Try.func40 (by kernel_rfl) rfl #[.agg #[.int .i64 t370, .slice Ao76 t399.length co76, .slice Ao77 t400.length co77, .slice Ao78 t401.length co78], .int .i64 1] rfl lm_ ?_; (with_reducible refine (laws_heldRanked.calls kj146 t370 _ _ t399 _ _ t400 _ _ t401 1 t424 _ ?side1 ?side2 ?side3 ?side4 ?side5 ?side6 A189.out).mono ?_); (case side1 => exact lc_ (Kd.R_reads' HO_382001.out).2.2); (case side2 => exact (Kd.R_reads' HO_382001.out).2.1); (case side3 => exact lc_ (Kd.R_reads' HO_382002.out).2.2); (case side4 => exact (Kd.R_reads' HO_382002.out).2.1); (case side5 => exact lc_ (Kd.R_reads' HO_382003.out).2.2); (case side6 => exact (Kd.R_reads' HO_382003.out).2.1); rintro e w199 ⟨rfl, hb⟩; refine ⟨_, rfl, ?_⟩; replace HO_360001 := am_ (Kd.R_below (lf_ HO_360001) hb); replace HO_360002 := am_ (Kd.R_below (lf_ HO_360002) hb); replace HO_360003 := am_ (Kd.R_below (lf_ HO_360003) hb); replace HO_365001 := am_ (Kd.R_below (lf_ HO_365001) hb); replace HO_370001 := am_ (Kd.R_below (lf_ HO_370001) hb); replace HO_382001 := am_ (Kd.R_below (lf_ HO_382001) hb); replace HO_382002 := am_ (Kd.R_below (lf_ HO_382002) hb); replace HO_382003 := am_ (Kd.R_below (lf_ HO_382003) hb); replace HO_423001 := am_ (Kd.R_below (lf_ HO_423001) hb); replace HO_423002 := am_ (Kd.R_below (lf_ HO_423002) hb); replace HO_423003 := am_ (Kd.R_below (lf_ HO_423003) hb); replace BK336 := am_ (blk_below (g := gb336) (lb_ BK336) hb); replace BK337 := am_ (blk_below (g := gb337) (lb_ BK337) hb); replace BK359 := am_ (blk_below (g := gb359) (lb_ BK359) hb); replace BK364 := am_ (blk_below (g := gb364) (lb_ BK364) hb); replace BK369 := am_ (blk_below (g := gb369) (lb_ BK369) hb); replace BK381 := am_ (blk_below (g := gb381) (lb_ BK381) hb); replace BK422 := am_ (blk_below (g := gb422) (lb_ BK422) hb); replace HB := am_ (below_step (lw_ HB) hb); (try clear hb); (try clear hb2); (try clear hk); (try clear hi)))
                  go_ret
                  exact ⟨er_, lw_ HB⟩
                 ·rw [if_neg c191] at H
                  exact absurd H (by simp)
            ·rw [if_neg c143] at H
             exact absurd H (by simp)
       ·replace c99 := Bool.eq_false_iff.mpr c99
        subst c99
        have H1 : (none) = some r := by rw [if_neg (show ¬ (false = true) by decide)] at H; exact H
        clear H
        have H := H1
        clear H1
        exact absurd H (by simp)
      ·replace c96 := Bool.eq_false_iff.mpr c96
       subst c96
       have H1 : (none) = some r := by rw [if_neg (show ¬ (false = true) by decide)] at H; exact H
       clear H
       have H := H1
       clear H1
       exact absurd H (by simp)

/-- The plain statement of laws_FnExactUnpackDirectory. -/
def laws_FnExactUnpackDirectory.Pure : Prop := ∀ (a0_0 : Int) (l0_1 : List Int) (a1_0 : Int) (l1_1 : List Int), (Lit.int .i64 a0_0).wf = true → l0_1.length ≤ maxLen → (∀ x ∈ l0_1, (Lit.int .i64 x).wf = true) → (Lit.int .i64 a1_0).wf = true → l1_1.length ≤ maxLen → (∀ x ∈ l1_1, (Lit.int .i64 x).wf = true) → ∃ k, laws_FnExactUnpackDirectory.f k a0_0 l0_1 a1_0 l1_1 = some true

end Go.Proofs.Ytkmhjgejficclaa.PFnExactUnpackDirectory
