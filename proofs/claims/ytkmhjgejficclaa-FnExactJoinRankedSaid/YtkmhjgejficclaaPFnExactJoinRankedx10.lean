-- Laid by a program of this session: the print of the kit with additions of ours (wip/tools/patchprint.py). Nothing of it is trusted: Lean checks it.
import Derived.Test.YtkmhjgejficclaaPFnExactJoinRankedx0
import Derived.Test.YtkmhjgejficclaaPFnExactJoinRankedx1
import Derived.Test.YtkmhjgejficclaaPFnExactJoinRankedx4
import Derived.Test.YtkmhjgejficclaaPFnExactJoinRankedx5
import Derived.Test.YtkmhjgejficclaaPFnExactJoinRankedx8
import Derived.Test.YtkmhjgejficclaaPFnExactJoinRankedx9
namespace Go.Proofs.Ytkmhjgejficclaa.PFnExactJoinRanked
open Go.RowKit Go.Proofs.YtkmhjgejficclaaW.PrintWords Go.Proofs.YtkmhjgejficclaaW.PrintLast Go.Proofs.YtkmhjgejficclaaW.PrintMore
attribute [local go_sem] max2_int min2_int max_two min_two max_three min_three max_four min_four   -- for this text's walks alone
set_option linter.unusedVariables false
set_option linter.unusedSimpArgs false

def tail_ : Nat → Code → Code
 | n + 1, .seq _ c => tail_ n c
 | _, c => c
def hd_ : Code → Code
 | .seq c _ => c
 | c => c
def body_ (f : Func) : Code := f.body.getD .skip
/-! ### laws_FnExactJoinRanked: function 8 -/
mutual
def laws_FnExactJoinRanked.j0 : Nat → Bool → Bool → Bool → Int → List Int → List Int → List Int → Int → List Int → List Int → List Int → Int → List Int → List Int → List Int → Int → List Int → List Int → List Int → Int → List Int → List Int → List Int → Int → List Int → List Int → List Int → Option (Bool)
 | 0, _, _, _, _, _, _, _, _, _, _, _, _, _, _, _, _, _, _, _, _, _, _, _, _, _, _, _ => none
 | k + 1, x7, x11, x53, x352000, x352001, x352002, x352003, x353000, x353001, x353002, x353003, x387000, x387001, x387002, x387003, x398000, x398001, x398002, x398003, x409000, x409001, x409002, x409003, x421000, x421001, x421002, x421003 => if x53 = true then (none) else ((laws_toRanked.f k x352000 x352001 x352002 x352003).bind fun bt422 => ((laws_eqRanked.f k x398000 x398001 x398002 x398003 bt422.1 bt422.2.1 bt422.2.2.1 bt422.2.2.2).bind fun t432 => (if t432 = true then ((laws_toRanked.f k x353000 x353001 x353002 x353003).bind fun bt433 => ((laws_eqRanked.f k x409000 x409001 x409002 x409003 bt433.1 bt433.2.1 bt433.2.2.1 bt433.2.2.2).bind fun t443 => (if t443 = true then ((laws_markRanked.f k x398000 x398001 x398002 x398003 1).bind fun bt444 => ((laws_markRanked.f k x409000 x409001 x409002 x409003 bt444.1).bind fun bt448 => (if bt448.1 < 0 then (none) else ((laws_eqRanked.f k x421000 x421001 x421002 x421003 x387000 x387001 x387002 x387003).bind fun t452 => (if t452 = true then (laws_FnExactJoinRanked.j1 k x7 (x11 != x7) x352000 x352001 x352002 x352003 x353000 x353001 x353002 x353003 x387000 x387001 x387002 x387003 x421000 x421001 x421002 x421003) else (none)))))) else (none)))) else (none))))
def laws_FnExactJoinRanked.j1 : Nat → Bool → Bool → Int → List Int → List Int → List Int → Int → List Int → List Int → List Int → Int → List Int → List Int → List Int → Int → List Int → List Int → List Int → Option (Bool)
 | 0, _, _, _, _, _, _, _, _, _, _, _, _, _, _, _, _, _, _ => none
 | k + 1, x7, x82, x352000, x352001, x352002, x352003, x353000, x353001, x353002, x353003, x387000, x387001, x387002, x387003, x421000, x421001, x421002, x421003 => if x82 = true then (none) else ((laws_markRanked.f k x421000 x421001 x421002 x421003 1).bind fun bt453 => ((laws_heldRanked.f k x421000 bt453.2.1 bt453.2.2.1 bt453.2.2.2 1).bind fun t457 => (if t457 < 0 then (none) else (if t457 = bt453.1 then ((laws_toRanked.f k x352000 x352001 x352002 x352003).bind fun bt458 => ((laws_toRanked.f k x353000 x353001 x353002 x353003).bind fun bt468 => ((impl_JoinRanked.f k bt458.1 bt458.2.1 bt458.2.2.1 bt458.2.2.2 bt468.1 bt468.2.1 bt468.2.2.1 bt468.2.2.2).bind fun bt478 => ((laws_eqRanked.f k bt478.1 bt478.2.1 bt478.2.2.1 bt478.2.2.2.1 x387000 x387001 x387002 x387003).bind fun t490 => (if t490 = true then (laws_FnExactJoinRanked.j2 k bt453.1 (bt478.2.2.2.2 != x7) x421000 bt453.2.1 bt453.2.2.1 bt453.2.2.2) else (none)))))) else (none)))))
def laws_FnExactJoinRanked.j2 : Nat → Int → Bool → Int → List Int → List Int → List Int → Option (Bool)
 | 0, _, _, _, _, _, _ => none
 | k + 1, x13, x110, x421000, x421001, x421002, x421003 => if x110 = true then (none) else ((laws_heldRanked.f k x421000 x421001 x421002 x421003 1).bind fun t491 => (if t491 < 0 then (none) else (if t491 = x13 then (some true) else (none))))
end
def laws_FnExactJoinRanked.f (k : Nat) (a0_0 : Int) (l0_1 : List Int) (l0_2 : List Int) (l0_3 : List Int) (a1_0 : Int) (l1_1 : List Int) (l1_2 : List Int) (l1_3 : List Int) : Option (Bool) := (laws_szRanked.f a0_0 l0_1 l0_2 l0_3 1048576).bind fun t353 => (if t353 < 0 then (some true) else ((laws_szRanked.f a1_0 l1_1 l1_2 l1_3 t353).bind fun t354 => (if t354 < 0 then (some true) else ((laws_toRanked.f k a0_0 l0_1 l0_2 l0_3).bind fun bt355 => ((laws_toRanked.f k a1_0 l1_1 l1_2 l1_3).bind fun bt365 => ((spec_JoinRanked.f k bt355.1 bt355.2.1 bt355.2.2.1 bt355.2.2.2 bt365.1 bt365.2.1 bt365.2.2.1 bt365.2.2.2).bind fun bt375 => ((laws_toRanked.f k a0_0 l0_1 l0_2 l0_3).bind fun bt387 => ((laws_toRanked.f k a1_0 l1_1 l1_2 l1_3).bind fun bt398 => ((impl_JoinRanked.f k bt387.1 bt387.2.1 bt387.2.2.1 bt387.2.2.2 bt398.1 bt398.2.1 bt398.2.2.1 bt398.2.2.2).bind fun bt409 => ((laws_eqRanked.f k bt409.1 bt409.2.1 bt409.2.2.1 bt409.2.2.2.1 bt375.1 bt375.2.1 bt375.2.2.1 bt375.2.2.2.1).bind fun t421 => (if t421 = true then (laws_FnExactJoinRanked.j0 k bt375.2.2.2.2 bt409.2.2.2.2 (bt409.2.2.2.2 != bt375.2.2.2.2) a0_0 l0_1 l0_2 l0_3 a1_0 l1_1 l1_2 l1_3 bt375.1 bt375.2.1 bt375.2.2.1 bt375.2.2.2.1 bt387.1 bt387.2.1 bt387.2.2.1 bt387.2.2.2 bt398.1 bt398.2.1 bt398.2.2.1 bt398.2.2.2 bt409.1 bt409.2.1 bt409.2.2.1 bt409.2.2.2.1) else (none))))))))))))
theorem laws_FnExactJoinRanked.mono_l : ∀ k, (∀ y0 y1 y2 y3 y4 y5 y6 y7 y8 y9 y10 y11 y12 y13 y14 y15 y16 y17 y18 y19 y20 y21 y22 y23 y24 y25 y26, LeO (laws_FnExactJoinRanked.j0 k y0 y1 y2 y3 y4 y5 y6 y7 y8 y9 y10 y11 y12 y13 y14 y15 y16 y17 y18 y19 y20 y21 y22 y23 y24 y25 y26) (laws_FnExactJoinRanked.j0 (k + 1) y0 y1 y2 y3 y4 y5 y6 y7 y8 y9 y10 y11 y12 y13 y14 y15 y16 y17 y18 y19 y20 y21 y22 y23 y24 y25 y26)) ∧ (∀ y0 y1 y2 y3 y4 y5 y6 y7 y8 y9 y10 y11 y12 y13 y14 y15 y16 y17, LeO (laws_FnExactJoinRanked.j1 k y0 y1 y2 y3 y4 y5 y6 y7 y8 y9 y10 y11 y12 y13 y14 y15 y16 y17) (laws_FnExactJoinRanked.j1 (k + 1) y0 y1 y2 y3 y4 y5 y6 y7 y8 y9 y10 y11 y12 y13 y14 y15 y16 y17)) ∧ (∀ y0 y1 y2 y3 y4 y5, LeO (laws_FnExactJoinRanked.j2 k y0 y1 y2 y3 y4 y5) (laws_FnExactJoinRanked.j2 (k + 1) y0 y1 y2 y3 y4 y5))
 | 0 => ⟨fun _ _ _ _ _ _ _ _ _ _ _ _ _ _ _ _ _ _ _ _ _ _ _ _ _ _ _ r h => by simp [laws_FnExactJoinRanked.j0] at h, fun _ _ _ _ _ _ _ _ _ _ _ _ _ _ _ _ _ _ r h => by simp [laws_FnExactJoinRanked.j1] at h, fun _ _ _ _ _ _ r h => by simp [laws_FnExactJoinRanked.j2] at h⟩
 | k + 1 => by
  obtain ⟨ih0, ih1, ih2⟩ := laws_FnExactJoinRanked.mono_l k
  refine ⟨?_, ?_, ?_⟩
  ·intro y0 y1 y2 y3 y4 y5 y6 y7 y8 y9 y10 y11 y12 y13 y14 y15 y16 y17 y18 y19 y20 y21 y22 y23 y24 y25 y26
   unfold laws_FnExactJoinRanked.j0
   repeat' first
   | (with_reducible exact ih0 _ _ _ _ _ _ _ _ _ _ _ _ _ _ _ _ _ _ _ _ _ _ _ _ _ _ _)
   | (with_reducible exact ih1 _ _ _ _ _ _ _ _ _ _ _ _ _ _ _ _ _ _)
   | (with_reducible exact ih2 _ _ _ _ _ _)
   | (with_reducible exact impl_JoinRanked.mono _ _ _ _ _ _ _ _ _)
   | (with_reducible exact laws_eqRanked.mono _ _ _ _ _ _ _ _ _)
   | (with_reducible exact laws_heldRanked.mono _ _ _ _ _ _)
   | (with_reducible exact laws_markRanked.mono _ _ _ _ _ _)
   | (with_reducible exact laws_toRanked.mono _ _ _ _ _)
   | (with_reducible exact spec_JoinRanked.mono _ _ _ _ _ _ _ _ _)
   | (with_reducible exact LeO.refl _)
   | (with_reducible exact LeO.none _)
   | (with_reducible refine LeO.ite ?_ ?_)
   | (with_reducible refine LeO.bind ?_ (fun _ => ?_))
   | exact ih0 _ _ _ _ _ _ _ _ _ _ _ _ _ _ _ _ _ _ _ _ _ _ _ _ _ _ _
   | exact ih1 _ _ _ _ _ _ _ _ _ _ _ _ _ _ _ _ _ _
   | exact ih2 _ _ _ _ _ _
   | exact impl_JoinRanked.mono _ _ _ _ _ _ _ _ _
   | exact laws_eqRanked.mono _ _ _ _ _ _ _ _ _
   | exact laws_heldRanked.mono _ _ _ _ _ _
   | exact laws_markRanked.mono _ _ _ _ _ _
   | exact laws_toRanked.mono _ _ _ _ _
   | exact spec_JoinRanked.mono _ _ _ _ _ _ _ _ _
   | exact LeO.none _
   | refine LeO.ite ?_ ?_
   | refine LeO.bind ?_ (fun _ => ?_)
  ·intro y0 y1 y2 y3 y4 y5 y6 y7 y8 y9 y10 y11 y12 y13 y14 y15 y16 y17
   unfold laws_FnExactJoinRanked.j1
   repeat' first
   | (with_reducible exact ih0 _ _ _ _ _ _ _ _ _ _ _ _ _ _ _ _ _ _ _ _ _ _ _ _ _ _ _)
   | (with_reducible exact ih1 _ _ _ _ _ _ _ _ _ _ _ _ _ _ _ _ _ _)
   | (with_reducible exact ih2 _ _ _ _ _ _)
   | (with_reducible exact impl_JoinRanked.mono _ _ _ _ _ _ _ _ _)
   | (with_reducible exact laws_eqRanked.mono _ _ _ _ _ _ _ _ _)
   | (with_reducible exact laws_heldRanked.mono _ _ _ _ _ _)
   | (with_reducible exact laws_markRanked.mono _ _ _ _ _ _)
   | (with_reducible exact laws_toRanked.mono _ _ _ _ _)
   | (with_reducible exact spec_JoinRanked.mono _ _ _ _ _ _ _ _ _)
   | (with_reducible exact LeO.refl _)
   | (with_reducible exact LeO.none _)
   | (with_reducible refine LeO.ite ?_ ?_)
   | (with_reducible refine LeO.bind ?_ (fun _ => ?_))
   | exact ih0 _ _ _ _ _ _ _ _ _ _ _ _ _ _ _ _ _ _ _ _ _ _ _ _ _ _ _
   | exact ih1 _ _ _ _ _ _ _ _ _ _ _ _ _ _ _ _ _ _
   | exact ih2 _ _ _ _ _ _
   | exact impl_JoinRanked.mono _ _ _ _ _ _ _ _ _
   | exact laws_eqRanked.mono _ _ _ _ _ _ _ _ _
   | exact laws_heldRanked.mono _ _ _ _ _ _
   | exact laws_markRanked.mono _ _ _ _ _ _
   | exact laws_toRanked.mono _ _ _ _ _
   | exact spec_JoinRanked.mono _ _ _ _ _ _ _ _ _
   | exact LeO.none _
   | refine LeO.ite ?_ ?_
   | refine LeO.bind ?_ (fun _ => ?_)
  ·intro y0 y1 y2 y3 y4 y5
   unfold laws_FnExactJoinRanked.j2
   repeat' first
   | (with_reducible exact ih0 _ _ _ _ _ _ _ _ _ _ _ _ _ _ _ _ _ _ _ _ _ _ _ _ _ _ _)
   | (with_reducible exact ih1 _ _ _ _ _ _ _ _ _ _ _ _ _ _ _ _ _ _)
   | (with_reducible exact ih2 _ _ _ _ _ _)
   | (with_reducible exact impl_JoinRanked.mono _ _ _ _ _ _ _ _ _)
   | (with_reducible exact laws_eqRanked.mono _ _ _ _ _ _ _ _ _)
   | (with_reducible exact laws_heldRanked.mono _ _ _ _ _ _)
   | (with_reducible exact laws_markRanked.mono _ _ _ _ _ _)
   | (with_reducible exact laws_toRanked.mono _ _ _ _ _)
   | (with_reducible exact spec_JoinRanked.mono _ _ _ _ _ _ _ _ _)
   | (with_reducible exact LeO.refl _)
   | (with_reducible exact LeO.none _)
   | (with_reducible refine LeO.ite ?_ ?_)
   | (with_reducible refine LeO.bind ?_ (fun _ => ?_))
   | exact ih0 _ _ _ _ _ _ _ _ _ _ _ _ _ _ _ _ _ _ _ _ _ _ _ _ _ _ _
   | exact ih1 _ _ _ _ _ _ _ _ _ _ _ _ _ _ _ _ _ _
   | exact ih2 _ _ _ _ _ _
   | exact impl_JoinRanked.mono _ _ _ _ _ _ _ _ _
   | exact laws_eqRanked.mono _ _ _ _ _ _ _ _ _
   | exact laws_heldRanked.mono _ _ _ _ _ _
   | exact laws_markRanked.mono _ _ _ _ _ _
   | exact laws_toRanked.mono _ _ _ _ _
   | exact spec_JoinRanked.mono _ _ _ _ _ _ _ _ _
   | exact LeO.none _
   | refine LeO.ite ?_ ?_
   | refine LeO.bind ?_ (fun _ => ?_)
theorem laws_FnExactJoinRanked.mono : ∀ a0 a1 a2 a3 a4 a5 a6 a7 k, LeO (laws_FnExactJoinRanked.f k a0 a1 a2 a3 a4 a5 a6 a7) (laws_FnExactJoinRanked.f (k + 1) a0 a1 a2 a3 a4 a5 a6 a7) := by
 intro a0 a1 a2 a3 a4 a5 a6 a7 k
 obtain ⟨ih0, ih1, ih2⟩ := laws_FnExactJoinRanked.mono_l k
 unfold laws_FnExactJoinRanked.f
 repeat' first
   | (with_reducible exact ih0 _ _ _ _ _ _ _ _ _ _ _ _ _ _ _ _ _ _ _ _ _ _ _ _ _ _ _)
   | (with_reducible exact ih1 _ _ _ _ _ _ _ _ _ _ _ _ _ _ _ _ _ _)
   | (with_reducible exact ih2 _ _ _ _ _ _)
   | (with_reducible exact impl_JoinRanked.mono _ _ _ _ _ _ _ _ _)
   | (with_reducible exact laws_eqRanked.mono _ _ _ _ _ _ _ _ _)
   | (with_reducible exact laws_heldRanked.mono _ _ _ _ _ _)
   | (with_reducible exact laws_markRanked.mono _ _ _ _ _ _)
   | (with_reducible exact laws_toRanked.mono _ _ _ _ _)
   | (with_reducible exact spec_JoinRanked.mono _ _ _ _ _ _ _ _ _)
   | (with_reducible exact LeO.refl _)
   | (with_reducible exact LeO.none _)
   | (with_reducible refine LeO.ite ?_ ?_)
   | (with_reducible refine LeO.bind ?_ (fun _ => ?_))
   | exact ih0 _ _ _ _ _ _ _ _ _ _ _ _ _ _ _ _ _ _ _ _ _ _ _ _ _ _ _
   | exact ih1 _ _ _ _ _ _ _ _ _ _ _ _ _ _ _ _ _ _
   | exact ih2 _ _ _ _ _ _
   | exact impl_JoinRanked.mono _ _ _ _ _ _ _ _ _
   | exact laws_eqRanked.mono _ _ _ _ _ _ _ _ _
   | exact laws_heldRanked.mono _ _ _ _ _ _
   | exact laws_markRanked.mono _ _ _ _ _ _
   | exact laws_toRanked.mono _ _ _ _ _
   | exact spec_JoinRanked.mono _ _ _ _ _ _ _ _ _
   | exact LeO.none _
   | refine LeO.ite ?_ ?_
   | refine LeO.bind ?_ (fun _ => ?_)
def laws_FnExactJoinRanked.T8 : Bool × List (List Nat × List Nat) := (true, [([], []), ([0], [0]), ([], []), ([2, 1], [2]), ([1, 3, 3], [1, 3]), ([4], [4]), ([5], [5]), ([5], [5]), ([], []), ([8, 6, 4, 0, 1, 2, 3, 4, 5, 6, 8], [6, 8]), ([7, 9, 0, 1, 2, 3, 4, 5, 6, 7, 8, 9], [7])])
def laws_FnExactJoinRanked.B8 : List Nat := [0, 1, 0, 7, 15, 31, 63, 63, 0, 383, 1023]
theorem laws_FnExactJoinRanked.tab8 : rtab .any (opsOf Try.f8 8) = laws_FnExactJoinRanked.T8 := by kernel_rfl
theorem laws_FnExactJoinRanked.bits8 : waitsOk laws_FnExactJoinRanked.T8.2 laws_FnExactJoinRanked.B8 = true := by kernel_rfl
def laws_FnExactJoinRanked.T31 : Bool × List (List Nat × List Nat) := (true, [([], []), ([0], [0]), ([], []), ([2, 1], [2]), ([1, 3, 3], [1, 3]), ([4], [4]), ([5], [5]), ([5], [5]), ([], []), ([8, 6, 4, 0, 1, 2, 3, 4, 5, 6, 8], [6, 8]), ([7, 9, 0, 1, 2, 3, 4, 5, 6, 7, 8, 9], [7])])
def laws_FnExactJoinRanked.B31 : List Nat := [0, 1, 0, 7, 15, 31, 63, 63, 0, 383, 1023]
theorem laws_FnExactJoinRanked.tab31 : rtab .any (opsOf Try.f8 31) = laws_FnExactJoinRanked.T31 := by kernel_rfl
theorem laws_FnExactJoinRanked.bits31 : waitsOk laws_FnExactJoinRanked.T31.2 laws_FnExactJoinRanked.B31 = true := by kernel_rfl
set_option maxHeartbeats 8000000 in
set_option maxRecDepth 100000 in
theorem laws_FnExactJoinRanked.rest82 (k : Nat) (a0_0 : Int) (A0_1 : Option Addr) (c0_1 : Nat) (l0_1 : List Int) (A0_2 : Option Addr) (c0_2 : Nat) (l0_2 : List Int) (A0_3 : Option Addr) (c0_3 : Nat) (l0_3 : List Int) (a1_0 : Int) (A1_1 : Option Addr) (c1_1 : Nat) (l1_1 : List Int) (A1_2 : Option Addr) (c1_2 : Nat) (l1_2 : List Int) (A1_3 : Option Addr) (c1_3 : Nat) (l1_3 : List Int) (r : Bool) (w : World) (HR0_1 : Aside0 ((Kd.int IntKind.i64).C w A0_1 l0_1.length l0_1)) (HC0_1 : Aside0 (l0_1.length ≤ c0_1)) (HR0_2 : Aside0 ((Kd.int IntKind.i64).C w A0_2 l0_2.length l0_2)) (HC0_2 : Aside0 (l0_2.length ≤ c0_2)) (HR0_3 : Aside0 ((Kd.int IntKind.i64).C w A0_3 l0_3.length l0_3)) (HC0_3 : Aside0 (l0_3.length ≤ c0_3)) (HR1_1 : Aside0 ((Kd.int IntKind.i64).C w A1_1 l1_1.length l1_1)) (HC1_1 : Aside0 (l1_1.length ≤ c1_1)) (HR1_2 : Aside0 ((Kd.int IntKind.i64).C w A1_2 l1_2.length l1_2)) (HC1_2 : Aside0 (l1_2.length ≤ c1_2)) (HR1_3 : Aside0 ((Kd.int IntKind.i64).C w A1_3 l1_3.length l1_3)) (HC1_3 : Aside0 (l1_3.length ≤ c1_3)) (t354 : Int) (t375 : Int) (t376 : List Int) (t379 : List Int) (t382 : List Int) (t385 : Bool) (t387 : Int) (t388 : List Int) (t391 : List Int) (t394 : List Int) (t398 : Int) (t399 : List Int) (t402 : List Int) (t405 : List Int) (t409 : Int) (t410 : List Int) (t413 : List Int) (t416 : List Int) (t419 : Bool) (gb351 : Nat) (GW351 : Aside0 (w.heap.size ≤ gb351)) (GE351 : Aside0 (w.heap.size ≤ gb351)) (gb352 : Nat) (GW352 : Aside0 (w.heap.size ≤ gb352)) (GE352 : Aside0 (w.heap.size ≤ gb352)) (NB351_352 : Aside0 (gb351 ≠ gb352)) (NB352_351 : Aside0 (gb352 ≠ gb351)) (gb386 : Nat) (GW386 : Aside0 (w.heap.size ≤ gb386)) (GE386 : Aside0 (w.heap.size ≤ gb386)) (NB351_386 : Aside0 (gb351 ≠ gb386)) (NB386_351 : Aside0 (gb386 ≠ gb351)) (NB352_386 : Aside0 (gb352 ≠ gb386)) (NB386_352 : Aside0 (gb386 ≠ gb352)) (Ao46 : Option Addr) (co46 : Nat) (Ao48 : Option Addr) (co48 : Nat) (Ao50 : Option Addr) (co50 : Nat) (gb397 : Nat) (GW397 : Aside0 (w.heap.size ≤ gb397)) (GE397 : Aside0 (w.heap.size ≤ gb397)) (NB351_397 : Aside0 (gb351 ≠ gb397)) (NB397_351 : Aside0 (gb397 ≠ gb351)) (NB352_397 : Aside0 (gb352 ≠ gb397)) (NB397_352 : Aside0 (gb397 ≠ gb352)) (NB386_397 : Aside0 (gb386 ≠ gb397)) (NB397_386 : Aside0 (gb397 ≠ gb386)) (Ao60 : Option Addr) (co60 : Nat) (Ao61 : Option Addr) (co61 : Nat) (Ao62 : Option Addr) (co62 : Nat) (gb408 : Nat) (GW408 : Aside0 (w.heap.size ≤ gb408)) (GE408 : Aside0 (w.heap.size ≤ gb408)) (NB351_408 : Aside0 (gb351 ≠ gb408)) (NB408_351 : Aside0 (gb408 ≠ gb351)) (NB352_408 : Aside0 (gb352 ≠ gb408)) (NB408_352 : Aside0 (gb408 ≠ gb352)) (NB386_408 : Aside0 (gb386 ≠ gb408)) (NB408_386 : Aside0 (gb408 ≠ gb386)) (NB397_408 : Aside0 (gb397 ≠ gb408)) (NB408_397 : Aside0 (gb408 ≠ gb397)) (Ao72 : Option Addr) (co72 : Nat) (Ao73 : Option Addr) (co73 : Nat) (Ao74 : Option Addr) (co74 : Nat) (gb420 : Nat) (GW420 : Aside0 (w.heap.size ≤ gb420)) (GE420 : Aside0 (w.heap.size ≤ gb420)) (NB351_420 : Aside0 (gb351 ≠ gb420)) (NB420_351 : Aside0 (gb420 ≠ gb351)) (NB352_420 : Aside0 (gb352 ≠ gb420)) (NB420_352 : Aside0 (gb420 ≠ gb352)) (NB386_420 : Aside0 (gb386 ≠ gb420)) (NB420_386 : Aside0 (gb420 ≠ gb386)) (NB397_420 : Aside0 (gb397 ≠ gb420)) (NB420_397 : Aside0 (gb420 ≠ gb397)) (NB408_420 : Aside0 (gb408 ≠ gb420)) (NB420_408 : Aside0 (gb420 ≠ gb408)) (Ao84 : Option Addr) (co84 : Nat) (Ao85 : Option Addr) (co85 : Nat) (Ao86 : Option Addr) (co86 : Nat) (kj24 : Nat) (HJ24 : Aside0 (kj24 + 1 ≤ k)) (t445 : List Int) (t446 : List Int) (t447 : List Int) (t448 : Int) (t449 : List Int) (t450 : List Int) (t451 : List Int) (wc : World) (u17 : Value) (u18 : Value) (u19 : Value) (u20 : Value) (u21 : Value) (u22 : Value) (u23 : Value) (u24 : Value) (u25 : Value) (u26 : Value) (u27 : Value) (u28 : Value) (u29 : Value) (u30 : Value) (u31 : Value) (u32 : Value) (u33 : Value) (u34 : Value) (u35 : Value) (u36 : Value) (u37 : Value) (u38 : Value) (u39 : Value) (u40 : Value) (u41 : Value) (u42 : Value) (u43 : Value) (u44 : Value) (u45 : Value) (u46 : Value) (u47 : Value) (u48 : Value) (u49 : Value) (u50 : Value) (u51 : Value) (u52 : Value) (u53 : Value) (u54 : Value) (u55 : Value) (u56 : Value) (u57 : Value) (u58 : Value) (u59 : Value) (u60 : Value) (u61 : Value) (u62 : Value) (u63 : Value) (u64 : Value) (u65 : Value) (u66 : Value) (u67 : Value) (u68 : Value) (u69 : Value) (u70 : Value) (u71 : Value) (u72 : Value) (u73 : Value) (u74 : Value) (u75 : Value) (u76 : Value) (u77 : Value) (u78 : Value) (u79 : Value) (u80 : Value) (u81 : Value) (u82 : Value) (u83 : Value) (u84 : Value) (u85 : Value) (u86 : Value) (u87 : Value) (u88 : Value) (u89 : Value) (u90 : Value) (u91 : Value) (u92 : Value) (u93 : Value) (u94 : Value) (u95 : Value) (u96 : Value) (u97 : Value) (u98 : Value) (u99 : Value) (u100 : Value) (u101 : Value) (u102 : Value) (u103 : Value) (u104 : Value) (u105 : Value) (u106 : Value) (u107 : Value) (u108 : Value) (u109 : Value) (u110 : Value) (u111 : Value) (u112 : Value) (u113 : Value) (u114 : Value) (u115 : Value) (u116 : Value) (u117 : Value) (u118 : Value) (K0 K : Act → World → Prop)
    (hK0_ : ∀ (a : Act) (w_ : World), Code.wp Try.prog (tail_ 17 (body_ Try.f8)) (bodyPost Try.prog Try.f8 fun e w' => e = Ending.returned (Value.bool r) ∧ Below w.heap.size w w') a w_ → K0 a w_)
    (hK_ : ∀ (a : Act) (w_ : World), Code.wp Try.prog (tail_ 1 (hd_ (tail_ 16 (body_ Try.f8)))) (Exit.then K0 (bodyPost Try.prog Try.f8 fun e w' => e = Ending.returned (Value.bool r) ∧ Below w.heap.size w w')) a w_ → K a w_)
    (hcut : ∃ kq x82_109, u82 = Value.bool x82_109 ∧ Aside0 (j1 kq t385 x82_109 a0_0 l0_1 l0_2 l0_3 a1_0 l1_1 l1_2 l1_3 t375 t376 t379 t382 t409 t410 t413 t416 = some r) ∧ Aside0 (kq ≤ kj24) ∧ Aside0 ((Kd.int IntKind.i64).R 3 wc w.heap.size (fun k_ => ns_ k_ Ao48 t379 co48 ∧ ns_ k_ Ao50 t382 co50 ∧ ns_ k_ Ao60 t388 co60 ∧ ns_ k_ Ao61 t391 co61 ∧ ns_ k_ Ao62 t394 co62 ∧ ns_ k_ Ao72 t399 co72 ∧ ns_ k_ Ao73 t402 co73 ∧ ns_ k_ Ao74 t405 co74 ∧ ns_ k_ Ao84 t410 co84 ∧ ns_ k_ Ao85 t413 co85 ∧ ns_ k_ Ao86 t416 co86) (Value.slice Ao46 t376.length co46) t376) ∧ Aside0 ((Kd.int IntKind.i64).R 3 wc w.heap.size (fun k_ => ns_ k_ Ao46 t376 co46 ∧ ns_ k_ Ao50 t382 co50 ∧ ns_ k_ Ao60 t388 co60 ∧ ns_ k_ Ao61 t391 co61 ∧ ns_ k_ Ao62 t394 co62 ∧ ns_ k_ Ao72 t399 co72 ∧ ns_ k_ Ao73 t402 co73 ∧ ns_ k_ Ao74 t405 co74 ∧ ns_ k_ Ao84 t410 co84 ∧ ns_ k_ Ao85 t413 co85 ∧ ns_ k_ Ao86 t416 co86) (Value.slice Ao48 t379.length co48) t379) ∧ Aside0 ((Kd.int IntKind.i64).R 3 wc w.heap.size (fun k_ => ns_ k_ Ao46 t376 co46 ∧ ns_ k_ Ao48 t379 co48 ∧ ns_ k_ Ao60 t388 co60 ∧ ns_ k_ Ao61 t391 co61 ∧ ns_ k_ Ao62 t394 co62 ∧ ns_ k_ Ao72 t399 co72 ∧ ns_ k_ Ao73 t402 co73 ∧ ns_ k_ Ao74 t405 co74 ∧ ns_ k_ Ao84 t410 co84 ∧ ns_ k_ Ao85 t413 co85 ∧ ns_ k_ Ao86 t416 co86) (Value.slice Ao50 t382.length co50) t382) ∧ Aside0 ((Kd.int IntKind.i64).R 3 wc w.heap.size (fun k_ => ns_ k_ Ao46 t376 co46 ∧ ns_ k_ Ao48 t379 co48 ∧ ns_ k_ Ao50 t382 co50 ∧ ns_ k_ Ao61 t391 co61 ∧ ns_ k_ Ao62 t394 co62 ∧ ns_ k_ Ao72 t399 co72 ∧ ns_ k_ Ao73 t402 co73 ∧ ns_ k_ Ao74 t405 co74 ∧ ns_ k_ Ao84 t410 co84 ∧ ns_ k_ Ao85 t413 co85 ∧ ns_ k_ Ao86 t416 co86) (Value.slice Ao60 t388.length co60) t445) ∧ Aside0 ((Kd.int IntKind.i64).R 3 wc w.heap.size (fun k_ => ns_ k_ Ao46 t376 co46 ∧ ns_ k_ Ao48 t379 co48 ∧ ns_ k_ Ao50 t382 co50 ∧ ns_ k_ Ao60 t388 co60 ∧ ns_ k_ Ao62 t394 co62 ∧ ns_ k_ Ao72 t399 co72 ∧ ns_ k_ Ao73 t402 co73 ∧ ns_ k_ Ao74 t405 co74 ∧ ns_ k_ Ao84 t410 co84 ∧ ns_ k_ Ao85 t413 co85 ∧ ns_ k_ Ao86 t416 co86) (Value.slice Ao61 t391.length co61) t446) ∧ Aside0 ((Kd.int IntKind.i64).R 3 wc w.heap.size (fun k_ => ns_ k_ Ao46 t376 co46 ∧ ns_ k_ Ao48 t379 co48 ∧ ns_ k_ Ao50 t382 co50 ∧ ns_ k_ Ao60 t388 co60 ∧ ns_ k_ Ao61 t391 co61 ∧ ns_ k_ Ao72 t399 co72 ∧ ns_ k_ Ao73 t402 co73 ∧ ns_ k_ Ao74 t405 co74 ∧ ns_ k_ Ao84 t410 co84 ∧ ns_ k_ Ao85 t413 co85 ∧ ns_ k_ Ao86 t416 co86) (Value.slice Ao62 t394.length co62) t447) ∧ Aside0 ((Kd.int IntKind.i64).R 3 wc w.heap.size (fun k_ => ns_ k_ Ao46 t376 co46 ∧ ns_ k_ Ao48 t379 co48 ∧ ns_ k_ Ao50 t382 co50 ∧ ns_ k_ Ao60 t388 co60 ∧ ns_ k_ Ao61 t391 co61 ∧ ns_ k_ Ao62 t394 co62 ∧ ns_ k_ Ao73 t402 co73 ∧ ns_ k_ Ao74 t405 co74 ∧ ns_ k_ Ao84 t410 co84 ∧ ns_ k_ Ao85 t413 co85 ∧ ns_ k_ Ao86 t416 co86) (Value.slice Ao72 t399.length co72) t449) ∧ Aside0 ((Kd.int IntKind.i64).R 3 wc w.heap.size (fun k_ => ns_ k_ Ao46 t376 co46 ∧ ns_ k_ Ao48 t379 co48 ∧ ns_ k_ Ao50 t382 co50 ∧ ns_ k_ Ao60 t388 co60 ∧ ns_ k_ Ao61 t391 co61 ∧ ns_ k_ Ao62 t394 co62 ∧ ns_ k_ Ao72 t399 co72 ∧ ns_ k_ Ao74 t405 co74 ∧ ns_ k_ Ao84 t410 co84 ∧ ns_ k_ Ao85 t413 co85 ∧ ns_ k_ Ao86 t416 co86) (Value.slice Ao73 t402.length co73) t450) ∧ Aside0 ((Kd.int IntKind.i64).R 3 wc w.heap.size (fun k_ => ns_ k_ Ao46 t376 co46 ∧ ns_ k_ Ao48 t379 co48 ∧ ns_ k_ Ao50 t382 co50 ∧ ns_ k_ Ao60 t388 co60 ∧ ns_ k_ Ao61 t391 co61 ∧ ns_ k_ Ao62 t394 co62 ∧ ns_ k_ Ao72 t399 co72 ∧ ns_ k_ Ao73 t402 co73 ∧ ns_ k_ Ao84 t410 co84 ∧ ns_ k_ Ao85 t413 co85 ∧ ns_ k_ Ao86 t416 co86) (Value.slice Ao74 t405.length co74) t451) ∧ Aside0 ((Kd.int IntKind.i64).R 3 wc w.heap.size (fun k_ => ns_ k_ Ao46 t376 co46 ∧ ns_ k_ Ao48 t379 co48 ∧ ns_ k_ Ao50 t382 co50 ∧ ns_ k_ Ao60 t388 co60 ∧ ns_ k_ Ao61 t391 co61 ∧ ns_ k_ Ao62 t394 co62 ∧ ns_ k_ Ao72 t399 co72 ∧ ns_ k_ Ao73 t402 co73 ∧ ns_ k_ Ao74 t405 co74 ∧ ns_ k_ Ao85 t413 co85 ∧ ns_ k_ Ao86 t416 co86) (Value.slice Ao84 t410.length co84) t410) ∧ Aside0 ((Kd.int IntKind.i64).R 3 wc w.heap.size (fun k_ => ns_ k_ Ao46 t376 co46 ∧ ns_ k_ Ao48 t379 co48 ∧ ns_ k_ Ao50 t382 co50 ∧ ns_ k_ Ao60 t388 co60 ∧ ns_ k_ Ao61 t391 co61 ∧ ns_ k_ Ao62 t394 co62 ∧ ns_ k_ Ao72 t399 co72 ∧ ns_ k_ Ao73 t402 co73 ∧ ns_ k_ Ao74 t405 co74 ∧ ns_ k_ Ao84 t410 co84 ∧ ns_ k_ Ao86 t416 co86) (Value.slice Ao85 t413.length co85) t413) ∧ Aside0 ((Kd.int IntKind.i64).R 3 wc w.heap.size (fun k_ => ns_ k_ Ao46 t376 co46 ∧ ns_ k_ Ao48 t379 co48 ∧ ns_ k_ Ao50 t382 co50 ∧ ns_ k_ Ao60 t388 co60 ∧ ns_ k_ Ao61 t391 co61 ∧ ns_ k_ Ao62 t394 co62 ∧ ns_ k_ Ao72 t399 co72 ∧ ns_ k_ Ao73 t402 co73 ∧ ns_ k_ Ao74 t405 co74 ∧ ns_ k_ Ao84 t410 co84 ∧ ns_ k_ Ao85 t413 co85) (Value.slice Ao86 t416.length co86) t416) ∧ Aside0 (wc.heap[gb351]? = some (Obj.cells #[Value.int IntKind.i64 a0_0, Value.slice A0_1 l0_1.length c0_1, Value.slice A0_2 l0_2.length c0_2, Value.slice A0_3 l0_3.length c0_3] 45)) ∧ Aside0 (wc.heap[gb352]? = some (Obj.cells #[Value.int IntKind.i64 a1_0, Value.slice A1_1 l1_1.length c1_1, Value.slice A1_2 l1_2.length c1_2, Value.slice A1_3 l1_3.length c1_3] 45)) ∧ Aside0 (wc.heap[gb386]? = some (Obj.cells #[Value.int IntKind.i64 t375, Value.slice Ao46 t376.length co46, Value.slice Ao48 t379.length co48, Value.slice Ao50 t382.length co50] 48)) ∧ Aside0 (wc.heap[gb397]? = some (Obj.cells #[Value.int IntKind.i64 t387, Value.slice Ao60 t388.length co60, Value.slice Ao61 t391.length co61, Value.slice Ao62 t394.length co62] 48)) ∧ Aside0 (wc.heap[gb408]? = some (Obj.cells #[Value.int IntKind.i64 t398, Value.slice Ao72 t399.length co72, Value.slice Ao73 t402.length co73, Value.slice Ao74 t405.length co74] 48)) ∧ Aside0 (wc.heap[gb420]? = some (Obj.cells #[Value.int IntKind.i64 t409, Value.slice Ao84 t410.length co84, Value.slice Ao85 t413.length co85, Value.slice Ao86 t416.length co86] 48)) ∧ Aside0 (Below w.heap.size w wc)) :
    K { tmps := #[Value.agg #[Value.int IntKind.i64 a0_0, Value.slice A0_1 l0_1.length c0_1, Value.slice A0_2 l0_2.length c0_2, Value.slice A0_3 l0_3.length c0_3], Value.agg #[Value.int IntKind.i64 a1_0, Value.slice A1_1 l1_1.length c1_1, Value.slice A1_2 l1_2.length c1_2, Value.slice A1_3 l1_3.length c1_3], Value.pointer (some { block := gb351, off := 0 }), Value.pointer (some { block := gb352, off := 0 }), Value.bool false, Value.int IntKind.i64 t354, Value.pointer (some { block := gb386, off := 0 }), Value.bool t385, Value.pointer (some { block := gb397, off := 0 }), Value.pointer (some { block := gb408, off := 0 }), Value.pointer (some { block := gb420, off := 0 }), Value.bool t419, Value.int IntKind.i64 t448, undef, undef, undef, undef, u17, u18, u19, u20, u21, u22, u23, u24, u25, u26, u27, u28, u29, u30, u31, u32, u33, u34, u35, u36, u37, u38, u39, u40, u41, u42, u43, u44, u45, u46, u47, u48, u49, u50, u51, u52, u53, u54, u55, u56, u57, u58, u59, u60, u61, u62, u63, u64, u65, u66, u67, u68, u69, u70, u71, u72, u73, u74, u75, u76, u77, u78, u79, u80, u81, u82, u83, u84, u85, u86, u87, u88, u89, u90, u91, u92, u93, u94, u95, u96, u97, u98, u99, u100, u101, u102, u103, u104, u105, u106, u107, u108, u109, u110, u111, u112, u113, u114, u115, u116, u117, u118], defers := [] } wc := by
 have hu45 := Try.underlying45
 have hu48 := Try.underlying48
 obtain ⟨Q_, hQ_⟩ : ∃ Q_, Q_ = (bodyPost Try.prog Try.f8 fun e w' => e = Ending.returned (Value.bool r) ∧ Below w.heap.size w w') := ⟨_, rfl⟩
 rw [← hQ_] at hK0_ hK_
 dsimp only [Try.f8, body_, Option.getD, tail_, hd_] at hK0_ hK_
 subst hQ_
 obtain ⟨kq, x82_109, rfl, HA, HJ109, HO_387001, HO_387002, HO_387003, HO_398001, HO_398002, HO_398003, HO_409001, HO_409002, HO_409003, HO_421001, HO_421002, HO_421003, BK351, BK352, BK386, BK397, BK408, BK420, HB⟩ := hcut
 have hl398001_109 := (Kd.R_reads' HO_398001.out).1
 rw [hl398001_109] at HO_398001
 (try simp only [hl398001_109])
 (try simp only [hl398001_109] at BK351)
 (try simp only [hl398001_109] at BK352)
 (try simp only [hl398001_109] at BK386)
 (try simp only [hl398001_109] at BK397)
 (try simp only [hl398001_109] at BK408)
 (try simp only [hl398001_109] at BK420)
 (try simp only [hl398001_109] at HO_387001)
 (try simp only [hl398001_109] at HO_387002)
 (try simp only [hl398001_109] at HO_387003)
 (try simp only [hl398001_109] at HO_398002)
 (try simp only [hl398001_109] at HO_398003)
 (try simp only [hl398001_109] at HO_409001)
 (try simp only [hl398001_109] at HO_409002)
 (try simp only [hl398001_109] at HO_409003)
 (try simp only [hl398001_109] at HO_421001)
 (try simp only [hl398001_109] at HO_421002)
 (try simp only [hl398001_109] at HO_421003)
 have hl398002_109 := (Kd.R_reads' HO_398002.out).1
 rw [hl398002_109] at HO_398002
 (try simp only [hl398002_109])
 (try simp only [hl398002_109] at BK351)
 (try simp only [hl398002_109] at BK352)
 (try simp only [hl398002_109] at BK386)
 (try simp only [hl398002_109] at BK397)
 (try simp only [hl398002_109] at BK408)
 (try simp only [hl398002_109] at BK420)
 (try simp only [hl398002_109] at HO_387001)
 (try simp only [hl398002_109] at HO_387002)
 (try simp only [hl398002_109] at HO_387003)
 (try simp only [hl398002_109] at HO_398001)
 (try simp only [hl398002_109] at HO_398003)
 (try simp only [hl398002_109] at HO_409001)
 (try simp only [hl398002_109] at HO_409002)
 (try simp only [hl398002_109] at HO_409003)
 (try simp only [hl398002_109] at HO_421001)
 (try simp only [hl398002_109] at HO_421002)
 (try simp only [hl398002_109] at HO_421003)
 have hl398003_109 := (Kd.R_reads' HO_398003.out).1
 rw [hl398003_109] at HO_398003
 (try simp only [hl398003_109])
 (try simp only [hl398003_109] at BK351)
 (try simp only [hl398003_109] at BK352)
 (try simp only [hl398003_109] at BK386)
 (try simp only [hl398003_109] at BK397)
 (try simp only [hl398003_109] at BK408)
 (try simp only [hl398003_109] at BK420)
 (try simp only [hl398003_109] at HO_387001)
 (try simp only [hl398003_109] at HO_387002)
 (try simp only [hl398003_109] at HO_387003)
 (try simp only [hl398003_109] at HO_398001)
 (try simp only [hl398003_109] at HO_398002)
 (try simp only [hl398003_109] at HO_409001)
 (try simp only [hl398003_109] at HO_409002)
 (try simp only [hl398003_109] at HO_409003)
 (try simp only [hl398003_109] at HO_421001)
 (try simp only [hl398003_109] at HO_421002)
 (try simp only [hl398003_109] at HO_421003)
 have hl409001_109 := (Kd.R_reads' HO_409001.out).1
 rw [hl409001_109] at HO_409001
 (try simp only [hl409001_109])
 (try simp only [hl409001_109] at BK351)
 (try simp only [hl409001_109] at BK352)
 (try simp only [hl409001_109] at BK386)
 (try simp only [hl409001_109] at BK397)
 (try simp only [hl409001_109] at BK408)
 (try simp only [hl409001_109] at BK420)
 (try simp only [hl409001_109] at HO_387001)
 (try simp only [hl409001_109] at HO_387002)
 (try simp only [hl409001_109] at HO_387003)
 (try simp only [hl409001_109] at HO_398001)
 (try simp only [hl409001_109] at HO_398002)
 (try simp only [hl409001_109] at HO_398003)
 (try simp only [hl409001_109] at HO_409002)
 (try simp only [hl409001_109] at HO_409003)
 (try simp only [hl409001_109] at HO_421001)
 (try simp only [hl409001_109] at HO_421002)
 (try simp only [hl409001_109] at HO_421003)
 have hl409002_109 := (Kd.R_reads' HO_409002.out).1
 rw [hl409002_109] at HO_409002
 (try simp only [hl409002_109])
 (try simp only [hl409002_109] at BK351)
 (try simp only [hl409002_109] at BK352)
 (try simp only [hl409002_109] at BK386)
 (try simp only [hl409002_109] at BK397)
 (try simp only [hl409002_109] at BK408)
 (try simp only [hl409002_109] at BK420)
 (try simp only [hl409002_109] at HO_387001)
 (try simp only [hl409002_109] at HO_387002)
 (try simp only [hl409002_109] at HO_387003)
 (try simp only [hl409002_109] at HO_398001)
 (try simp only [hl409002_109] at HO_398002)
 (try simp only [hl409002_109] at HO_398003)
 (try simp only [hl409002_109] at HO_409001)
 (try simp only [hl409002_109] at HO_409003)
 (try simp only [hl409002_109] at HO_421001)
 (try simp only [hl409002_109] at HO_421002)
 (try simp only [hl409002_109] at HO_421003)
 have hl409003_109 := (Kd.R_reads' HO_409003.out).1
 rw [hl409003_109] at HO_409003
 (try simp only [hl409003_109])
 (try simp only [hl409003_109] at BK351)
 (try simp only [hl409003_109] at BK352)
 (try simp only [hl409003_109] at BK386)
 (try simp only [hl409003_109] at BK397)
 (try simp only [hl409003_109] at BK408)
 (try simp only [hl409003_109] at BK420)
 (try simp only [hl409003_109] at HO_387001)
 (try simp only [hl409003_109] at HO_387002)
 (try simp only [hl409003_109] at HO_387003)
 (try simp only [hl409003_109] at HO_398001)
 (try simp only [hl409003_109] at HO_398002)
 (try simp only [hl409003_109] at HO_398003)
 (try simp only [hl409003_109] at HO_409001)
 (try simp only [hl409003_109] at HO_409002)
 (try simp only [hl409003_109] at HO_421001)
 (try simp only [hl409003_109] at HO_421002)
 (try simp only [hl409003_109] at HO_421003)
 cases kq with
 | zero => exact absurd HA.out (by simp [laws_FnExactJoinRanked.j1])
 | succ kj109 =>
  have H := HA.out
  clear HA
  simp only [laws_FnExactJoinRanked.j1] at H
  by_cases c151 : x82_109 = true
  ·subst c151
   have H1 : (none) = some r := by rw [if_pos rfl] at H; exact H
   clear H
   have H := H1
   clear H1
   exact absurd H (by simp)
  ·replace c151 := Bool.eq_false_iff.mpr c151
   subst c151
   have H1 : ((laws_markRanked.f kj109 t409 t410 t413 t416 1).bind fun bt453 => ((laws_heldRanked.f kj109 t409 bt453.2.1 bt453.2.2.1 bt453.2.2.2 1).bind fun t457 => (if t457 < 0 then (none) else (if t457 = bt453.1 then ((laws_toRanked.f kj109 a0_0 l0_1 l0_2 l0_3).bind fun bt458 => ((laws_toRanked.f kj109 a1_0 l1_1 l1_2 l1_3).bind fun bt468 => ((impl_JoinRanked.f kj109 bt458.1 bt458.2.1 bt458.2.2.1 bt458.2.2.2 bt468.1 bt468.2.1 bt468.2.2.1 bt468.2.2.2).bind fun bt478 => ((laws_eqRanked.f kj109 bt478.1 bt478.2.1 bt478.2.2.1 bt478.2.2.2.1 t375 t376 t379 t382).bind fun t490 => (if t490 = true then (laws_FnExactJoinRanked.j2 kj109 bt453.1 (bt478.2.2.2.2 != t385) t409 bt453.2.1 bt453.2.2.1 bt453.2.2.2) else (none)))))) else (none))))) = some r := by rw [if_neg (show ¬ (false = true) by decide)] at H; exact H
   clear H
   have H := H1
   clear H1
   replace H := Option.bind_eq_some_iff.mp H
   obtain ⟨⟨t453, t454, t455, t456⟩, A1520, H⟩ := H
   replace H : ((laws_heldRanked.f kj109 t409 t454 t455 t456 1).bind fun t457 => (if t457 < 0 then (none) else (if t457 = t453 then ((laws_toRanked.f kj109 a0_0 l0_1 l0_2 l0_3).bind fun bt458 => ((laws_toRanked.f kj109 a1_0 l1_1 l1_2 l1_3).bind fun bt468 => ((impl_JoinRanked.f kj109 bt458.1 bt458.2.1 bt458.2.2.1 bt458.2.2.2 bt468.1 bt468.2.1 bt468.2.2.1 bt468.2.2.2).bind fun bt478 => ((laws_eqRanked.f kj109 bt478.1 bt478.2.1 bt478.2.2.1 bt478.2.2.2.1 t375 t376 t379 t382).bind fun t490 => (if t490 = true then (laws_FnExactJoinRanked.j2 kj109 t453 (bt478.2.2.2.2 != t385) t409 t454 t455 t456) else (none)))))) else (none)))) = some r := H
   have A152 := am_ A1520
   clear A1520
   replace H := Option.bind_eq_some_iff.mp H
   obtain ⟨t457, A1530, H⟩ := H
   replace H : (if t457 < 0 then (none) else (if t457 = t453 then ((laws_toRanked.f kj109 a0_0 l0_1 l0_2 l0_3).bind fun bt458 => ((laws_toRanked.f kj109 a1_0 l1_1 l1_2 l1_3).bind fun bt468 => ((impl_JoinRanked.f kj109 bt458.1 bt458.2.1 bt458.2.2.1 bt458.2.2.2 bt468.1 bt468.2.1 bt468.2.2.1 bt468.2.2.2).bind fun bt478 => ((laws_eqRanked.f kj109 bt478.1 bt478.2.1 bt478.2.2.1 bt478.2.2.2.1 t375 t376 t379 t382).bind fun t490 => (if t490 = true then (laws_FnExactJoinRanked.j2 kj109 t453 (bt478.2.2.2.2 != t385) t409 t454 t455 t456) else (none)))))) else (none))) = some r := H
   have A153 := am_ A1530
   clear A1530
   by_cases c154 : t457 < 0
   ·rw [if_pos c154] at H
    exact absurd H (by simp)
   ·rw [if_neg c154] at H
    have c154b0 : decide (t457 < 0) = false := decide_eq_false c154
    clear c154
    by_cases c155 : t457 = t453
    ·rw [if_pos c155] at H
     have c155b0 : (t457 == t453) = true := beq_iff_eq.mpr c155
     have c155b1 : (t457 != t453) = false := bne_eq_false_iff_eq.mpr c155
     clear c155
     replace H := Option.bind_eq_some_iff.mp H
     obtain ⟨⟨t458, t459, t462, t465⟩, A1560, H⟩ := H
     replace H : ((laws_toRanked.f kj109 a1_0 l1_1 l1_2 l1_3).bind fun bt468 => ((impl_JoinRanked.f kj109 t458 t459 t462 t465 bt468.1 bt468.2.1 bt468.2.2.1 bt468.2.2.2).bind fun bt478 => ((laws_eqRanked.f kj109 bt478.1 bt478.2.1 bt478.2.2.1 bt478.2.2.2.1 t375 t376 t379 t382).bind fun t490 => (if t490 = true then (laws_FnExactJoinRanked.j2 kj109 t453 (bt478.2.2.2.2 != t385) t409 t454 t455 t456) else (none))))) = some r := H
     have A156 := am_ A1560
     clear A1560
     replace H := Option.bind_eq_some_iff.mp H
     obtain ⟨⟨t468, t469, t472, t475⟩, A1570, H⟩ := H
     replace H : ((impl_JoinRanked.f kj109 t458 t459 t462 t465 t468 t469 t472 t475).bind fun bt478 => ((laws_eqRanked.f kj109 bt478.1 bt478.2.1 bt478.2.2.1 bt478.2.2.2.1 t375 t376 t379 t382).bind fun t490 => (if t490 = true then (laws_FnExactJoinRanked.j2 kj109 t453 (bt478.2.2.2.2 != t385) t409 t454 t455 t456) else (none)))) = some r := H
     have A157 := am_ A1570
     clear A1570
     replace H := Option.bind_eq_some_iff.mp H
     obtain ⟨⟨t478, t479, t482, t485, t488⟩, A1580, H⟩ := H
     replace H : ((laws_eqRanked.f kj109 t478 t479 t482 t485 t375 t376 t379 t382).bind fun t490 => (if t490 = true then (laws_FnExactJoinRanked.j2 kj109 t453 (t488 != t385) t409 t454 t455 t456) else (none))) = some r := H
     have A158 := am_ A1580
     clear A1580
     have HC159 := am_ H
     clear H
     have hnb160 := NB420_351.out
     have hnc160 := NB351_420.out
     have hnb161 := NB420_352.out
     have hnc161 := NB352_420.out
     have hnb162 := NB420_386.out
     have hnc162 := NB386_420.out
     have hnb163 := NB420_397.out
     have hnc163 := NB397_420.out
     have hnb164 := NB420_408.out
     have hnc164 := NB408_420.out
     obtain ⟨hcz165_0, hcz165_1, hcz165_2, hcz165_3, hfz165_0, hfz165_1, hfz165_2, hfz165_3⟩ := bx4_ BK420.out
     try go_wp2_with (first | ((with_reducible refine gate_callee (f := 39) rfl ?_); refine goesL_ (some 85) rfl rfl Try.func39 (by kernel_rfl) rfl #[.agg #[.int .i64 t409, .slice Ao84 t410.length co84, .slice Ao85 t413.length co85, .slice Ao86 t416.length co86], .int .i64 1] rfl lm_ ?_; (with_reducible refine (laws_markRanked.calls kj109 t409 (fun k_ => some k_ = (.slice Ao84 t410.length co84 : Value).ownBlock) (.slice Ao84 t410.length co84) t410 (fun k_ => some k_ = (.slice Ao85 t413.length co85 : Value).ownBlock) (.slice Ao85 t413.length co85) t413 (fun k_ => some k_ = (.slice Ao86 t416.length co86 : Value).ownBlock) (.slice Ao86 t416.length co86) t416 1 t453 t454 t455 t456 w _ ?side1 ?side2 ?side3 ?side4 ?side5 ?side6 ?side7 ?side8 ?side9 ?side10 A152.out).mono ?_); (case side1 => exact lw_ HB); (case side2 => exact Kd.R_tight rfl HO_421001.out); (case side3 => exact fun k_ e_ => (HO_421001.out.1 k_ e_.symm).2.2.2.2.2.2.2.2.2.1); (case side4 => exact fun k_ e_ => (HO_421001.out.1 k_ e_.symm).2.2.2.2.2.2.2.2.2.2); (case side5 => exact Kd.R_tight rfl HO_421002.out); (case side6 => exact fun k_ e_ => (HO_421002.out.1 k_ e_.symm).2.2.2.2.2.2.2.2.2.1); (case side7 => exact fun k_ e_ => (HO_421002.out.1 k_ e_.symm).2.2.2.2.2.2.2.2.2.2); (case side8 => exact Kd.R_tight rfl HO_421003.out); (case side9 => exact fun k_ e_ => (HO_421003.out.1 k_ e_.symm).2.2.2.2.2.2.2.2.2.1); (case side10 => exact fun k_ e_ => (HO_421003.out.1 k_ e_.symm).2.2.2.2.2.2.2.2.2.2); rintro e w166 ⟨rfl, hy0, hy1, hy2, hb, hkp⟩; refine ⟨_, rfl, ?_⟩; replace HO_387001 := am_ (lj_ (ok' := fun k_ => ns_ k_ Ao48 t379 co48 ∧ ns_ k_ Ao50 t382 co50 ∧ ns_ k_ Ao60 t445 co60 ∧ ns_ k_ Ao61 t446 co61 ∧ ns_ k_ Ao62 t447 co62 ∧ ns_ k_ Ao72 t449 co72 ∧ ns_ k_ Ao73 t450 co73 ∧ ns_ k_ Ao74 t451 co74 ∧ ns_ k_ Ao84 t410 co84 ∧ ns_ k_ Ao85 t413 co85 ∧ ns_ k_ Ao86 t416 co86) (Kd.R_keptB (HO_387001.out) hkp (fun k_ hk_ hs_ => Or.elim hs_ (fun e_ => (hk_.2.2.2.2.2.2.2.2.1) e_) (fun e_ => Or.elim e_ (fun e_ => (hk_.2.2.2.2.2.2.2.2.2.1) e_) (fun e_ => (hk_.2.2.2.2.2.2.2.2.2.2) e_))))); replace HO_387002 := am_ (lj_ (ok' := fun k_ => ns_ k_ Ao46 t376 co46 ∧ ns_ k_ Ao50 t382 co50 ∧ ns_ k_ Ao60 t445 co60 ∧ ns_ k_ Ao61 t446 co61 ∧ ns_ k_ Ao62 t447 co62 ∧ ns_ k_ Ao72 t449 co72 ∧ ns_ k_ Ao73 t450 co73 ∧ ns_ k_ Ao74 t451 co74 ∧ ns_ k_ Ao84 t410 co84 ∧ ns_ k_ Ao85 t413 co85 ∧ ns_ k_ Ao86 t416 co86) (Kd.R_keptB (HO_387002.out) hkp (fun k_ hk_ hs_ => Or.elim hs_ (fun e_ => (hk_.2.2.2.2.2.2.2.2.1) e_) (fun e_ => Or.elim e_ (fun e_ => (hk_.2.2.2.2.2.2.2.2.2.1) e_) (fun e_ => (hk_.2.2.2.2.2.2.2.2.2.2) e_))))); replace HO_387003 := am_ (lj_ (ok' := fun k_ => ns_ k_ Ao46 t376 co46 ∧ ns_ k_ Ao48 t379 co48 ∧ ns_ k_ Ao60 t445 co60 ∧ ns_ k_ Ao61 t446 co61 ∧ ns_ k_ Ao62 t447 co62 ∧ ns_ k_ Ao72 t449 co72 ∧ ns_ k_ Ao73 t450 co73 ∧ ns_ k_ Ao74 t451 co74 ∧ ns_ k_ Ao84 t410 co84 ∧ ns_ k_ Ao85 t413 co85 ∧ ns_ k_ Ao86 t416 co86) (Kd.R_keptB (HO_387003.out) hkp (fun k_ hk_ hs_ => Or.elim hs_ (fun e_ => (hk_.2.2.2.2.2.2.2.2.1) e_) (fun e_ => Or.elim e_ (fun e_ => (hk_.2.2.2.2.2.2.2.2.2.1) e_) (fun e_ => (hk_.2.2.2.2.2.2.2.2.2.2) e_))))); replace HO_398001 := am_ (lj_ (ok' := fun k_ => ns_ k_ Ao46 t376 co46 ∧ ns_ k_ Ao48 t379 co48 ∧ ns_ k_ Ao50 t382 co50 ∧ ns_ k_ Ao61 t446 co61 ∧ ns_ k_ Ao62 t447 co62 ∧ ns_ k_ Ao72 t449 co72 ∧ ns_ k_ Ao73 t450 co73 ∧ ns_ k_ Ao74 t451 co74 ∧ ns_ k_ Ao84 t410 co84 ∧ ns_ k_ Ao85 t413 co85 ∧ ns_ k_ Ao86 t416 co86) (Kd.R_keptB (HO_398001.out) hkp (fun k_ hk_ hs_ => Or.elim hs_ (fun e_ => (hk_.2.2.2.2.2.2.2.2.1) e_) (fun e_ => Or.elim e_ (fun e_ => (hk_.2.2.2.2.2.2.2.2.2.1) e_) (fun e_ => (hk_.2.2.2.2.2.2.2.2.2.2) e_))))); replace HO_398002 := am_ (lj_ (ok' := fun k_ => ns_ k_ Ao46 t376 co46 ∧ ns_ k_ Ao48 t379 co48 ∧ ns_ k_ Ao50 t382 co50 ∧ ns_ k_ Ao60 t445 co60 ∧ ns_ k_ Ao62 t447 co62 ∧ ns_ k_ Ao72 t449 co72 ∧ ns_ k_ Ao73 t450 co73 ∧ ns_ k_ Ao74 t451 co74 ∧ ns_ k_ Ao84 t410 co84 ∧ ns_ k_ Ao85 t413 co85 ∧ ns_ k_ Ao86 t416 co86) (Kd.R_keptB (HO_398002.out) hkp (fun k_ hk_ hs_ => Or.elim hs_ (fun e_ => (hk_.2.2.2.2.2.2.2.2.1) e_) (fun e_ => Or.elim e_ (fun e_ => (hk_.2.2.2.2.2.2.2.2.2.1) e_) (fun e_ => (hk_.2.2.2.2.2.2.2.2.2.2) e_))))); replace HO_398003 := am_ (lj_ (ok' := fun k_ => ns_ k_ Ao46 t376 co46 ∧ ns_ k_ Ao48 t379 co48 ∧ ns_ k_ Ao50 t382 co50 ∧ ns_ k_ Ao60 t445 co60 ∧ ns_ k_ Ao61 t446 co61 ∧ ns_ k_ Ao72 t449 co72 ∧ ns_ k_ Ao73 t450 co73 ∧ ns_ k_ Ao74 t451 co74 ∧ ns_ k_ Ao84 t410 co84 ∧ ns_ k_ Ao85 t413 co85 ∧ ns_ k_ Ao86 t416 co86) (Kd.R_keptB (HO_398003.out) hkp (fun k_ hk_ hs_ => Or.elim hs_ (fun e_ => (hk_.2.2.2.2.2.2.2.2.1) e_) (fun e_ => Or.elim e_ (fun e_ => (hk_.2.2.2.2.2.2.2.2.2.1) e_) (fun e_ => (hk_.2.2.2.2.2.2.2.2.2.2) e_))))); replace HO_409001 := am_ (lj_ (ok' := fun k_ => ns_ k_ Ao46 t376 co46 ∧ ns_ k_ Ao48 t379 co48 ∧ ns_ k_ Ao50 t382 co50 ∧ ns_ k_ Ao60 t445 co60 ∧ ns_ k_ Ao61 t446 co61 ∧ ns_ k_ Ao62 t447 co62 ∧ ns_ k_ Ao73 t450 co73 ∧ ns_ k_ Ao74 t451 co74 ∧ ns_ k_ Ao84 t410 co84 ∧ ns_ k_ Ao85 t413 co85 ∧ ns_ k_ Ao86 t416 co86) (Kd.R_keptB (HO_409001.out) hkp (fun k_ hk_ hs_ => Or.elim hs_ (fun e_ => (hk_.2.2.2.2.2.2.2.2.1) e_) (fun e_ => Or.elim e_ (fun e_ => (hk_.2.2.2.2.2.2.2.2.2.1) e_) (fun e_ => (hk_.2.2.2.2.2.2.2.2.2.2) e_))))); replace HO_409002 := am_ (lj_ (ok' := fun k_ => ns_ k_ Ao46 t376 co46 ∧ ns_ k_ Ao48 t379 co48 ∧ ns_ k_ Ao50 t382 co50 ∧ ns_ k_ Ao60 t445 co60 ∧ ns_ k_ Ao61 t446 co61 ∧ ns_ k_ Ao62 t447 co62 ∧ ns_ k_ Ao72 t449 co72 ∧ ns_ k_ Ao74 t451 co74 ∧ ns_ k_ Ao84 t410 co84 ∧ ns_ k_ Ao85 t413 co85 ∧ ns_ k_ Ao86 t416 co86) (Kd.R_keptB (HO_409002.out) hkp (fun k_ hk_ hs_ => Or.elim hs_ (fun e_ => (hk_.2.2.2.2.2.2.2.2.1) e_) (fun e_ => Or.elim e_ (fun e_ => (hk_.2.2.2.2.2.2.2.2.2.1) e_) (fun e_ => (hk_.2.2.2.2.2.2.2.2.2.2) e_))))); replace HO_409003 := am_ (lj_ (ok' := fun k_ => ns_ k_ Ao46 t376 co46 ∧ ns_ k_ Ao48 t379 co48 ∧ ns_ k_ Ao50 t382 co50 ∧ ns_ k_ Ao60 t445 co60 ∧ ns_ k_ Ao61 t446 co61 ∧ ns_ k_ Ao62 t447 co62 ∧ ns_ k_ Ao72 t449 co72 ∧ ns_ k_ Ao73 t450 co73 ∧ ns_ k_ Ao84 t410 co84 ∧ ns_ k_ Ao85 t413 co85 ∧ ns_ k_ Ao86 t416 co86) (Kd.R_keptB (HO_409003.out) hkp (fun k_ hk_ hs_ => Or.elim hs_ (fun e_ => (hk_.2.2.2.2.2.2.2.2.1) e_) (fun e_ => Or.elim e_ (fun e_ => (hk_.2.2.2.2.2.2.2.2.2.1) e_) (fun e_ => (hk_.2.2.2.2.2.2.2.2.2.2) e_))))); replace BK351 := am_ (blk_kept (lb_ BK351) hkp (fun hs_ => Or.elim hs_ (fun e_ => (fun e_ => (Kd.R_ne HO_421001.out BK351.out (by decide)) e_) e_) (fun e_ => Or.elim e_ (fun e_ => (fun e_ => (Kd.R_ne HO_421002.out BK351.out (by decide)) e_) e_) (fun e_ => (fun e_ => (Kd.R_ne HO_421003.out BK351.out (by decide)) e_) e_)))); replace BK352 := am_ (blk_kept (lb_ BK352) hkp (fun hs_ => Or.elim hs_ (fun e_ => (fun e_ => (Kd.R_ne HO_421001.out BK352.out (by decide)) e_) e_) (fun e_ => Or.elim e_ (fun e_ => (fun e_ => (Kd.R_ne HO_421002.out BK352.out (by decide)) e_) e_) (fun e_ => (fun e_ => (Kd.R_ne HO_421003.out BK352.out (by decide)) e_) e_)))); replace BK386 := am_ (blk_kept (lb_ BK386) hkp (fun hs_ => Or.elim hs_ (fun e_ => (fun e_ => (Kd.R_ne HO_421001.out BK386.out (by decide)) e_) e_) (fun e_ => Or.elim e_ (fun e_ => (fun e_ => (Kd.R_ne HO_421002.out BK386.out (by decide)) e_) e_) (fun e_ => (fun e_ => (Kd.R_ne HO_421003.out BK386.out (by decide)) e_) e_)))); replace BK397 := am_ (blk_kept (lb_ BK397) hkp (fun hs_ => Or.elim hs_ (fun e_ => (fun e_ => (Kd.R_ne HO_421001.out BK397.out (by decide)) e_) e_) (fun e_ => Or.elim e_ (fun e_ => (fun e_ => (Kd.R_ne HO_421002.out BK397.out (by decide)) e_) e_) (fun e_ => (fun e_ => (Kd.R_ne HO_421003.out BK397.out (by decide)) e_) e_)))); replace BK408 := am_ (blk_kept (lb_ BK408) hkp (fun hs_ => Or.elim hs_ (fun e_ => (fun e_ => (Kd.R_ne HO_421001.out BK408.out (by decide)) e_) e_) (fun e_ => Or.elim e_ (fun e_ => (fun e_ => (Kd.R_ne HO_421002.out BK408.out (by decide)) e_) e_) (fun e_ => (fun e_ => (Kd.R_ne HO_421003.out BK408.out (by decide)) e_) e_)))); replace BK420 := am_ (blk_kept (lb_ BK420) hkp (fun hs_ => Or.elim hs_ (fun e_ => (fun e_ => (Kd.R_ne HO_421001.out BK420.out (by decide)) e_) e_) (fun e_ => Or.elim e_ (fun e_ => (fun e_ => (Kd.R_ne HO_421002.out BK420.out (by decide)) e_) e_) (fun e_ => (fun e_ => (Kd.R_ne HO_421003.out BK420.out (by decide)) e_) e_)))); replace HO_421001 := am_ (Kd.R_reok rfl hy0 (fun k_ e_ => HO_421001.out.1 k_ e_)); replace HO_421002 := am_ (Kd.R_reok rfl hy1 (fun k_ e_ => HO_421002.out.1 k_ e_)); replace HO_421003 := am_ (Kd.R_reok rfl hy2 (fun k_ e_ => HO_421003.out.1 k_ e_)); replace HB := am_ (hb); (try clear hb); (try clear hkp); (try clear hy0); (try clear hy1); (try clear hy2); obtain ⟨hcz167_0, hcz167_1, hcz167_2, hcz167_3, hfz167_0, hfz167_1, hfz167_2, hfz167_3⟩ := bx4_ BK420.out) | ((with_reducible refine gate_callee (f := 40) rfl ?_); refine goesL_ (some 88) rfl rfl Try.func40 (by kernel_rfl) rfl #[.agg #[.int .i64 t409, .slice Ao84 t454.length co84, .slice Ao85 t455.length co85, .slice Ao86 t456.length co86], .int .i64 1] rfl (by (try simp only [List.map_toArray, List.map_cons, List.map_nil]); first | done | (rw [show t454.length = t410.length from (Kd.R_reads' HO_421001.out).1.symm, show t455.length = t413.length from (Kd.R_reads' HO_421002.out).1.symm, show t456.length = t416.length from (Kd.R_reads' HO_421003.out).1.symm] <;> rfl) | rfl | (simp only [List.length_drop, List.length_take]; rfl)) ?_; (with_reducible refine (laws_heldRanked.calls kj109 t409 _ _ t454 _ _ t455 _ _ t456 1 t457 _ ?side1 ?side2 ?side3 ?side4 ?side5 ?side6 A153.out).mono ?_); (case side1 => exact lc_ (Kd.R_reads' HO_421001.out).2.2); (case side2 => rw [show t454.length = t410.length from (Kd.R_reads' HO_421001.out).1.symm]; exact (Kd.R_reads' HO_421001.out).2.1); (case side3 => exact lc_ (Kd.R_reads' HO_421002.out).2.2); (case side4 => rw [show t455.length = t413.length from (Kd.R_reads' HO_421002.out).1.symm]; exact (Kd.R_reads' HO_421002.out).2.1); (case side5 => exact lc_ (Kd.R_reads' HO_421003.out).2.2); (case side6 => rw [show t456.length = t416.length from (Kd.R_reads' HO_421003.out).1.symm]; exact (Kd.R_reads' HO_421003.out).2.1); rintro e w168 ⟨rfl, hb⟩; refine ⟨_, rfl, ?_⟩; replace HO_387001 := am_ (Kd.R_below (lf_ HO_387001) hb); replace HO_387002 := am_ (Kd.R_below (lf_ HO_387002) hb); replace HO_387003 := am_ (Kd.R_below (lf_ HO_387003) hb); replace HO_398001 := am_ (Kd.R_below (lf_ HO_398001) hb); replace HO_398002 := am_ (Kd.R_below (lf_ HO_398002) hb); replace HO_398003 := am_ (Kd.R_below (lf_ HO_398003) hb); replace HO_409001 := am_ (Kd.R_below (lf_ HO_409001) hb); replace HO_409002 := am_ (Kd.R_below (lf_ HO_409002) hb); replace HO_409003 := am_ (Kd.R_below (lf_ HO_409003) hb); replace HO_421001 := am_ (Kd.R_below (lf_ HO_421001) hb); replace HO_421002 := am_ (Kd.R_below (lf_ HO_421002) hb); replace HO_421003 := am_ (Kd.R_below (lf_ HO_421003) hb); replace BK351 := am_ (blk_below (g := gb351) (lb_ BK351) hb); replace BK352 := am_ (blk_below (g := gb352) (lb_ BK352) hb); replace BK386 := am_ (blk_below (g := gb386) (lb_ BK386) hb); replace BK397 := am_ (blk_below (g := gb397) (lb_ BK397) hb); replace BK408 := am_ (blk_below (g := gb408) (lb_ BK408) hb); replace BK420 := am_ (blk_below (g := gb420) (lb_ BK420) hb); replace HB := am_ (below_step (lw_ HB) hb); (try clear hb); (try clear hb2); (try clear hk); (try clear hi)))
     replace HO_387001 := am_ (Kd.R_drew HO_387001.out); replace HO_387002 := am_ (Kd.R_drew HO_387002.out); replace HO_387003 := am_ (Kd.R_drew HO_387003.out); replace HO_398001 := am_ (Kd.R_drew HO_398001.out); replace HO_398002 := am_ (Kd.R_drew HO_398002.out); replace HO_398003 := am_ (Kd.R_drew HO_398003.out); replace HO_409001 := am_ (Kd.R_drew HO_409001.out); replace HO_409002 := am_ (Kd.R_drew HO_409002.out); replace HO_409003 := am_ (Kd.R_drew HO_409003.out); replace HO_421001 := am_ (Kd.R_drew HO_421001.out); replace HO_421002 := am_ (Kd.R_drew HO_421002.out); replace HO_421003 := am_ (Kd.R_drew HO_421003.out); replace BK351 := am_ (blk_drew BK351.out); replace BK352 := am_ (blk_drew BK352.out); replace BK386 := am_ (blk_drew BK386.out); replace BK397 := am_ (blk_drew BK397.out); replace BK408 := am_ (blk_drew BK408.out); replace BK420 := am_ (blk_drew BK420.out); replace HB := am_ (below_drew1 HB.out)
     refine start_ (n := 11) (S := fun w' => w'.cell? ⟨gb351, 0, none⟩ = some (.int .i64 a0_0) ∧ w'.cell? ⟨gb351, 1, none⟩ = some (.slice A0_1 l0_1.length c0_1) ∧ w'.cell? ⟨gb351, 2, none⟩ = some (.slice A0_2 l0_2.length c0_2) ∧ w'.cell? ⟨gb351, 3, none⟩ = some (.slice A0_3 l0_3.length c0_3) ∧ w'.cell? ⟨gb352, 0, none⟩ = some (.int .i64 a1_0) ∧ w'.cell? ⟨gb352, 1, none⟩ = some (.slice A1_1 l1_1.length c1_1) ∧ w'.cell? ⟨gb352, 2, none⟩ = some (.slice A1_2 l1_2.length c1_2) ∧ w'.cell? ⟨gb352, 3, none⟩ = some (.slice A1_3 l1_3.length c1_3)) (ds := []) #[false, false, false, false, false, false, false, false, false, false, false] (by kernel_rfl) rfl rfl ⟨(blk_cell BK351.out 0).trans rfl, (blk_cell BK351.out 1).trans rfl, (blk_cell BK351.out 2).trans rfl, (blk_cell BK351.out 3).trans rfl, (blk_cell BK352.out 0).trans rfl, (blk_cell BK352.out 1).trans rfl, (blk_cell BK352.out 2).trans rfl, (blk_cell BK352.out 3).trans rfl⟩ (fun hHeld => ?_); refine with_tabW laws_FnExactJoinRanked.tab31 laws_FnExactJoinRanked.bits31 (fun HT_ HW_ => ?_)
     generalize w168.drew = w169 at HO_387001 HO_387002 HO_387003 HO_398001 HO_398002 HO_398003 HO_409001 HO_409002 HO_409003 HO_421001 HO_421002 HO_421003 BK351 BK352 BK386 BK397 BK408 BK420 HB hHeld ⊢
     refine take_ (i := 0) (N := some 95) (v := ?_) (a' := ?_) #[true, false, false, false, false, false, false, false, false, false, false] rfl rfl (take_ofW HT_.out HW_.out (by kernel_rfl)) (fun _ _ _ h => h) (Or.inl ⟨by rfl, ?_⟩) hHeld ?_ ?_
     rotate_left
     ·rintro w' ⟨s0, s1, s2, s3, s4, s5, s6, s7⟩
      go_simp
      with_reducible rfl
     rotate_left
     ·simp only [Act.put, List.setIfInBounds_toArray, List.set_cons_zero, List.set_cons_succ, i64_w, i32_w]
      rfl
     refine take_ (i := 2) (N := some 97) (v := ?_) (a' := ?_) #[true, false, true, false, false, false, false, false, false, false, false] rfl rfl (take_ofW HT_.out HW_.out (by kernel_rfl)) (fun _ _ _ h => h) (Or.inl ⟨by rfl, ?_⟩) hHeld ?_ ?_
     rotate_left
     ·rintro w' ⟨s0, s1, s2, s3, s4, s5, s6, s7⟩
      go_simp
      with_reducible rfl
     rotate_left
     ·simp only [Act.put, List.setIfInBounds_toArray, List.set_cons_zero, List.set_cons_succ, i64_w, i32_w]
      rfl
     refine join_ (σ := Value × Value × Value × Value × Value × Value × Value × Value × Value × Nat) 2 #[true, true, true, true, true, true, true, true, true, false, false] (fun s_ => [(96, .agg #[.int .i64 t458, s_.1, s_.2.1, s_.2.2.1]), (98, .agg #[.int .i64 t468, s_.2.2.2.1, s_.2.2.2.2.1, s_.2.2.2.2.2.1]), (99, .tuple #[.agg #[.int .i64 t478, s_.2.2.2.2.2.2.1, s_.2.2.2.2.2.2.2.1, s_.2.2.2.2.2.2.2.2.1], .bool t488]), (15, .pointer (some ⟨s_.2.2.2.2.2.2.2.2.2, 0, none⟩)), (94, .tuple #[.agg #[.int .i64 t478, s_.2.2.2.2.2.2.1, s_.2.2.2.2.2.2.2.1, s_.2.2.2.2.2.2.2.2.1], .bool t488]), (100, .agg #[.int .i64 t478, s_.2.2.2.2.2.2.1, s_.2.2.2.2.2.2.2.1, s_.2.2.2.2.2.2.2.2.1]), (101, .bool t488)]) (fun s_ w' => (w'.cell? ⟨gb351, 0, none⟩ = some (.int .i64 a0_0) ∧ w'.cell? ⟨gb351, 1, none⟩ = some (.slice A0_1 l0_1.length c0_1) ∧ w'.cell? ⟨gb351, 2, none⟩ = some (.slice A0_2 l0_2.length c0_2) ∧ w'.cell? ⟨gb351, 3, none⟩ = some (.slice A0_3 l0_3.length c0_3) ∧ w'.cell? ⟨gb352, 0, none⟩ = some (.int .i64 a1_0) ∧ w'.cell? ⟨gb352, 1, none⟩ = some (.slice A1_1 l1_1.length c1_1) ∧ w'.cell? ⟨gb352, 2, none⟩ = some (.slice A1_2 l1_2.length c1_2) ∧ w'.cell? ⟨gb352, 3, none⟩ = some (.slice A1_3 l1_3.length c1_3)) ∧ (Kd.R (Kd.int .i64) 3 w' w.heap.size (fun k_ => some k_ ≠ (s_.2.1 : Value).ownBlock ∧ some k_ ≠ (s_.2.2.1 : Value).ownBlock ∧ some k_ ≠ (s_.2.2.2.1 : Value).ownBlock ∧ some k_ ≠ (s_.2.2.2.2.1 : Value).ownBlock ∧ some k_ ≠ (s_.2.2.2.2.2.1 : Value).ownBlock ∧ some k_ ≠ (s_.2.2.2.2.2.2.1 : Value).ownBlock ∧ some k_ ≠ (s_.2.2.2.2.2.2.2.1 : Value).ownBlock ∧ some k_ ≠ (s_.2.2.2.2.2.2.2.2.1 : Value).ownBlock ∧ ns_ k_ Ao46 t376 co46 ∧ ns_ k_ Ao48 t379 co48 ∧ ns_ k_ Ao50 t382 co50 ∧ ns_ k_ Ao60 t445 co60 ∧ ns_ k_ Ao61 t446 co61 ∧ ns_ k_ Ao62 t447 co62 ∧ ns_ k_ Ao72 t449 co72 ∧ ns_ k_ Ao73 t450 co73 ∧ ns_ k_ Ao74 t451 co74 ∧ ns_ k_ Ao84 t410 co84 ∧ ns_ k_ Ao85 t413 co85 ∧ ns_ k_ Ao86 t416 co86) s_.1 t459) ∧ (Kd.R (Kd.int .i64) 3 w' w.heap.size (fun k_ => some k_ ≠ (s_.1 : Value).ownBlock ∧ some k_ ≠ (s_.2.2.1 : Value).ownBlock ∧ some k_ ≠ (s_.2.2.2.1 : Value).ownBlock ∧ some k_ ≠ (s_.2.2.2.2.1 : Value).ownBlock ∧ some k_ ≠ (s_.2.2.2.2.2.1 : Value).ownBlock ∧ some k_ ≠ (s_.2.2.2.2.2.2.1 : Value).ownBlock ∧ some k_ ≠ (s_.2.2.2.2.2.2.2.1 : Value).ownBlock ∧ some k_ ≠ (s_.2.2.2.2.2.2.2.2.1 : Value).ownBlock ∧ ns_ k_ Ao46 t376 co46 ∧ ns_ k_ Ao48 t379 co48 ∧ ns_ k_ Ao50 t382 co50 ∧ ns_ k_ Ao60 t445 co60 ∧ ns_ k_ Ao61 t446 co61 ∧ ns_ k_ Ao62 t447 co62 ∧ ns_ k_ Ao72 t449 co72 ∧ ns_ k_ Ao73 t450 co73 ∧ ns_ k_ Ao74 t451 co74 ∧ ns_ k_ Ao84 t410 co84 ∧ ns_ k_ Ao85 t413 co85 ∧ ns_ k_ Ao86 t416 co86) s_.2.1 t462) ∧ (Kd.R (Kd.int .i64) 3 w' w.heap.size (fun k_ => some k_ ≠ (s_.1 : Value).ownBlock ∧ some k_ ≠ (s_.2.1 : Value).ownBlock ∧ some k_ ≠ (s_.2.2.2.1 : Value).ownBlock ∧ some k_ ≠ (s_.2.2.2.2.1 : Value).ownBlock ∧ some k_ ≠ (s_.2.2.2.2.2.1 : Value).ownBlock ∧ some k_ ≠ (s_.2.2.2.2.2.2.1 : Value).ownBlock ∧ some k_ ≠ (s_.2.2.2.2.2.2.2.1 : Value).ownBlock ∧ some k_ ≠ (s_.2.2.2.2.2.2.2.2.1 : Value).ownBlock ∧ ns_ k_ Ao46 t376 co46 ∧ ns_ k_ Ao48 t379 co48 ∧ ns_ k_ Ao50 t382 co50 ∧ ns_ k_ Ao60 t445 co60 ∧ ns_ k_ Ao61 t446 co61 ∧ ns_ k_ Ao62 t447 co62 ∧ ns_ k_ Ao72 t449 co72 ∧ ns_ k_ Ao73 t450 co73 ∧ ns_ k_ Ao74 t451 co74 ∧ ns_ k_ Ao84 t410 co84 ∧ ns_ k_ Ao85 t413 co85 ∧ ns_ k_ Ao86 t416 co86) s_.2.2.1 t465) ∧ (Kd.R (Kd.int .i64) 3 w' w.heap.size (fun k_ => some k_ ≠ (s_.1 : Value).ownBlock ∧ some k_ ≠ (s_.2.1 : Value).ownBlock ∧ some k_ ≠ (s_.2.2.1 : Value).ownBlock ∧ some k_ ≠ (s_.2.2.2.2.1 : Value).ownBlock ∧ some k_ ≠ (s_.2.2.2.2.2.1 : Value).ownBlock ∧ some k_ ≠ (s_.2.2.2.2.2.2.1 : Value).ownBlock ∧ some k_ ≠ (s_.2.2.2.2.2.2.2.1 : Value).ownBlock ∧ some k_ ≠ (s_.2.2.2.2.2.2.2.2.1 : Value).ownBlock ∧ ns_ k_ Ao46 t376 co46 ∧ ns_ k_ Ao48 t379 co48 ∧ ns_ k_ Ao50 t382 co50 ∧ ns_ k_ Ao60 t445 co60 ∧ ns_ k_ Ao61 t446 co61 ∧ ns_ k_ Ao62 t447 co62 ∧ ns_ k_ Ao72 t449 co72 ∧ ns_ k_ Ao73 t450 co73 ∧ ns_ k_ Ao74 t451 co74 ∧ ns_ k_ Ao84 t410 co84 ∧ ns_ k_ Ao85 t413 co85 ∧ ns_ k_ Ao86 t416 co86) s_.2.2.2.1 t469) ∧ (Kd.R (Kd.int .i64) 3 w' w.heap.size (fun k_ => some k_ ≠ (s_.1 : Value).ownBlock ∧ some k_ ≠ (s_.2.1 : Value).ownBlock ∧ some k_ ≠ (s_.2.2.1 : Value).ownBlock ∧ some k_ ≠ (s_.2.2.2.1 : Value).ownBlock ∧ some k_ ≠ (s_.2.2.2.2.2.1 : Value).ownBlock ∧ some k_ ≠ (s_.2.2.2.2.2.2.1 : Value).ownBlock ∧ some k_ ≠ (s_.2.2.2.2.2.2.2.1 : Value).ownBlock ∧ some k_ ≠ (s_.2.2.2.2.2.2.2.2.1 : Value).ownBlock ∧ ns_ k_ Ao46 t376 co46 ∧ ns_ k_ Ao48 t379 co48 ∧ ns_ k_ Ao50 t382 co50 ∧ ns_ k_ Ao60 t445 co60 ∧ ns_ k_ Ao61 t446 co61 ∧ ns_ k_ Ao62 t447 co62 ∧ ns_ k_ Ao72 t449 co72 ∧ ns_ k_ Ao73 t450 co73 ∧ ns_ k_ Ao74 t451 co74 ∧ ns_ k_ Ao84 t410 co84 ∧ ns_ k_ Ao85 t413 co85 ∧ ns_ k_ Ao86 t416 co86) s_.2.2.2.2.1 t472) ∧ (Kd.R (Kd.int .i64) 3 w' w.heap.size (fun k_ => some k_ ≠ (s_.1 : Value).ownBlock ∧ some k_ ≠ (s_.2.1 : Value).ownBlock ∧ some k_ ≠ (s_.2.2.1 : Value).ownBlock ∧ some k_ ≠ (s_.2.2.2.1 : Value).ownBlock ∧ some k_ ≠ (s_.2.2.2.2.1 : Value).ownBlock ∧ some k_ ≠ (s_.2.2.2.2.2.2.1 : Value).ownBlock ∧ some k_ ≠ (s_.2.2.2.2.2.2.2.1 : Value).ownBlock ∧ some k_ ≠ (s_.2.2.2.2.2.2.2.2.1 : Value).ownBlock ∧ ns_ k_ Ao46 t376 co46 ∧ ns_ k_ Ao48 t379 co48 ∧ ns_ k_ Ao50 t382 co50 ∧ ns_ k_ Ao60 t445 co60 ∧ ns_ k_ Ao61 t446 co61 ∧ ns_ k_ Ao62 t447 co62 ∧ ns_ k_ Ao72 t449 co72 ∧ ns_ k_ Ao73 t450 co73 ∧ ns_ k_ Ao74 t451 co74 ∧ ns_ k_ Ao84 t410 co84 ∧ ns_ k_ Ao85 t413 co85 ∧ ns_ k_ Ao86 t416 co86) s_.2.2.2.2.2.1 t475) ∧ (Kd.R (Kd.int .i64) 3 w' w.heap.size (fun k_ => some k_ ≠ (s_.1 : Value).ownBlock ∧ some k_ ≠ (s_.2.1 : Value).ownBlock ∧ some k_ ≠ (s_.2.2.1 : Value).ownBlock ∧ some k_ ≠ (s_.2.2.2.1 : Value).ownBlock ∧ some k_ ≠ (s_.2.2.2.2.1 : Value).ownBlock ∧ some k_ ≠ (s_.2.2.2.2.2.1 : Value).ownBlock ∧ some k_ ≠ (s_.2.2.2.2.2.2.2.1 : Value).ownBlock ∧ some k_ ≠ (s_.2.2.2.2.2.2.2.2.1 : Value).ownBlock ∧ ns_ k_ Ao46 t376 co46 ∧ ns_ k_ Ao48 t379 co48 ∧ ns_ k_ Ao50 t382 co50 ∧ ns_ k_ Ao60 t445 co60 ∧ ns_ k_ Ao61 t446 co61 ∧ ns_ k_ Ao62 t447 co62 ∧ ns_ k_ Ao72 t449 co72 ∧ ns_ k_ Ao73 t450 co73 ∧ ns_ k_ Ao74 t451 co74 ∧ ns_ k_ Ao84 t410 co84 ∧ ns_ k_ Ao85 t413 co85 ∧ ns_ k_ Ao86 t416 co86) s_.2.2.2.2.2.2.1 t479) ∧ (Kd.R (Kd.int .i64) 3 w' w.heap.size (fun k_ => some k_ ≠ (s_.1 : Value).ownBlock ∧ some k_ ≠ (s_.2.1 : Value).ownBlock ∧ some k_ ≠ (s_.2.2.1 : Value).ownBlock ∧ some k_ ≠ (s_.2.2.2.1 : Value).ownBlock ∧ some k_ ≠ (s_.2.2.2.2.1 : Value).ownBlock ∧ some k_ ≠ (s_.2.2.2.2.2.1 : Value).ownBlock ∧ some k_ ≠ (s_.2.2.2.2.2.2.1 : Value).ownBlock ∧ some k_ ≠ (s_.2.2.2.2.2.2.2.2.1 : Value).ownBlock ∧ ns_ k_ Ao46 t376 co46 ∧ ns_ k_ Ao48 t379 co48 ∧ ns_ k_ Ao50 t382 co50 ∧ ns_ k_ Ao60 t445 co60 ∧ ns_ k_ Ao61 t446 co61 ∧ ns_ k_ Ao62 t447 co62 ∧ ns_ k_ Ao72 t449 co72 ∧ ns_ k_ Ao73 t450 co73 ∧ ns_ k_ Ao74 t451 co74 ∧ ns_ k_ Ao84 t410 co84 ∧ ns_ k_ Ao85 t413 co85 ∧ ns_ k_ Ao86 t416 co86) s_.2.2.2.2.2.2.2.1 t482) ∧ (Kd.R (Kd.int .i64) 3 w' w.heap.size (fun k_ => some k_ ≠ (s_.1 : Value).ownBlock ∧ some k_ ≠ (s_.2.1 : Value).ownBlock ∧ some k_ ≠ (s_.2.2.1 : Value).ownBlock ∧ some k_ ≠ (s_.2.2.2.1 : Value).ownBlock ∧ some k_ ≠ (s_.2.2.2.2.1 : Value).ownBlock ∧ some k_ ≠ (s_.2.2.2.2.2.1 : Value).ownBlock ∧ some k_ ≠ (s_.2.2.2.2.2.2.1 : Value).ownBlock ∧ some k_ ≠ (s_.2.2.2.2.2.2.2.1 : Value).ownBlock ∧ ns_ k_ Ao46 t376 co46 ∧ ns_ k_ Ao48 t379 co48 ∧ ns_ k_ Ao50 t382 co50 ∧ ns_ k_ Ao60 t445 co60 ∧ ns_ k_ Ao61 t446 co61 ∧ ns_ k_ Ao62 t447 co62 ∧ ns_ k_ Ao72 t449 co72 ∧ ns_ k_ Ao73 t450 co73 ∧ ns_ k_ Ao74 t451 co74 ∧ ns_ k_ Ao84 t410 co84 ∧ ns_ k_ Ao85 t413 co85 ∧ ns_ k_ Ao86 t416 co86) s_.2.2.2.2.2.2.2.2.1 t485) ∧ (Kd.R (Kd.int .i64) 3 w' w.heap.size (fun k_ => some k_ ≠ (s_.1 : Value).ownBlock ∧ some k_ ≠ (s_.2.1 : Value).ownBlock ∧ some k_ ≠ (s_.2.2.1 : Value).ownBlock ∧ some k_ ≠ (s_.2.2.2.1 : Value).ownBlock ∧ some k_ ≠ (s_.2.2.2.2.1 : Value).ownBlock ∧ some k_ ≠ (s_.2.2.2.2.2.1 : Value).ownBlock ∧ some k_ ≠ (s_.2.2.2.2.2.2.1 : Value).ownBlock ∧ some k_ ≠ (s_.2.2.2.2.2.2.2.1 : Value).ownBlock ∧ some k_ ≠ (s_.2.2.2.2.2.2.2.2.1 : Value).ownBlock ∧ ns_ k_ Ao48 t379 co48 ∧ ns_ k_ Ao50 t382 co50 ∧ ns_ k_ Ao60 t445 co60 ∧ ns_ k_ Ao61 t446 co61 ∧ ns_ k_ Ao62 t447 co62 ∧ ns_ k_ Ao72 t449 co72 ∧ ns_ k_ Ao73 t450 co73 ∧ ns_ k_ Ao74 t451 co74 ∧ ns_ k_ Ao84 t410 co84 ∧ ns_ k_ Ao85 t413 co85 ∧ ns_ k_ Ao86 t416 co86) (.slice Ao46 t376.length co46) t376) ∧ (Kd.R (Kd.int .i64) 3 w' w.heap.size (fun k_ => some k_ ≠ (s_.1 : Value).ownBlock ∧ some k_ ≠ (s_.2.1 : Value).ownBlock ∧ some k_ ≠ (s_.2.2.1 : Value).ownBlock ∧ some k_ ≠ (s_.2.2.2.1 : Value).ownBlock ∧ some k_ ≠ (s_.2.2.2.2.1 : Value).ownBlock ∧ some k_ ≠ (s_.2.2.2.2.2.1 : Value).ownBlock ∧ some k_ ≠ (s_.2.2.2.2.2.2.1 : Value).ownBlock ∧ some k_ ≠ (s_.2.2.2.2.2.2.2.1 : Value).ownBlock ∧ some k_ ≠ (s_.2.2.2.2.2.2.2.2.1 : Value).ownBlock ∧ ns_ k_ Ao46 t376 co46 ∧ ns_ k_ Ao50 t382 co50 ∧ ns_ k_ Ao60 t445 co60 ∧ ns_ k_ Ao61 t446 co61 ∧ ns_ k_ Ao62 t447 co62 ∧ ns_ k_ Ao72 t449 co72 ∧ ns_ k_ Ao73 t450 co73 ∧ ns_ k_ Ao74 t451 co74 ∧ ns_ k_ Ao84 t410 co84 ∧ ns_ k_ Ao85 t413 co85 ∧ ns_ k_ Ao86 t416 co86) (.slice Ao48 t379.length co48) t379) ∧ (Kd.R (Kd.int .i64) 3 w' w.heap.size (fun k_ => some k_ ≠ (s_.1 : Value).ownBlock ∧ some k_ ≠ (s_.2.1 : Value).ownBlock ∧ some k_ ≠ (s_.2.2.1 : Value).ownBlock ∧ some k_ ≠ (s_.2.2.2.1 : Value).ownBlock ∧ some k_ ≠ (s_.2.2.2.2.1 : Value).ownBlock ∧ some k_ ≠ (s_.2.2.2.2.2.1 : Value).ownBlock ∧ some k_ ≠ (s_.2.2.2.2.2.2.1 : Value).ownBlock ∧ some k_ ≠ (s_.2.2.2.2.2.2.2.1 : Value).ownBlock ∧ some k_ ≠ (s_.2.2.2.2.2.2.2.2.1 : Value).ownBlock ∧ ns_ k_ Ao46 t376 co46 ∧ ns_ k_ Ao48 t379 co48 ∧ ns_ k_ Ao60 t445 co60 ∧ ns_ k_ Ao61 t446 co61 ∧ ns_ k_ Ao62 t447 co62 ∧ ns_ k_ Ao72 t449 co72 ∧ ns_ k_ Ao73 t450 co73 ∧ ns_ k_ Ao74 t451 co74 ∧ ns_ k_ Ao84 t410 co84 ∧ ns_ k_ Ao85 t413 co85 ∧ ns_ k_ Ao86 t416 co86) (.slice Ao50 t382.length co50) t382) ∧ (Kd.R (Kd.int .i64) 3 w' w.heap.size (fun k_ => some k_ ≠ (s_.1 : Value).ownBlock ∧ some k_ ≠ (s_.2.1 : Value).ownBlock ∧ some k_ ≠ (s_.2.2.1 : Value).ownBlock ∧ some k_ ≠ (s_.2.2.2.1 : Value).ownBlock ∧ some k_ ≠ (s_.2.2.2.2.1 : Value).ownBlock ∧ some k_ ≠ (s_.2.2.2.2.2.1 : Value).ownBlock ∧ some k_ ≠ (s_.2.2.2.2.2.2.1 : Value).ownBlock ∧ some k_ ≠ (s_.2.2.2.2.2.2.2.1 : Value).ownBlock ∧ some k_ ≠ (s_.2.2.2.2.2.2.2.2.1 : Value).ownBlock ∧ ns_ k_ Ao46 t376 co46 ∧ ns_ k_ Ao48 t379 co48 ∧ ns_ k_ Ao50 t382 co50 ∧ ns_ k_ Ao61 t446 co61 ∧ ns_ k_ Ao62 t447 co62 ∧ ns_ k_ Ao72 t449 co72 ∧ ns_ k_ Ao73 t450 co73 ∧ ns_ k_ Ao74 t451 co74 ∧ ns_ k_ Ao84 t410 co84 ∧ ns_ k_ Ao85 t413 co85 ∧ ns_ k_ Ao86 t416 co86) (.slice Ao60 t445.length co60) t445) ∧ (Kd.R (Kd.int .i64) 3 w' w.heap.size (fun k_ => some k_ ≠ (s_.1 : Value).ownBlock ∧ some k_ ≠ (s_.2.1 : Value).ownBlock ∧ some k_ ≠ (s_.2.2.1 : Value).ownBlock ∧ some k_ ≠ (s_.2.2.2.1 : Value).ownBlock ∧ some k_ ≠ (s_.2.2.2.2.1 : Value).ownBlock ∧ some k_ ≠ (s_.2.2.2.2.2.1 : Value).ownBlock ∧ some k_ ≠ (s_.2.2.2.2.2.2.1 : Value).ownBlock ∧ some k_ ≠ (s_.2.2.2.2.2.2.2.1 : Value).ownBlock ∧ some k_ ≠ (s_.2.2.2.2.2.2.2.2.1 : Value).ownBlock ∧ ns_ k_ Ao46 t376 co46 ∧ ns_ k_ Ao48 t379 co48 ∧ ns_ k_ Ao50 t382 co50 ∧ ns_ k_ Ao60 t445 co60 ∧ ns_ k_ Ao62 t447 co62 ∧ ns_ k_ Ao72 t449 co72 ∧ ns_ k_ Ao73 t450 co73 ∧ ns_ k_ Ao74 t451 co74 ∧ ns_ k_ Ao84 t410 co84 ∧ ns_ k_ Ao85 t413 co85 ∧ ns_ k_ Ao86 t416 co86) (.slice Ao61 t446.length co61) t446) ∧ (Kd.R (Kd.int .i64) 3 w' w.heap.size (fun k_ => some k_ ≠ (s_.1 : Value).ownBlock ∧ some k_ ≠ (s_.2.1 : Value).ownBlock ∧ some k_ ≠ (s_.2.2.1 : Value).ownBlock ∧ some k_ ≠ (s_.2.2.2.1 : Value).ownBlock ∧ some k_ ≠ (s_.2.2.2.2.1 : Value).ownBlock ∧ some k_ ≠ (s_.2.2.2.2.2.1 : Value).ownBlock ∧ some k_ ≠ (s_.2.2.2.2.2.2.1 : Value).ownBlock ∧ some k_ ≠ (s_.2.2.2.2.2.2.2.1 : Value).ownBlock ∧ some k_ ≠ (s_.2.2.2.2.2.2.2.2.1 : Value).ownBlock ∧ ns_ k_ Ao46 t376 co46 ∧ ns_ k_ Ao48 t379 co48 ∧ ns_ k_ Ao50 t382 co50 ∧ ns_ k_ Ao60 t445 co60 ∧ ns_ k_ Ao61 t446 co61 ∧ ns_ k_ Ao72 t449 co72 ∧ ns_ k_ Ao73 t450 co73 ∧ ns_ k_ Ao74 t451 co74 ∧ ns_ k_ Ao84 t410 co84 ∧ ns_ k_ Ao85 t413 co85 ∧ ns_ k_ Ao86 t416 co86) (.slice Ao62 t447.length co62) t447) ∧ (Kd.R (Kd.int .i64) 3 w' w.heap.size (fun k_ => some k_ ≠ (s_.1 : Value).ownBlock ∧ some k_ ≠ (s_.2.1 : Value).ownBlock ∧ some k_ ≠ (s_.2.2.1 : Value).ownBlock ∧ some k_ ≠ (s_.2.2.2.1 : Value).ownBlock ∧ some k_ ≠ (s_.2.2.2.2.1 : Value).ownBlock ∧ some k_ ≠ (s_.2.2.2.2.2.1 : Value).ownBlock ∧ some k_ ≠ (s_.2.2.2.2.2.2.1 : Value).ownBlock ∧ some k_ ≠ (s_.2.2.2.2.2.2.2.1 : Value).ownBlock ∧ some k_ ≠ (s_.2.2.2.2.2.2.2.2.1 : Value).ownBlock ∧ ns_ k_ Ao46 t376 co46 ∧ ns_ k_ Ao48 t379 co48 ∧ ns_ k_ Ao50 t382 co50 ∧ ns_ k_ Ao60 t445 co60 ∧ ns_ k_ Ao61 t446 co61 ∧ ns_ k_ Ao62 t447 co62 ∧ ns_ k_ Ao73 t450 co73 ∧ ns_ k_ Ao74 t451 co74 ∧ ns_ k_ Ao84 t410 co84 ∧ ns_ k_ Ao85 t413 co85 ∧ ns_ k_ Ao86 t416 co86) (.slice Ao72 t449.length co72) t449) ∧ (Kd.R (Kd.int .i64) 3 w' w.heap.size (fun k_ => some k_ ≠ (s_.1 : Value).ownBlock ∧ some k_ ≠ (s_.2.1 : Value).ownBlock ∧ some k_ ≠ (s_.2.2.1 : Value).ownBlock ∧ some k_ ≠ (s_.2.2.2.1 : Value).ownBlock ∧ some k_ ≠ (s_.2.2.2.2.1 : Value).ownBlock ∧ some k_ ≠ (s_.2.2.2.2.2.1 : Value).ownBlock ∧ some k_ ≠ (s_.2.2.2.2.2.2.1 : Value).ownBlock ∧ some k_ ≠ (s_.2.2.2.2.2.2.2.1 : Value).ownBlock ∧ some k_ ≠ (s_.2.2.2.2.2.2.2.2.1 : Value).ownBlock ∧ ns_ k_ Ao46 t376 co46 ∧ ns_ k_ Ao48 t379 co48 ∧ ns_ k_ Ao50 t382 co50 ∧ ns_ k_ Ao60 t445 co60 ∧ ns_ k_ Ao61 t446 co61 ∧ ns_ k_ Ao62 t447 co62 ∧ ns_ k_ Ao72 t449 co72 ∧ ns_ k_ Ao74 t451 co74 ∧ ns_ k_ Ao84 t410 co84 ∧ ns_ k_ Ao85 t413 co85 ∧ ns_ k_ Ao86 t416 co86) (.slice Ao73 t450.length co73) t450) ∧ (Kd.R (Kd.int .i64) 3 w' w.heap.size (fun k_ => some k_ ≠ (s_.1 : Value).ownBlock ∧ some k_ ≠ (s_.2.1 : Value).ownBlock ∧ some k_ ≠ (s_.2.2.1 : Value).ownBlock ∧ some k_ ≠ (s_.2.2.2.1 : Value).ownBlock ∧ some k_ ≠ (s_.2.2.2.2.1 : Value).ownBlock ∧ some k_ ≠ (s_.2.2.2.2.2.1 : Value).ownBlock ∧ some k_ ≠ (s_.2.2.2.2.2.2.1 : Value).ownBlock ∧ some k_ ≠ (s_.2.2.2.2.2.2.2.1 : Value).ownBlock ∧ some k_ ≠ (s_.2.2.2.2.2.2.2.2.1 : Value).ownBlock ∧ ns_ k_ Ao46 t376 co46 ∧ ns_ k_ Ao48 t379 co48 ∧ ns_ k_ Ao50 t382 co50 ∧ ns_ k_ Ao60 t445 co60 ∧ ns_ k_ Ao61 t446 co61 ∧ ns_ k_ Ao62 t447 co62 ∧ ns_ k_ Ao72 t449 co72 ∧ ns_ k_ Ao73 t450 co73 ∧ ns_ k_ Ao84 t410 co84 ∧ ns_ k_ Ao85 t413 co85 ∧ ns_ k_ Ao86 t416 co86) (.slice Ao74 t451.length co74) t451) ∧ (Kd.R (Kd.int .i64) 3 w' w.heap.size (fun k_ => some k_ ≠ (s_.1 : Value).ownBlock ∧ some k_ ≠ (s_.2.1 : Value).ownBlock ∧ some k_ ≠ (s_.2.2.1 : Value).ownBlock ∧ some k_ ≠ (s_.2.2.2.1 : Value).ownBlock ∧ some k_ ≠ (s_.2.2.2.2.1 : Value).ownBlock ∧ some k_ ≠ (s_.2.2.2.2.2.1 : Value).ownBlock ∧ some k_ ≠ (s_.2.2.2.2.2.2.1 : Value).ownBlock ∧ some k_ ≠ (s_.2.2.2.2.2.2.2.1 : Value).ownBlock ∧ some k_ ≠ (s_.2.2.2.2.2.2.2.2.1 : Value).ownBlock ∧ ns_ k_ Ao46 t376 co46 ∧ ns_ k_ Ao48 t379 co48 ∧ ns_ k_ Ao50 t382 co50 ∧ ns_ k_ Ao60 t445 co60 ∧ ns_ k_ Ao61 t446 co61 ∧ ns_ k_ Ao62 t447 co62 ∧ ns_ k_ Ao72 t449 co72 ∧ ns_ k_ Ao73 t450 co73 ∧ ns_ k_ Ao74 t451 co74 ∧ ns_ k_ Ao85 t413 co85 ∧ ns_ k_ Ao86 t416 co86) (.slice Ao84 t410.length co84) t454) ∧ (Kd.R (Kd.int .i64) 3 w' w.heap.size (fun k_ => some k_ ≠ (s_.1 : Value).ownBlock ∧ some k_ ≠ (s_.2.1 : Value).ownBlock ∧ some k_ ≠ (s_.2.2.1 : Value).ownBlock ∧ some k_ ≠ (s_.2.2.2.1 : Value).ownBlock ∧ some k_ ≠ (s_.2.2.2.2.1 : Value).ownBlock ∧ some k_ ≠ (s_.2.2.2.2.2.1 : Value).ownBlock ∧ some k_ ≠ (s_.2.2.2.2.2.2.1 : Value).ownBlock ∧ some k_ ≠ (s_.2.2.2.2.2.2.2.1 : Value).ownBlock ∧ some k_ ≠ (s_.2.2.2.2.2.2.2.2.1 : Value).ownBlock ∧ ns_ k_ Ao46 t376 co46 ∧ ns_ k_ Ao48 t379 co48 ∧ ns_ k_ Ao50 t382 co50 ∧ ns_ k_ Ao60 t445 co60 ∧ ns_ k_ Ao61 t446 co61 ∧ ns_ k_ Ao62 t447 co62 ∧ ns_ k_ Ao72 t449 co72 ∧ ns_ k_ Ao73 t450 co73 ∧ ns_ k_ Ao74 t451 co74 ∧ ns_ k_ Ao84 t410 co84 ∧ ns_ k_ Ao86 t416 co86) (.slice Ao85 t413.length co85) t455) ∧ (Kd.R (Kd.int .i64) 3 w' w.heap.size (fun k_ => some k_ ≠ (s_.1 : Value).ownBlock ∧ some k_ ≠ (s_.2.1 : Value).ownBlock ∧ some k_ ≠ (s_.2.2.1 : Value).ownBlock ∧ some k_ ≠ (s_.2.2.2.1 : Value).ownBlock ∧ some k_ ≠ (s_.2.2.2.2.1 : Value).ownBlock ∧ some k_ ≠ (s_.2.2.2.2.2.1 : Value).ownBlock ∧ some k_ ≠ (s_.2.2.2.2.2.2.1 : Value).ownBlock ∧ some k_ ≠ (s_.2.2.2.2.2.2.2.1 : Value).ownBlock ∧ some k_ ≠ (s_.2.2.2.2.2.2.2.2.1 : Value).ownBlock ∧ ns_ k_ Ao46 t376 co46 ∧ ns_ k_ Ao48 t379 co48 ∧ ns_ k_ Ao50 t382 co50 ∧ ns_ k_ Ao60 t445 co60 ∧ ns_ k_ Ao61 t446 co61 ∧ ns_ k_ Ao62 t447 co62 ∧ ns_ k_ Ao72 t449 co72 ∧ ns_ k_ Ao73 t450 co73 ∧ ns_ k_ Ao74 t451 co74 ∧ ns_ k_ Ao84 t410 co84 ∧ ns_ k_ Ao85 t413 co85) (.slice Ao86 t416.length co86) t456) ∧ (w'.heap[gb351]? = some (.cells #[.int .i64 a0_0, .slice A0_1 l0_1.length c0_1, .slice A0_2 l0_2.length c0_2, .slice A0_3 l0_3.length c0_3] 45 (0, 0))) ∧ (w'.heap[gb352]? = some (.cells #[.int .i64 a1_0, .slice A1_1 l1_1.length c1_1, .slice A1_2 l1_2.length c1_2, .slice A1_3 l1_3.length c1_3] 45 (0, 0))) ∧ (w'.heap[gb386]? = some (.cells #[.int .i64 t375, .slice Ao46 t376.length co46, .slice Ao48 t379.length co48, .slice Ao50 t382.length co50] 48 (0, 0))) ∧ (w'.heap[gb397]? = some (.cells #[.int .i64 t387, .slice Ao60 t445.length co60, .slice Ao61 t446.length co61, .slice Ao62 t447.length co62] 48 (0, 0))) ∧ (w'.heap[gb408]? = some (.cells #[.int .i64 t398, .slice Ao72 t449.length co72, .slice Ao73 t450.length co73, .slice Ao74 t451.length co74] 48 (0, 0))) ∧ (w'.heap[gb420]? = some (.cells #[.int .i64 t409, .slice Ao84 t410.length co84, .slice Ao85 t413.length co85, .slice Ao86 t416.length co86] 48 (0, 0))) ∧ (w'.heap[s_.2.2.2.2.2.2.2.2.2]? = some (.cells #[.int .i64 0, .slice none 0 0, .slice none 0 0, .slice none 0 0] 48 (0, 0))) ∧ (w.heap.size ≤ s_.2.2.2.2.2.2.2.2.2) ∧ (w.heap.size ≤ s_.2.2.2.2.2.2.2.2.2) ∧ (gb351 ≠ s_.2.2.2.2.2.2.2.2.2) ∧ (s_.2.2.2.2.2.2.2.2.2 ≠ gb351) ∧ (gb352 ≠ s_.2.2.2.2.2.2.2.2.2) ∧ (s_.2.2.2.2.2.2.2.2.2 ≠ gb352) ∧ (gb386 ≠ s_.2.2.2.2.2.2.2.2.2) ∧ (s_.2.2.2.2.2.2.2.2.2 ≠ gb386) ∧ (gb397 ≠ s_.2.2.2.2.2.2.2.2.2) ∧ (s_.2.2.2.2.2.2.2.2.2 ≠ gb397) ∧ (gb408 ≠ s_.2.2.2.2.2.2.2.2.2) ∧ (s_.2.2.2.2.2.2.2.2.2 ≠ gb408) ∧ (gb420 ≠ s_.2.2.2.2.2.2.2.2.2) ∧ (s_.2.2.2.2.2.2.2.2.2 ≠ gb420) ∧ (Below w.heap.size w w')) ?_ ?_
     rotate_left
     ·intro hCont
      refine two_ (i := 1) (j := 8) (Ni := some 96) (Nj := some 15) #[true, true, true, false, false, false, false, false, false, false, false] #[true, false, true, false, false, false, false, false, true, false, false] rfl rfl rfl rfl (two_of HT_.out (by kernel_rfl)) (by decide) (by decide) (fun K hK => ?_) (fun K hK => ?_)
      ·skip
       refine goes_ Try.func36 (by kernel_rfl) rfl #[.agg #[.int .i64 a0_0, .slice A0_1 l0_1.length c0_1, .slice A0_2 l0_2.length c0_2, .slice A0_3 l0_3.length c0_3]] (by rfl) rfl rfl lm_ ?_
       with_reducible refine (laws_toRanked.calls kj109 a0_0 _ _ l0_1 _ _ l0_2 _ _ l0_3 t458 t459 t462 t465 _ ?side1 ?side2 ?side3 ?side4 ?side5 ?side6 A156.out).mono ?_
       (case side1 => exact lc_ (Kd.C_below HR0_1.out HB.out))
       (case side2 => exact HC0_1.out)
       (case side3 => exact lc_ (Kd.C_below HR0_2.out HB.out))
       (case side4 => exact HC0_2.out)
       (case side5 => exact lc_ (Kd.C_below HR0_3.out HB.out))
       (case side6 => exact HC0_3.out)
       rintro e w170 ⟨v460, v463, v466, rfl, ho0, ho1, ho2, hb⟩
       refine ⟨_, rfl, ?_⟩
       have HO461 := am_ (Kd.R_lower (nw_ (nw_ (nw_ (nw_ (nw_ (nw_ (nw_ (nw_ (nw_ (nw_ (nw_ (nw_ ho0 HO_387001) HO_387002) HO_387003) HO_398001) HO_398002) HO_398003) HO_409001) HO_409002) HO_409003) HO_421001) HO_421002) HO_421003) (below_size (lw_ HB))); have HO464 := am_ (Kd.R_lower (nw_ (nw_ (nw_ (nw_ (nw_ (nw_ (nw_ (nw_ (nw_ (nw_ (nw_ (nw_ ho1 HO_387001) HO_387002) HO_387003) HO_398001) HO_398002) HO_398003) HO_409001) HO_409002) HO_409003) HO_421001) HO_421002) HO_421003) (below_size (lw_ HB))); have HO467 := am_ (Kd.R_lower (nw_ (nw_ (nw_ (nw_ (nw_ (nw_ (nw_ (nw_ (nw_ (nw_ (nw_ (nw_ ho2 HO_387001) HO_387002) HO_387003) HO_398001) HO_398002) HO_398003) HO_409001) HO_409002) HO_409003) HO_421001) HO_421002) HO_421003) (below_size (lw_ HB))); replace HO_387001 := am_ (m1_ (td_ (td_ (td_ (Kd.R_old (lf_ HO_387001) hb) ho0) ho1) ho2)); replace HO_387002 := am_ (m1_ (td_ (td_ (td_ (Kd.R_old (lf_ HO_387002) hb) ho0) ho1) ho2)); replace HO_387003 := am_ (m1_ (td_ (td_ (td_ (Kd.R_old (lf_ HO_387003) hb) ho0) ho1) ho2)); replace HO_398001 := am_ (m1_ (td_ (td_ (td_ (Kd.R_old (lf_ HO_398001) hb) ho0) ho1) ho2)); replace HO_398002 := am_ (m1_ (td_ (td_ (td_ (Kd.R_old (lf_ HO_398002) hb) ho0) ho1) ho2)); replace HO_398003 := am_ (m1_ (td_ (td_ (td_ (Kd.R_old (lf_ HO_398003) hb) ho0) ho1) ho2)); replace HO_409001 := am_ (m1_ (td_ (td_ (td_ (Kd.R_old (lf_ HO_409001) hb) ho0) ho1) ho2)); replace HO_409002 := am_ (m1_ (td_ (td_ (td_ (Kd.R_old (lf_ HO_409002) hb) ho0) ho1) ho2)); replace HO_409003 := am_ (m1_ (td_ (td_ (td_ (Kd.R_old (lf_ HO_409003) hb) ho0) ho1) ho2)); replace HO_421001 := am_ (m1_ (td_ (td_ (td_ (Kd.R_old (lf_ HO_421001) hb) ho0) ho1) ho2)); replace HO_421002 := am_ (m1_ (td_ (td_ (td_ (Kd.R_old (lf_ HO_421002) hb) ho0) ho1) ho2)); replace HO_421003 := am_ (m1_ (td_ (td_ (td_ (Kd.R_old (lf_ HO_421003) hb) ho0) ho1) ho2)); replace BK351 := am_ (blk_below (g := gb351) (lb_ BK351) hb); replace BK352 := am_ (blk_below (g := gb352) (lb_ BK352) hb); replace BK386 := am_ (blk_below (g := gb386) (lb_ BK386) hb); replace BK397 := am_ (blk_below (g := gb397) (lb_ BK397) hb); replace BK408 := am_ (blk_below (g := gb408) (lb_ BK408) hb); replace BK420 := am_ (blk_below (g := gb420) (lb_ BK420) hb); replace HB := am_ (below_step (lw_ HB) hb)
       (try clear hb)
       (try clear hb2)
       (try clear hk)
       (try clear hi)
       (try clear ho0)
       (try clear ho1)
       (try clear ho2)
       refine hK.out _ _ ⟨(blk_cell BK351.out 0).trans rfl, (blk_cell BK351.out 1).trans rfl, (blk_cell BK351.out 2).trans rfl, (blk_cell BK351.out 3).trans rfl, (blk_cell BK352.out 0).trans rfl, (blk_cell BK352.out 1).trans rfl, (blk_cell BK352.out 2).trans rfl, (blk_cell BK352.out 3).trans rfl⟩ (fun hHeld => ?_)
       clear hK K
       refine norm_ (a' := ?_) ?_ ?_
       rotate_left
       ·show Act.put _ (some 96) _ = _
        simp only [Act.put, List.setIfInBounds_toArray, List.set_cons_zero, List.set_cons_succ, i64_w, i32_w]
        rfl
       refine two_ (i := 3) (j := 8) (Ni := some 98) (Nj := some 15) #[true, true, true, true, false, false, false, false, false, false, false] #[true, true, true, false, false, false, false, false, true, false, false] rfl rfl rfl rfl (two_of HT_.out (by kernel_rfl)) (by decide) (by decide) (fun K hK => ?_) (fun K hK => ?_)
       ·skip
        refine goes_ Try.func36 (by kernel_rfl) rfl #[.agg #[.int .i64 a1_0, .slice A1_1 l1_1.length c1_1, .slice A1_2 l1_2.length c1_2, .slice A1_3 l1_3.length c1_3]] (by rfl) rfl rfl lm_ ?_
        with_reducible refine (laws_toRanked.calls kj109 a1_0 _ _ l1_1 _ _ l1_2 _ _ l1_3 t468 t469 t472 t475 _ ?side1 ?side2 ?side3 ?side4 ?side5 ?side6 A157.out).mono ?_
        (case side1 => exact lc_ (Kd.C_below HR1_1.out HB.out))
        (case side2 => exact HC1_1.out)
        (case side3 => exact lc_ (Kd.C_below HR1_2.out HB.out))
        (case side4 => exact HC1_2.out)
        (case side5 => exact lc_ (Kd.C_below HR1_3.out HB.out))
        (case side6 => exact HC1_3.out)
        rintro e w171 ⟨v470, v473, v476, rfl, ho0, ho1, ho2, hb⟩
        refine ⟨_, rfl, ?_⟩
        have HO471 := am_ (Kd.R_lower (nw_ (nw_ (nw_ (nw_ (nw_ (nw_ (nw_ (nw_ (nw_ (nw_ (nw_ (nw_ (nw_ (nw_ (nw_ ho0 HO_387001) HO_387002) HO_387003) HO_398001) HO_398002) HO_398003) HO_409001) HO_409002) HO_409003) HO_421001) HO_421002) HO_421003) HO461) HO464) HO467) (below_size (lw_ HB))); have HO474 := am_ (Kd.R_lower (nw_ (nw_ (nw_ (nw_ (nw_ (nw_ (nw_ (nw_ (nw_ (nw_ (nw_ (nw_ (nw_ (nw_ (nw_ ho1 HO_387001) HO_387002) HO_387003) HO_398001) HO_398002) HO_398003) HO_409001) HO_409002) HO_409003) HO_421001) HO_421002) HO_421003) HO461) HO464) HO467) (below_size (lw_ HB))); have HO477 := am_ (Kd.R_lower (nw_ (nw_ (nw_ (nw_ (nw_ (nw_ (nw_ (nw_ (nw_ (nw_ (nw_ (nw_ (nw_ (nw_ (nw_ ho2 HO_387001) HO_387002) HO_387003) HO_398001) HO_398002) HO_398003) HO_409001) HO_409002) HO_409003) HO_421001) HO_421002) HO_421003) HO461) HO464) HO467) (below_size (lw_ HB))); replace HO_387001 := am_ (m1_ (td_ (td_ (td_ (Kd.R_old (lf_ HO_387001) hb) ho0) ho1) ho2)); replace HO_387002 := am_ (m1_ (td_ (td_ (td_ (Kd.R_old (lf_ HO_387002) hb) ho0) ho1) ho2)); replace HO_387003 := am_ (m1_ (td_ (td_ (td_ (Kd.R_old (lf_ HO_387003) hb) ho0) ho1) ho2)); replace HO_398001 := am_ (m1_ (td_ (td_ (td_ (Kd.R_old (lf_ HO_398001) hb) ho0) ho1) ho2)); replace HO_398002 := am_ (m1_ (td_ (td_ (td_ (Kd.R_old (lf_ HO_398002) hb) ho0) ho1) ho2)); replace HO_398003 := am_ (m1_ (td_ (td_ (td_ (Kd.R_old (lf_ HO_398003) hb) ho0) ho1) ho2)); replace HO_409001 := am_ (m1_ (td_ (td_ (td_ (Kd.R_old (lf_ HO_409001) hb) ho0) ho1) ho2)); replace HO_409002 := am_ (m1_ (td_ (td_ (td_ (Kd.R_old (lf_ HO_409002) hb) ho0) ho1) ho2)); replace HO_409003 := am_ (m1_ (td_ (td_ (td_ (Kd.R_old (lf_ HO_409003) hb) ho0) ho1) ho2)); replace HO_421001 := am_ (m1_ (td_ (td_ (td_ (Kd.R_old (lf_ HO_421001) hb) ho0) ho1) ho2)); replace HO_421002 := am_ (m1_ (td_ (td_ (td_ (Kd.R_old (lf_ HO_421002) hb) ho0) ho1) ho2)); replace HO_421003 := am_ (m1_ (td_ (td_ (td_ (Kd.R_old (lf_ HO_421003) hb) ho0) ho1) ho2)); replace HO461 := am_ (m1_ (td_ (td_ (td_ (Kd.R_old (lf_ HO461) hb) ho0) ho1) ho2)); replace HO464 := am_ (m1_ (td_ (td_ (td_ (Kd.R_old (lf_ HO464) hb) ho0) ho1) ho2)); replace HO467 := am_ (m1_ (td_ (td_ (td_ (Kd.R_old (lf_ HO467) hb) ho0) ho1) ho2)); replace BK351 := am_ (blk_below (g := gb351) (lb_ BK351) hb); replace BK352 := am_ (blk_below (g := gb352) (lb_ BK352) hb); replace BK386 := am_ (blk_below (g := gb386) (lb_ BK386) hb); replace BK397 := am_ (blk_below (g := gb397) (lb_ BK397) hb); replace BK408 := am_ (blk_below (g := gb408) (lb_ BK408) hb); replace BK420 := am_ (blk_below (g := gb420) (lb_ BK420) hb); replace HB := am_ (below_step (lw_ HB) hb)
        (try clear hb)
        (try clear hb2)
        (try clear hk)
        (try clear hi)
        (try clear ho0)
        (try clear ho1)
        (try clear ho2)
        obtain ⟨Ao172, co172, eo172⟩ := Kd.R_slice HO461.out
        (first | subst eo172 | (injection eo172 with f1_ f2_ f3_; have f4_ := f1_.symm; have f5_ := f3_.symm; clear f1_ f2_ f3_; subst f4_; subst f5_))
        obtain ⟨Ao173, co173, eo173⟩ := Kd.R_slice HO464.out
        (first | subst eo173 | (injection eo173 with f1_ f2_ f3_; have f4_ := f1_.symm; have f5_ := f3_.symm; clear f1_ f2_ f3_; subst f4_; subst f5_))
        obtain ⟨Ao174, co174, eo174⟩ := Kd.R_slice HO467.out
        (first | subst eo174 | (injection eo174 with f1_ f2_ f3_; have f4_ := f1_.symm; have f5_ := f3_.symm; clear f1_ f2_ f3_; subst f4_; subst f5_))
        obtain ⟨Ao175, co175, eo175⟩ := Kd.R_slice HO471.out
        (first | subst eo175 | (injection eo175 with f1_ f2_ f3_; have f4_ := f1_.symm; have f5_ := f3_.symm; clear f1_ f2_ f3_; subst f4_; subst f5_))
        obtain ⟨Ao176, co176, eo176⟩ := Kd.R_slice HO474.out
        (first | subst eo176 | (injection eo176 with f1_ f2_ f3_; have f4_ := f1_.symm; have f5_ := f3_.symm; clear f1_ f2_ f3_; subst f4_; subst f5_))
        obtain ⟨Ao177, co177, eo177⟩ := Kd.R_slice HO477.out
        (first | subst eo177 | (injection eo177 with f1_ f2_ f3_; have f4_ := f1_.symm; have f5_ := f3_.symm; clear f1_ f2_ f3_; subst f4_; subst f5_))
        refine hK.out _ _ ⟨(blk_cell BK351.out 0).trans rfl, (blk_cell BK351.out 1).trans rfl, (blk_cell BK351.out 2).trans rfl, (blk_cell BK351.out 3).trans rfl, (blk_cell BK352.out 0).trans rfl, (blk_cell BK352.out 1).trans rfl, (blk_cell BK352.out 2).trans rfl, (blk_cell BK352.out 3).trans rfl⟩ (fun hHeld => ?_)
        clear hK K
        refine norm_ (a' := ?_) ?_ ?_
        rotate_left
        ·show Act.put _ (some 98) _ = _
         simp only [Act.put, List.setIfInBounds_toArray, List.set_cons_zero, List.set_cons_succ, i64_w, i32_w]
         rfl
        refine two_ (i := 4) (j := 8) (Ni := some 99) (Nj := some 15) #[true, true, true, true, true, false, false, false, false, false, false] #[true, true, true, true, false, false, false, false, true, false, false] rfl rfl rfl rfl (two_of HT_.out (by kernel_rfl)) (by decide) (by decide) (fun K hK => ?_) (fun K hK => ?_)
        ·skip
         refine goes_ Try.func37 (by kernel_rfl) rfl #[.agg #[.int .i64 t458, .slice Ao172 t459.length co172, .slice Ao173 t462.length co173, .slice Ao174 t465.length co174], .agg #[.int .i64 t468, .slice Ao175 t469.length co175, .slice Ao176 t472.length co176, .slice Ao177 t475.length co177]] (by rfl) rfl rfl lm_ ?_
         with_reducible refine (impl_JoinRanked.calls kj109 t458 _ _ t459 _ _ t462 _ _ t465 t468 _ _ t469 _ _ t472 _ _ t475 t478 t479 t482 t485 t488 _ ?side1 ?side2 ?side3 ?side4 ?side5 ?side6 ?side7 ?side8 ?side9 ?side10 ?side11 ?side12 A158.out).mono ?_
         (case side1 => exact lc_ (Kd.R_reads' HO461.out).2.2)
         (case side2 => exact (Kd.R_reads' HO461.out).2.1)
         (case side3 => exact lc_ (Kd.R_reads' HO464.out).2.2)
         (case side4 => exact (Kd.R_reads' HO464.out).2.1)
         (case side5 => exact lc_ (Kd.R_reads' HO467.out).2.2)
         (case side6 => exact (Kd.R_reads' HO467.out).2.1)
         (case side7 => exact lc_ (Kd.R_reads' HO471.out).2.2)
         (case side8 => exact (Kd.R_reads' HO471.out).2.1)
         (case side9 => exact lc_ (Kd.R_reads' HO474.out).2.2)
         (case side10 => exact (Kd.R_reads' HO474.out).2.1)
         (case side11 => exact lc_ (Kd.R_reads' HO477.out).2.2)
         (case side12 => exact (Kd.R_reads' HO477.out).2.1)
         rintro e w178 ⟨v480, v483, v486, rfl, ho0, ho1, ho2, hb⟩
         refine ⟨_, rfl, ?_⟩
         have HO481 := am_ (Kd.R_lower (nw_ (nw_ (nw_ (nw_ (nw_ (nw_ (nw_ (nw_ (nw_ (nw_ (nw_ (nw_ (nw_ (nw_ (nw_ (nw_ (nw_ (nw_ ho0 HO_387001) HO_387002) HO_387003) HO_398001) HO_398002) HO_398003) HO_409001) HO_409002) HO_409003) HO_421001) HO_421002) HO_421003) HO461) HO464) HO467) HO471) HO474) HO477) (below_size (lw_ HB))); have HO484 := am_ (Kd.R_lower (nw_ (nw_ (nw_ (nw_ (nw_ (nw_ (nw_ (nw_ (nw_ (nw_ (nw_ (nw_ (nw_ (nw_ (nw_ (nw_ (nw_ (nw_ ho1 HO_387001) HO_387002) HO_387003) HO_398001) HO_398002) HO_398003) HO_409001) HO_409002) HO_409003) HO_421001) HO_421002) HO_421003) HO461) HO464) HO467) HO471) HO474) HO477) (below_size (lw_ HB))); have HO487 := am_ (Kd.R_lower (nw_ (nw_ (nw_ (nw_ (nw_ (nw_ (nw_ (nw_ (nw_ (nw_ (nw_ (nw_ (nw_ (nw_ (nw_ (nw_ (nw_ (nw_ ho2 HO_387001) HO_387002) HO_387003) HO_398001) HO_398002) HO_398003) HO_409001) HO_409002) HO_409003) HO_421001) HO_421002) HO_421003) HO461) HO464) HO467) HO471) HO474) HO477) (below_size (lw_ HB))); replace HO_387001 := am_ (m1_ (td_ (td_ (td_ (Kd.R_old (lf_ HO_387001) hb) ho0) ho1) ho2)); replace HO_387002 := am_ (m1_ (td_ (td_ (td_ (Kd.R_old (lf_ HO_387002) hb) ho0) ho1) ho2)); replace HO_387003 := am_ (m1_ (td_ (td_ (td_ (Kd.R_old (lf_ HO_387003) hb) ho0) ho1) ho2)); replace HO_398001 := am_ (m1_ (td_ (td_ (td_ (Kd.R_old (lf_ HO_398001) hb) ho0) ho1) ho2)); replace HO_398002 := am_ (m1_ (td_ (td_ (td_ (Kd.R_old (lf_ HO_398002) hb) ho0) ho1) ho2)); replace HO_398003 := am_ (m1_ (td_ (td_ (td_ (Kd.R_old (lf_ HO_398003) hb) ho0) ho1) ho2)); replace HO_409001 := am_ (m1_ (td_ (td_ (td_ (Kd.R_old (lf_ HO_409001) hb) ho0) ho1) ho2)); replace HO_409002 := am_ (m1_ (td_ (td_ (td_ (Kd.R_old (lf_ HO_409002) hb) ho0) ho1) ho2)); replace HO_409003 := am_ (m1_ (td_ (td_ (td_ (Kd.R_old (lf_ HO_409003) hb) ho0) ho1) ho2)); replace HO_421001 := am_ (m1_ (td_ (td_ (td_ (Kd.R_old (lf_ HO_421001) hb) ho0) ho1) ho2)); replace HO_421002 := am_ (m1_ (td_ (td_ (td_ (Kd.R_old (lf_ HO_421002) hb) ho0) ho1) ho2)); replace HO_421003 := am_ (m1_ (td_ (td_ (td_ (Kd.R_old (lf_ HO_421003) hb) ho0) ho1) ho2)); replace HO461 := am_ (m1_ (td_ (td_ (td_ (Kd.R_old (lf_ HO461) hb) ho0) ho1) ho2)); replace HO464 := am_ (m1_ (td_ (td_ (td_ (Kd.R_old (lf_ HO464) hb) ho0) ho1) ho2)); replace HO467 := am_ (m1_ (td_ (td_ (td_ (Kd.R_old (lf_ HO467) hb) ho0) ho1) ho2)); replace HO471 := am_ (m1_ (td_ (td_ (td_ (Kd.R_old (lf_ HO471) hb) ho0) ho1) ho2)); replace HO474 := am_ (m1_ (td_ (td_ (td_ (Kd.R_old (lf_ HO474) hb) ho0) ho1) ho2)); replace HO477 := am_ (m1_ (td_ (td_ (td_ (Kd.R_old (lf_ HO477) hb) ho0) ho1) ho2)); replace BK351 := am_ (blk_below (g := gb351) (lb_ BK351) hb); replace BK352 := am_ (blk_below (g := gb352) (lb_ BK352) hb); replace BK386 := am_ (blk_below (g := gb386) (lb_ BK386) hb); replace BK397 := am_ (blk_below (g := gb397) (lb_ BK397) hb); replace BK408 := am_ (blk_below (g := gb408) (lb_ BK408) hb); replace BK420 := am_ (blk_below (g := gb420) (lb_ BK420) hb); replace HB := am_ (below_step (lw_ HB) hb)
         (try clear hb)
         (try clear hb2)
         (try clear hk)
         (try clear hi)
         (try clear ho0)
         (try clear ho1)
         (try clear ho2)
         refine hK.out _ _ ⟨(blk_cell BK351.out 0).trans rfl, (blk_cell BK351.out 1).trans rfl, (blk_cell BK351.out 2).trans rfl, (blk_cell BK351.out 3).trans rfl, (blk_cell BK352.out 0).trans rfl, (blk_cell BK352.out 1).trans rfl, (blk_cell BK352.out 2).trans rfl, (blk_cell BK352.out 3).trans rfl⟩ (fun hHeld => ?_)
         clear hK K
         refine norm_ (a' := ?_) ?_ ?_
         rotate_left
         ·show Act.put _ (some 99) _ = _
          simp only [Act.put, List.setIfInBounds_toArray, List.set_cons_zero, List.set_cons_succ, i64_w, i32_w]
          rfl
         refine pure_ (i := 5) (N := some 94) (v := ?_) (a' := ?_) #[true, true, true, true, true, true, false, false, false, false, false] rfl rfl (any_of HT_.out (by kernel_rfl)) (fun _ _ _ h => h) (Or.inl ⟨by rfl, ?_⟩) ?_ ?_
         rotate_left
         ·intro w'
          go_simp
          with_reducible rfl
         rotate_left
         ·simp only [Act.put, List.setIfInBounds_toArray, List.set_cons_zero, List.set_cons_succ, i64_w, i32_w]
          rfl
         refine pure_ (i := 6) (N := some 100) (v := ?_) (a' := ?_) #[true, true, true, true, true, true, true, false, false, false, false] rfl rfl (any_of HT_.out (by kernel_rfl)) (fun _ _ _ h => h) (Or.inl ⟨by rfl, ?_⟩) ?_ ?_
         rotate_left
         ·intro w'
          go_simp
          with_reducible rfl
         rotate_left
         ·simp only [Act.put, List.setIfInBounds_toArray, List.set_cons_zero, List.set_cons_succ, i64_w, i32_w]
          rfl
         refine pure_ (i := 7) (N := some 101) (v := ?_) (a' := ?_) #[true, true, true, true, true, true, true, true, false, false, false] rfl rfl (any_of HT_.out (by kernel_rfl)) (fun _ _ _ h => h) (Or.inl ⟨by rfl, ?_⟩) ?_ ?_
         rotate_left
         ·intro w'
          go_simp
          with_reducible rfl
         rotate_left
         ·simp only [Act.put, List.setIfInBounds_toArray, List.set_cons_zero, List.set_cons_succ, i64_w, i32_w]
          rfl
         refine one_ (i := 8) (N := some 15) #[true, true, true, true, true, true, true, true, true, false, false] rfl rfl (one_of HT_.out (by kernel_rfl)) (by decide) (fun K hK => ?_)
         refine box_step ?hg (N := 15) ?hd (cs := #[.int .i64 0, .slice none 0 0, .slice none 0 0, .slice none 0 0]) (t := 48) ?hr ?_; (case hd => rfl); (case hg => rfl); (case hr => first | (go_simp; done) | (go_simp; rfl))
         intro gb489 hg w179 hbox hb
         have BK489 := am_ (hbox); have GW489 := am_ ((by rw [hg]; exact (below_size (lw_ HB)) : w.heap.size ≤ gb489)); have GE489 := am_ ((by rw [hg]; exact (below_size (lw_ HB)) : w.heap.size ≤ gb489)); have NB351_489 := am_ ((by rw [hg]; exact Nat.ne_of_lt (blk_lt (g := gb351) (lb_ BK351)) : gb351 ≠ gb489)); have NB489_351 := am_ ((by rw [hg]; exact Nat.ne_of_gt (blk_lt (g := gb351) (lb_ BK351)) : gb489 ≠ gb351)); have NB352_489 := am_ ((by rw [hg]; exact Nat.ne_of_lt (blk_lt (g := gb352) (lb_ BK352)) : gb352 ≠ gb489)); have NB489_352 := am_ ((by rw [hg]; exact Nat.ne_of_gt (blk_lt (g := gb352) (lb_ BK352)) : gb489 ≠ gb352)); have NB386_489 := am_ ((by rw [hg]; exact Nat.ne_of_lt (blk_lt (g := gb386) (lb_ BK386)) : gb386 ≠ gb489)); have NB489_386 := am_ ((by rw [hg]; exact Nat.ne_of_gt (blk_lt (g := gb386) (lb_ BK386)) : gb489 ≠ gb386)); have NB397_489 := am_ ((by rw [hg]; exact Nat.ne_of_lt (blk_lt (g := gb397) (lb_ BK397)) : gb397 ≠ gb489)); have NB489_397 := am_ ((by rw [hg]; exact Nat.ne_of_gt (blk_lt (g := gb397) (lb_ BK397)) : gb489 ≠ gb397)); have NB408_489 := am_ ((by rw [hg]; exact Nat.ne_of_lt (blk_lt (g := gb408) (lb_ BK408)) : gb408 ≠ gb489)); have NB489_408 := am_ ((by rw [hg]; exact Nat.ne_of_gt (blk_lt (g := gb408) (lb_ BK408)) : gb489 ≠ gb408)); have NB420_489 := am_ ((by rw [hg]; exact Nat.ne_of_lt (blk_lt (g := gb420) (lb_ BK420)) : gb420 ≠ gb489)); have NB489_420 := am_ ((by rw [hg]; exact Nat.ne_of_gt (blk_lt (g := gb420) (lb_ BK420)) : gb489 ≠ gb420)); replace HO_387001 := am_ (Kd.R_below (lf_ HO_387001) hb); replace HO_387002 := am_ (Kd.R_below (lf_ HO_387002) hb); replace HO_387003 := am_ (Kd.R_below (lf_ HO_387003) hb); replace HO_398001 := am_ (Kd.R_below (lf_ HO_398001) hb); replace HO_398002 := am_ (Kd.R_below (lf_ HO_398002) hb); replace HO_398003 := am_ (Kd.R_below (lf_ HO_398003) hb); replace HO_409001 := am_ (Kd.R_below (lf_ HO_409001) hb); replace HO_409002 := am_ (Kd.R_below (lf_ HO_409002) hb); replace HO_409003 := am_ (Kd.R_below (lf_ HO_409003) hb); replace HO_421001 := am_ (Kd.R_below (lf_ HO_421001) hb); replace HO_421002 := am_ (Kd.R_below (lf_ HO_421002) hb); replace HO_421003 := am_ (Kd.R_below (lf_ HO_421003) hb); replace HO461 := am_ (Kd.R_below (lf_ HO461) hb); replace HO464 := am_ (Kd.R_below (lf_ HO464) hb); replace HO467 := am_ (Kd.R_below (lf_ HO467) hb); replace HO471 := am_ (Kd.R_below (lf_ HO471) hb); replace HO474 := am_ (Kd.R_below (lf_ HO474) hb); replace HO477 := am_ (Kd.R_below (lf_ HO477) hb); replace HO481 := am_ (Kd.R_below (lf_ HO481) hb); replace HO484 := am_ (Kd.R_below (lf_ HO484) hb); replace HO487 := am_ (Kd.R_below (lf_ HO487) hb); replace BK351 := am_ (blk_below (g := gb351) (lb_ BK351) hb); replace BK352 := am_ (blk_below (g := gb352) (lb_ BK352) hb); replace BK386 := am_ (blk_below (g := gb386) (lb_ BK386) hb); replace BK397 := am_ (blk_below (g := gb397) (lb_ BK397) hb); replace BK408 := am_ (blk_below (g := gb408) (lb_ BK408) hb); replace BK420 := am_ (blk_below (g := gb420) (lb_ BK420) hb); replace HB := am_ (below_step (lw_ HB) hb)
         clear hb hbox hg
         refine hK.out _ _ ⟨(blk_cell BK351.out 0).trans rfl, (blk_cell BK351.out 1).trans rfl, (blk_cell BK351.out 2).trans rfl, (blk_cell BK351.out 3).trans rfl, (blk_cell BK352.out 0).trans rfl, (blk_cell BK352.out 1).trans rfl, (blk_cell BK352.out 2).trans rfl, (blk_cell BK352.out 3).trans rfl⟩ (fun hHeld => ?_)
         clear hK K
         refine norm_ (a' := ?_) ?_ ?_
         rotate_left
         ·show Act.put _ (some 15) _ = _
          simp only [Act.put, List.setIfInBounds_toArray, List.set_cons_zero, List.set_cons_succ, i64_w, i32_w]
          rfl
         exact norm_ (by simp only [putAll, Act.put, List.setIfInBounds_toArray, List.set_cons_zero, List.set_cons_succ]) (hCont (.slice Ao172 t459.length co172, .slice Ao173 t462.length co173, .slice Ao174 t465.length co174, .slice Ao175 t469.length co175, .slice Ao176 t472.length co176, .slice Ao177 t475.length co177, v480, v483, v486, gb489) _ ⟨hHeld, (lo_ HO461), (lo_ HO464), (lo_ HO467), (lo_ HO471), (lo_ HO474), (lo_ HO477), (lo_ HO481), (lo_ HO484), (lo_ HO487), (lo_ HO_387001), (lo_ HO_387002), (lo_ HO_387003), (lo_ HO_398001), (lo_ HO_398002), (lo_ HO_398003), (lo_ HO_409001), (lo_ HO_409002), (lo_ HO_409003), (lo_ HO_421001), (lo_ HO_421002), (lo_ HO_421003), (lb_ BK351), (lb_ BK352), (lb_ BK386), (lb_ BK397), (lb_ BK408), (lb_ BK420), (lb_ BK489), GW489.out, GE489.out, NB351_489.out, NB489_351.out, NB352_489.out, NB489_352.out, NB386_489.out, NB489_386.out, NB397_489.out, NB489_397.out, NB408_489.out, NB489_408.out, NB420_489.out, NB489_420.out, (lw_ HB)⟩)
        ·skip
         refine box_step ?hg (N := 15) ?hd (cs := #[.int .i64 0, .slice none 0 0, .slice none 0 0, .slice none 0 0]) (t := 48) ?hr ?_; (case hd => rfl); (case hg => rfl); (case hr => first | (go_simp; done) | (go_simp; rfl))
         intro gb489 hg w172 hbox hb
         have BK489 := am_ (hbox); have GW489 := am_ ((by rw [hg]; exact (below_size (lw_ HB)) : w.heap.size ≤ gb489)); have GE489 := am_ ((by rw [hg]; exact (below_size (lw_ HB)) : w.heap.size ≤ gb489)); have NB351_489 := am_ ((by rw [hg]; exact Nat.ne_of_lt (blk_lt (g := gb351) (lb_ BK351)) : gb351 ≠ gb489)); have NB489_351 := am_ ((by rw [hg]; exact Nat.ne_of_gt (blk_lt (g := gb351) (lb_ BK351)) : gb489 ≠ gb351)); have NB352_489 := am_ ((by rw [hg]; exact Nat.ne_of_lt (blk_lt (g := gb352) (lb_ BK352)) : gb352 ≠ gb489)); have NB489_352 := am_ ((by rw [hg]; exact Nat.ne_of_gt (blk_lt (g := gb352) (lb_ BK352)) : gb489 ≠ gb352)); have NB386_489 := am_ ((by rw [hg]; exact Nat.ne_of_lt (blk_lt (g := gb386) (lb_ BK386)) : gb386 ≠ gb489)); have NB489_386 := am_ ((by rw [hg]; exact Nat.ne_of_gt (blk_lt (g := gb386) (lb_ BK386)) : gb489 ≠ gb386)); have NB397_489 := am_ ((by rw [hg]; exact Nat.ne_of_lt (blk_lt (g := gb397) (lb_ BK397)) : gb397 ≠ gb489)); have NB489_397 := am_ ((by rw [hg]; exact Nat.ne_of_gt (blk_lt (g := gb397) (lb_ BK397)) : gb489 ≠ gb397)); have NB408_489 := am_ ((by rw [hg]; exact Nat.ne_of_lt (blk_lt (g := gb408) (lb_ BK408)) : gb408 ≠ gb489)); have NB489_408 := am_ ((by rw [hg]; exact Nat.ne_of_gt (blk_lt (g := gb408) (lb_ BK408)) : gb489 ≠ gb408)); have NB420_489 := am_ ((by rw [hg]; exact Nat.ne_of_lt (blk_lt (g := gb420) (lb_ BK420)) : gb420 ≠ gb489)); have NB489_420 := am_ ((by rw [hg]; exact Nat.ne_of_gt (blk_lt (g := gb420) (lb_ BK420)) : gb489 ≠ gb420)); replace HO_387001 := am_ (Kd.R_below (lf_ HO_387001) hb); replace HO_387002 := am_ (Kd.R_below (lf_ HO_387002) hb); replace HO_387003 := am_ (Kd.R_below (lf_ HO_387003) hb); replace HO_398001 := am_ (Kd.R_below (lf_ HO_398001) hb); replace HO_398002 := am_ (Kd.R_below (lf_ HO_398002) hb); replace HO_398003 := am_ (Kd.R_below (lf_ HO_398003) hb); replace HO_409001 := am_ (Kd.R_below (lf_ HO_409001) hb); replace HO_409002 := am_ (Kd.R_below (lf_ HO_409002) hb); replace HO_409003 := am_ (Kd.R_below (lf_ HO_409003) hb); replace HO_421001 := am_ (Kd.R_below (lf_ HO_421001) hb); replace HO_421002 := am_ (Kd.R_below (lf_ HO_421002) hb); replace HO_421003 := am_ (Kd.R_below (lf_ HO_421003) hb); replace HO461 := am_ (Kd.R_below (lf_ HO461) hb); replace HO464 := am_ (Kd.R_below (lf_ HO464) hb); replace HO467 := am_ (Kd.R_below (lf_ HO467) hb); replace HO471 := am_ (Kd.R_below (lf_ HO471) hb); replace HO474 := am_ (Kd.R_below (lf_ HO474) hb); replace HO477 := am_ (Kd.R_below (lf_ HO477) hb); replace BK351 := am_ (blk_below (g := gb351) (lb_ BK351) hb); replace BK352 := am_ (blk_below (g := gb352) (lb_ BK352) hb); replace BK386 := am_ (blk_below (g := gb386) (lb_ BK386) hb); replace BK397 := am_ (blk_below (g := gb397) (lb_ BK397) hb); replace BK408 := am_ (blk_below (g := gb408) (lb_ BK408) hb); replace BK420 := am_ (blk_below (g := gb420) (lb_ BK420) hb); replace HB := am_ (below_step (lw_ HB) hb)
         clear hb hbox hg
         obtain ⟨Ao173, co173, eo173⟩ := Kd.R_slice HO461.out
         (first | subst eo173 | (injection eo173 with f1_ f2_ f3_; have f4_ := f1_.symm; have f5_ := f3_.symm; clear f1_ f2_ f3_; subst f4_; subst f5_))
         obtain ⟨Ao174, co174, eo174⟩ := Kd.R_slice HO464.out
         (first | subst eo174 | (injection eo174 with f1_ f2_ f3_; have f4_ := f1_.symm; have f5_ := f3_.symm; clear f1_ f2_ f3_; subst f4_; subst f5_))
         obtain ⟨Ao175, co175, eo175⟩ := Kd.R_slice HO467.out
         (first | subst eo175 | (injection eo175 with f1_ f2_ f3_; have f4_ := f1_.symm; have f5_ := f3_.symm; clear f1_ f2_ f3_; subst f4_; subst f5_))
         obtain ⟨Ao176, co176, eo176⟩ := Kd.R_slice HO471.out
         (first | subst eo176 | (injection eo176 with f1_ f2_ f3_; have f4_ := f1_.symm; have f5_ := f3_.symm; clear f1_ f2_ f3_; subst f4_; subst f5_))
         obtain ⟨Ao177, co177, eo177⟩ := Kd.R_slice HO474.out
         (first | subst eo177 | (injection eo177 with f1_ f2_ f3_; have f4_ := f1_.symm; have f5_ := f3_.symm; clear f1_ f2_ f3_; subst f4_; subst f5_))
         obtain ⟨Ao178, co178, eo178⟩ := Kd.R_slice HO477.out
         (first | subst eo178 | (injection eo178 with f1_ f2_ f3_; have f4_ := f1_.symm; have f5_ := f3_.symm; clear f1_ f2_ f3_; subst f4_; subst f5_))
         refine hK.out _ _ ⟨(blk_cell BK351.out 0).trans rfl, (blk_cell BK351.out 1).trans rfl, (blk_cell BK351.out 2).trans rfl, (blk_cell BK351.out 3).trans rfl, (blk_cell BK352.out 0).trans rfl, (blk_cell BK352.out 1).trans rfl, (blk_cell BK352.out 2).trans rfl, (blk_cell BK352.out 3).trans rfl⟩ (fun hHeld => ?_)
         clear hK K
         refine norm_ (a' := ?_) ?_ ?_
         rotate_left
         ·show Act.put _ (some 15) _ = _
          simp only [Act.put, List.setIfInBounds_toArray, List.set_cons_zero, List.set_cons_succ, i64_w, i32_w]
          rfl
         refine one_ (i := 4) (N := some 99) #[true, true, true, true, true, false, false, false, true, false, false] rfl rfl (one_of HT_.out (by kernel_rfl)) (by decide) (fun K hK => ?_)
         refine goes_ Try.func37 (by kernel_rfl) rfl #[.agg #[.int .i64 t458, .slice Ao173 t459.length co173, .slice Ao174 t462.length co174, .slice Ao175 t465.length co175], .agg #[.int .i64 t468, .slice Ao176 t469.length co176, .slice Ao177 t472.length co177, .slice Ao178 t475.length co178]] (by rfl) rfl rfl lm_ ?_
         with_reducible refine (impl_JoinRanked.calls kj109 t458 _ _ t459 _ _ t462 _ _ t465 t468 _ _ t469 _ _ t472 _ _ t475 t478 t479 t482 t485 t488 _ ?side1 ?side2 ?side3 ?side4 ?side5 ?side6 ?side7 ?side8 ?side9 ?side10 ?side11 ?side12 A158.out).mono ?_
         (case side1 => exact lc_ (Kd.R_reads' HO461.out).2.2)
         (case side2 => exact (Kd.R_reads' HO461.out).2.1)
         (case side3 => exact lc_ (Kd.R_reads' HO464.out).2.2)
         (case side4 => exact (Kd.R_reads' HO464.out).2.1)
         (case side5 => exact lc_ (Kd.R_reads' HO467.out).2.2)
         (case side6 => exact (Kd.R_reads' HO467.out).2.1)
         (case side7 => exact lc_ (Kd.R_reads' HO471.out).2.2)
         (case side8 => exact (Kd.R_reads' HO471.out).2.1)
         (case side9 => exact lc_ (Kd.R_reads' HO474.out).2.2)
         (case side10 => exact (Kd.R_reads' HO474.out).2.1)
         (case side11 => exact lc_ (Kd.R_reads' HO477.out).2.2)
         (case side12 => exact (Kd.R_reads' HO477.out).2.1)
         rintro e w179 ⟨v480, v483, v486, rfl, ho0, ho1, ho2, hb⟩
         refine ⟨_, rfl, ?_⟩
         have HO481 := am_ (Kd.R_lower (nw_ (nw_ (nw_ (nw_ (nw_ (nw_ (nw_ (nw_ (nw_ (nw_ (nw_ (nw_ (nw_ (nw_ (nw_ (nw_ (nw_ (nw_ ho0 HO_387001) HO_387002) HO_387003) HO_398001) HO_398002) HO_398003) HO_409001) HO_409002) HO_409003) HO_421001) HO_421002) HO_421003) HO461) HO464) HO467) HO471) HO474) HO477) (below_size (lw_ HB))); have HO484 := am_ (Kd.R_lower (nw_ (nw_ (nw_ (nw_ (nw_ (nw_ (nw_ (nw_ (nw_ (nw_ (nw_ (nw_ (nw_ (nw_ (nw_ (nw_ (nw_ (nw_ ho1 HO_387001) HO_387002) HO_387003) HO_398001) HO_398002) HO_398003) HO_409001) HO_409002) HO_409003) HO_421001) HO_421002) HO_421003) HO461) HO464) HO467) HO471) HO474) HO477) (below_size (lw_ HB))); have HO487 := am_ (Kd.R_lower (nw_ (nw_ (nw_ (nw_ (nw_ (nw_ (nw_ (nw_ (nw_ (nw_ (nw_ (nw_ (nw_ (nw_ (nw_ (nw_ (nw_ (nw_ ho2 HO_387001) HO_387002) HO_387003) HO_398001) HO_398002) HO_398003) HO_409001) HO_409002) HO_409003) HO_421001) HO_421002) HO_421003) HO461) HO464) HO467) HO471) HO474) HO477) (below_size (lw_ HB))); replace HO_387001 := am_ (m1_ (td_ (td_ (td_ (Kd.R_old (lf_ HO_387001) hb) ho0) ho1) ho2)); replace HO_387002 := am_ (m1_ (td_ (td_ (td_ (Kd.R_old (lf_ HO_387002) hb) ho0) ho1) ho2)); replace HO_387003 := am_ (m1_ (td_ (td_ (td_ (Kd.R_old (lf_ HO_387003) hb) ho0) ho1) ho2)); replace HO_398001 := am_ (m1_ (td_ (td_ (td_ (Kd.R_old (lf_ HO_398001) hb) ho0) ho1) ho2)); replace HO_398002 := am_ (m1_ (td_ (td_ (td_ (Kd.R_old (lf_ HO_398002) hb) ho0) ho1) ho2)); replace HO_398003 := am_ (m1_ (td_ (td_ (td_ (Kd.R_old (lf_ HO_398003) hb) ho0) ho1) ho2)); replace HO_409001 := am_ (m1_ (td_ (td_ (td_ (Kd.R_old (lf_ HO_409001) hb) ho0) ho1) ho2)); replace HO_409002 := am_ (m1_ (td_ (td_ (td_ (Kd.R_old (lf_ HO_409002) hb) ho0) ho1) ho2)); replace HO_409003 := am_ (m1_ (td_ (td_ (td_ (Kd.R_old (lf_ HO_409003) hb) ho0) ho1) ho2)); replace HO_421001 := am_ (m1_ (td_ (td_ (td_ (Kd.R_old (lf_ HO_421001) hb) ho0) ho1) ho2)); replace HO_421002 := am_ (m1_ (td_ (td_ (td_ (Kd.R_old (lf_ HO_421002) hb) ho0) ho1) ho2)); replace HO_421003 := am_ (m1_ (td_ (td_ (td_ (Kd.R_old (lf_ HO_421003) hb) ho0) ho1) ho2)); replace HO461 := am_ (m1_ (td_ (td_ (td_ (Kd.R_old (lf_ HO461) hb) ho0) ho1) ho2)); replace HO464 := am_ (m1_ (td_ (td_ (td_ (Kd.R_old (lf_ HO464) hb) ho0) ho1) ho2)); replace HO467 := am_ (m1_ (td_ (td_ (td_ (Kd.R_old (lf_ HO467) hb) ho0) ho1) ho2)); replace HO471 := am_ (m1_ (td_ (td_ (td_ (Kd.R_old (lf_ HO471) hb) ho0) ho1) ho2)); replace HO474 := am_ (m1_ (td_ (td_ (td_ (Kd.R_old (lf_ HO474) hb) ho0) ho1) ho2)); replace HO477 := am_ (m1_ (td_ (td_ (td_ (Kd.R_old (lf_ HO477) hb) ho0) ho1) ho2)); replace BK351 := am_ (blk_below (g := gb351) (lb_ BK351) hb); replace BK352 := am_ (blk_below (g := gb352) (lb_ BK352) hb); replace BK386 := am_ (blk_below (g := gb386) (lb_ BK386) hb); replace BK397 := am_ (blk_below (g := gb397) (lb_ BK397) hb); replace BK408 := am_ (blk_below (g := gb408) (lb_ BK408) hb); replace BK420 := am_ (blk_below (g := gb420) (lb_ BK420) hb); replace BK489 := am_ (blk_below (g := gb489) (lb_ BK489) hb); replace HB := am_ (below_step (lw_ HB) hb)
         (try clear hb)
         (try clear hb2)
         (try clear hk)
         (try clear hi)
         (try clear ho0)
         (try clear ho1)
         (try clear ho2)
         refine hK.out _ _ ⟨(blk_cell BK351.out 0).trans rfl, (blk_cell BK351.out 1).trans rfl, (blk_cell BK351.out 2).trans rfl, (blk_cell BK351.out 3).trans rfl, (blk_cell BK352.out 0).trans rfl, (blk_cell BK352.out 1).trans rfl, (blk_cell BK352.out 2).trans rfl, (blk_cell BK352.out 3).trans rfl⟩ (fun hHeld => ?_)
         clear hK K
         refine norm_ (a' := ?_) ?_ ?_
         rotate_left
         ·show Act.put _ (some 99) _ = _
          simp only [Act.put, List.setIfInBounds_toArray, List.set_cons_zero, List.set_cons_succ, i64_w, i32_w]
          rfl
         refine pure_ (i := 5) (N := some 94) (v := ?_) (a' := ?_) #[true, true, true, true, true, true, false, false, true, false, false] rfl rfl (any_of HT_.out (by kernel_rfl)) (fun _ _ _ h => h) (Or.inl ⟨by rfl, ?_⟩) ?_ ?_
         rotate_left
         ·intro w'
          go_simp
          with_reducible rfl
         rotate_left
         ·simp only [Act.put, List.setIfInBounds_toArray, List.set_cons_zero, List.set_cons_succ, i64_w, i32_w]
          rfl
         refine pure_ (i := 6) (N := some 100) (v := ?_) (a' := ?_) #[true, true, true, true, true, true, true, false, true, false, false] rfl rfl (any_of HT_.out (by kernel_rfl)) (fun _ _ _ h => h) (Or.inl ⟨by rfl, ?_⟩) ?_ ?_
         rotate_left
         ·intro w'
          go_simp
          with_reducible rfl
         rotate_left
         ·simp only [Act.put, List.setIfInBounds_toArray, List.set_cons_zero, List.set_cons_succ, i64_w, i32_w]
          rfl
         refine pure_ (i := 7) (N := some 101) (v := ?_) (a' := ?_) #[true, true, true, true, true, true, true, true, true, false, false] rfl rfl (any_of HT_.out (by kernel_rfl)) (fun _ _ _ h => h) (Or.inl ⟨by rfl, ?_⟩) ?_ ?_
         rotate_left
         ·intro w'
          go_simp
          with_reducible rfl
         rotate_left
         ·simp only [Act.put, List.setIfInBounds_toArray, List.set_cons_zero, List.set_cons_succ, i64_w, i32_w]
          rfl
         exact norm_ (by simp only [putAll, Act.put, List.setIfInBounds_toArray, List.set_cons_zero, List.set_cons_succ]) (hCont (.slice Ao173 t459.length co173, .slice Ao174 t462.length co174, .slice Ao175 t465.length co175, .slice Ao176 t469.length co176, .slice Ao177 t472.length co177, .slice Ao178 t475.length co178, v480, v483, v486, gb489) _ ⟨hHeld, (lo_ HO461), (lo_ HO464), (lo_ HO467), (lo_ HO471), (lo_ HO474), (lo_ HO477), (lo_ HO481), (lo_ HO484), (lo_ HO487), (lo_ HO_387001), (lo_ HO_387002), (lo_ HO_387003), (lo_ HO_398001), (lo_ HO_398002), (lo_ HO_398003), (lo_ HO_409001), (lo_ HO_409002), (lo_ HO_409003), (lo_ HO_421001), (lo_ HO_421002), (lo_ HO_421003), (lb_ BK351), (lb_ BK352), (lb_ BK386), (lb_ BK397), (lb_ BK408), (lb_ BK420), (lb_ BK489), GW489.out, GE489.out, NB351_489.out, NB489_351.out, NB352_489.out, NB489_352.out, NB386_489.out, NB489_386.out, NB397_489.out, NB489_397.out, NB408_489.out, NB489_408.out, NB420_489.out, NB489_420.out, (lw_ HB)⟩)
       ·skip
        refine box_step ?hg (N := 15) ?hd (cs := #[.int .i64 0, .slice none 0 0, .slice none 0 0, .slice none 0 0]) (t := 48) ?hr ?_; (case hd => rfl); (case hg => rfl); (case hr => first | (go_simp; done) | (go_simp; rfl))
        intro gb489 hg w171 hbox hb
        have BK489 := am_ (hbox); have GW489 := am_ ((by rw [hg]; exact (below_size (lw_ HB)) : w.heap.size ≤ gb489)); have GE489 := am_ ((by rw [hg]; exact (below_size (lw_ HB)) : w.heap.size ≤ gb489)); have NB351_489 := am_ ((by rw [hg]; exact Nat.ne_of_lt (blk_lt (g := gb351) (lb_ BK351)) : gb351 ≠ gb489)); have NB489_351 := am_ ((by rw [hg]; exact Nat.ne_of_gt (blk_lt (g := gb351) (lb_ BK351)) : gb489 ≠ gb351)); have NB352_489 := am_ ((by rw [hg]; exact Nat.ne_of_lt (blk_lt (g := gb352) (lb_ BK352)) : gb352 ≠ gb489)); have NB489_352 := am_ ((by rw [hg]; exact Nat.ne_of_gt (blk_lt (g := gb352) (lb_ BK352)) : gb489 ≠ gb352)); have NB386_489 := am_ ((by rw [hg]; exact Nat.ne_of_lt (blk_lt (g := gb386) (lb_ BK386)) : gb386 ≠ gb489)); have NB489_386 := am_ ((by rw [hg]; exact Nat.ne_of_gt (blk_lt (g := gb386) (lb_ BK386)) : gb489 ≠ gb386)); have NB397_489 := am_ ((by rw [hg]; exact Nat.ne_of_lt (blk_lt (g := gb397) (lb_ BK397)) : gb397 ≠ gb489)); have NB489_397 := am_ ((by rw [hg]; exact Nat.ne_of_gt (blk_lt (g := gb397) (lb_ BK397)) : gb489 ≠ gb397)); have NB408_489 := am_ ((by rw [hg]; exact Nat.ne_of_lt (blk_lt (g := gb408) (lb_ BK408)) : gb408 ≠ gb489)); have NB489_408 := am_ ((by rw [hg]; exact Nat.ne_of_gt (blk_lt (g := gb408) (lb_ BK408)) : gb489 ≠ gb408)); have NB420_489 := am_ ((by rw [hg]; exact Nat.ne_of_lt (blk_lt (g := gb420) (lb_ BK420)) : gb420 ≠ gb489)); have NB489_420 := am_ ((by rw [hg]; exact Nat.ne_of_gt (blk_lt (g := gb420) (lb_ BK420)) : gb489 ≠ gb420)); replace HO_387001 := am_ (Kd.R_below (lf_ HO_387001) hb); replace HO_387002 := am_ (Kd.R_below (lf_ HO_387002) hb); replace HO_387003 := am_ (Kd.R_below (lf_ HO_387003) hb); replace HO_398001 := am_ (Kd.R_below (lf_ HO_398001) hb); replace HO_398002 := am_ (Kd.R_below (lf_ HO_398002) hb); replace HO_398003 := am_ (Kd.R_below (lf_ HO_398003) hb); replace HO_409001 := am_ (Kd.R_below (lf_ HO_409001) hb); replace HO_409002 := am_ (Kd.R_below (lf_ HO_409002) hb); replace HO_409003 := am_ (Kd.R_below (lf_ HO_409003) hb); replace HO_421001 := am_ (Kd.R_below (lf_ HO_421001) hb); replace HO_421002 := am_ (Kd.R_below (lf_ HO_421002) hb); replace HO_421003 := am_ (Kd.R_below (lf_ HO_421003) hb); replace HO461 := am_ (Kd.R_below (lf_ HO461) hb); replace HO464 := am_ (Kd.R_below (lf_ HO464) hb); replace HO467 := am_ (Kd.R_below (lf_ HO467) hb); replace BK351 := am_ (blk_below (g := gb351) (lb_ BK351) hb); replace BK352 := am_ (blk_below (g := gb352) (lb_ BK352) hb); replace BK386 := am_ (blk_below (g := gb386) (lb_ BK386) hb); replace BK397 := am_ (blk_below (g := gb397) (lb_ BK397) hb); replace BK408 := am_ (blk_below (g := gb408) (lb_ BK408) hb); replace BK420 := am_ (blk_below (g := gb420) (lb_ BK420) hb); replace HB := am_ (below_step (lw_ HB) hb)
        clear hb hbox hg
        refine hK.out _ _ ⟨(blk_cell BK351.out 0).trans rfl, (blk_cell BK351.out 1).trans rfl, (blk_cell BK351.out 2).trans rfl, (blk_cell BK351.out 3).trans rfl, (blk_cell BK352.out 0).trans rfl, (blk_cell BK352.out 1).trans rfl, (blk_cell BK352.out 2).trans rfl, (blk_cell BK352.out 3).trans rfl⟩ (fun hHeld => ?_)
        clear hK K
        refine norm_ (a' := ?_) ?_ ?_
        rotate_left
        ·show Act.put _ (some 15) _ = _
         simp only [Act.put, List.setIfInBounds_toArray, List.set_cons_zero, List.set_cons_succ, i64_w, i32_w]
         rfl
        refine one_ (i := 3) (N := some 98) #[true, true, true, true, false, false, false, false, true, false, false] rfl rfl (one_of HT_.out (by kernel_rfl)) (by decide) (fun K hK => ?_)
        refine goes_ Try.func36 (by kernel_rfl) rfl #[.agg #[.int .i64 a1_0, .slice A1_1 l1_1.length c1_1, .slice A1_2 l1_2.length c1_2, .slice A1_3 l1_3.length c1_3]] (by rfl) rfl rfl lm_ ?_
        with_reducible refine (laws_toRanked.calls kj109 a1_0 _ _ l1_1 _ _ l1_2 _ _ l1_3 t468 t469 t472 t475 _ ?side1 ?side2 ?side3 ?side4 ?side5 ?side6 A157.out).mono ?_
        (case side1 => exact lc_ (Kd.C_below HR1_1.out HB.out))
        (case side2 => exact HC1_1.out)
        (case side3 => exact lc_ (Kd.C_below HR1_2.out HB.out))
        (case side4 => exact HC1_2.out)
        (case side5 => exact lc_ (Kd.C_below HR1_3.out HB.out))
        (case side6 => exact HC1_3.out)
        rintro e w172 ⟨v470, v473, v476, rfl, ho0, ho1, ho2, hb⟩
        refine ⟨_, rfl, ?_⟩
        have HO471 := am_ (Kd.R_lower (nw_ (nw_ (nw_ (nw_ (nw_ (nw_ (nw_ (nw_ (nw_ (nw_ (nw_ (nw_ (nw_ (nw_ (nw_ ho0 HO_387001) HO_387002) HO_387003) HO_398001) HO_398002) HO_398003) HO_409001) HO_409002) HO_409003) HO_421001) HO_421002) HO_421003) HO461) HO464) HO467) (below_size (lw_ HB))); have HO474 := am_ (Kd.R_lower (nw_ (nw_ (nw_ (nw_ (nw_ (nw_ (nw_ (nw_ (nw_ (nw_ (nw_ (nw_ (nw_ (nw_ (nw_ ho1 HO_387001) HO_387002) HO_387003) HO_398001) HO_398002) HO_398003) HO_409001) HO_409002) HO_409003) HO_421001) HO_421002) HO_421003) HO461) HO464) HO467) (below_size (lw_ HB))); have HO477 := am_ (Kd.R_lower (nw_ (nw_ (nw_ (nw_ (nw_ (nw_ (nw_ (nw_ (nw_ (nw_ (nw_ (nw_ (nw_ (nw_ (nw_ ho2 HO_387001) HO_387002) HO_387003) HO_398001) HO_398002) HO_398003) HO_409001) HO_409002) HO_409003) HO_421001) HO_421002) HO_421003) HO461) HO464) HO467) (below_size (lw_ HB))); replace HO_387001 := am_ (m1_ (td_ (td_ (td_ (Kd.R_old (lf_ HO_387001) hb) ho0) ho1) ho2)); replace HO_387002 := am_ (m1_ (td_ (td_ (td_ (Kd.R_old (lf_ HO_387002) hb) ho0) ho1) ho2)); replace HO_387003 := am_ (m1_ (td_ (td_ (td_ (Kd.R_old (lf_ HO_387003) hb) ho0) ho1) ho2)); replace HO_398001 := am_ (m1_ (td_ (td_ (td_ (Kd.R_old (lf_ HO_398001) hb) ho0) ho1) ho2)); replace HO_398002 := am_ (m1_ (td_ (td_ (td_ (Kd.R_old (lf_ HO_398002) hb) ho0) ho1) ho2)); replace HO_398003 := am_ (m1_ (td_ (td_ (td_ (Kd.R_old (lf_ HO_398003) hb) ho0) ho1) ho2)); replace HO_409001 := am_ (m1_ (td_ (td_ (td_ (Kd.R_old (lf_ HO_409001) hb) ho0) ho1) ho2)); replace HO_409002 := am_ (m1_ (td_ (td_ (td_ (Kd.R_old (lf_ HO_409002) hb) ho0) ho1) ho2)); replace HO_409003 := am_ (m1_ (td_ (td_ (td_ (Kd.R_old (lf_ HO_409003) hb) ho0) ho1) ho2)); replace HO_421001 := am_ (m1_ (td_ (td_ (td_ (Kd.R_old (lf_ HO_421001) hb) ho0) ho1) ho2)); replace HO_421002 := am_ (m1_ (td_ (td_ (td_ (Kd.R_old (lf_ HO_421002) hb) ho0) ho1) ho2)); replace HO_421003 := am_ (m1_ (td_ (td_ (td_ (Kd.R_old (lf_ HO_421003) hb) ho0) ho1) ho2)); replace HO461 := am_ (m1_ (td_ (td_ (td_ (Kd.R_old (lf_ HO461) hb) ho0) ho1) ho2)); replace HO464 := am_ (m1_ (td_ (td_ (td_ (Kd.R_old (lf_ HO464) hb) ho0) ho1) ho2)); replace HO467 := am_ (m1_ (td_ (td_ (td_ (Kd.R_old (lf_ HO467) hb) ho0) ho1) ho2)); replace BK351 := am_ (blk_below (g := gb351) (lb_ BK351) hb); replace BK352 := am_ (blk_below (g := gb352) (lb_ BK352) hb); replace BK386 := am_ (blk_below (g := gb386) (lb_ BK386) hb); replace BK397 := am_ (blk_below (g := gb397) (lb_ BK397) hb); replace BK408 := am_ (blk_below (g := gb408) (lb_ BK408) hb); replace BK420 := am_ (blk_below (g := gb420) (lb_ BK420) hb); replace BK489 := am_ (blk_below (g := gb489) (lb_ BK489) hb); replace HB := am_ (below_step (lw_ HB) hb)
        (try clear hb)
        (try clear hb2)
        (try clear hk)
        (try clear hi)
        (try clear ho0)
        (try clear ho1)
        (try clear ho2)
        obtain ⟨Ao173, co173, eo173⟩ := Kd.R_slice HO461.out
        (first | subst eo173 | (injection eo173 with f1_ f2_ f3_; have f4_ := f1_.symm; have f5_ := f3_.symm; clear f1_ f2_ f3_; subst f4_; subst f5_))
        obtain ⟨Ao174, co174, eo174⟩ := Kd.R_slice HO464.out
        (first | subst eo174 | (injection eo174 with f1_ f2_ f3_; have f4_ := f1_.symm; have f5_ := f3_.symm; clear f1_ f2_ f3_; subst f4_; subst f5_))
        obtain ⟨Ao175, co175, eo175⟩ := Kd.R_slice HO467.out
        (first | subst eo175 | (injection eo175 with f1_ f2_ f3_; have f4_ := f1_.symm; have f5_ := f3_.symm; clear f1_ f2_ f3_; subst f4_; subst f5_))
        obtain ⟨Ao176, co176, eo176⟩ := Kd.R_slice HO471.out
        (first | subst eo176 | (injection eo176 with f1_ f2_ f3_; have f4_ := f1_.symm; have f5_ := f3_.symm; clear f1_ f2_ f3_; subst f4_; subst f5_))
        obtain ⟨Ao177, co177, eo177⟩ := Kd.R_slice HO474.out
        (first | subst eo177 | (injection eo177 with f1_ f2_ f3_; have f4_ := f1_.symm; have f5_ := f3_.symm; clear f1_ f2_ f3_; subst f4_; subst f5_))
        obtain ⟨Ao178, co178, eo178⟩ := Kd.R_slice HO477.out
        (first | subst eo178 | (injection eo178 with f1_ f2_ f3_; have f4_ := f1_.symm; have f5_ := f3_.symm; clear f1_ f2_ f3_; subst f4_; subst f5_))
        refine hK.out _ _ ⟨(blk_cell BK351.out 0).trans rfl, (blk_cell BK351.out 1).trans rfl, (blk_cell BK351.out 2).trans rfl, (blk_cell BK351.out 3).trans rfl, (blk_cell BK352.out 0).trans rfl, (blk_cell BK352.out 1).trans rfl, (blk_cell BK352.out 2).trans rfl, (blk_cell BK352.out 3).trans rfl⟩ (fun hHeld => ?_)
        clear hK K
        refine norm_ (a' := ?_) ?_ ?_
        rotate_left
        ·show Act.put _ (some 98) _ = _
         simp only [Act.put, List.setIfInBounds_toArray, List.set_cons_zero, List.set_cons_succ, i64_w, i32_w]
         rfl
        refine one_ (i := 4) (N := some 99) #[true, true, true, true, true, false, false, false, true, false, false] rfl rfl (one_of HT_.out (by kernel_rfl)) (by decide) (fun K hK => ?_)
        refine goes_ Try.func37 (by kernel_rfl) rfl #[.agg #[.int .i64 t458, .slice Ao173 t459.length co173, .slice Ao174 t462.length co174, .slice Ao175 t465.length co175], .agg #[.int .i64 t468, .slice Ao176 t469.length co176, .slice Ao177 t472.length co177, .slice Ao178 t475.length co178]] (by rfl) rfl rfl lm_ ?_
        with_reducible refine (impl_JoinRanked.calls kj109 t458 _ _ t459 _ _ t462 _ _ t465 t468 _ _ t469 _ _ t472 _ _ t475 t478 t479 t482 t485 t488 _ ?side1 ?side2 ?side3 ?side4 ?side5 ?side6 ?side7 ?side8 ?side9 ?side10 ?side11 ?side12 A158.out).mono ?_
        (case side1 => exact lc_ (Kd.R_reads' HO461.out).2.2)
        (case side2 => exact (Kd.R_reads' HO461.out).2.1)
        (case side3 => exact lc_ (Kd.R_reads' HO464.out).2.2)
        (case side4 => exact (Kd.R_reads' HO464.out).2.1)
        (case side5 => exact lc_ (Kd.R_reads' HO467.out).2.2)
        (case side6 => exact (Kd.R_reads' HO467.out).2.1)
        (case side7 => exact lc_ (Kd.R_reads' HO471.out).2.2)
        (case side8 => exact (Kd.R_reads' HO471.out).2.1)
        (case side9 => exact lc_ (Kd.R_reads' HO474.out).2.2)
        (case side10 => exact (Kd.R_reads' HO474.out).2.1)
        (case side11 => exact lc_ (Kd.R_reads' HO477.out).2.2)
        (case side12 => exact (Kd.R_reads' HO477.out).2.1)
        rintro e w179 ⟨v480, v483, v486, rfl, ho0, ho1, ho2, hb⟩
        refine ⟨_, rfl, ?_⟩
        have HO481 := am_ (Kd.R_lower (nw_ (nw_ (nw_ (nw_ (nw_ (nw_ (nw_ (nw_ (nw_ (nw_ (nw_ (nw_ (nw_ (nw_ (nw_ (nw_ (nw_ (nw_ ho0 HO_387001) HO_387002) HO_387003) HO_398001) HO_398002) HO_398003) HO_409001) HO_409002) HO_409003) HO_421001) HO_421002) HO_421003) HO461) HO464) HO467) HO471) HO474) HO477) (below_size (lw_ HB))); have HO484 := am_ (Kd.R_lower (nw_ (nw_ (nw_ (nw_ (nw_ (nw_ (nw_ (nw_ (nw_ (nw_ (nw_ (nw_ (nw_ (nw_ (nw_ (nw_ (nw_ (nw_ ho1 HO_387001) HO_387002) HO_387003) HO_398001) HO_398002) HO_398003) HO_409001) HO_409002) HO_409003) HO_421001) HO_421002) HO_421003) HO461) HO464) HO467) HO471) HO474) HO477) (below_size (lw_ HB))); have HO487 := am_ (Kd.R_lower (nw_ (nw_ (nw_ (nw_ (nw_ (nw_ (nw_ (nw_ (nw_ (nw_ (nw_ (nw_ (nw_ (nw_ (nw_ (nw_ (nw_ (nw_ ho2 HO_387001) HO_387002) HO_387003) HO_398001) HO_398002) HO_398003) HO_409001) HO_409002) HO_409003) HO_421001) HO_421002) HO_421003) HO461) HO464) HO467) HO471) HO474) HO477) (below_size (lw_ HB))); replace HO_387001 := am_ (m1_ (td_ (td_ (td_ (Kd.R_old (lf_ HO_387001) hb) ho0) ho1) ho2)); replace HO_387002 := am_ (m1_ (td_ (td_ (td_ (Kd.R_old (lf_ HO_387002) hb) ho0) ho1) ho2)); replace HO_387003 := am_ (m1_ (td_ (td_ (td_ (Kd.R_old (lf_ HO_387003) hb) ho0) ho1) ho2)); replace HO_398001 := am_ (m1_ (td_ (td_ (td_ (Kd.R_old (lf_ HO_398001) hb) ho0) ho1) ho2)); replace HO_398002 := am_ (m1_ (td_ (td_ (td_ (Kd.R_old (lf_ HO_398002) hb) ho0) ho1) ho2)); replace HO_398003 := am_ (m1_ (td_ (td_ (td_ (Kd.R_old (lf_ HO_398003) hb) ho0) ho1) ho2)); replace HO_409001 := am_ (m1_ (td_ (td_ (td_ (Kd.R_old (lf_ HO_409001) hb) ho0) ho1) ho2)); replace HO_409002 := am_ (m1_ (td_ (td_ (td_ (Kd.R_old (lf_ HO_409002) hb) ho0) ho1) ho2)); replace HO_409003 := am_ (m1_ (td_ (td_ (td_ (Kd.R_old (lf_ HO_409003) hb) ho0) ho1) ho2)); replace HO_421001 := am_ (m1_ (td_ (td_ (td_ (Kd.R_old (lf_ HO_421001) hb) ho0) ho1) ho2)); replace HO_421002 := am_ (m1_ (td_ (td_ (td_ (Kd.R_old (lf_ HO_421002) hb) ho0) ho1) ho2)); replace HO_421003 := am_ (m1_ (td_ (td_ (td_ (Kd.R_old (lf_ HO_421003) hb) ho0) ho1) ho2)); replace HO461 := am_ (m1_ (td_ (td_ (td_ (Kd.R_old (lf_ HO461) hb) ho0) ho1) ho2)); replace HO464 := am_ (m1_ (td_ (td_ (td_ (Kd.R_old (lf_ HO464) hb) ho0) ho1) ho2)); replace HO467 := am_ (m1_ (td_ (td_ (td_ (Kd.R_old (lf_ HO467) hb) ho0) ho1) ho2)); replace HO471 := am_ (m1_ (td_ (td_ (td_ (Kd.R_old (lf_ HO471) hb) ho0) ho1) ho2)); replace HO474 := am_ (m1_ (td_ (td_ (td_ (Kd.R_old (lf_ HO474) hb) ho0) ho1) ho2)); replace HO477 := am_ (m1_ (td_ (td_ (td_ (Kd.R_old (lf_ HO477) hb) ho0) ho1) ho2)); replace BK351 := am_ (blk_below (g := gb351) (lb_ BK351) hb); replace BK352 := am_ (blk_below (g := gb352) (lb_ BK352) hb); replace BK386 := am_ (blk_below (g := gb386) (lb_ BK386) hb); replace BK397 := am_ (blk_below (g := gb397) (lb_ BK397) hb); replace BK408 := am_ (blk_below (g := gb408) (lb_ BK408) hb); replace BK420 := am_ (blk_below (g := gb420) (lb_ BK420) hb); replace BK489 := am_ (blk_below (g := gb489) (lb_ BK489) hb); replace HB := am_ (below_step (lw_ HB) hb)
        (try clear hb)
        (try clear hb2)
        (try clear hk)
        (try clear hi)
        (try clear ho0)
        (try clear ho1)
        (try clear ho2)
        refine hK.out _ _ ⟨(blk_cell BK351.out 0).trans rfl, (blk_cell BK351.out 1).trans rfl, (blk_cell BK351.out 2).trans rfl, (blk_cell BK351.out 3).trans rfl, (blk_cell BK352.out 0).trans rfl, (blk_cell BK352.out 1).trans rfl, (blk_cell BK352.out 2).trans rfl, (blk_cell BK352.out 3).trans rfl⟩ (fun hHeld => ?_)
        clear hK K
        refine norm_ (a' := ?_) ?_ ?_
        rotate_left
        ·show Act.put _ (some 99) _ = _
         simp only [Act.put, List.setIfInBounds_toArray, List.set_cons_zero, List.set_cons_succ, i64_w, i32_w]
         rfl
        refine pure_ (i := 5) (N := some 94) (v := ?_) (a' := ?_) #[true, true, true, true, true, true, false, false, true, false, false] rfl rfl (any_of HT_.out (by kernel_rfl)) (fun _ _ _ h => h) (Or.inl ⟨by rfl, ?_⟩) ?_ ?_
        rotate_left
        ·intro w'
         go_simp
         with_reducible rfl
        rotate_left
        ·simp only [Act.put, List.setIfInBounds_toArray, List.set_cons_zero, List.set_cons_succ, i64_w, i32_w]
         rfl
        refine pure_ (i := 6) (N := some 100) (v := ?_) (a' := ?_) #[true, true, true, true, true, true, true, false, true, false, false] rfl rfl (any_of HT_.out (by kernel_rfl)) (fun _ _ _ h => h) (Or.inl ⟨by rfl, ?_⟩) ?_ ?_
        rotate_left
        ·intro w'
         go_simp
         with_reducible rfl
        rotate_left
        ·simp only [Act.put, List.setIfInBounds_toArray, List.set_cons_zero, List.set_cons_succ, i64_w, i32_w]
         rfl
        refine pure_ (i := 7) (N := some 101) (v := ?_) (a' := ?_) #[true, true, true, true, true, true, true, true, true, false, false] rfl rfl (any_of HT_.out (by kernel_rfl)) (fun _ _ _ h => h) (Or.inl ⟨by rfl, ?_⟩) ?_ ?_
        rotate_left
        ·intro w'
         go_simp
         with_reducible rfl
        rotate_left
        ·simp only [Act.put, List.setIfInBounds_toArray, List.set_cons_zero, List.set_cons_succ, i64_w, i32_w]
         rfl
        exact norm_ (by simp only [putAll, Act.put, List.setIfInBounds_toArray, List.set_cons_zero, List.set_cons_succ]) (hCont (.slice Ao173 t459.length co173, .slice Ao174 t462.length co174, .slice Ao175 t465.length co175, .slice Ao176 t469.length co176, .slice Ao177 t472.length co177, .slice Ao178 t475.length co178, v480, v483, v486, gb489) _ ⟨hHeld, (lo_ HO461), (lo_ HO464), (lo_ HO467), (lo_ HO471), (lo_ HO474), (lo_ HO477), (lo_ HO481), (lo_ HO484), (lo_ HO487), (lo_ HO_387001), (lo_ HO_387002), (lo_ HO_387003), (lo_ HO_398001), (lo_ HO_398002), (lo_ HO_398003), (lo_ HO_409001), (lo_ HO_409002), (lo_ HO_409003), (lo_ HO_421001), (lo_ HO_421002), (lo_ HO_421003), (lb_ BK351), (lb_ BK352), (lb_ BK386), (lb_ BK397), (lb_ BK408), (lb_ BK420), (lb_ BK489), GW489.out, GE489.out, NB351_489.out, NB489_351.out, NB352_489.out, NB489_352.out, NB386_489.out, NB489_386.out, NB397_489.out, NB489_397.out, NB408_489.out, NB489_408.out, NB420_489.out, NB489_420.out, (lw_ HB)⟩)
      ·skip
       refine box_step ?hg (N := 15) ?hd (cs := #[.int .i64 0, .slice none 0 0, .slice none 0 0, .slice none 0 0]) (t := 48) ?hr ?_; (case hd => rfl); (case hg => rfl); (case hr => first | (go_simp; done) | (go_simp; rfl))
       intro gb489 hg w170 hbox hb
       have BK489 := am_ (hbox); have GW489 := am_ ((by rw [hg]; exact (below_size (lw_ HB)) : w.heap.size ≤ gb489)); have GE489 := am_ ((by rw [hg]; exact (below_size (lw_ HB)) : w.heap.size ≤ gb489)); have NB351_489 := am_ ((by rw [hg]; exact Nat.ne_of_lt (blk_lt (g := gb351) (lb_ BK351)) : gb351 ≠ gb489)); have NB489_351 := am_ ((by rw [hg]; exact Nat.ne_of_gt (blk_lt (g := gb351) (lb_ BK351)) : gb489 ≠ gb351)); have NB352_489 := am_ ((by rw [hg]; exact Nat.ne_of_lt (blk_lt (g := gb352) (lb_ BK352)) : gb352 ≠ gb489)); have NB489_352 := am_ ((by rw [hg]; exact Nat.ne_of_gt (blk_lt (g := gb352) (lb_ BK352)) : gb489 ≠ gb352)); have NB386_489 := am_ ((by rw [hg]; exact Nat.ne_of_lt (blk_lt (g := gb386) (lb_ BK386)) : gb386 ≠ gb489)); have NB489_386 := am_ ((by rw [hg]; exact Nat.ne_of_gt (blk_lt (g := gb386) (lb_ BK386)) : gb489 ≠ gb386)); have NB397_489 := am_ ((by rw [hg]; exact Nat.ne_of_lt (blk_lt (g := gb397) (lb_ BK397)) : gb397 ≠ gb489)); have NB489_397 := am_ ((by rw [hg]; exact Nat.ne_of_gt (blk_lt (g := gb397) (lb_ BK397)) : gb489 ≠ gb397)); have NB408_489 := am_ ((by rw [hg]; exact Nat.ne_of_lt (blk_lt (g := gb408) (lb_ BK408)) : gb408 ≠ gb489)); have NB489_408 := am_ ((by rw [hg]; exact Nat.ne_of_gt (blk_lt (g := gb408) (lb_ BK408)) : gb489 ≠ gb408)); have NB420_489 := am_ ((by rw [hg]; exact Nat.ne_of_lt (blk_lt (g := gb420) (lb_ BK420)) : gb420 ≠ gb489)); have NB489_420 := am_ ((by rw [hg]; exact Nat.ne_of_gt (blk_lt (g := gb420) (lb_ BK420)) : gb489 ≠ gb420)); replace HO_387001 := am_ (Kd.R_below (lf_ HO_387001) hb); replace HO_387002 := am_ (Kd.R_below (lf_ HO_387002) hb); replace HO_387003 := am_ (Kd.R_below (lf_ HO_387003) hb); replace HO_398001 := am_ (Kd.R_below (lf_ HO_398001) hb); replace HO_398002 := am_ (Kd.R_below (lf_ HO_398002) hb); replace HO_398003 := am_ (Kd.R_below (lf_ HO_398003) hb); replace HO_409001 := am_ (Kd.R_below (lf_ HO_409001) hb); replace HO_409002 := am_ (Kd.R_below (lf_ HO_409002) hb); replace HO_409003 := am_ (Kd.R_below (lf_ HO_409003) hb); replace HO_421001 := am_ (Kd.R_below (lf_ HO_421001) hb); replace HO_421002 := am_ (Kd.R_below (lf_ HO_421002) hb); replace HO_421003 := am_ (Kd.R_below (lf_ HO_421003) hb); replace BK351 := am_ (blk_below (g := gb351) (lb_ BK351) hb); replace BK352 := am_ (blk_below (g := gb352) (lb_ BK352) hb); replace BK386 := am_ (blk_below (g := gb386) (lb_ BK386) hb); replace BK397 := am_ (blk_below (g := gb397) (lb_ BK397) hb); replace BK408 := am_ (blk_below (g := gb408) (lb_ BK408) hb); replace BK420 := am_ (blk_below (g := gb420) (lb_ BK420) hb); replace HB := am_ (below_step (lw_ HB) hb)
       clear hb hbox hg
       refine hK.out _ _ ⟨(blk_cell BK351.out 0).trans rfl, (blk_cell BK351.out 1).trans rfl, (blk_cell BK351.out 2).trans rfl, (blk_cell BK351.out 3).trans rfl, (blk_cell BK352.out 0).trans rfl, (blk_cell BK352.out 1).trans rfl, (blk_cell BK352.out 2).trans rfl, (blk_cell BK352.out 3).trans rfl⟩ (fun hHeld => ?_)
       clear hK K
       refine norm_ (a' := ?_) ?_ ?_
       rotate_left
       ·show Act.put _ (some 15) _ = _
        simp only [Act.put, List.setIfInBounds_toArray, List.set_cons_zero, List.set_cons_succ, i64_w, i32_w]
        rfl
       refine one_ (i := 1) (N := some 96) #[true, true, true, false, false, false, false, false, true, false, false] rfl rfl (one_of HT_.out (by kernel_rfl)) (by decide) (fun K hK => ?_)
       refine goes_ Try.func36 (by kernel_rfl) rfl #[.agg #[.int .i64 a0_0, .slice A0_1 l0_1.length c0_1, .slice A0_2 l0_2.length c0_2, .slice A0_3 l0_3.length c0_3]] (by rfl) rfl rfl lm_ ?_
       with_reducible refine (laws_toRanked.calls kj109 a0_0 _ _ l0_1 _ _ l0_2 _ _ l0_3 t458 t459 t462 t465 _ ?side1 ?side2 ?side3 ?side4 ?side5 ?side6 A156.out).mono ?_
       (case side1 => exact lc_ (Kd.C_below HR0_1.out HB.out))
       (case side2 => exact HC0_1.out)
       (case side3 => exact lc_ (Kd.C_below HR0_2.out HB.out))
       (case side4 => exact HC0_2.out)
       (case side5 => exact lc_ (Kd.C_below HR0_3.out HB.out))
       (case side6 => exact HC0_3.out)
       rintro e w171 ⟨v460, v463, v466, rfl, ho0, ho1, ho2, hb⟩
       refine ⟨_, rfl, ?_⟩
       have HO461 := am_ (Kd.R_lower (nw_ (nw_ (nw_ (nw_ (nw_ (nw_ (nw_ (nw_ (nw_ (nw_ (nw_ (nw_ ho0 HO_387001) HO_387002) HO_387003) HO_398001) HO_398002) HO_398003) HO_409001) HO_409002) HO_409003) HO_421001) HO_421002) HO_421003) (below_size (lw_ HB))); have HO464 := am_ (Kd.R_lower (nw_ (nw_ (nw_ (nw_ (nw_ (nw_ (nw_ (nw_ (nw_ (nw_ (nw_ (nw_ ho1 HO_387001) HO_387002) HO_387003) HO_398001) HO_398002) HO_398003) HO_409001) HO_409002) HO_409003) HO_421001) HO_421002) HO_421003) (below_size (lw_ HB))); have HO467 := am_ (Kd.R_lower (nw_ (nw_ (nw_ (nw_ (nw_ (nw_ (nw_ (nw_ (nw_ (nw_ (nw_ (nw_ ho2 HO_387001) HO_387002) HO_387003) HO_398001) HO_398002) HO_398003) HO_409001) HO_409002) HO_409003) HO_421001) HO_421002) HO_421003) (below_size (lw_ HB))); replace HO_387001 := am_ (m1_ (td_ (td_ (td_ (Kd.R_old (lf_ HO_387001) hb) ho0) ho1) ho2)); replace HO_387002 := am_ (m1_ (td_ (td_ (td_ (Kd.R_old (lf_ HO_387002) hb) ho0) ho1) ho2)); replace HO_387003 := am_ (m1_ (td_ (td_ (td_ (Kd.R_old (lf_ HO_387003) hb) ho0) ho1) ho2)); replace HO_398001 := am_ (m1_ (td_ (td_ (td_ (Kd.R_old (lf_ HO_398001) hb) ho0) ho1) ho2)); replace HO_398002 := am_ (m1_ (td_ (td_ (td_ (Kd.R_old (lf_ HO_398002) hb) ho0) ho1) ho2)); replace HO_398003 := am_ (m1_ (td_ (td_ (td_ (Kd.R_old (lf_ HO_398003) hb) ho0) ho1) ho2)); replace HO_409001 := am_ (m1_ (td_ (td_ (td_ (Kd.R_old (lf_ HO_409001) hb) ho0) ho1) ho2)); replace HO_409002 := am_ (m1_ (td_ (td_ (td_ (Kd.R_old (lf_ HO_409002) hb) ho0) ho1) ho2)); replace HO_409003 := am_ (m1_ (td_ (td_ (td_ (Kd.R_old (lf_ HO_409003) hb) ho0) ho1) ho2)); replace HO_421001 := am_ (m1_ (td_ (td_ (td_ (Kd.R_old (lf_ HO_421001) hb) ho0) ho1) ho2)); replace HO_421002 := am_ (m1_ (td_ (td_ (td_ (Kd.R_old (lf_ HO_421002) hb) ho0) ho1) ho2)); replace HO_421003 := am_ (m1_ (td_ (td_ (td_ (Kd.R_old (lf_ HO_421003) hb) ho0) ho1) ho2)); replace BK351 := am_ (blk_below (g := gb351) (lb_ BK351) hb); replace BK352 := am_ (blk_below (g := gb352) (lb_ BK352) hb); replace BK386 := am_ (blk_below (g := gb386) (lb_ BK386) hb); replace BK397 := am_ (blk_below (g := gb397) (lb_ BK397) hb); replace BK408 := am_ (blk_below (g := gb408) (lb_ BK408) hb); replace BK420 := am_ (blk_below (g := gb420) (lb_ BK420) hb); replace BK489 := am_ (blk_below (g := gb489) (lb_ BK489) hb); replace HB := am_ (below_step (lw_ HB) hb)
       (try clear hb)
       (try clear hb2)
       (try clear hk)
       (try clear hi)
       (try clear ho0)
       (try clear ho1)
       (try clear ho2)
       refine hK.out _ _ ⟨(blk_cell BK351.out 0).trans rfl, (blk_cell BK351.out 1).trans rfl, (blk_cell BK351.out 2).trans rfl, (blk_cell BK351.out 3).trans rfl, (blk_cell BK352.out 0).trans rfl, (blk_cell BK352.out 1).trans rfl, (blk_cell BK352.out 2).trans rfl, (blk_cell BK352.out 3).trans rfl⟩ (fun hHeld => ?_)
       clear hK K
       refine norm_ (a' := ?_) ?_ ?_
       rotate_left
       ·show Act.put _ (some 96) _ = _
        simp only [Act.put, List.setIfInBounds_toArray, List.set_cons_zero, List.set_cons_succ, i64_w, i32_w]
        rfl
       refine one_ (i := 3) (N := some 98) #[true, true, true, true, false, false, false, false, true, false, false] rfl rfl (one_of HT_.out (by kernel_rfl)) (by decide) (fun K hK => ?_)
       refine goes_ Try.func36 (by kernel_rfl) rfl #[.agg #[.int .i64 a1_0, .slice A1_1 l1_1.length c1_1, .slice A1_2 l1_2.length c1_2, .slice A1_3 l1_3.length c1_3]] (by rfl) rfl rfl lm_ ?_
       with_reducible refine (laws_toRanked.calls kj109 a1_0 _ _ l1_1 _ _ l1_2 _ _ l1_3 t468 t469 t472 t475 _ ?side1 ?side2 ?side3 ?side4 ?side5 ?side6 A157.out).mono ?_
       (case side1 => exact lc_ (Kd.C_below HR1_1.out HB.out))
       (case side2 => exact HC1_1.out)
       (case side3 => exact lc_ (Kd.C_below HR1_2.out HB.out))
       (case side4 => exact HC1_2.out)
       (case side5 => exact lc_ (Kd.C_below HR1_3.out HB.out))
       (case side6 => exact HC1_3.out)
       rintro e w172 ⟨v470, v473, v476, rfl, ho0, ho1, ho2, hb⟩
       refine ⟨_, rfl, ?_⟩
       have HO471 := am_ (Kd.R_lower (nw_ (nw_ (nw_ (nw_ (nw_ (nw_ (nw_ (nw_ (nw_ (nw_ (nw_ (nw_ (nw_ (nw_ (nw_ ho0 HO_387001) HO_387002) HO_387003) HO_398001) HO_398002) HO_398003) HO_409001) HO_409002) HO_409003) HO_421001) HO_421002) HO_421003) HO461) HO464) HO467) (below_size (lw_ HB))); have HO474 := am_ (Kd.R_lower (nw_ (nw_ (nw_ (nw_ (nw_ (nw_ (nw_ (nw_ (nw_ (nw_ (nw_ (nw_ (nw_ (nw_ (nw_ ho1 HO_387001) HO_387002) HO_387003) HO_398001) HO_398002) HO_398003) HO_409001) HO_409002) HO_409003) HO_421001) HO_421002) HO_421003) HO461) HO464) HO467) (below_size (lw_ HB))); have HO477 := am_ (Kd.R_lower (nw_ (nw_ (nw_ (nw_ (nw_ (nw_ (nw_ (nw_ (nw_ (nw_ (nw_ (nw_ (nw_ (nw_ (nw_ ho2 HO_387001) HO_387002) HO_387003) HO_398001) HO_398002) HO_398003) HO_409001) HO_409002) HO_409003) HO_421001) HO_421002) HO_421003) HO461) HO464) HO467) (below_size (lw_ HB))); replace HO_387001 := am_ (m1_ (td_ (td_ (td_ (Kd.R_old (lf_ HO_387001) hb) ho0) ho1) ho2)); replace HO_387002 := am_ (m1_ (td_ (td_ (td_ (Kd.R_old (lf_ HO_387002) hb) ho0) ho1) ho2)); replace HO_387003 := am_ (m1_ (td_ (td_ (td_ (Kd.R_old (lf_ HO_387003) hb) ho0) ho1) ho2)); replace HO_398001 := am_ (m1_ (td_ (td_ (td_ (Kd.R_old (lf_ HO_398001) hb) ho0) ho1) ho2)); replace HO_398002 := am_ (m1_ (td_ (td_ (td_ (Kd.R_old (lf_ HO_398002) hb) ho0) ho1) ho2)); replace HO_398003 := am_ (m1_ (td_ (td_ (td_ (Kd.R_old (lf_ HO_398003) hb) ho0) ho1) ho2)); replace HO_409001 := am_ (m1_ (td_ (td_ (td_ (Kd.R_old (lf_ HO_409001) hb) ho0) ho1) ho2)); replace HO_409002 := am_ (m1_ (td_ (td_ (td_ (Kd.R_old (lf_ HO_409002) hb) ho0) ho1) ho2)); replace HO_409003 := am_ (m1_ (td_ (td_ (td_ (Kd.R_old (lf_ HO_409003) hb) ho0) ho1) ho2)); replace HO_421001 := am_ (m1_ (td_ (td_ (td_ (Kd.R_old (lf_ HO_421001) hb) ho0) ho1) ho2)); replace HO_421002 := am_ (m1_ (td_ (td_ (td_ (Kd.R_old (lf_ HO_421002) hb) ho0) ho1) ho2)); replace HO_421003 := am_ (m1_ (td_ (td_ (td_ (Kd.R_old (lf_ HO_421003) hb) ho0) ho1) ho2)); replace HO461 := am_ (m1_ (td_ (td_ (td_ (Kd.R_old (lf_ HO461) hb) ho0) ho1) ho2)); replace HO464 := am_ (m1_ (td_ (td_ (td_ (Kd.R_old (lf_ HO464) hb) ho0) ho1) ho2)); replace HO467 := am_ (m1_ (td_ (td_ (td_ (Kd.R_old (lf_ HO467) hb) ho0) ho1) ho2)); replace BK351 := am_ (blk_below (g := gb351) (lb_ BK351) hb); replace BK352 := am_ (blk_below (g := gb352) (lb_ BK352) hb); replace BK386 := am_ (blk_below (g := gb386) (lb_ BK386) hb); replace BK397 := am_ (blk_below (g := gb397) (lb_ BK397) hb); replace BK408 := am_ (blk_below (g := gb408) (lb_ BK408) hb); replace BK420 := am_ (blk_below (g := gb420) (lb_ BK420) hb); replace BK489 := am_ (blk_below (g := gb489) (lb_ BK489) hb); replace HB := am_ (below_step (lw_ HB) hb)
       (try clear hb)
       (try clear hb2)
       (try clear hk)
       (try clear hi)
       (try clear ho0)
       (try clear ho1)
       (try clear ho2)
       obtain ⟨Ao173, co173, eo173⟩ := Kd.R_slice HO461.out
       (first | subst eo173 | (injection eo173 with f1_ f2_ f3_; have f4_ := f1_.symm; have f5_ := f3_.symm; clear f1_ f2_ f3_; subst f4_; subst f5_))
       obtain ⟨Ao174, co174, eo174⟩ := Kd.R_slice HO464.out
       (first | subst eo174 | (injection eo174 with f1_ f2_ f3_; have f4_ := f1_.symm; have f5_ := f3_.symm; clear f1_ f2_ f3_; subst f4_; subst f5_))
       obtain ⟨Ao175, co175, eo175⟩ := Kd.R_slice HO467.out
       (first | subst eo175 | (injection eo175 with f1_ f2_ f3_; have f4_ := f1_.symm; have f5_ := f3_.symm; clear f1_ f2_ f3_; subst f4_; subst f5_))
       obtain ⟨Ao176, co176, eo176⟩ := Kd.R_slice HO471.out
       (first | subst eo176 | (injection eo176 with f1_ f2_ f3_; have f4_ := f1_.symm; have f5_ := f3_.symm; clear f1_ f2_ f3_; subst f4_; subst f5_))
       obtain ⟨Ao177, co177, eo177⟩ := Kd.R_slice HO474.out
       (first | subst eo177 | (injection eo177 with f1_ f2_ f3_; have f4_ := f1_.symm; have f5_ := f3_.symm; clear f1_ f2_ f3_; subst f4_; subst f5_))
       obtain ⟨Ao178, co178, eo178⟩ := Kd.R_slice HO477.out
       (first | subst eo178 | (injection eo178 with f1_ f2_ f3_; have f4_ := f1_.symm; have f5_ := f3_.symm; clear f1_ f2_ f3_; subst f4_; subst f5_))
       refine hK.out _ _ ⟨(blk_cell BK351.out 0).trans rfl, (blk_cell BK351.out 1).trans rfl, (blk_cell BK351.out 2).trans rfl, (blk_cell BK351.out 3).trans rfl, (blk_cell BK352.out 0).trans rfl, (blk_cell BK352.out 1).trans rfl, (blk_cell BK352.out 2).trans rfl, (blk_cell BK352.out 3).trans rfl⟩ (fun hHeld => ?_)
       clear hK K
       refine norm_ (a' := ?_) ?_ ?_
       rotate_left
       ·show Act.put _ (some 98) _ = _
        simp only [Act.put, List.setIfInBounds_toArray, List.set_cons_zero, List.set_cons_succ, i64_w, i32_w]
        rfl
       refine one_ (i := 4) (N := some 99) #[true, true, true, true, true, false, false, false, true, false, false] rfl rfl (one_of HT_.out (by kernel_rfl)) (by decide) (fun K hK => ?_)
       refine goes_ Try.func37 (by kernel_rfl) rfl #[.agg #[.int .i64 t458, .slice Ao173 t459.length co173, .slice Ao174 t462.length co174, .slice Ao175 t465.length co175], .agg #[.int .i64 t468, .slice Ao176 t469.length co176, .slice Ao177 t472.length co177, .slice Ao178 t475.length co178]] (by rfl) rfl rfl lm_ ?_
       with_reducible refine (impl_JoinRanked.calls kj109 t458 _ _ t459 _ _ t462 _ _ t465 t468 _ _ t469 _ _ t472 _ _ t475 t478 t479 t482 t485 t488 _ ?side1 ?side2 ?side3 ?side4 ?side5 ?side6 ?side7 ?side8 ?side9 ?side10 ?side11 ?side12 A158.out).mono ?_
       (case side1 => exact lc_ (Kd.R_reads' HO461.out).2.2)
       (case side2 => exact (Kd.R_reads' HO461.out).2.1)
       (case side3 => exact lc_ (Kd.R_reads' HO464.out).2.2)
       (case side4 => exact (Kd.R_reads' HO464.out).2.1)
       (case side5 => exact lc_ (Kd.R_reads' HO467.out).2.2)
       (case side6 => exact (Kd.R_reads' HO467.out).2.1)
       (case side7 => exact lc_ (Kd.R_reads' HO471.out).2.2)
       (case side8 => exact (Kd.R_reads' HO471.out).2.1)
       (case side9 => exact lc_ (Kd.R_reads' HO474.out).2.2)
       (case side10 => exact (Kd.R_reads' HO474.out).2.1)
       (case side11 => exact lc_ (Kd.R_reads' HO477.out).2.2)
       (case side12 => exact (Kd.R_reads' HO477.out).2.1)
       rintro e w179 ⟨v480, v483, v486, rfl, ho0, ho1, ho2, hb⟩
       refine ⟨_, rfl, ?_⟩
       have HO481 := am_ (Kd.R_lower (nw_ (nw_ (nw_ (nw_ (nw_ (nw_ (nw_ (nw_ (nw_ (nw_ (nw_ (nw_ (nw_ (nw_ (nw_ (nw_ (nw_ (nw_ ho0 HO_387001) HO_387002) HO_387003) HO_398001) HO_398002) HO_398003) HO_409001) HO_409002) HO_409003) HO_421001) HO_421002) HO_421003) HO461) HO464) HO467) HO471) HO474) HO477) (below_size (lw_ HB))); have HO484 := am_ (Kd.R_lower (nw_ (nw_ (nw_ (nw_ (nw_ (nw_ (nw_ (nw_ (nw_ (nw_ (nw_ (nw_ (nw_ (nw_ (nw_ (nw_ (nw_ (nw_ ho1 HO_387001) HO_387002) HO_387003) HO_398001) HO_398002) HO_398003) HO_409001) HO_409002) HO_409003) HO_421001) HO_421002) HO_421003) HO461) HO464) HO467) HO471) HO474) HO477) (below_size (lw_ HB))); have HO487 := am_ (Kd.R_lower (nw_ (nw_ (nw_ (nw_ (nw_ (nw_ (nw_ (nw_ (nw_ (nw_ (nw_ (nw_ (nw_ (nw_ (nw_ (nw_ (nw_ (nw_ ho2 HO_387001) HO_387002) HO_387003) HO_398001) HO_398002) HO_398003) HO_409001) HO_409002) HO_409003) HO_421001) HO_421002) HO_421003) HO461) HO464) HO467) HO471) HO474) HO477) (below_size (lw_ HB))); replace HO_387001 := am_ (m1_ (td_ (td_ (td_ (Kd.R_old (lf_ HO_387001) hb) ho0) ho1) ho2)); replace HO_387002 := am_ (m1_ (td_ (td_ (td_ (Kd.R_old (lf_ HO_387002) hb) ho0) ho1) ho2)); replace HO_387003 := am_ (m1_ (td_ (td_ (td_ (Kd.R_old (lf_ HO_387003) hb) ho0) ho1) ho2)); replace HO_398001 := am_ (m1_ (td_ (td_ (td_ (Kd.R_old (lf_ HO_398001) hb) ho0) ho1) ho2)); replace HO_398002 := am_ (m1_ (td_ (td_ (td_ (Kd.R_old (lf_ HO_398002) hb) ho0) ho1) ho2)); replace HO_398003 := am_ (m1_ (td_ (td_ (td_ (Kd.R_old (lf_ HO_398003) hb) ho0) ho1) ho2)); replace HO_409001 := am_ (m1_ (td_ (td_ (td_ (Kd.R_old (lf_ HO_409001) hb) ho0) ho1) ho2)); replace HO_409002 := am_ (m1_ (td_ (td_ (td_ (Kd.R_old (lf_ HO_409002) hb) ho0) ho1) ho2)); replace HO_409003 := am_ (m1_ (td_ (td_ (td_ (Kd.R_old (lf_ HO_409003) hb) ho0) ho1) ho2)); replace HO_421001 := am_ (m1_ (td_ (td_ (td_ (Kd.R_old (lf_ HO_421001) hb) ho0) ho1) ho2)); replace HO_421002 := am_ (m1_ (td_ (td_ (td_ (Kd.R_old (lf_ HO_421002) hb) ho0) ho1) ho2)); replace HO_421003 := am_ (m1_ (td_ (td_ (td_ (Kd.R_old (lf_ HO_421003) hb) ho0) ho1) ho2)); replace HO461 := am_ (m1_ (td_ (td_ (td_ (Kd.R_old (lf_ HO461) hb) ho0) ho1) ho2)); replace HO464 := am_ (m1_ (td_ (td_ (td_ (Kd.R_old (lf_ HO464) hb) ho0) ho1) ho2)); replace HO467 := am_ (m1_ (td_ (td_ (td_ (Kd.R_old (lf_ HO467) hb) ho0) ho1) ho2)); replace HO471 := am_ (m1_ (td_ (td_ (td_ (Kd.R_old (lf_ HO471) hb) ho0) ho1) ho2)); replace HO474 := am_ (m1_ (td_ (td_ (td_ (Kd.R_old (lf_ HO474) hb) ho0) ho1) ho2)); replace HO477 := am_ (m1_ (td_ (td_ (td_ (Kd.R_old (lf_ HO477) hb) ho0) ho1) ho2)); replace BK351 := am_ (blk_below (g := gb351) (lb_ BK351) hb); replace BK352 := am_ (blk_below (g := gb352) (lb_ BK352) hb); replace BK386 := am_ (blk_below (g := gb386) (lb_ BK386) hb); replace BK397 := am_ (blk_below (g := gb397) (lb_ BK397) hb); replace BK408 := am_ (blk_below (g := gb408) (lb_ BK408) hb); replace BK420 := am_ (blk_below (g := gb420) (lb_ BK420) hb); replace BK489 := am_ (blk_below (g := gb489) (lb_ BK489) hb); replace HB := am_ (below_step (lw_ HB) hb)
       (try clear hb)
       (try clear hb2)
       (try clear hk)
       (try clear hi)
       (try clear ho0)
       (try clear ho1)
       (try clear ho2)
       refine hK.out _ _ ⟨(blk_cell BK351.out 0).trans rfl, (blk_cell BK351.out 1).trans rfl, (blk_cell BK351.out 2).trans rfl, (blk_cell BK351.out 3).trans rfl, (blk_cell BK352.out 0).trans rfl, (blk_cell BK352.out 1).trans rfl, (blk_cell BK352.out 2).trans rfl, (blk_cell BK352.out 3).trans rfl⟩ (fun hHeld => ?_)
       clear hK K
       refine norm_ (a' := ?_) ?_ ?_
       rotate_left
       ·show Act.put _ (some 99) _ = _
        simp only [Act.put, List.setIfInBounds_toArray, List.set_cons_zero, List.set_cons_succ, i64_w, i32_w]
        rfl
       refine pure_ (i := 5) (N := some 94) (v := ?_) (a' := ?_) #[true, true, true, true, true, true, false, false, true, false, false] rfl rfl (any_of HT_.out (by kernel_rfl)) (fun _ _ _ h => h) (Or.inl ⟨by rfl, ?_⟩) ?_ ?_
       rotate_left
       ·intro w'
        go_simp
        with_reducible rfl
       rotate_left
       ·simp only [Act.put, List.setIfInBounds_toArray, List.set_cons_zero, List.set_cons_succ, i64_w, i32_w]
        rfl
       refine pure_ (i := 6) (N := some 100) (v := ?_) (a' := ?_) #[true, true, true, true, true, true, true, false, true, false, false] rfl rfl (any_of HT_.out (by kernel_rfl)) (fun _ _ _ h => h) (Or.inl ⟨by rfl, ?_⟩) ?_ ?_
       rotate_left
       ·intro w'
        go_simp
        with_reducible rfl
       rotate_left
       ·simp only [Act.put, List.setIfInBounds_toArray, List.set_cons_zero, List.set_cons_succ, i64_w, i32_w]
        rfl
       refine pure_ (i := 7) (N := some 101) (v := ?_) (a' := ?_) #[true, true, true, true, true, true, true, true, true, false, false] rfl rfl (any_of HT_.out (by kernel_rfl)) (fun _ _ _ h => h) (Or.inl ⟨by rfl, ?_⟩) ?_ ?_
       rotate_left
       ·intro w'
        go_simp
        with_reducible rfl
       rotate_left
       ·simp only [Act.put, List.setIfInBounds_toArray, List.set_cons_zero, List.set_cons_succ, i64_w, i32_w]
        rfl
       exact norm_ (by simp only [putAll, Act.put, List.setIfInBounds_toArray, List.set_cons_zero, List.set_cons_succ]) (hCont (.slice Ao173 t459.length co173, .slice Ao174 t462.length co174, .slice Ao175 t465.length co175, .slice Ao176 t469.length co176, .slice Ao177 t472.length co177, .slice Ao178 t475.length co178, v480, v483, v486, gb489) _ ⟨hHeld, (lo_ HO461), (lo_ HO464), (lo_ HO467), (lo_ HO471), (lo_ HO474), (lo_ HO477), (lo_ HO481), (lo_ HO484), (lo_ HO487), (lo_ HO_387001), (lo_ HO_387002), (lo_ HO_387003), (lo_ HO_398001), (lo_ HO_398002), (lo_ HO_398003), (lo_ HO_409001), (lo_ HO_409002), (lo_ HO_409003), (lo_ HO_421001), (lo_ HO_421002), (lo_ HO_421003), (lb_ BK351), (lb_ BK352), (lb_ BK386), (lb_ BK397), (lb_ BK408), (lb_ BK420), (lb_ BK489), GW489.out, GE489.out, NB351_489.out, NB489_351.out, NB352_489.out, NB489_352.out, NB386_489.out, NB489_386.out, NB397_489.out, NB489_397.out, NB408_489.out, NB489_408.out, NB420_489.out, NB489_420.out, (lw_ HB)⟩)
     rintro ⟨v460, v463, v466, v470, v473, v476, v480, v483, v486, gb489⟩ w180 ⟨hS_, h0_, h1_, h2_, h3_, h4_, h5_, h6_, h7_, h8_, h9_, h10_, h11_, h12_, h13_, h14_, h15_, h16_, h17_, h18_, h19_, h20_, h21_, h22_, h23_, h24_, h25_, h26_, h27_, h28_, h29_, h30_, h31_, h32_, h33_, h34_, h35_, h36_, h37_, h38_, h39_, h40_, h41_, h42_⟩
     have n0_ : Aside0 (Kd.R (Kd.int .i64) 3 w180 w.heap.size (fun k_ => nb_ k_ v463 ∧ nb_ k_ v466 ∧ nb_ k_ v470 ∧ nb_ k_ v473 ∧ nb_ k_ v476 ∧ nb_ k_ v480 ∧ nb_ k_ v483 ∧ nb_ k_ v486 ∧ ns_ k_ Ao46 t376 co46 ∧ ns_ k_ Ao48 t379 co48 ∧ ns_ k_ Ao50 t382 co50 ∧ ns_ k_ Ao60 t445 co60 ∧ ns_ k_ Ao61 t446 co61 ∧ ns_ k_ Ao62 t447 co62 ∧ ns_ k_ Ao72 t449 co72 ∧ ns_ k_ Ao73 t450 co73 ∧ ns_ k_ Ao74 t451 co74 ∧ ns_ k_ Ao84 t410 co84 ∧ ns_ k_ Ao85 t413 co85 ∧ ns_ k_ Ao86 t416 co86) v460 t459) := ⟨h0_⟩; have n1_ : Aside0 (Kd.R (Kd.int .i64) 3 w180 w.heap.size (fun k_ => nb_ k_ v460 ∧ nb_ k_ v466 ∧ nb_ k_ v470 ∧ nb_ k_ v473 ∧ nb_ k_ v476 ∧ nb_ k_ v480 ∧ nb_ k_ v483 ∧ nb_ k_ v486 ∧ ns_ k_ Ao46 t376 co46 ∧ ns_ k_ Ao48 t379 co48 ∧ ns_ k_ Ao50 t382 co50 ∧ ns_ k_ Ao60 t445 co60 ∧ ns_ k_ Ao61 t446 co61 ∧ ns_ k_ Ao62 t447 co62 ∧ ns_ k_ Ao72 t449 co72 ∧ ns_ k_ Ao73 t450 co73 ∧ ns_ k_ Ao74 t451 co74 ∧ ns_ k_ Ao84 t410 co84 ∧ ns_ k_ Ao85 t413 co85 ∧ ns_ k_ Ao86 t416 co86) v463 t462) := ⟨h1_⟩; have n2_ : Aside0 (Kd.R (Kd.int .i64) 3 w180 w.heap.size (fun k_ => nb_ k_ v460 ∧ nb_ k_ v463 ∧ nb_ k_ v470 ∧ nb_ k_ v473 ∧ nb_ k_ v476 ∧ nb_ k_ v480 ∧ nb_ k_ v483 ∧ nb_ k_ v486 ∧ ns_ k_ Ao46 t376 co46 ∧ ns_ k_ Ao48 t379 co48 ∧ ns_ k_ Ao50 t382 co50 ∧ ns_ k_ Ao60 t445 co60 ∧ ns_ k_ Ao61 t446 co61 ∧ ns_ k_ Ao62 t447 co62 ∧ ns_ k_ Ao72 t449 co72 ∧ ns_ k_ Ao73 t450 co73 ∧ ns_ k_ Ao74 t451 co74 ∧ ns_ k_ Ao84 t410 co84 ∧ ns_ k_ Ao85 t413 co85 ∧ ns_ k_ Ao86 t416 co86) v466 t465) := ⟨h2_⟩; have n3_ : Aside0 (Kd.R (Kd.int .i64) 3 w180 w.heap.size (fun k_ => nb_ k_ v460 ∧ nb_ k_ v463 ∧ nb_ k_ v466 ∧ nb_ k_ v473 ∧ nb_ k_ v476 ∧ nb_ k_ v480 ∧ nb_ k_ v483 ∧ nb_ k_ v486 ∧ ns_ k_ Ao46 t376 co46 ∧ ns_ k_ Ao48 t379 co48 ∧ ns_ k_ Ao50 t382 co50 ∧ ns_ k_ Ao60 t445 co60 ∧ ns_ k_ Ao61 t446 co61 ∧ ns_ k_ Ao62 t447 co62 ∧ ns_ k_ Ao72 t449 co72 ∧ ns_ k_ Ao73 t450 co73 ∧ ns_ k_ Ao74 t451 co74 ∧ ns_ k_ Ao84 t410 co84 ∧ ns_ k_ Ao85 t413 co85 ∧ ns_ k_ Ao86 t416 co86) v470 t469) := ⟨h3_⟩; have n4_ : Aside0 (Kd.R (Kd.int .i64) 3 w180 w.heap.size (fun k_ => nb_ k_ v460 ∧ nb_ k_ v463 ∧ nb_ k_ v466 ∧ nb_ k_ v470 ∧ nb_ k_ v476 ∧ nb_ k_ v480 ∧ nb_ k_ v483 ∧ nb_ k_ v486 ∧ ns_ k_ Ao46 t376 co46 ∧ ns_ k_ Ao48 t379 co48 ∧ ns_ k_ Ao50 t382 co50 ∧ ns_ k_ Ao60 t445 co60 ∧ ns_ k_ Ao61 t446 co61 ∧ ns_ k_ Ao62 t447 co62 ∧ ns_ k_ Ao72 t449 co72 ∧ ns_ k_ Ao73 t450 co73 ∧ ns_ k_ Ao74 t451 co74 ∧ ns_ k_ Ao84 t410 co84 ∧ ns_ k_ Ao85 t413 co85 ∧ ns_ k_ Ao86 t416 co86) v473 t472) := ⟨h4_⟩; have n5_ : Aside0 (Kd.R (Kd.int .i64) 3 w180 w.heap.size (fun k_ => nb_ k_ v460 ∧ nb_ k_ v463 ∧ nb_ k_ v466 ∧ nb_ k_ v470 ∧ nb_ k_ v473 ∧ nb_ k_ v480 ∧ nb_ k_ v483 ∧ nb_ k_ v486 ∧ ns_ k_ Ao46 t376 co46 ∧ ns_ k_ Ao48 t379 co48 ∧ ns_ k_ Ao50 t382 co50 ∧ ns_ k_ Ao60 t445 co60 ∧ ns_ k_ Ao61 t446 co61 ∧ ns_ k_ Ao62 t447 co62 ∧ ns_ k_ Ao72 t449 co72 ∧ ns_ k_ Ao73 t450 co73 ∧ ns_ k_ Ao74 t451 co74 ∧ ns_ k_ Ao84 t410 co84 ∧ ns_ k_ Ao85 t413 co85 ∧ ns_ k_ Ao86 t416 co86) v476 t475) := ⟨h5_⟩; have n6_ : Aside0 (Kd.R (Kd.int .i64) 3 w180 w.heap.size (fun k_ => nb_ k_ v460 ∧ nb_ k_ v463 ∧ nb_ k_ v466 ∧ nb_ k_ v470 ∧ nb_ k_ v473 ∧ nb_ k_ v476 ∧ nb_ k_ v483 ∧ nb_ k_ v486 ∧ ns_ k_ Ao46 t376 co46 ∧ ns_ k_ Ao48 t379 co48 ∧ ns_ k_ Ao50 t382 co50 ∧ ns_ k_ Ao60 t445 co60 ∧ ns_ k_ Ao61 t446 co61 ∧ ns_ k_ Ao62 t447 co62 ∧ ns_ k_ Ao72 t449 co72 ∧ ns_ k_ Ao73 t450 co73 ∧ ns_ k_ Ao74 t451 co74 ∧ ns_ k_ Ao84 t410 co84 ∧ ns_ k_ Ao85 t413 co85 ∧ ns_ k_ Ao86 t416 co86) v480 t479) := ⟨h6_⟩; have n7_ : Aside0 (Kd.R (Kd.int .i64) 3 w180 w.heap.size (fun k_ => nb_ k_ v460 ∧ nb_ k_ v463 ∧ nb_ k_ v466 ∧ nb_ k_ v470 ∧ nb_ k_ v473 ∧ nb_ k_ v476 ∧ nb_ k_ v480 ∧ nb_ k_ v486 ∧ ns_ k_ Ao46 t376 co46 ∧ ns_ k_ Ao48 t379 co48 ∧ ns_ k_ Ao50 t382 co50 ∧ ns_ k_ Ao60 t445 co60 ∧ ns_ k_ Ao61 t446 co61 ∧ ns_ k_ Ao62 t447 co62 ∧ ns_ k_ Ao72 t449 co72 ∧ ns_ k_ Ao73 t450 co73 ∧ ns_ k_ Ao74 t451 co74 ∧ ns_ k_ Ao84 t410 co84 ∧ ns_ k_ Ao85 t413 co85 ∧ ns_ k_ Ao86 t416 co86) v483 t482) := ⟨h7_⟩; have n8_ : Aside0 (Kd.R (Kd.int .i64) 3 w180 w.heap.size (fun k_ => nb_ k_ v460 ∧ nb_ k_ v463 ∧ nb_ k_ v466 ∧ nb_ k_ v470 ∧ nb_ k_ v473 ∧ nb_ k_ v476 ∧ nb_ k_ v480 ∧ nb_ k_ v483 ∧ ns_ k_ Ao46 t376 co46 ∧ ns_ k_ Ao48 t379 co48 ∧ ns_ k_ Ao50 t382 co50 ∧ ns_ k_ Ao60 t445 co60 ∧ ns_ k_ Ao61 t446 co61 ∧ ns_ k_ Ao62 t447 co62 ∧ ns_ k_ Ao72 t449 co72 ∧ ns_ k_ Ao73 t450 co73 ∧ ns_ k_ Ao74 t451 co74 ∧ ns_ k_ Ao84 t410 co84 ∧ ns_ k_ Ao85 t413 co85 ∧ ns_ k_ Ao86 t416 co86) v486 t485) := ⟨h8_⟩; have n9_ : Aside0 (Kd.R (Kd.int .i64) 3 w180 w.heap.size (fun k_ => nb_ k_ v460 ∧ nb_ k_ v463 ∧ nb_ k_ v466 ∧ nb_ k_ v470 ∧ nb_ k_ v473 ∧ nb_ k_ v476 ∧ nb_ k_ v480 ∧ nb_ k_ v483 ∧ nb_ k_ v486 ∧ ns_ k_ Ao48 t379 co48 ∧ ns_ k_ Ao50 t382 co50 ∧ ns_ k_ Ao60 t445 co60 ∧ ns_ k_ Ao61 t446 co61 ∧ ns_ k_ Ao62 t447 co62 ∧ ns_ k_ Ao72 t449 co72 ∧ ns_ k_ Ao73 t450 co73 ∧ ns_ k_ Ao74 t451 co74 ∧ ns_ k_ Ao84 t410 co84 ∧ ns_ k_ Ao85 t413 co85 ∧ ns_ k_ Ao86 t416 co86) (.slice Ao46 t376.length co46) t376) := ⟨h9_⟩; have n10_ : Aside0 (Kd.R (Kd.int .i64) 3 w180 w.heap.size (fun k_ => nb_ k_ v460 ∧ nb_ k_ v463 ∧ nb_ k_ v466 ∧ nb_ k_ v470 ∧ nb_ k_ v473 ∧ nb_ k_ v476 ∧ nb_ k_ v480 ∧ nb_ k_ v483 ∧ nb_ k_ v486 ∧ ns_ k_ Ao46 t376 co46 ∧ ns_ k_ Ao50 t382 co50 ∧ ns_ k_ Ao60 t445 co60 ∧ ns_ k_ Ao61 t446 co61 ∧ ns_ k_ Ao62 t447 co62 ∧ ns_ k_ Ao72 t449 co72 ∧ ns_ k_ Ao73 t450 co73 ∧ ns_ k_ Ao74 t451 co74 ∧ ns_ k_ Ao84 t410 co84 ∧ ns_ k_ Ao85 t413 co85 ∧ ns_ k_ Ao86 t416 co86) (.slice Ao48 t379.length co48) t379) := ⟨h10_⟩; have n11_ : Aside0 (Kd.R (Kd.int .i64) 3 w180 w.heap.size (fun k_ => nb_ k_ v460 ∧ nb_ k_ v463 ∧ nb_ k_ v466 ∧ nb_ k_ v470 ∧ nb_ k_ v473 ∧ nb_ k_ v476 ∧ nb_ k_ v480 ∧ nb_ k_ v483 ∧ nb_ k_ v486 ∧ ns_ k_ Ao46 t376 co46 ∧ ns_ k_ Ao48 t379 co48 ∧ ns_ k_ Ao60 t445 co60 ∧ ns_ k_ Ao61 t446 co61 ∧ ns_ k_ Ao62 t447 co62 ∧ ns_ k_ Ao72 t449 co72 ∧ ns_ k_ Ao73 t450 co73 ∧ ns_ k_ Ao74 t451 co74 ∧ ns_ k_ Ao84 t410 co84 ∧ ns_ k_ Ao85 t413 co85 ∧ ns_ k_ Ao86 t416 co86) (.slice Ao50 t382.length co50) t382) := ⟨h11_⟩; have n12_ : Aside0 (Kd.R (Kd.int .i64) 3 w180 w.heap.size (fun k_ => nb_ k_ v460 ∧ nb_ k_ v463 ∧ nb_ k_ v466 ∧ nb_ k_ v470 ∧ nb_ k_ v473 ∧ nb_ k_ v476 ∧ nb_ k_ v480 ∧ nb_ k_ v483 ∧ nb_ k_ v486 ∧ ns_ k_ Ao46 t376 co46 ∧ ns_ k_ Ao48 t379 co48 ∧ ns_ k_ Ao50 t382 co50 ∧ ns_ k_ Ao61 t446 co61 ∧ ns_ k_ Ao62 t447 co62 ∧ ns_ k_ Ao72 t449 co72 ∧ ns_ k_ Ao73 t450 co73 ∧ ns_ k_ Ao74 t451 co74 ∧ ns_ k_ Ao84 t410 co84 ∧ ns_ k_ Ao85 t413 co85 ∧ ns_ k_ Ao86 t416 co86) (.slice Ao60 t445.length co60) t445) := ⟨h12_⟩; have n13_ : Aside0 (Kd.R (Kd.int .i64) 3 w180 w.heap.size (fun k_ => nb_ k_ v460 ∧ nb_ k_ v463 ∧ nb_ k_ v466 ∧ nb_ k_ v470 ∧ nb_ k_ v473 ∧ nb_ k_ v476 ∧ nb_ k_ v480 ∧ nb_ k_ v483 ∧ nb_ k_ v486 ∧ ns_ k_ Ao46 t376 co46 ∧ ns_ k_ Ao48 t379 co48 ∧ ns_ k_ Ao50 t382 co50 ∧ ns_ k_ Ao60 t445 co60 ∧ ns_ k_ Ao62 t447 co62 ∧ ns_ k_ Ao72 t449 co72 ∧ ns_ k_ Ao73 t450 co73 ∧ ns_ k_ Ao74 t451 co74 ∧ ns_ k_ Ao84 t410 co84 ∧ ns_ k_ Ao85 t413 co85 ∧ ns_ k_ Ao86 t416 co86) (.slice Ao61 t446.length co61) t446) := ⟨h13_⟩; have n14_ : Aside0 (Kd.R (Kd.int .i64) 3 w180 w.heap.size (fun k_ => nb_ k_ v460 ∧ nb_ k_ v463 ∧ nb_ k_ v466 ∧ nb_ k_ v470 ∧ nb_ k_ v473 ∧ nb_ k_ v476 ∧ nb_ k_ v480 ∧ nb_ k_ v483 ∧ nb_ k_ v486 ∧ ns_ k_ Ao46 t376 co46 ∧ ns_ k_ Ao48 t379 co48 ∧ ns_ k_ Ao50 t382 co50 ∧ ns_ k_ Ao60 t445 co60 ∧ ns_ k_ Ao61 t446 co61 ∧ ns_ k_ Ao72 t449 co72 ∧ ns_ k_ Ao73 t450 co73 ∧ ns_ k_ Ao74 t451 co74 ∧ ns_ k_ Ao84 t410 co84 ∧ ns_ k_ Ao85 t413 co85 ∧ ns_ k_ Ao86 t416 co86) (.slice Ao62 t447.length co62) t447) := ⟨h14_⟩; have n15_ : Aside0 (Kd.R (Kd.int .i64) 3 w180 w.heap.size (fun k_ => nb_ k_ v460 ∧ nb_ k_ v463 ∧ nb_ k_ v466 ∧ nb_ k_ v470 ∧ nb_ k_ v473 ∧ nb_ k_ v476 ∧ nb_ k_ v480 ∧ nb_ k_ v483 ∧ nb_ k_ v486 ∧ ns_ k_ Ao46 t376 co46 ∧ ns_ k_ Ao48 t379 co48 ∧ ns_ k_ Ao50 t382 co50 ∧ ns_ k_ Ao60 t445 co60 ∧ ns_ k_ Ao61 t446 co61 ∧ ns_ k_ Ao62 t447 co62 ∧ ns_ k_ Ao73 t450 co73 ∧ ns_ k_ Ao74 t451 co74 ∧ ns_ k_ Ao84 t410 co84 ∧ ns_ k_ Ao85 t413 co85 ∧ ns_ k_ Ao86 t416 co86) (.slice Ao72 t449.length co72) t449) := ⟨h15_⟩; have n16_ : Aside0 (Kd.R (Kd.int .i64) 3 w180 w.heap.size (fun k_ => nb_ k_ v460 ∧ nb_ k_ v463 ∧ nb_ k_ v466 ∧ nb_ k_ v470 ∧ nb_ k_ v473 ∧ nb_ k_ v476 ∧ nb_ k_ v480 ∧ nb_ k_ v483 ∧ nb_ k_ v486 ∧ ns_ k_ Ao46 t376 co46 ∧ ns_ k_ Ao48 t379 co48 ∧ ns_ k_ Ao50 t382 co50 ∧ ns_ k_ Ao60 t445 co60 ∧ ns_ k_ Ao61 t446 co61 ∧ ns_ k_ Ao62 t447 co62 ∧ ns_ k_ Ao72 t449 co72 ∧ ns_ k_ Ao74 t451 co74 ∧ ns_ k_ Ao84 t410 co84 ∧ ns_ k_ Ao85 t413 co85 ∧ ns_ k_ Ao86 t416 co86) (.slice Ao73 t450.length co73) t450) := ⟨h16_⟩; have n17_ : Aside0 (Kd.R (Kd.int .i64) 3 w180 w.heap.size (fun k_ => nb_ k_ v460 ∧ nb_ k_ v463 ∧ nb_ k_ v466 ∧ nb_ k_ v470 ∧ nb_ k_ v473 ∧ nb_ k_ v476 ∧ nb_ k_ v480 ∧ nb_ k_ v483 ∧ nb_ k_ v486 ∧ ns_ k_ Ao46 t376 co46 ∧ ns_ k_ Ao48 t379 co48 ∧ ns_ k_ Ao50 t382 co50 ∧ ns_ k_ Ao60 t445 co60 ∧ ns_ k_ Ao61 t446 co61 ∧ ns_ k_ Ao62 t447 co62 ∧ ns_ k_ Ao72 t449 co72 ∧ ns_ k_ Ao73 t450 co73 ∧ ns_ k_ Ao84 t410 co84 ∧ ns_ k_ Ao85 t413 co85 ∧ ns_ k_ Ao86 t416 co86) (.slice Ao74 t451.length co74) t451) := ⟨h17_⟩; have n18_ : Aside0 (Kd.R (Kd.int .i64) 3 w180 w.heap.size (fun k_ => nb_ k_ v460 ∧ nb_ k_ v463 ∧ nb_ k_ v466 ∧ nb_ k_ v470 ∧ nb_ k_ v473 ∧ nb_ k_ v476 ∧ nb_ k_ v480 ∧ nb_ k_ v483 ∧ nb_ k_ v486 ∧ ns_ k_ Ao46 t376 co46 ∧ ns_ k_ Ao48 t379 co48 ∧ ns_ k_ Ao50 t382 co50 ∧ ns_ k_ Ao60 t445 co60 ∧ ns_ k_ Ao61 t446 co61 ∧ ns_ k_ Ao62 t447 co62 ∧ ns_ k_ Ao72 t449 co72 ∧ ns_ k_ Ao73 t450 co73 ∧ ns_ k_ Ao74 t451 co74 ∧ ns_ k_ Ao85 t413 co85 ∧ ns_ k_ Ao86 t416 co86) (.slice Ao84 t410.length co84) t454) := ⟨h18_⟩; have n19_ : Aside0 (Kd.R (Kd.int .i64) 3 w180 w.heap.size (fun k_ => nb_ k_ v460 ∧ nb_ k_ v463 ∧ nb_ k_ v466 ∧ nb_ k_ v470 ∧ nb_ k_ v473 ∧ nb_ k_ v476 ∧ nb_ k_ v480 ∧ nb_ k_ v483 ∧ nb_ k_ v486 ∧ ns_ k_ Ao46 t376 co46 ∧ ns_ k_ Ao48 t379 co48 ∧ ns_ k_ Ao50 t382 co50 ∧ ns_ k_ Ao60 t445 co60 ∧ ns_ k_ Ao61 t446 co61 ∧ ns_ k_ Ao62 t447 co62 ∧ ns_ k_ Ao72 t449 co72 ∧ ns_ k_ Ao73 t450 co73 ∧ ns_ k_ Ao74 t451 co74 ∧ ns_ k_ Ao84 t410 co84 ∧ ns_ k_ Ao86 t416 co86) (.slice Ao85 t413.length co85) t455) := ⟨h19_⟩; have n20_ : Aside0 (Kd.R (Kd.int .i64) 3 w180 w.heap.size (fun k_ => nb_ k_ v460 ∧ nb_ k_ v463 ∧ nb_ k_ v466 ∧ nb_ k_ v470 ∧ nb_ k_ v473 ∧ nb_ k_ v476 ∧ nb_ k_ v480 ∧ nb_ k_ v483 ∧ nb_ k_ v486 ∧ ns_ k_ Ao46 t376 co46 ∧ ns_ k_ Ao48 t379 co48 ∧ ns_ k_ Ao50 t382 co50 ∧ ns_ k_ Ao60 t445 co60 ∧ ns_ k_ Ao61 t446 co61 ∧ ns_ k_ Ao62 t447 co62 ∧ ns_ k_ Ao72 t449 co72 ∧ ns_ k_ Ao73 t450 co73 ∧ ns_ k_ Ao74 t451 co74 ∧ ns_ k_ Ao84 t410 co84 ∧ ns_ k_ Ao85 t413 co85) (.slice Ao86 t416.length co86) t456) := ⟨h20_⟩; have n21_ : Aside0 (w180.heap[gb351]? = some (.cells #[.int .i64 a0_0, .slice A0_1 l0_1.length c0_1, .slice A0_2 l0_2.length c0_2, .slice A0_3 l0_3.length c0_3] 45 (0, 0))) := ⟨h21_⟩; have n22_ : Aside0 (w180.heap[gb352]? = some (.cells #[.int .i64 a1_0, .slice A1_1 l1_1.length c1_1, .slice A1_2 l1_2.length c1_2, .slice A1_3 l1_3.length c1_3] 45 (0, 0))) := ⟨h22_⟩; have n23_ : Aside0 (w180.heap[gb386]? = some (.cells #[.int .i64 t375, .slice Ao46 t376.length co46, .slice Ao48 t379.length co48, .slice Ao50 t382.length co50] 48 (0, 0))) := ⟨h23_⟩; have n24_ : Aside0 (w180.heap[gb397]? = some (.cells #[.int .i64 t387, .slice Ao60 t445.length co60, .slice Ao61 t446.length co61, .slice Ao62 t447.length co62] 48 (0, 0))) := ⟨h24_⟩; have n25_ : Aside0 (w180.heap[gb408]? = some (.cells #[.int .i64 t398, .slice Ao72 t449.length co72, .slice Ao73 t450.length co73, .slice Ao74 t451.length co74] 48 (0, 0))) := ⟨h25_⟩; have n26_ : Aside0 (w180.heap[gb420]? = some (.cells #[.int .i64 t409, .slice Ao84 t410.length co84, .slice Ao85 t413.length co85, .slice Ao86 t416.length co86] 48 (0, 0))) := ⟨h26_⟩; have n27_ : Aside0 (w180.heap[gb489]? = some (.cells #[.int .i64 0, .slice none 0 0, .slice none 0 0, .slice none 0 0] 48 (0, 0))) := ⟨h27_⟩; have n28_ : Aside0 (w.heap.size ≤ gb489) := ⟨h28_⟩; have n29_ : Aside0 (w.heap.size ≤ gb489) := ⟨h29_⟩; have n30_ : Aside0 (gb351 ≠ gb489) := ⟨h30_⟩; have n31_ : Aside0 (gb489 ≠ gb351) := ⟨h31_⟩; have n32_ : Aside0 (gb352 ≠ gb489) := ⟨h32_⟩; have n33_ : Aside0 (gb489 ≠ gb352) := ⟨h33_⟩; have n34_ : Aside0 (gb386 ≠ gb489) := ⟨h34_⟩; have n35_ : Aside0 (gb489 ≠ gb386) := ⟨h35_⟩; have n36_ : Aside0 (gb397 ≠ gb489) := ⟨h36_⟩; have n37_ : Aside0 (gb489 ≠ gb397) := ⟨h37_⟩; have n38_ : Aside0 (gb408 ≠ gb489) := ⟨h38_⟩; have n39_ : Aside0 (gb489 ≠ gb408) := ⟨h39_⟩; have n40_ : Aside0 (gb420 ≠ gb489) := ⟨h40_⟩; have n41_ : Aside0 (gb489 ≠ gb420) := ⟨h41_⟩; have n42_ : Aside0 (Below w.heap.size w w180) := ⟨h42_⟩; clear HO_387001; clear HO_387002; clear HO_387003; clear HO_398001; clear HO_398002; clear HO_398003; clear HO_409001; clear HO_409002; clear HO_409003; clear HO_421001; clear HO_421002; clear HO_421003; clear BK351; clear BK352; clear BK386; clear BK397; clear BK408; clear BK420; clear HB
     clear h0_ h1_ h2_ h3_ h4_ h5_ h6_ h7_ h8_ h9_ h10_ h11_ h12_ h13_ h14_ h15_ h16_ h17_ h18_ h19_ h20_ h21_ h22_ h23_ h24_ h25_ h26_ h27_ h28_ h29_ h30_ h31_ h32_ h33_ h34_ h35_ h36_ h37_ h38_ h39_ h40_ h41_ h42_
     have HO461 := n0_
     have HO464 := n1_
     have HO467 := n2_
     have HO471 := n3_
     have HO474 := n4_
     have HO477 := n5_
     have HO481 := n6_
     have HO484 := n7_
     have HO487 := n8_
     have HO_387001 := n9_
     have HO_387002 := n10_
     have HO_387003 := n11_
     have HO_398001 := n12_
     have HO_398002 := n13_
     have HO_398003 := n14_
     have HO_409001 := n15_
     have HO_409002 := n16_
     have HO_409003 := n17_
     have HO_421001 := n18_
     have HO_421002 := n19_
     have HO_421003 := n20_
     have BK351 := n21_
     have BK352 := n22_
     have BK386 := n23_
     have BK397 := n24_
     have BK408 := n25_
     have BK420 := n26_
     have BK489 := n27_
     have GW489 := n28_
     have GE489 := n29_
     have NB351_489 := n30_
     have NB489_351 := n31_
     have NB352_489 := n32_
     have NB489_352 := n33_
     have NB386_489 := n34_
     have NB489_386 := n35_
     have NB397_489 := n36_
     have NB489_397 := n37_
     have NB408_489 := n38_
     have NB489_408 := n39_
     have NB420_489 := n40_
     have NB489_420 := n41_
     have HB := n42_
     clear n0_ n1_ n2_ n3_ n4_ n5_ n6_ n7_ n8_ n9_ n10_ n11_ n12_ n13_ n14_ n15_ n16_ n17_ n18_ n19_ n20_ n21_ n22_ n23_ n24_ n25_ n26_ n27_ n28_ n29_ n30_ n31_ n32_ n33_ n34_ n35_ n36_ n37_ n38_ n39_ n40_ n41_ n42_
     have hHeld : w180.cell? ⟨gb351, 0, none⟩ = some (.int .i64 a0_0) ∧ w180.cell? ⟨gb351, 1, none⟩ = some (.slice A0_1 l0_1.length c0_1) ∧ w180.cell? ⟨gb351, 2, none⟩ = some (.slice A0_2 l0_2.length c0_2) ∧ w180.cell? ⟨gb351, 3, none⟩ = some (.slice A0_3 l0_3.length c0_3) ∧ w180.cell? ⟨gb352, 0, none⟩ = some (.int .i64 a1_0) ∧ w180.cell? ⟨gb352, 1, none⟩ = some (.slice A1_1 l1_1.length c1_1) ∧ w180.cell? ⟨gb352, 2, none⟩ = some (.slice A1_2 l1_2.length c1_2) ∧ w180.cell? ⟨gb352, 3, none⟩ = some (.slice A1_3 l1_3.length c1_3) := hS_
     obtain ⟨Ao182, co182, eo182⟩ := Kd.R_slice HO481.out
     (first | subst eo182 | (injection eo182 with f1_ f2_ f3_; have f4_ := f1_.symm; have f5_ := f3_.symm; clear f1_ f2_ f3_; subst f4_; subst f5_))
     obtain ⟨Ao184, co184, eo184⟩ := Kd.R_slice HO484.out
     (first | subst eo184 | (injection eo184 with f1_ f2_ f3_; have f4_ := f1_.symm; have f5_ := f3_.symm; clear f1_ f2_ f3_; subst f4_; subst f5_))
     obtain ⟨Ao186, co186, eo186⟩ := Kd.R_slice HO487.out
     (first | subst eo186 | (injection eo186 with f1_ f2_ f3_; have f4_ := f1_.symm; have f5_ := f3_.symm; clear f1_ f2_ f3_; subst f4_; subst f5_))
     refine norm_ (a' := ?_) ?_ ?_
     rotate_left
     ·simp only [putAll, Act.put, List.setIfInBounds_toArray, List.set_cons_zero, List.set_cons_succ]
      rfl
     refine one_ (i := 9) (N := none) #[true, true, true, true, true, true, true, true, true, true, false] rfl rfl (one_of HT_.out (by kernel_rfl)) (by decide) (fun K hK => ?_)
     have hs181 : w180.cell? ⟨gb489, 0, none⟩ = some (.int .i64 0) := (blk_cell BK489.out 0).trans rfl
     have hfs181 := blk_frozen BK489.out 0
     have hns181_0 := NB351_489.out
     have hns181_1 := NB352_489.out
     have hns181_2 := NB386_489.out
     have hns181_3 := NB397_489.out
     have hns181_4 := NB408_489.out
     have hns181_5 := NB420_489.out
     have hms181_0 := NB489_351.out
     have hms181_1 := NB489_352.out
     have hms181_2 := NB489_386.out
     have hms181_3 := NB489_397.out
     have hms181_4 := NB489_408.out
     have hms181_5 := NB489_420.out
     have hs183 : w180.cell? ⟨gb489, 1, none⟩ = some (.slice none 0 0) := (blk_cell BK489.out 1).trans rfl
     have hfs183 := blk_frozen BK489.out 1
     have hns183_0 := NB351_489.out
     have hns183_1 := NB352_489.out
     have hns183_2 := NB386_489.out
     have hns183_3 := NB397_489.out
     have hns183_4 := NB408_489.out
     have hns183_5 := NB420_489.out
     have hms183_0 := NB489_351.out
     have hms183_1 := NB489_352.out
     have hms183_2 := NB489_386.out
     have hms183_3 := NB489_397.out
     have hms183_4 := NB489_408.out
     have hms183_5 := NB489_420.out
     have hs185 : w180.cell? ⟨gb489, 2, none⟩ = some (.slice none 0 0) := (blk_cell BK489.out 2).trans rfl
     have hfs185 := blk_frozen BK489.out 2
     have hns185_0 := NB351_489.out
     have hns185_1 := NB352_489.out
     have hns185_2 := NB386_489.out
     have hns185_3 := NB397_489.out
     have hns185_4 := NB408_489.out
     have hns185_5 := NB420_489.out
     have hms185_0 := NB489_351.out
     have hms185_1 := NB489_352.out
     have hms185_2 := NB489_386.out
     have hms185_3 := NB489_397.out
     have hms185_4 := NB489_408.out
     have hms185_5 := NB489_420.out
     have hs187 : w180.cell? ⟨gb489, 3, none⟩ = some (.slice none 0 0) := (blk_cell BK489.out 3).trans rfl
     have hfs187 := blk_frozen BK489.out 3
     have hns187_0 := NB351_489.out
     have hns187_1 := NB352_489.out
     have hns187_2 := NB386_489.out
     have hns187_3 := NB397_489.out
     have hns187_4 := NB408_489.out
     have hns187_5 := NB420_489.out
     have hms187_0 := NB489_351.out
     have hms187_1 := NB489_352.out
     have hms187_2 := NB489_386.out
     have hms187_3 := NB489_397.out
     have hms187_4 := NB489_408.out
     have hms187_5 := NB489_420.out
     refine skip_ (w1 := ?_) (by rfl) rfl ?_ ?_
     rotate_left
     ·go_simp
      rfl
     refine hK.out _ _ ⟨((cell_far (p := ⟨gb489, _, none⟩) NB351_489.out _).trans (((cell_far (p := ⟨gb489, _, none⟩) NB351_489.out _).trans (((cell_far (p := ⟨gb489, _, none⟩) NB351_489.out _).trans (((cell_far (p := ⟨gb489, _, none⟩) NB351_489.out _).trans (hHeld.1)))))))), ((cell_far (p := ⟨gb489, _, none⟩) NB351_489.out _).trans (((cell_far (p := ⟨gb489, _, none⟩) NB351_489.out _).trans (((cell_far (p := ⟨gb489, _, none⟩) NB351_489.out _).trans (((cell_far (p := ⟨gb489, _, none⟩) NB351_489.out _).trans (hHeld.2.1)))))))), ((cell_far (p := ⟨gb489, _, none⟩) NB351_489.out _).trans (((cell_far (p := ⟨gb489, _, none⟩) NB351_489.out _).trans (((cell_far (p := ⟨gb489, _, none⟩) NB351_489.out _).trans (((cell_far (p := ⟨gb489, _, none⟩) NB351_489.out _).trans (hHeld.2.2.1)))))))), ((cell_far (p := ⟨gb489, _, none⟩) NB351_489.out _).trans (((cell_far (p := ⟨gb489, _, none⟩) NB351_489.out _).trans (((cell_far (p := ⟨gb489, _, none⟩) NB351_489.out _).trans (((cell_far (p := ⟨gb489, _, none⟩) NB351_489.out _).trans (hHeld.2.2.2.1)))))))), ((cell_far (p := ⟨gb489, _, none⟩) NB352_489.out _).trans (((cell_far (p := ⟨gb489, _, none⟩) NB352_489.out _).trans (((cell_far (p := ⟨gb489, _, none⟩) NB352_489.out _).trans (((cell_far (p := ⟨gb489, _, none⟩) NB352_489.out _).trans (hHeld.2.2.2.2.1)))))))), ((cell_far (p := ⟨gb489, _, none⟩) NB352_489.out _).trans (((cell_far (p := ⟨gb489, _, none⟩) NB352_489.out _).trans (((cell_far (p := ⟨gb489, _, none⟩) NB352_489.out _).trans (((cell_far (p := ⟨gb489, _, none⟩) NB352_489.out _).trans (hHeld.2.2.2.2.2.1)))))))), ((cell_far (p := ⟨gb489, _, none⟩) NB352_489.out _).trans (((cell_far (p := ⟨gb489, _, none⟩) NB352_489.out _).trans (((cell_far (p := ⟨gb489, _, none⟩) NB352_489.out _).trans (((cell_far (p := ⟨gb489, _, none⟩) NB352_489.out _).trans (hHeld.2.2.2.2.2.2.1)))))))), ((cell_far (p := ⟨gb489, _, none⟩) NB352_489.out _).trans (((cell_far (p := ⟨gb489, _, none⟩) NB352_489.out _).trans (((cell_far (p := ⟨gb489, _, none⟩) NB352_489.out _).trans (((cell_far (p := ⟨gb489, _, none⟩) NB352_489.out _).trans (hHeld.2.2.2.2.2.2.2))))))))⟩ (fun hHeld => ?_)
     clear hK K
     refine pure_ (i := 10) (N := some 16) (v := ?_) (a' := ?_) #[true, true, true, true, true, true, true, true, true, true, true] rfl rfl (any_of HT_.out (by kernel_rfl)) (fun _ _ _ h => h) (Or.inl ⟨by rfl, ?_⟩) ?_ ?_
     rotate_left
     ·intro w'
      go_simp
      with_reducible rfl
     rotate_left
     ·simp only [Act.put, List.setIfInBounds_toArray, List.set_cons_zero, List.set_cons_succ, i64_w, i32_w]
      rfl
     refine done_ (done_of HT_.out (by kernel_rfl)) ?_
     go_upto_region 32 with (fail)
     go_cut [110] (fun v110 wc => ∃ (kq : Nat) (x110_158 : Bool), v110 = .bool x110_158 ∧ Aside0 (laws_FnExactJoinRanked.j2 kq t453 x110_158 t409 t454 t455 t456 = some r) ∧ Aside0 (kq ≤ kj109) ∧ Aside0 (Kd.R (Kd.int .i64) 3 wc w.heap.size (fun k_ => ns_ k_ Ao48 t379 co48 ∧ ns_ k_ Ao50 t382 co50 ∧ ns_ k_ Ao60 t445 co60 ∧ ns_ k_ Ao61 t446 co61 ∧ ns_ k_ Ao62 t447 co62 ∧ ns_ k_ Ao72 t449 co72 ∧ ns_ k_ Ao73 t450 co73 ∧ ns_ k_ Ao74 t451 co74 ∧ ns_ k_ Ao84 t410 co84 ∧ ns_ k_ Ao85 t413 co85 ∧ ns_ k_ Ao86 t416 co86 ∧ ns_ k_ Ao182 t479 co182 ∧ ns_ k_ Ao184 t482 co184 ∧ ns_ k_ Ao186 t485 co186) (.slice Ao46 t376.length co46) t376) ∧ Aside0 (Kd.R (Kd.int .i64) 3 wc w.heap.size (fun k_ => ns_ k_ Ao46 t376 co46 ∧ ns_ k_ Ao50 t382 co50 ∧ ns_ k_ Ao60 t445 co60 ∧ ns_ k_ Ao61 t446 co61 ∧ ns_ k_ Ao62 t447 co62 ∧ ns_ k_ Ao72 t449 co72 ∧ ns_ k_ Ao73 t450 co73 ∧ ns_ k_ Ao74 t451 co74 ∧ ns_ k_ Ao84 t410 co84 ∧ ns_ k_ Ao85 t413 co85 ∧ ns_ k_ Ao86 t416 co86 ∧ ns_ k_ Ao182 t479 co182 ∧ ns_ k_ Ao184 t482 co184 ∧ ns_ k_ Ao186 t485 co186) (.slice Ao48 t379.length co48) t379) ∧ Aside0 (Kd.R (Kd.int .i64) 3 wc w.heap.size (fun k_ => ns_ k_ Ao46 t376 co46 ∧ ns_ k_ Ao48 t379 co48 ∧ ns_ k_ Ao60 t445 co60 ∧ ns_ k_ Ao61 t446 co61 ∧ ns_ k_ Ao62 t447 co62 ∧ ns_ k_ Ao72 t449 co72 ∧ ns_ k_ Ao73 t450 co73 ∧ ns_ k_ Ao74 t451 co74 ∧ ns_ k_ Ao84 t410 co84 ∧ ns_ k_ Ao85 t413 co85 ∧ ns_ k_ Ao86 t416 co86 ∧ ns_ k_ Ao182 t479 co182 ∧ ns_ k_ Ao184 t482 co184 ∧ ns_ k_ Ao186 t485 co186) (.slice Ao50 t382.length co50) t382) ∧ Aside0 (Kd.R (Kd.int .i64) 3 wc w.heap.size (fun k_ => ns_ k_ Ao46 t376 co46 ∧ ns_ k_ Ao48 t379 co48 ∧ ns_ k_ Ao50 t382 co50 ∧ ns_ k_ Ao61 t446 co61 ∧ ns_ k_ Ao62 t447 co62 ∧ ns_ k_ Ao72 t449 co72 ∧ ns_ k_ Ao73 t450 co73 ∧ ns_ k_ Ao74 t451 co74 ∧ ns_ k_ Ao84 t410 co84 ∧ ns_ k_ Ao85 t413 co85 ∧ ns_ k_ Ao86 t416 co86 ∧ ns_ k_ Ao182 t479 co182 ∧ ns_ k_ Ao184 t482 co184 ∧ ns_ k_ Ao186 t485 co186) (.slice Ao60 t445.length co60) t445) ∧ Aside0 (Kd.R (Kd.int .i64) 3 wc w.heap.size (fun k_ => ns_ k_ Ao46 t376 co46 ∧ ns_ k_ Ao48 t379 co48 ∧ ns_ k_ Ao50 t382 co50 ∧ ns_ k_ Ao60 t445 co60 ∧ ns_ k_ Ao62 t447 co62 ∧ ns_ k_ Ao72 t449 co72 ∧ ns_ k_ Ao73 t450 co73 ∧ ns_ k_ Ao74 t451 co74 ∧ ns_ k_ Ao84 t410 co84 ∧ ns_ k_ Ao85 t413 co85 ∧ ns_ k_ Ao86 t416 co86 ∧ ns_ k_ Ao182 t479 co182 ∧ ns_ k_ Ao184 t482 co184 ∧ ns_ k_ Ao186 t485 co186) (.slice Ao61 t446.length co61) t446) ∧ Aside0 (Kd.R (Kd.int .i64) 3 wc w.heap.size (fun k_ => ns_ k_ Ao46 t376 co46 ∧ ns_ k_ Ao48 t379 co48 ∧ ns_ k_ Ao50 t382 co50 ∧ ns_ k_ Ao60 t445 co60 ∧ ns_ k_ Ao61 t446 co61 ∧ ns_ k_ Ao72 t449 co72 ∧ ns_ k_ Ao73 t450 co73 ∧ ns_ k_ Ao74 t451 co74 ∧ ns_ k_ Ao84 t410 co84 ∧ ns_ k_ Ao85 t413 co85 ∧ ns_ k_ Ao86 t416 co86 ∧ ns_ k_ Ao182 t479 co182 ∧ ns_ k_ Ao184 t482 co184 ∧ ns_ k_ Ao186 t485 co186) (.slice Ao62 t447.length co62) t447) ∧ Aside0 (Kd.R (Kd.int .i64) 3 wc w.heap.size (fun k_ => ns_ k_ Ao46 t376 co46 ∧ ns_ k_ Ao48 t379 co48 ∧ ns_ k_ Ao50 t382 co50 ∧ ns_ k_ Ao60 t445 co60 ∧ ns_ k_ Ao61 t446 co61 ∧ ns_ k_ Ao62 t447 co62 ∧ ns_ k_ Ao73 t450 co73 ∧ ns_ k_ Ao74 t451 co74 ∧ ns_ k_ Ao84 t410 co84 ∧ ns_ k_ Ao85 t413 co85 ∧ ns_ k_ Ao86 t416 co86 ∧ ns_ k_ Ao182 t479 co182 ∧ ns_ k_ Ao184 t482 co184 ∧ ns_ k_ Ao186 t485 co186) (.slice Ao72 t449.length co72) t449) ∧ Aside0 (Kd.R (Kd.int .i64) 3 wc w.heap.size (fun k_ => ns_ k_ Ao46 t376 co46 ∧ ns_ k_ Ao48 t379 co48 ∧ ns_ k_ Ao50 t382 co50 ∧ ns_ k_ Ao60 t445 co60 ∧ ns_ k_ Ao61 t446 co61 ∧ ns_ k_ Ao62 t447 co62 ∧ ns_ k_ Ao72 t449 co72 ∧ ns_ k_ Ao74 t451 co74 ∧ ns_ k_ Ao84 t410 co84 ∧ ns_ k_ Ao85 t413 co85 ∧ ns_ k_ Ao86 t416 co86 ∧ ns_ k_ Ao182 t479 co182 ∧ ns_ k_ Ao184 t482 co184 ∧ ns_ k_ Ao186 t485 co186) (.slice Ao73 t450.length co73) t450) ∧ Aside0 (Kd.R (Kd.int .i64) 3 wc w.heap.size (fun k_ => ns_ k_ Ao46 t376 co46 ∧ ns_ k_ Ao48 t379 co48 ∧ ns_ k_ Ao50 t382 co50 ∧ ns_ k_ Ao60 t445 co60 ∧ ns_ k_ Ao61 t446 co61 ∧ ns_ k_ Ao62 t447 co62 ∧ ns_ k_ Ao72 t449 co72 ∧ ns_ k_ Ao73 t450 co73 ∧ ns_ k_ Ao84 t410 co84 ∧ ns_ k_ Ao85 t413 co85 ∧ ns_ k_ Ao86 t416 co86 ∧ ns_ k_ Ao182 t479 co182 ∧ ns_ k_ Ao184 t482 co184 ∧ ns_ k_ Ao186 t485 co186) (.slice Ao74 t451.length co74) t451) ∧ Aside0 (Kd.R (Kd.int .i64) 3 wc w.heap.size (fun k_ => ns_ k_ Ao46 t376 co46 ∧ ns_ k_ Ao48 t379 co48 ∧ ns_ k_ Ao50 t382 co50 ∧ ns_ k_ Ao60 t445 co60 ∧ ns_ k_ Ao61 t446 co61 ∧ ns_ k_ Ao62 t447 co62 ∧ ns_ k_ Ao72 t449 co72 ∧ ns_ k_ Ao73 t450 co73 ∧ ns_ k_ Ao74 t451 co74 ∧ ns_ k_ Ao85 t413 co85 ∧ ns_ k_ Ao86 t416 co86 ∧ ns_ k_ Ao182 t479 co182 ∧ ns_ k_ Ao184 t482 co184 ∧ ns_ k_ Ao186 t485 co186) (.slice Ao84 t410.length co84) t454) ∧ Aside0 (Kd.R (Kd.int .i64) 3 wc w.heap.size (fun k_ => ns_ k_ Ao46 t376 co46 ∧ ns_ k_ Ao48 t379 co48 ∧ ns_ k_ Ao50 t382 co50 ∧ ns_ k_ Ao60 t445 co60 ∧ ns_ k_ Ao61 t446 co61 ∧ ns_ k_ Ao62 t447 co62 ∧ ns_ k_ Ao72 t449 co72 ∧ ns_ k_ Ao73 t450 co73 ∧ ns_ k_ Ao74 t451 co74 ∧ ns_ k_ Ao84 t410 co84 ∧ ns_ k_ Ao86 t416 co86 ∧ ns_ k_ Ao182 t479 co182 ∧ ns_ k_ Ao184 t482 co184 ∧ ns_ k_ Ao186 t485 co186) (.slice Ao85 t413.length co85) t455) ∧ Aside0 (Kd.R (Kd.int .i64) 3 wc w.heap.size (fun k_ => ns_ k_ Ao46 t376 co46 ∧ ns_ k_ Ao48 t379 co48 ∧ ns_ k_ Ao50 t382 co50 ∧ ns_ k_ Ao60 t445 co60 ∧ ns_ k_ Ao61 t446 co61 ∧ ns_ k_ Ao62 t447 co62 ∧ ns_ k_ Ao72 t449 co72 ∧ ns_ k_ Ao73 t450 co73 ∧ ns_ k_ Ao74 t451 co74 ∧ ns_ k_ Ao84 t410 co84 ∧ ns_ k_ Ao85 t413 co85 ∧ ns_ k_ Ao182 t479 co182 ∧ ns_ k_ Ao184 t482 co184 ∧ ns_ k_ Ao186 t485 co186) (.slice Ao86 t416.length co86) t456) ∧ Aside0 (Kd.R (Kd.int .i64) 3 wc w.heap.size (fun k_ => ns_ k_ Ao46 t376 co46 ∧ ns_ k_ Ao48 t379 co48 ∧ ns_ k_ Ao50 t382 co50 ∧ ns_ k_ Ao60 t445 co60 ∧ ns_ k_ Ao61 t446 co61 ∧ ns_ k_ Ao62 t447 co62 ∧ ns_ k_ Ao72 t449 co72 ∧ ns_ k_ Ao73 t450 co73 ∧ ns_ k_ Ao74 t451 co74 ∧ ns_ k_ Ao84 t410 co84 ∧ ns_ k_ Ao85 t413 co85 ∧ ns_ k_ Ao86 t416 co86 ∧ ns_ k_ Ao184 t482 co184 ∧ ns_ k_ Ao186 t485 co186) (.slice Ao182 t479.length co182) t479) ∧ Aside0 (Kd.R (Kd.int .i64) 3 wc w.heap.size (fun k_ => ns_ k_ Ao46 t376 co46 ∧ ns_ k_ Ao48 t379 co48 ∧ ns_ k_ Ao50 t382 co50 ∧ ns_ k_ Ao60 t445 co60 ∧ ns_ k_ Ao61 t446 co61 ∧ ns_ k_ Ao62 t447 co62 ∧ ns_ k_ Ao72 t449 co72 ∧ ns_ k_ Ao73 t450 co73 ∧ ns_ k_ Ao74 t451 co74 ∧ ns_ k_ Ao84 t410 co84 ∧ ns_ k_ Ao85 t413 co85 ∧ ns_ k_ Ao86 t416 co86 ∧ ns_ k_ Ao182 t479 co182 ∧ ns_ k_ Ao186 t485 co186) (.slice Ao184 t482.length co184) t482) ∧ Aside0 (Kd.R (Kd.int .i64) 3 wc w.heap.size (fun k_ => ns_ k_ Ao46 t376 co46 ∧ ns_ k_ Ao48 t379 co48 ∧ ns_ k_ Ao50 t382 co50 ∧ ns_ k_ Ao60 t445 co60 ∧ ns_ k_ Ao61 t446 co61 ∧ ns_ k_ Ao62 t447 co62 ∧ ns_ k_ Ao72 t449 co72 ∧ ns_ k_ Ao73 t450 co73 ∧ ns_ k_ Ao74 t451 co74 ∧ ns_ k_ Ao84 t410 co84 ∧ ns_ k_ Ao85 t413 co85 ∧ ns_ k_ Ao86 t416 co86 ∧ ns_ k_ Ao182 t479 co182 ∧ ns_ k_ Ao184 t482 co184) (.slice Ao186 t485.length co186) t485) ∧ Aside0 (wc.heap[gb351]? = some (.cells #[.int .i64 a0_0, (.slice A0_1 l0_1.length c0_1), (.slice A0_2 l0_2.length c0_2), (.slice A0_3 l0_3.length c0_3)] 45 (0, 0))) ∧ Aside0 (wc.heap[gb352]? = some (.cells #[.int .i64 a1_0, (.slice A1_1 l1_1.length c1_1), (.slice A1_2 l1_2.length c1_2), (.slice A1_3 l1_3.length c1_3)] 45 (0, 0))) ∧ Aside0 (wc.heap[gb386]? = some (.cells #[.int .i64 t375, (.slice Ao46 t376.length co46), (.slice Ao48 t379.length co48), (.slice Ao50 t382.length co50)] 48 (0, 0))) ∧ Aside0 (wc.heap[gb397]? = some (.cells #[.int .i64 t387, (.slice Ao60 t445.length co60), (.slice Ao61 t446.length co61), (.slice Ao62 t447.length co62)] 48 (0, 0))) ∧ Aside0 (wc.heap[gb408]? = some (.cells #[.int .i64 t398, (.slice Ao72 t449.length co72), (.slice Ao73 t450.length co73), (.slice Ao74 t451.length co74)] 48 (0, 0))) ∧ Aside0 (wc.heap[gb420]? = some (.cells #[.int .i64 t409, (.slice Ao84 t410.length co84), (.slice Ao85 t413.length co85), (.slice Ao86 t416.length co86)] 48 (0, 0))) ∧ Aside0 (wc.heap[gb489]? = some (.cells #[.int .i64 t478, (.slice Ao182 t479.length co182), (.slice Ao184 t482.length co184), (.slice Ao186 t485.length co186)] 48 (0, 0))) ∧ Aside0 (Below w.heap.size w wc))
     case first =>
      have H := HC159.out
      clear HC159
      replace H := Option.bind_eq_some_iff.mp H
      obtain ⟨t490, A1880, H⟩ := H
      replace H : (if t490 = true then (laws_FnExactJoinRanked.j2 kj109 t453 (t488 != t385) t409 t454 t455 t456) else (none)) = some r := H
      have A188 := am_ A1880
      clear A1880
      by_cases c189 : t490 = true
      ·subst c189
       have H1 : (laws_FnExactJoinRanked.j2 kj109 t453 (t488 != t385) t409 t454 t455 t456) = some r := by rw [if_pos rfl] at H; exact H
       clear H
       have H := H1
       clear H1
       have H' := am_ H
       clear H
       have hnb190 := NB489_351.out
       have hnc190 := NB351_489.out
       have hnb191 := NB489_352.out
       have hnc191 := NB352_489.out
       have hnb192 := NB489_386.out
       have hnc192 := NB386_489.out
       have hnb193 := NB489_397.out
       have hnc193 := NB397_489.out
       have hnb194 := NB489_408.out
       have hnc194 := NB408_489.out
       have hnb195 := NB489_420.out
       have hnc195 := NB420_489.out
       have hcz196_0 : w180.cell? ⟨gb489, 0, none⟩ = some (.int .i64 0) := (blk_cell BK489.out 0).trans rfl
       have hcz196_1 : w180.cell? ⟨gb489, 1, none⟩ = some (.slice none 0 0) := (blk_cell BK489.out 1).trans rfl
       have hcz196_2 : w180.cell? ⟨gb489, 2, none⟩ = some (.slice none 0 0) := (blk_cell BK489.out 2).trans rfl
       have hcz196_3 : w180.cell? ⟨gb489, 3, none⟩ = some (.slice none 0 0) := (blk_cell BK489.out 3).trans rfl
       have hfz196_0 := blk_frozen BK489.out 0
       have hfz196_1 := blk_frozen BK489.out 1
       have hfz196_2 := blk_frozen BK489.out 2
       have hfz196_3 := blk_frozen BK489.out 3
       have hnb197 := NB386_351.out
       have hnc197 := NB351_386.out
       have hnb198 := NB386_352.out
       have hnc198 := NB352_386.out
       have hnb199 := NB386_397.out
       have hnc199 := NB397_386.out
       have hnb200 := NB386_408.out
       have hnc200 := NB408_386.out
       have hnb201 := NB386_420.out
       have hnc201 := NB420_386.out
       have hcz202_0 : w180.cell? ⟨gb386, 0, none⟩ = some (.int .i64 t375) := (blk_cell BK386.out 0).trans rfl
       have hcz202_1 : w180.cell? ⟨gb386, 1, none⟩ = some (.slice Ao46 t376.length co46) := (blk_cell BK386.out 1).trans rfl
       have hcz202_2 : w180.cell? ⟨gb386, 2, none⟩ = some (.slice Ao48 t379.length co48) := (blk_cell BK386.out 2).trans rfl
       have hcz202_3 : w180.cell? ⟨gb386, 3, none⟩ = some (.slice Ao50 t382.length co50) := (blk_cell BK386.out 3).trans rfl
       have hfz202_0 := blk_frozen BK386.out 0
       have hfz202_1 := blk_frozen BK386.out 1
       have hfz202_2 := blk_frozen BK386.out 2
       have hfz202_3 := blk_frozen BK386.out 3
       go_wp2_with (first | ((with_reducible refine gate_callee (f := 38) rfl ?_); refine goesL_ (some 104) rfl rfl Try.func38 (by kernel_rfl) rfl #[.agg #[.int .i64 t478, .slice Ao182 t479.length co182, .slice Ao184 t482.length co184, .slice Ao186 t485.length co186], .agg #[.int .i64 t375, .slice Ao46 t376.length co46, .slice Ao48 t379.length co48, .slice Ao50 t382.length co50]] rfl lm_ ?_; (with_reducible refine (laws_eqRanked.calls kj109 t478 _ _ t479 _ _ t482 _ _ t485 t375 _ _ t376 _ _ t379 _ _ t382 true _ ?side1 ?side2 ?side3 ?side4 ?side5 ?side6 ?side7 ?side8 ?side9 ?side10 ?side11 ?side12 A188.out).mono ?_); (case side1 => refine (Kd.R_reads' (e := 3) (base := w.heap.size) (ok := fun k_ => (nb_ k_ v460 ∧ (nb_ k_ v463 ∧ (nb_ k_ v466 ∧ (nb_ k_ v470 ∧ (nb_ k_ v473 ∧ (nb_ k_ v476 ∧ (ns_ k_ Ao184 t482 co184 ∧ (ns_ k_ Ao186 t485 co186 ∧ (ns_ k_ Ao46 t376 co46 ∧ (ns_ k_ Ao48 t379 co48 ∧ (ns_ k_ Ao50 t382 co50 ∧ (ns_ k_ Ao60 t445 co60 ∧ (ns_ k_ Ao61 t446 co61 ∧ (ns_ k_ Ao62 t447 co62 ∧ (ns_ k_ Ao72 t449 co72 ∧ (ns_ k_ Ao73 t450 co73 ∧ (ns_ k_ Ao74 t451 co74 ∧ (ns_ k_ Ao84 t410 co84 ∧ (ns_ k_ Ao85 t413 co85 ∧ ns_ k_ Ao86 t416 co86)))))))))))))))))))) (n := t479.length) (c := co182) ?_).2.2; exact (lt_ ((m1_ (fr4_ HO481.out BK489.out (.int .i64 t478) (.slice Ao182 t479.length co182) (.slice Ao184 t482.length co184) (.slice Ao186 t485.length co186)))))); (case side2 => exact (Kd.R_reads' HO481.out).2.1); (case side3 => refine (Kd.R_reads' (e := 3) (base := w.heap.size) (ok := fun k_ => (nb_ k_ v460 ∧ (nb_ k_ v463 ∧ (nb_ k_ v466 ∧ (nb_ k_ v470 ∧ (nb_ k_ v473 ∧ (nb_ k_ v476 ∧ (ns_ k_ Ao182 t479 co182 ∧ (ns_ k_ Ao186 t485 co186 ∧ (ns_ k_ Ao46 t376 co46 ∧ (ns_ k_ Ao48 t379 co48 ∧ (ns_ k_ Ao50 t382 co50 ∧ (ns_ k_ Ao60 t445 co60 ∧ (ns_ k_ Ao61 t446 co61 ∧ (ns_ k_ Ao62 t447 co62 ∧ (ns_ k_ Ao72 t449 co72 ∧ (ns_ k_ Ao73 t450 co73 ∧ (ns_ k_ Ao74 t451 co74 ∧ (ns_ k_ Ao84 t410 co84 ∧ (ns_ k_ Ao85 t413 co85 ∧ ns_ k_ Ao86 t416 co86)))))))))))))))))))) (n := t482.length) (c := co184) ?_).2.2; exact (lt_ ((m1_ (fr4_ HO484.out BK489.out (.int .i64 t478) (.slice Ao182 t479.length co182) (.slice Ao184 t482.length co184) (.slice Ao186 t485.length co186)))))); (case side4 => exact (Kd.R_reads' HO484.out).2.1); (case side5 => refine (Kd.R_reads' (e := 3) (base := w.heap.size) (ok := fun k_ => (nb_ k_ v460 ∧ (nb_ k_ v463 ∧ (nb_ k_ v466 ∧ (nb_ k_ v470 ∧ (nb_ k_ v473 ∧ (nb_ k_ v476 ∧ (ns_ k_ Ao182 t479 co182 ∧ (ns_ k_ Ao184 t482 co184 ∧ (ns_ k_ Ao46 t376 co46 ∧ (ns_ k_ Ao48 t379 co48 ∧ (ns_ k_ Ao50 t382 co50 ∧ (ns_ k_ Ao60 t445 co60 ∧ (ns_ k_ Ao61 t446 co61 ∧ (ns_ k_ Ao62 t447 co62 ∧ (ns_ k_ Ao72 t449 co72 ∧ (ns_ k_ Ao73 t450 co73 ∧ (ns_ k_ Ao74 t451 co74 ∧ (ns_ k_ Ao84 t410 co84 ∧ (ns_ k_ Ao85 t413 co85 ∧ ns_ k_ Ao86 t416 co86)))))))))))))))))))) (n := t485.length) (c := co186) ?_).2.2; exact (lt_ ((m1_ (fr4_ HO487.out BK489.out (.int .i64 t478) (.slice Ao182 t479.length co182) (.slice Ao184 t482.length co184) (.slice Ao186 t485.length co186)))))); (case side6 => exact (Kd.R_reads' HO487.out).2.1); (case side7 => refine (Kd.R_reads' (e := 3) (base := w.heap.size) (ok := fun k_ => (nb_ k_ v460 ∧ (nb_ k_ v463 ∧ (nb_ k_ v466 ∧ (nb_ k_ v470 ∧ (nb_ k_ v473 ∧ (nb_ k_ v476 ∧ (ns_ k_ Ao182 t479 co182 ∧ (ns_ k_ Ao184 t482 co184 ∧ (ns_ k_ Ao186 t485 co186 ∧ (ns_ k_ Ao48 t379 co48 ∧ (ns_ k_ Ao50 t382 co50 ∧ (ns_ k_ Ao60 t445 co60 ∧ (ns_ k_ Ao61 t446 co61 ∧ (ns_ k_ Ao62 t447 co62 ∧ (ns_ k_ Ao72 t449 co72 ∧ (ns_ k_ Ao73 t450 co73 ∧ (ns_ k_ Ao74 t451 co74 ∧ (ns_ k_ Ao84 t410 co84 ∧ (ns_ k_ Ao85 t413 co85 ∧ ns_ k_ Ao86 t416 co86)))))))))))))))))))) (n := t376.length) (c := co46) ?_).2.2; exact (lt_ ((m1_ (fr4_ HO_387001.out BK489.out (.int .i64 t478) (.slice Ao182 t479.length co182) (.slice Ao184 t482.length co184) (.slice Ao186 t485.length co186)))))); (case side8 => exact (Kd.R_reads' HO_387001.out).2.1); (case side9 => refine (Kd.R_reads' (e := 3) (base := w.heap.size) (ok := fun k_ => (nb_ k_ v460 ∧ (nb_ k_ v463 ∧ (nb_ k_ v466 ∧ (nb_ k_ v470 ∧ (nb_ k_ v473 ∧ (nb_ k_ v476 ∧ (ns_ k_ Ao182 t479 co182 ∧ (ns_ k_ Ao184 t482 co184 ∧ (ns_ k_ Ao186 t485 co186 ∧ (ns_ k_ Ao46 t376 co46 ∧ (ns_ k_ Ao50 t382 co50 ∧ (ns_ k_ Ao60 t445 co60 ∧ (ns_ k_ Ao61 t446 co61 ∧ (ns_ k_ Ao62 t447 co62 ∧ (ns_ k_ Ao72 t449 co72 ∧ (ns_ k_ Ao73 t450 co73 ∧ (ns_ k_ Ao74 t451 co74 ∧ (ns_ k_ Ao84 t410 co84 ∧ (ns_ k_ Ao85 t413 co85 ∧ ns_ k_ Ao86 t416 co86)))))))))))))))))))) (n := t379.length) (c := co48) ?_).2.2; exact (lt_ ((m1_ (fr4_ HO_387002.out BK489.out (.int .i64 t478) (.slice Ao182 t479.length co182) (.slice Ao184 t482.length co184) (.slice Ao186 t485.length co186)))))); (case side10 => exact (Kd.R_reads' HO_387002.out).2.1); (case side11 => refine (Kd.R_reads' (e := 3) (base := w.heap.size) (ok := fun k_ => (nb_ k_ v460 ∧ (nb_ k_ v463 ∧ (nb_ k_ v466 ∧ (nb_ k_ v470 ∧ (nb_ k_ v473 ∧ (nb_ k_ v476 ∧ (ns_ k_ Ao182 t479 co182 ∧ (ns_ k_ Ao184 t482 co184 ∧ (ns_ k_ Ao186 t485 co186 ∧ (ns_ k_ Ao46 t376 co46 ∧ (ns_ k_ Ao48 t379 co48 ∧ (ns_ k_ Ao60 t445 co60 ∧ (ns_ k_ Ao61 t446 co61 ∧ (ns_ k_ Ao62 t447 co62 ∧ (ns_ k_ Ao72 t449 co72 ∧ (ns_ k_ Ao73 t450 co73 ∧ (ns_ k_ Ao74 t451 co74 ∧ (ns_ k_ Ao84 t410 co84 ∧ (ns_ k_ Ao85 t413 co85 ∧ ns_ k_ Ao86 t416 co86)))))))))))))))))))) (n := t382.length) (c := co50) ?_).2.2; exact (lt_ ((m1_ (fr4_ HO_387003.out BK489.out (.int .i64 t478) (.slice Ao182 t479.length co182) (.slice Ao184 t482.length co184) (.slice Ao186 t485.length co186)))))); (case side12 => exact (Kd.R_reads' HO_387003.out).2.1); rintro e w203 ⟨rfl, hb⟩; refine ⟨_, rfl, ?_⟩; replace HO_387001 := am_ (Kd.R_below (lt_ ((m1_ (fr4_ HO_387001.out BK489.out (.int .i64 t478) (.slice Ao182 t479.length co182) (.slice Ao184 t482.length co184) (.slice Ao186 t485.length co186))))) hb); replace HO_387002 := am_ (Kd.R_below (lt_ ((m1_ (fr4_ HO_387002.out BK489.out (.int .i64 t478) (.slice Ao182 t479.length co182) (.slice Ao184 t482.length co184) (.slice Ao186 t485.length co186))))) hb); replace HO_387003 := am_ (Kd.R_below (lt_ ((m1_ (fr4_ HO_387003.out BK489.out (.int .i64 t478) (.slice Ao182 t479.length co182) (.slice Ao184 t482.length co184) (.slice Ao186 t485.length co186))))) hb); replace HO_398001 := am_ (Kd.R_below (lt_ ((m1_ (fr4_ HO_398001.out BK489.out (.int .i64 t478) (.slice Ao182 t479.length co182) (.slice Ao184 t482.length co184) (.slice Ao186 t485.length co186))))) hb); replace HO_398002 := am_ (Kd.R_below (lt_ ((m1_ (fr4_ HO_398002.out BK489.out (.int .i64 t478) (.slice Ao182 t479.length co182) (.slice Ao184 t482.length co184) (.slice Ao186 t485.length co186))))) hb); replace HO_398003 := am_ (Kd.R_below (lt_ ((m1_ (fr4_ HO_398003.out BK489.out (.int .i64 t478) (.slice Ao182 t479.length co182) (.slice Ao184 t482.length co184) (.slice Ao186 t485.length co186))))) hb); replace HO_409001 := am_ (Kd.R_below (lt_ ((m1_ (fr4_ HO_409001.out BK489.out (.int .i64 t478) (.slice Ao182 t479.length co182) (.slice Ao184 t482.length co184) (.slice Ao186 t485.length co186))))) hb); replace HO_409002 := am_ (Kd.R_below (lt_ ((m1_ (fr4_ HO_409002.out BK489.out (.int .i64 t478) (.slice Ao182 t479.length co182) (.slice Ao184 t482.length co184) (.slice Ao186 t485.length co186))))) hb); replace HO_409003 := am_ (Kd.R_below (lt_ ((m1_ (fr4_ HO_409003.out BK489.out (.int .i64 t478) (.slice Ao182 t479.length co182) (.slice Ao184 t482.length co184) (.slice Ao186 t485.length co186))))) hb); replace HO_421001 := am_ (Kd.R_below (lt_ ((m1_ (fr4_ HO_421001.out BK489.out (.int .i64 t478) (.slice Ao182 t479.length co182) (.slice Ao184 t482.length co184) (.slice Ao186 t485.length co186))))) hb); replace HO_421002 := am_ (Kd.R_below (lt_ ((m1_ (fr4_ HO_421002.out BK489.out (.int .i64 t478) (.slice Ao182 t479.length co182) (.slice Ao184 t482.length co184) (.slice Ao186 t485.length co186))))) hb); replace HO_421003 := am_ (Kd.R_below (lt_ ((m1_ (fr4_ HO_421003.out BK489.out (.int .i64 t478) (.slice Ao182 t479.length co182) (.slice Ao184 t482.length co184) (.slice Ao186 t485.length co186))))) hb); replace HO461 := am_ (Kd.R_below (lt_ ((m1_ (fr4_ HO461.out BK489.out (.int .i64 t478) (.slice Ao182 t479.length co182) (.slice Ao184 t482.length co184) (.slice Ao186 t485.length co186))))) hb); replace HO464 := am_ (Kd.R_below (lt_ ((m1_ (fr4_ HO464.out BK489.out (.int .i64 t478) (.slice Ao182 t479.length co182) (.slice Ao184 t482.length co184) (.slice Ao186 t485.length co186))))) hb); replace HO467 := am_ (Kd.R_below (lt_ ((m1_ (fr4_ HO467.out BK489.out (.int .i64 t478) (.slice Ao182 t479.length co182) (.slice Ao184 t482.length co184) (.slice Ao186 t485.length co186))))) hb); replace HO471 := am_ (Kd.R_below (lt_ ((m1_ (fr4_ HO471.out BK489.out (.int .i64 t478) (.slice Ao182 t479.length co182) (.slice Ao184 t482.length co184) (.slice Ao186 t485.length co186))))) hb); replace HO474 := am_ (Kd.R_below (lt_ ((m1_ (fr4_ HO474.out BK489.out (.int .i64 t478) (.slice Ao182 t479.length co182) (.slice Ao184 t482.length co184) (.slice Ao186 t485.length co186))))) hb); replace HO477 := am_ (Kd.R_below (lt_ ((m1_ (fr4_ HO477.out BK489.out (.int .i64 t478) (.slice Ao182 t479.length co182) (.slice Ao184 t482.length co184) (.slice Ao186 t485.length co186))))) hb); replace HO481 := am_ (Kd.R_below (lt_ ((m1_ (fr4_ HO481.out BK489.out (.int .i64 t478) (.slice Ao182 t479.length co182) (.slice Ao184 t482.length co184) (.slice Ao186 t485.length co186))))) hb); replace HO484 := am_ (Kd.R_below (lt_ ((m1_ (fr4_ HO484.out BK489.out (.int .i64 t478) (.slice Ao182 t479.length co182) (.slice Ao184 t482.length co184) (.slice Ao186 t485.length co186))))) hb); replace HO487 := am_ (Kd.R_below (lt_ ((m1_ (fr4_ HO487.out BK489.out (.int .i64 t478) (.slice Ao182 t479.length co182) (.slice Ao184 t482.length co184) (.slice Ao186 t485.length co186))))) hb); replace BK351 := am_ (blk_below (g := gb351) (lg_ BK351) hb); replace BK352 := am_ (blk_below (g := gb352) (lg_ BK352) hb); replace BK386 := am_ (blk_below (g := gb386) (lg_ BK386) hb); replace BK397 := am_ (blk_below (g := gb397) (lg_ BK397) hb); replace BK408 := am_ (blk_below (g := gb408) (lg_ BK408) hb); replace BK420 := am_ (blk_below (g := gb420) (lg_ BK420) hb); replace BK489 := am_ (blk_below (g := gb489) (o := .cells #[.int .i64 t478, .slice Ao182 t479.length co182, .slice Ao184 t482.length co184, .slice Ao186 t485.length co186] 48 (0, 0)) (lq_ BK489) hb); replace HB := am_ (below_step (lw_ HB) hb); (try clear hb); (try clear hb2); (try clear hk); (try clear hi)))
       go_meet
       case rel => exact ⟨_, ((t488 != t385)), sr_, H', ⟨by have := HJ24.out; have := HJ109.out; first | omega | exact Nat.le_refl _⟩, ⟨by (try simp only [hl398001_109]); (try simp only [hl398002_109]); (try simp only [hl398003_109]); (try simp only [hl409001_109]); (try simp only [hl409002_109]); (try simp only [hl409003_109]); (with_reducible repeat (first | apply Kd.R_alloc | apply Kd.R_drewN | apply Kd.R_drew)); exact Kd.R_mono HO_387001.out (fun _ hk => ⟨hk.2.2.2.2.2.2.2.2.2.1, ⟨hk.2.2.2.2.2.2.2.2.2.2.1, ⟨hk.2.2.2.2.2.2.2.2.2.2.2.1, ⟨hk.2.2.2.2.2.2.2.2.2.2.2.2.1, ⟨hk.2.2.2.2.2.2.2.2.2.2.2.2.2.1, ⟨hk.2.2.2.2.2.2.2.2.2.2.2.2.2.2.1, ⟨hk.2.2.2.2.2.2.2.2.2.2.2.2.2.2.2.1, ⟨hk.2.2.2.2.2.2.2.2.2.2.2.2.2.2.2.2.1, ⟨hk.2.2.2.2.2.2.2.2.2.2.2.2.2.2.2.2.2.1, ⟨hk.2.2.2.2.2.2.2.2.2.2.2.2.2.2.2.2.2.2.1, ⟨hk.2.2.2.2.2.2.2.2.2.2.2.2.2.2.2.2.2.2.2, ⟨hk.2.2.2.2.2.2.1, ⟨hk.2.2.2.2.2.2.2.1, hk.2.2.2.2.2.2.2.2.1⟩⟩⟩⟩⟩⟩⟩⟩⟩⟩⟩⟩⟩)⟩, ⟨by (try simp only [hl398001_109]); (try simp only [hl398002_109]); (try simp only [hl398003_109]); (try simp only [hl409001_109]); (try simp only [hl409002_109]); (try simp only [hl409003_109]); (with_reducible repeat (first | apply Kd.R_alloc | apply Kd.R_drewN | apply Kd.R_drew)); exact Kd.R_mono HO_387002.out (fun _ hk => ⟨hk.2.2.2.2.2.2.2.2.2.1, ⟨hk.2.2.2.2.2.2.2.2.2.2.1, ⟨hk.2.2.2.2.2.2.2.2.2.2.2.1, ⟨hk.2.2.2.2.2.2.2.2.2.2.2.2.1, ⟨hk.2.2.2.2.2.2.2.2.2.2.2.2.2.1, ⟨hk.2.2.2.2.2.2.2.2.2.2.2.2.2.2.1, ⟨hk.2.2.2.2.2.2.2.2.2.2.2.2.2.2.2.1, ⟨hk.2.2.2.2.2.2.2.2.2.2.2.2.2.2.2.2.1, ⟨hk.2.2.2.2.2.2.2.2.2.2.2.2.2.2.2.2.2.1, ⟨hk.2.2.2.2.2.2.2.2.2.2.2.2.2.2.2.2.2.2.1, ⟨hk.2.2.2.2.2.2.2.2.2.2.2.2.2.2.2.2.2.2.2, ⟨hk.2.2.2.2.2.2.1, ⟨hk.2.2.2.2.2.2.2.1, hk.2.2.2.2.2.2.2.2.1⟩⟩⟩⟩⟩⟩⟩⟩⟩⟩⟩⟩⟩)⟩, ⟨by (try simp only [hl398001_109]); (try simp only [hl398002_109]); (try simp only [hl398003_109]); (try simp only [hl409001_109]); (try simp only [hl409002_109]); (try simp only [hl409003_109]); (with_reducible repeat (first | apply Kd.R_alloc | apply Kd.R_drewN | apply Kd.R_drew)); exact Kd.R_mono HO_387003.out (fun _ hk => ⟨hk.2.2.2.2.2.2.2.2.2.1, ⟨hk.2.2.2.2.2.2.2.2.2.2.1, ⟨hk.2.2.2.2.2.2.2.2.2.2.2.1, ⟨hk.2.2.2.2.2.2.2.2.2.2.2.2.1, ⟨hk.2.2.2.2.2.2.2.2.2.2.2.2.2.1, ⟨hk.2.2.2.2.2.2.2.2.2.2.2.2.2.2.1, ⟨hk.2.2.2.2.2.2.2.2.2.2.2.2.2.2.2.1, ⟨hk.2.2.2.2.2.2.2.2.2.2.2.2.2.2.2.2.1, ⟨hk.2.2.2.2.2.2.2.2.2.2.2.2.2.2.2.2.2.1, ⟨hk.2.2.2.2.2.2.2.2.2.2.2.2.2.2.2.2.2.2.1, ⟨hk.2.2.2.2.2.2.2.2.2.2.2.2.2.2.2.2.2.2.2, ⟨hk.2.2.2.2.2.2.1, ⟨hk.2.2.2.2.2.2.2.1, hk.2.2.2.2.2.2.2.2.1⟩⟩⟩⟩⟩⟩⟩⟩⟩⟩⟩⟩⟩)⟩, ⟨by (try simp only [hl398001_109]); (try simp only [hl398002_109]); (try simp only [hl398003_109]); (try simp only [hl409001_109]); (try simp only [hl409002_109]); (try simp only [hl409003_109]); (with_reducible repeat (first | apply Kd.R_alloc | apply Kd.R_drewN | apply Kd.R_drew)); exact Kd.R_mono HO_398001.out (fun _ hk => ⟨hk.2.2.2.2.2.2.2.2.2.1, ⟨hk.2.2.2.2.2.2.2.2.2.2.1, ⟨hk.2.2.2.2.2.2.2.2.2.2.2.1, ⟨hk.2.2.2.2.2.2.2.2.2.2.2.2.1, ⟨hk.2.2.2.2.2.2.2.2.2.2.2.2.2.1, ⟨hk.2.2.2.2.2.2.2.2.2.2.2.2.2.2.1, ⟨hk.2.2.2.2.2.2.2.2.2.2.2.2.2.2.2.1, ⟨hk.2.2.2.2.2.2.2.2.2.2.2.2.2.2.2.2.1, ⟨hk.2.2.2.2.2.2.2.2.2.2.2.2.2.2.2.2.2.1, ⟨hk.2.2.2.2.2.2.2.2.2.2.2.2.2.2.2.2.2.2.1, ⟨hk.2.2.2.2.2.2.2.2.2.2.2.2.2.2.2.2.2.2.2, ⟨hk.2.2.2.2.2.2.1, ⟨hk.2.2.2.2.2.2.2.1, hk.2.2.2.2.2.2.2.2.1⟩⟩⟩⟩⟩⟩⟩⟩⟩⟩⟩⟩⟩)⟩, ⟨by (try simp only [hl398001_109]); (try simp only [hl398002_109]); (try simp only [hl398003_109]); (try simp only [hl409001_109]); (try simp only [hl409002_109]); (try simp only [hl409003_109]); (with_reducible repeat (first | apply Kd.R_alloc | apply Kd.R_drewN | apply Kd.R_drew)); exact Kd.R_mono HO_398002.out (fun _ hk => ⟨hk.2.2.2.2.2.2.2.2.2.1, ⟨hk.2.2.2.2.2.2.2.2.2.2.1, ⟨hk.2.2.2.2.2.2.2.2.2.2.2.1, ⟨hk.2.2.2.2.2.2.2.2.2.2.2.2.1, ⟨hk.2.2.2.2.2.2.2.2.2.2.2.2.2.1, ⟨hk.2.2.2.2.2.2.2.2.2.2.2.2.2.2.1, ⟨hk.2.2.2.2.2.2.2.2.2.2.2.2.2.2.2.1, ⟨hk.2.2.2.2.2.2.2.2.2.2.2.2.2.2.2.2.1, ⟨hk.2.2.2.2.2.2.2.2.2.2.2.2.2.2.2.2.2.1, ⟨hk.2.2.2.2.2.2.2.2.2.2.2.2.2.2.2.2.2.2.1, ⟨hk.2.2.2.2.2.2.2.2.2.2.2.2.2.2.2.2.2.2.2, ⟨hk.2.2.2.2.2.2.1, ⟨hk.2.2.2.2.2.2.2.1, hk.2.2.2.2.2.2.2.2.1⟩⟩⟩⟩⟩⟩⟩⟩⟩⟩⟩⟩⟩)⟩, ⟨by (try simp only [hl398001_109]); (try simp only [hl398002_109]); (try simp only [hl398003_109]); (try simp only [hl409001_109]); (try simp only [hl409002_109]); (try simp only [hl409003_109]); (with_reducible repeat (first | apply Kd.R_alloc | apply Kd.R_drewN | apply Kd.R_drew)); exact Kd.R_mono HO_398003.out (fun _ hk => ⟨hk.2.2.2.2.2.2.2.2.2.1, ⟨hk.2.2.2.2.2.2.2.2.2.2.1, ⟨hk.2.2.2.2.2.2.2.2.2.2.2.1, ⟨hk.2.2.2.2.2.2.2.2.2.2.2.2.1, ⟨hk.2.2.2.2.2.2.2.2.2.2.2.2.2.1, ⟨hk.2.2.2.2.2.2.2.2.2.2.2.2.2.2.1, ⟨hk.2.2.2.2.2.2.2.2.2.2.2.2.2.2.2.1, ⟨hk.2.2.2.2.2.2.2.2.2.2.2.2.2.2.2.2.1, ⟨hk.2.2.2.2.2.2.2.2.2.2.2.2.2.2.2.2.2.1, ⟨hk.2.2.2.2.2.2.2.2.2.2.2.2.2.2.2.2.2.2.1, ⟨hk.2.2.2.2.2.2.2.2.2.2.2.2.2.2.2.2.2.2.2, ⟨hk.2.2.2.2.2.2.1, ⟨hk.2.2.2.2.2.2.2.1, hk.2.2.2.2.2.2.2.2.1⟩⟩⟩⟩⟩⟩⟩⟩⟩⟩⟩⟩⟩)⟩, ⟨by (try simp only [hl398001_109]); (try simp only [hl398002_109]); (try simp only [hl398003_109]); (try simp only [hl409001_109]); (try simp only [hl409002_109]); (try simp only [hl409003_109]); (with_reducible repeat (first | apply Kd.R_alloc | apply Kd.R_drewN | apply Kd.R_drew)); exact Kd.R_mono HO_409001.out (fun _ hk => ⟨hk.2.2.2.2.2.2.2.2.2.1, ⟨hk.2.2.2.2.2.2.2.2.2.2.1, ⟨hk.2.2.2.2.2.2.2.2.2.2.2.1, ⟨hk.2.2.2.2.2.2.2.2.2.2.2.2.1, ⟨hk.2.2.2.2.2.2.2.2.2.2.2.2.2.1, ⟨hk.2.2.2.2.2.2.2.2.2.2.2.2.2.2.1, ⟨hk.2.2.2.2.2.2.2.2.2.2.2.2.2.2.2.1, ⟨hk.2.2.2.2.2.2.2.2.2.2.2.2.2.2.2.2.1, ⟨hk.2.2.2.2.2.2.2.2.2.2.2.2.2.2.2.2.2.1, ⟨hk.2.2.2.2.2.2.2.2.2.2.2.2.2.2.2.2.2.2.1, ⟨hk.2.2.2.2.2.2.2.2.2.2.2.2.2.2.2.2.2.2.2, ⟨hk.2.2.2.2.2.2.1, ⟨hk.2.2.2.2.2.2.2.1, hk.2.2.2.2.2.2.2.2.1⟩⟩⟩⟩⟩⟩⟩⟩⟩⟩⟩⟩⟩)⟩, ⟨by (try simp only [hl398001_109]); (try simp only [hl398002_109]); (try simp only [hl398003_109]); (try simp only [hl409001_109]); (try simp only [hl409002_109]); (try simp only [hl409003_109]); (with_reducible repeat (first | apply Kd.R_alloc | apply Kd.R_drewN | apply Kd.R_drew)); exact Kd.R_mono HO_409002.out (fun _ hk => ⟨hk.2.2.2.2.2.2.2.2.2.1, ⟨hk.2.2.2.2.2.2.2.2.2.2.1, ⟨hk.2.2.2.2.2.2.2.2.2.2.2.1, ⟨hk.2.2.2.2.2.2.2.2.2.2.2.2.1, ⟨hk.2.2.2.2.2.2.2.2.2.2.2.2.2.1, ⟨hk.2.2.2.2.2.2.2.2.2.2.2.2.2.2.1, ⟨hk.2.2.2.2.2.2.2.2.2.2.2.2.2.2.2.1, ⟨hk.2.2.2.2.2.2.2.2.2.2.2.2.2.2.2.2.1, ⟨hk.2.2.2.2.2.2.2.2.2.2.2.2.2.2.2.2.2.1, ⟨hk.2.2.2.2.2.2.2.2.2.2.2.2.2.2.2.2.2.2.1, ⟨hk.2.2.2.2.2.2.2.2.2.2.2.2.2.2.2.2.2.2.2, ⟨hk.2.2.2.2.2.2.1, ⟨hk.2.2.2.2.2.2.2.1, hk.2.2.2.2.2.2.2.2.1⟩⟩⟩⟩⟩⟩⟩⟩⟩⟩⟩⟩⟩)⟩, ⟨by (try simp only [hl398001_109]); (try simp only [hl398002_109]); (try simp only [hl398003_109]); (try simp only [hl409001_109]); (try simp only [hl409002_109]); (try simp only [hl409003_109]); (with_reducible repeat (first | apply Kd.R_alloc | apply Kd.R_drewN | apply Kd.R_drew)); exact Kd.R_mono HO_409003.out (fun _ hk => ⟨hk.2.2.2.2.2.2.2.2.2.1, ⟨hk.2.2.2.2.2.2.2.2.2.2.1, ⟨hk.2.2.2.2.2.2.2.2.2.2.2.1, ⟨hk.2.2.2.2.2.2.2.2.2.2.2.2.1, ⟨hk.2.2.2.2.2.2.2.2.2.2.2.2.2.1, ⟨hk.2.2.2.2.2.2.2.2.2.2.2.2.2.2.1, ⟨hk.2.2.2.2.2.2.2.2.2.2.2.2.2.2.2.1, ⟨hk.2.2.2.2.2.2.2.2.2.2.2.2.2.2.2.2.1, ⟨hk.2.2.2.2.2.2.2.2.2.2.2.2.2.2.2.2.2.1, ⟨hk.2.2.2.2.2.2.2.2.2.2.2.2.2.2.2.2.2.2.1, ⟨hk.2.2.2.2.2.2.2.2.2.2.2.2.2.2.2.2.2.2.2, ⟨hk.2.2.2.2.2.2.1, ⟨hk.2.2.2.2.2.2.2.1, hk.2.2.2.2.2.2.2.2.1⟩⟩⟩⟩⟩⟩⟩⟩⟩⟩⟩⟩⟩)⟩, ⟨by (try simp only [hl398001_109]); (try simp only [hl398002_109]); (try simp only [hl398003_109]); (try simp only [hl409001_109]); (try simp only [hl409002_109]); (try simp only [hl409003_109]); (with_reducible repeat (first | apply Kd.R_alloc | apply Kd.R_drewN | apply Kd.R_drew)); exact Kd.R_mono HO_421001.out (fun _ hk => ⟨hk.2.2.2.2.2.2.2.2.2.1, ⟨hk.2.2.2.2.2.2.2.2.2.2.1, ⟨hk.2.2.2.2.2.2.2.2.2.2.2.1, ⟨hk.2.2.2.2.2.2.2.2.2.2.2.2.1, ⟨hk.2.2.2.2.2.2.2.2.2.2.2.2.2.1, ⟨hk.2.2.2.2.2.2.2.2.2.2.2.2.2.2.1, ⟨hk.2.2.2.2.2.2.2.2.2.2.2.2.2.2.2.1, ⟨hk.2.2.2.2.2.2.2.2.2.2.2.2.2.2.2.2.1, ⟨hk.2.2.2.2.2.2.2.2.2.2.2.2.2.2.2.2.2.1, ⟨hk.2.2.2.2.2.2.2.2.2.2.2.2.2.2.2.2.2.2.1, ⟨hk.2.2.2.2.2.2.2.2.2.2.2.2.2.2.2.2.2.2.2, ⟨hk.2.2.2.2.2.2.1, ⟨hk.2.2.2.2.2.2.2.1, hk.2.2.2.2.2.2.2.2.1⟩⟩⟩⟩⟩⟩⟩⟩⟩⟩⟩⟩⟩)⟩, ⟨by (try simp only [hl398001_109]); (try simp only [hl398002_109]); (try simp only [hl398003_109]); (try simp only [hl409001_109]); (try simp only [hl409002_109]); (try simp only [hl409003_109]); (with_reducible repeat (first | apply Kd.R_alloc | apply Kd.R_drewN | apply Kd.R_drew)); exact Kd.R_mono HO_421002.out (fun _ hk => ⟨hk.2.2.2.2.2.2.2.2.2.1, ⟨hk.2.2.2.2.2.2.2.2.2.2.1, ⟨hk.2.2.2.2.2.2.2.2.2.2.2.1, ⟨hk.2.2.2.2.2.2.2.2.2.2.2.2.1, ⟨hk.2.2.2.2.2.2.2.2.2.2.2.2.2.1, ⟨hk.2.2.2.2.2.2.2.2.2.2.2.2.2.2.1, ⟨hk.2.2.2.2.2.2.2.2.2.2.2.2.2.2.2.1, ⟨hk.2.2.2.2.2.2.2.2.2.2.2.2.2.2.2.2.1, ⟨hk.2.2.2.2.2.2.2.2.2.2.2.2.2.2.2.2.2.1, ⟨hk.2.2.2.2.2.2.2.2.2.2.2.2.2.2.2.2.2.2.1, ⟨hk.2.2.2.2.2.2.2.2.2.2.2.2.2.2.2.2.2.2.2, ⟨hk.2.2.2.2.2.2.1, ⟨hk.2.2.2.2.2.2.2.1, hk.2.2.2.2.2.2.2.2.1⟩⟩⟩⟩⟩⟩⟩⟩⟩⟩⟩⟩⟩)⟩, ⟨by (try simp only [hl398001_109]); (try simp only [hl398002_109]); (try simp only [hl398003_109]); (try simp only [hl409001_109]); (try simp only [hl409002_109]); (try simp only [hl409003_109]); (with_reducible repeat (first | apply Kd.R_alloc | apply Kd.R_drewN | apply Kd.R_drew)); exact Kd.R_mono HO_421003.out (fun _ hk => ⟨hk.2.2.2.2.2.2.2.2.2.1, ⟨hk.2.2.2.2.2.2.2.2.2.2.1, ⟨hk.2.2.2.2.2.2.2.2.2.2.2.1, ⟨hk.2.2.2.2.2.2.2.2.2.2.2.2.1, ⟨hk.2.2.2.2.2.2.2.2.2.2.2.2.2.1, ⟨hk.2.2.2.2.2.2.2.2.2.2.2.2.2.2.1, ⟨hk.2.2.2.2.2.2.2.2.2.2.2.2.2.2.2.1, ⟨hk.2.2.2.2.2.2.2.2.2.2.2.2.2.2.2.2.1, ⟨hk.2.2.2.2.2.2.2.2.2.2.2.2.2.2.2.2.2.1, ⟨hk.2.2.2.2.2.2.2.2.2.2.2.2.2.2.2.2.2.2.1, ⟨hk.2.2.2.2.2.2.2.2.2.2.2.2.2.2.2.2.2.2.2, ⟨hk.2.2.2.2.2.2.1, ⟨hk.2.2.2.2.2.2.2.1, hk.2.2.2.2.2.2.2.2.1⟩⟩⟩⟩⟩⟩⟩⟩⟩⟩⟩⟩⟩)⟩, ⟨by (try simp only [hl398001_109]); (try simp only [hl398002_109]); (try simp only [hl398003_109]); (try simp only [hl409001_109]); (try simp only [hl409002_109]); (try simp only [hl409003_109]); (with_reducible repeat (first | apply Kd.R_alloc | apply Kd.R_drewN | apply Kd.R_drew)); exact Kd.R_mono HO481.out (fun _ hk => ⟨hk.2.2.2.2.2.2.2.2.1, ⟨hk.2.2.2.2.2.2.2.2.2.1, ⟨hk.2.2.2.2.2.2.2.2.2.2.1, ⟨hk.2.2.2.2.2.2.2.2.2.2.2.1, ⟨hk.2.2.2.2.2.2.2.2.2.2.2.2.1, ⟨hk.2.2.2.2.2.2.2.2.2.2.2.2.2.1, ⟨hk.2.2.2.2.2.2.2.2.2.2.2.2.2.2.1, ⟨hk.2.2.2.2.2.2.2.2.2.2.2.2.2.2.2.1, ⟨hk.2.2.2.2.2.2.2.2.2.2.2.2.2.2.2.2.1, ⟨hk.2.2.2.2.2.2.2.2.2.2.2.2.2.2.2.2.2.1, ⟨hk.2.2.2.2.2.2.2.2.2.2.2.2.2.2.2.2.2.2.1, ⟨hk.2.2.2.2.2.2.2.2.2.2.2.2.2.2.2.2.2.2.2, ⟨hk.2.2.2.2.2.2.1, hk.2.2.2.2.2.2.2.1⟩⟩⟩⟩⟩⟩⟩⟩⟩⟩⟩⟩⟩)⟩, ⟨by (try simp only [hl398001_109]); (try simp only [hl398002_109]); (try simp only [hl398003_109]); (try simp only [hl409001_109]); (try simp only [hl409002_109]); (try simp only [hl409003_109]); (with_reducible repeat (first | apply Kd.R_alloc | apply Kd.R_drewN | apply Kd.R_drew)); exact Kd.R_mono HO484.out (fun _ hk => ⟨hk.2.2.2.2.2.2.2.2.1, ⟨hk.2.2.2.2.2.2.2.2.2.1, ⟨hk.2.2.2.2.2.2.2.2.2.2.1, ⟨hk.2.2.2.2.2.2.2.2.2.2.2.1, ⟨hk.2.2.2.2.2.2.2.2.2.2.2.2.1, ⟨hk.2.2.2.2.2.2.2.2.2.2.2.2.2.1, ⟨hk.2.2.2.2.2.2.2.2.2.2.2.2.2.2.1, ⟨hk.2.2.2.2.2.2.2.2.2.2.2.2.2.2.2.1, ⟨hk.2.2.2.2.2.2.2.2.2.2.2.2.2.2.2.2.1, ⟨hk.2.2.2.2.2.2.2.2.2.2.2.2.2.2.2.2.2.1, ⟨hk.2.2.2.2.2.2.2.2.2.2.2.2.2.2.2.2.2.2.1, ⟨hk.2.2.2.2.2.2.2.2.2.2.2.2.2.2.2.2.2.2.2, ⟨hk.2.2.2.2.2.2.1, hk.2.2.2.2.2.2.2.1⟩⟩⟩⟩⟩⟩⟩⟩⟩⟩⟩⟩⟩)⟩, ⟨by (try simp only [hl398001_109]); (try simp only [hl398002_109]); (try simp only [hl398003_109]); (try simp only [hl409001_109]); (try simp only [hl409002_109]); (try simp only [hl409003_109]); (with_reducible repeat (first | apply Kd.R_alloc | apply Kd.R_drewN | apply Kd.R_drew)); exact Kd.R_mono HO487.out (fun _ hk => ⟨hk.2.2.2.2.2.2.2.2.1, ⟨hk.2.2.2.2.2.2.2.2.2.1, ⟨hk.2.2.2.2.2.2.2.2.2.2.1, ⟨hk.2.2.2.2.2.2.2.2.2.2.2.1, ⟨hk.2.2.2.2.2.2.2.2.2.2.2.2.1, ⟨hk.2.2.2.2.2.2.2.2.2.2.2.2.2.1, ⟨hk.2.2.2.2.2.2.2.2.2.2.2.2.2.2.1, ⟨hk.2.2.2.2.2.2.2.2.2.2.2.2.2.2.2.1, ⟨hk.2.2.2.2.2.2.2.2.2.2.2.2.2.2.2.2.1, ⟨hk.2.2.2.2.2.2.2.2.2.2.2.2.2.2.2.2.2.1, ⟨hk.2.2.2.2.2.2.2.2.2.2.2.2.2.2.2.2.2.2.1, ⟨hk.2.2.2.2.2.2.2.2.2.2.2.2.2.2.2.2.2.2.2, ⟨hk.2.2.2.2.2.2.1, hk.2.2.2.2.2.2.2.1⟩⟩⟩⟩⟩⟩⟩⟩⟩⟩⟩⟩⟩)⟩, ⟨by (try simp only [hl398001_109]); (try simp only [hl398002_109]); (try simp only [hl398003_109]); (try simp only [hl409001_109]); (try simp only [hl409002_109]); (try simp only [hl409003_109]); (with_reducible repeat (first | refine blk_drewN ?_ _ | refine blk_drew ?_ | refine blk_alloc ?_ _)); exact BK351.out⟩, ⟨by (try simp only [hl398001_109]); (try simp only [hl398002_109]); (try simp only [hl398003_109]); (try simp only [hl409001_109]); (try simp only [hl409002_109]); (try simp only [hl409003_109]); (with_reducible repeat (first | refine blk_drewN ?_ _ | refine blk_drew ?_ | refine blk_alloc ?_ _)); exact BK352.out⟩, ⟨by (try simp only [hl398001_109]); (try simp only [hl398002_109]); (try simp only [hl398003_109]); (try simp only [hl409001_109]); (try simp only [hl409002_109]); (try simp only [hl409003_109]); (with_reducible repeat (first | refine blk_drewN ?_ _ | refine blk_drew ?_ | refine blk_alloc ?_ _)); exact BK386.out⟩, ⟨by (try simp only [hl398001_109]); (try simp only [hl398002_109]); (try simp only [hl398003_109]); (try simp only [hl409001_109]); (try simp only [hl409002_109]); (try simp only [hl409003_109]); (with_reducible repeat (first | refine blk_drewN ?_ _ | refine blk_drew ?_ | refine blk_alloc ?_ _)); exact BK397.out⟩, ⟨by (try simp only [hl398001_109]); (try simp only [hl398002_109]); (try simp only [hl398003_109]); (try simp only [hl409001_109]); (try simp only [hl409002_109]); (try simp only [hl409003_109]); (with_reducible repeat (first | refine blk_drewN ?_ _ | refine blk_drew ?_ | refine blk_alloc ?_ _)); exact BK408.out⟩, ⟨by (try simp only [hl398001_109]); (try simp only [hl398002_109]); (try simp only [hl398003_109]); (try simp only [hl409001_109]); (try simp only [hl409002_109]); (try simp only [hl409003_109]); (with_reducible repeat (first | refine blk_drewN ?_ _ | refine blk_drew ?_ | refine blk_alloc ?_ _)); exact BK420.out⟩, ⟨by (try simp only [hl398001_109]); (try simp only [hl398002_109]); (try simp only [hl398003_109]); (try simp only [hl409001_109]); (try simp only [hl409002_109]); (try simp only [hl409003_109]); (with_reducible repeat (first | refine blk_drewN ?_ _ | refine blk_drew ?_ | refine blk_alloc ?_ _)); exact BK489.out⟩, ⟨lw_ HB⟩⟩
      ·replace c189 := Bool.eq_false_iff.mpr c189
       subst c189
       have H1 : (none) = some r := by rw [if_neg (show ¬ (false = true) by decide)] at H; exact H
       clear H
       have H := H1
       clear H1
       exact absurd H (by simp)
     case rest =>
      clear HC159
      try clear c1
      try clear c2
      try clear p2
      try clear c3
      try clear c18
      try clear c19
      try clear c20
      try clear c36
      try clear c37
      try clear c38
      try clear c189
      try clear c190
      try clear c191
      try clear c192
      try clear c193
      try clear c194
      try clear c195
      try clear c197
      try clear c198
      try clear c199
      try clear c200
      try clear c201
      try clear hcz196_0
      try clear hcz196_1
      try clear hcz196_2
      try clear hcz196_3
      try clear hcz202_0
      try clear hcz202_1
      try clear hcz202_2
      try clear hcz202_3
      try clear hfz196_0
      try clear hfz196_1
      try clear hfz196_2
      try clear hfz196_3
      try clear hfz202_0
      try clear hfz202_1
      try clear hfz202_2
      try clear hfz202_3
      obtain ⟨kq, x110_158, rfl, HA, HJ158, HO_387001, HO_387002, HO_387003, HO_398001, HO_398002, HO_398003, HO_409001, HO_409002, HO_409003, HO_421001, HO_421002, HO_421003, HO_490001, HO_490002, HO_490003, BK351, BK352, BK386, BK397, BK408, BK420, BK489, HB⟩ := hcut
      have hl421001_158 := (Kd.R_reads' HO_421001.out).1
      rw [hl421001_158] at HO_421001
      (try simp only [hl421001_158])
      (try simp only [hl421001_158] at BK351)
      (try simp only [hl421001_158] at BK352)
      (try simp only [hl421001_158] at BK386)
      (try simp only [hl421001_158] at BK397)
      (try simp only [hl421001_158] at BK408)
      (try simp only [hl421001_158] at BK420)
      (try simp only [hl421001_158] at BK489)
      (try simp only [hl421001_158] at HO_387001)
      (try simp only [hl421001_158] at HO_387002)
      (try simp only [hl421001_158] at HO_387003)
      (try simp only [hl421001_158] at HO_398001)
      (try simp only [hl421001_158] at HO_398002)
      (try simp only [hl421001_158] at HO_398003)
      (try simp only [hl421001_158] at HO_409001)
      (try simp only [hl421001_158] at HO_409002)
      (try simp only [hl421001_158] at HO_409003)
      (try simp only [hl421001_158] at HO_421002)
      (try simp only [hl421001_158] at HO_421003)
      (try simp only [hl421001_158] at HO_490001)
      (try simp only [hl421001_158] at HO_490002)
      (try simp only [hl421001_158] at HO_490003)
      have hl421002_158 := (Kd.R_reads' HO_421002.out).1
      rw [hl421002_158] at HO_421002
      (try simp only [hl421002_158])
      (try simp only [hl421002_158] at BK351)
      (try simp only [hl421002_158] at BK352)
      (try simp only [hl421002_158] at BK386)
      (try simp only [hl421002_158] at BK397)
      (try simp only [hl421002_158] at BK408)
      (try simp only [hl421002_158] at BK420)
      (try simp only [hl421002_158] at BK489)
      (try simp only [hl421002_158] at HO_387001)
      (try simp only [hl421002_158] at HO_387002)
      (try simp only [hl421002_158] at HO_387003)
      (try simp only [hl421002_158] at HO_398001)
      (try simp only [hl421002_158] at HO_398002)
      (try simp only [hl421002_158] at HO_398003)
      (try simp only [hl421002_158] at HO_409001)
      (try simp only [hl421002_158] at HO_409002)
      (try simp only [hl421002_158] at HO_409003)
      (try simp only [hl421002_158] at HO_421001)
      (try simp only [hl421002_158] at HO_421003)
      (try simp only [hl421002_158] at HO_490001)
      (try simp only [hl421002_158] at HO_490002)
      (try simp only [hl421002_158] at HO_490003)
      have hl421003_158 := (Kd.R_reads' HO_421003.out).1
      rw [hl421003_158] at HO_421003
      (try simp only [hl421003_158])
      (try simp only [hl421003_158] at BK351)
      (try simp only [hl421003_158] at BK352)
      (try simp only [hl421003_158] at BK386)
      (try simp only [hl421003_158] at BK397)
      (try simp only [hl421003_158] at BK408)
      (try simp only [hl421003_158] at BK420)
      (try simp only [hl421003_158] at BK489)
      (try simp only [hl421003_158] at HO_387001)
      (try simp only [hl421003_158] at HO_387002)
      (try simp only [hl421003_158] at HO_387003)
      (try simp only [hl421003_158] at HO_398001)
      (try simp only [hl421003_158] at HO_398002)
      (try simp only [hl421003_158] at HO_398003)
      (try simp only [hl421003_158] at HO_409001)
      (try simp only [hl421003_158] at HO_409002)
      (try simp only [hl421003_158] at HO_409003)
      (try simp only [hl421003_158] at HO_421001)
      (try simp only [hl421003_158] at HO_421002)
      (try simp only [hl421003_158] at HO_490001)
      (try simp only [hl421003_158] at HO_490002)
      (try simp only [hl421003_158] at HO_490003)
      cases kq with
      | zero => exact absurd HA.out (by simp [laws_FnExactJoinRanked.j2])
      | succ kj158 =>
       have H := HA.out
       clear HA
       simp only [laws_FnExactJoinRanked.j2] at H
       by_cases c204 : x110_158 = true
       ·subst c204
        have H1 : (none) = some r := by rw [if_pos rfl] at H; exact H
        clear H
        have H := H1
        clear H1
        exact absurd H (by simp)
       ·replace c204 := Bool.eq_false_iff.mpr c204
        subst c204
        have H1 : ((laws_heldRanked.f kj158 t409 t454 t455 t456 1).bind fun t491 => (if t491 < 0 then (none) else (if t491 = t453 then (some true) else (none)))) = some r := by rw [if_neg (show ¬ (false = true) by decide)] at H; exact H
        clear H
        have H := H1
        clear H1
        replace H := Option.bind_eq_some_iff.mp H
        obtain ⟨t491, A2050, H⟩ := H
        replace H : (if t491 < 0 then (none) else (if t491 = t453 then (some true) else (none))) = some r := H
        have A205 := am_ A2050
        clear A2050
        by_cases c206 : t491 < 0
        ·rw [if_pos c206] at H
         exact absurd H (by simp)
        ·rw [if_neg c206] at H
         have c206b0 : decide (t491 < 0) = false := decide_eq_false c206
         clear c206
         by_cases c207 : t491 = t453
         ·rw [if_pos c207] at H
          have c207b0 : (t491 == t453) = true := beq_iff_eq.mpr c207
          have c207b1 : (t491 != t453) = false := bne_eq_false_iff_eq.mpr c207
          clear c207
          obtain rfl := Option.some.inj H
          have hnb208 := NB420_351.out
          have hnc208 := NB351_420.out
          have hnb209 := NB420_352.out
          have hnc209 := NB352_420.out
          have hnb210 := NB420_386.out
          have hnc210 := NB386_420.out
          have hnb211 := NB420_397.out
          have hnc211 := NB397_420.out
          have hnb212 := NB420_408.out
          have hnc212 := NB408_420.out
          have hnb213 := NB420_489.out
          have hnc213 := NB489_420.out
          obtain ⟨hcz214_0, hcz214_1, hcz214_2, hcz214_3, hfz214_0, hfz214_1, hfz214_2, hfz214_3⟩ := bx4_ BK420.out
          go_wp2_with (first | ((with_reducible refine gate_callee (f := 40) rfl ?_); refine goesL_ (some 113) rfl rfl Try.func40 (by kernel_rfl) rfl #[.agg #[.int .i64 t409, .slice Ao84 t454.length co84, .slice Ao85 t455.length co85, .slice Ao86 t456.length co86], .int .i64 1] rfl lm_ ?_; (with_reducible refine (laws_heldRanked.calls kj158 t409 _ _ t454 _ _ t455 _ _ t456 1 t491 _ ?side1 ?side2 ?side3 ?side4 ?side5 ?side6 A205.out).mono ?_); (case side1 => exact lc_ (Kd.R_reads' HO_421001.out).2.2); (case side2 => exact (Kd.R_reads' HO_421001.out).2.1); (case side3 => exact lc_ (Kd.R_reads' HO_421002.out).2.2); (case side4 => exact (Kd.R_reads' HO_421002.out).2.1); (case side5 => exact lc_ (Kd.R_reads' HO_421003.out).2.2); (case side6 => exact (Kd.R_reads' HO_421003.out).2.1); rintro e w215 ⟨rfl, hb⟩; refine ⟨_, rfl, ?_⟩; replace HO_387001 := am_ (Kd.R_below (lf_ HO_387001) hb); replace HO_387002 := am_ (Kd.R_below (lf_ HO_387002) hb); replace HO_387003 := am_ (Kd.R_below (lf_ HO_387003) hb); replace HO_398001 := am_ (Kd.R_below (lf_ HO_398001) hb); replace HO_398002 := am_ (Kd.R_below (lf_ HO_398002) hb); replace HO_398003 := am_ (Kd.R_below (lf_ HO_398003) hb); replace HO_409001 := am_ (Kd.R_below (lf_ HO_409001) hb); replace HO_409002 := am_ (Kd.R_below (lf_ HO_409002) hb); replace HO_409003 := am_ (Kd.R_below (lf_ HO_409003) hb); replace HO_421001 := am_ (Kd.R_below (lf_ HO_421001) hb); replace HO_421002 := am_ (Kd.R_below (lf_ HO_421002) hb); replace HO_421003 := am_ (Kd.R_below (lf_ HO_421003) hb); replace HO_490001 := am_ (Kd.R_below (lf_ HO_490001) hb); replace HO_490002 := am_ (Kd.R_below (lf_ HO_490002) hb); replace HO_490003 := am_ (Kd.R_below (lf_ HO_490003) hb); replace BK351 := am_ (blk_below (g := gb351) (lb_ BK351) hb); replace BK352 := am_ (blk_below (g := gb352) (lb_ BK352) hb); replace BK386 := am_ (blk_below (g := gb386) (lb_ BK386) hb); replace BK397 := am_ (blk_below (g := gb397) (lb_ BK397) hb); replace BK408 := am_ (blk_below (g := gb408) (lb_ BK408) hb); replace BK420 := am_ (blk_below (g := gb420) (lb_ BK420) hb); replace BK489 := am_ (blk_below (g := gb489) (lb_ BK489) hb); replace HB := am_ (below_step (lw_ HB) hb); (try clear hb); (try clear hb2); (try clear hk); (try clear hi)))
          go_ret
          exact ⟨er_, lw_ HB⟩
         ·rw [if_neg c207] at H
          exact absurd H (by simp)
    ·rw [if_neg c155] at H
     exact absurd H (by simp)
end Go.Proofs.Ytkmhjgejficclaa.PFnExactJoinRanked
