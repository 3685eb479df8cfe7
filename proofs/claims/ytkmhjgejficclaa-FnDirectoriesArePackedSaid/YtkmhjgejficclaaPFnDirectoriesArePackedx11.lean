-- Laid by a program of this session: the print of the kit with additions of ours (wip/tools/patchprint.py). Nothing of it is trusted: Lean checks it.
import Derived.Test.YtkmhjgejficclaaPFnDirectoriesArePackedx0
import Derived.Test.YtkmhjgejficclaaPFnDirectoriesArePackedx5
import Derived.Test.YtkmhjgejficclaaPFnDirectoriesArePackedx10
namespace Go.Proofs.Ytkmhjgejficclaa.PFnDirectoriesArePacked
open Go.RowKit Go.Proofs.YtkmhjgejficclaaW.PrintWords Go.Proofs.YtkmhjgejficclaaW.PrintLast Go.Proofs.YtkmhjgejficclaaW.PrintMore
attribute [local go_sem] max2_int min2_int max_two min_two max_three min_three max_four min_four   -- for this text's walks alone
set_option linter.unusedVariables false
set_option linter.unusedSimpArgs false

/-! ### spec_l1Cur_anyBits: function 103 -/
def spec_l1Cur_anyBits.f (k : Nat) (s0_0 : List Int) (s0_1 : Int) (s0_2 : Int) : Option (Int × List Int × Int × Int) := (spec_l1Cur_bits.f k s0_0 s0_1 s0_2 40).bind fun bt350 => ((spec_l1Cur_pick.f s0_0 bt350.2.2.1 bt350.2.2.2 16).bind fun bt357 => (if bt357.1 = 0 then ((spec_l1Cur_pick.f s0_0 bt357.2.1 bt357.2.2 2).bind fun bt360 => (if bt350.2.1.length < 17592186044416 then (some (bt350.1, (bt350.2.1 ++ [bt360.1]), bt360.2.1, bt360.2.2)) else (none))) else (if bt357.1 = 1 then ((spec_l1Cur_pick.f s0_0 bt357.2.1 bt357.2.2 3).bind fun bt366 => (some (wrap64 (bt350.1 + (wrap64 (bt366.1 - 1))), bt350.2.1, bt366.2.1, bt366.2.2))) else (if bt357.1 = 2 then (if (bt350.2.1.length : Int) > 0 then ((spec_l1Cur_pick.f s0_0 bt357.2.1 bt357.2.2 (bt350.2.1.length : Int)).bind fun bt369 => ((spec_l1Cur_among.f s0_0 bt369.2.1 bt369.2.2 (([(-1), 65535, 65536, 40000] : List Int))).bind fun bt375 => (if 0 ≤ bt369.1 then (if bt369.1 < (bt350.2.1.length : Int) then (some (bt350.1, (bt350.2.1.set (bt369.1 : Int).toNat bt375.1), bt375.2.1, bt375.2.2)) else (none)) else (none)))) else (some (bt350.1, bt350.2.1, bt357.2.1, bt357.2.2))) else (if bt357.1 = 3 then ((spec_l1Cur_pick.f s0_0 bt357.2.1 bt357.2.2 2).bind fun bt379 => ((spec_biNew.f (wrap64 (4096 - bt379.1))).bind fun bt382 => (some (bt382.1, bt382.2, bt379.2.1, bt379.2.2)))) else (if bt357.1 = 4 then ((spec_l1Cur_pick.f s0_0 bt357.2.1 bt357.2.2 5).bind fun bt386 => ((spec_biNew.f (wrap64 (16 * bt386.1))).bind fun bt389 => (some (bt389.1, bt389.2, bt386.2.1, bt386.2.2)))) else (some (bt350.1, bt350.2.1, bt357.2.1, bt357.2.2))))))))
theorem spec_l1Cur_anyBits.mono : ∀ a0 a1 a2 k, LeO (spec_l1Cur_anyBits.f k a0 a1 a2) (spec_l1Cur_anyBits.f (k + 1) a0 a1 a2) := by
 intro a0 a1 a2 k
 unfold spec_l1Cur_anyBits.f
 repeat' first
   | (with_reducible exact spec_l1Cur_bits.mono _ _ _ _ _)
   | (with_reducible exact LeO.refl _)
   | (with_reducible exact LeO.none _)
   | (with_reducible refine LeO.ite ?_ ?_)
   | (with_reducible refine LeO.bind ?_ (fun _ => ?_))
   | exact spec_l1Cur_bits.mono _ _ _ _ _
   | exact LeO.none _
   | refine LeO.ite ?_ ?_
   | refine LeO.bind ?_ (fun _ => ?_)
def spec_l1Cur_anyBits.T4 : Bool × List (List Nat × List Nat) := (true, [([], []), ([0], [0]), ([], []), ([2], [2]), ([3], [3]), ([1, 4, 3], [1, 4]), ([0, 1, 2, 3, 4, 5], []), ([6, 5, 5, 0, 1, 2, 3, 4, 5], [5, 6])])
def spec_l1Cur_anyBits.B4 : List Nat := [0, 1, 0, 4, 12, 31, 63, 127]
theorem spec_l1Cur_anyBits.tab4 : rtab .any (opsOf Try.f103 4) = spec_l1Cur_anyBits.T4 := by kernel_rfl
theorem spec_l1Cur_anyBits.bits4 : waitsOk spec_l1Cur_anyBits.T4.2 spec_l1Cur_anyBits.B4 = true := by kernel_rfl
def spec_l1Cur_anyBits.T6 : Bool × List (List Nat × List Nat) := (true, [([], []), ([0], [0]), ([], []), ([2], [2]), ([3], [3]), ([1, 4], [1, 4]), ([0, 1, 2, 3, 4, 5], []), ([6, 5, 3, 0, 1, 2, 3, 4, 5], [5, 6])])
def spec_l1Cur_anyBits.B6 : List Nat := [0, 1, 0, 4, 12, 31, 63, 127]
theorem spec_l1Cur_anyBits.tab6 : rtab .any (opsOf Try.f103 6) = spec_l1Cur_anyBits.T6 := by kernel_rfl
theorem spec_l1Cur_anyBits.bits6 : waitsOk spec_l1Cur_anyBits.T6.2 spec_l1Cur_anyBits.B6 = true := by kernel_rfl
def spec_l1Cur_anyBits.T9 : Bool × List (List Nat × List Nat) := (true, [([], []), ([0], [0]), ([], []), ([], []), ([3], [3]), ([4], [4]), ([2, 5], [2, 5]), ([], []), ([], []), ([7, 8, 6], [7, 8]), ([1, 6, 0, 1, 2, 3, 4, 5, 6, 7, 8, 9], [1, 6]), ([10, 9, 9, 0, 1, 2, 3, 4, 5, 6, 7, 8, 9], [9, 10])])
def spec_l1Cur_anyBits.B9 : List Nat := [0, 1, 0, 0, 8, 24, 60, 0, 0, 508, 1023, 2047]
theorem spec_l1Cur_anyBits.tab9 : rtab .any (opsOf Try.f103 9) = spec_l1Cur_anyBits.T9 := by kernel_rfl
theorem spec_l1Cur_anyBits.bits9 : waitsOk spec_l1Cur_anyBits.T9.2 spec_l1Cur_anyBits.B9 = true := by kernel_rfl
set_option maxHeartbeats 8000000 in
set_option maxRecDepth 100000 in
theorem spec_l1Cur_anyBits.calls (k : Nat) (g : Nat) (s0_0 : List Int) (s0_1 : Int) (s0_2 : Int) (r1 : Int) (r2 : List Int) (r3 : Int) (r4 : Int) (w0 w : World) (hI : IsS109 w0 w g s0_0 s0_1 s0_2) (hB : Below w0.heap.size w0 w) (h : spec_l1Cur_anyBits.f k s0_0 s0_1 s0_2 = some (r1, r2, r3, r4)) :
  Calls Try.prog 103 #[.pointer (some ⟨g, 0, none⟩)] w fun e w' => ∃ v1_ : Value, e = .returned (.agg #[.int .i64 r1, v1_]) ∧ Kd.R (Kd.int .i64) 3 w' w.heap.size (fun _ => True) v1_ r2 ∧ IsS109 w0 w' g s0_0 r3 r4 ∧ Below w0.heap.size w0 w' ∧ KeepBut w w' g none := by
 have hu26 := Try.underlying26
 have HI0 := am_ hI
 have HK := am_ (KeepBut.refl w g none)
 have HL := am_ hB.size
 clear hI
 have HW0 := am_ hB.size
 have HB := am_ hB
 clear hB
 have H : ((spec_l1Cur_bits.f k s0_0 s0_1 s0_2 40).bind fun bt350 => ((spec_l1Cur_pick.f s0_0 bt350.2.2.1 bt350.2.2.2 16).bind fun bt357 => (if bt357.1 = 0 then ((spec_l1Cur_pick.f s0_0 bt357.2.1 bt357.2.2 2).bind fun bt360 => (if bt350.2.1.length < 17592186044416 then (some (bt350.1, (bt350.2.1 ++ [bt360.1]), bt360.2.1, bt360.2.2)) else (none))) else (if bt357.1 = 1 then ((spec_l1Cur_pick.f s0_0 bt357.2.1 bt357.2.2 3).bind fun bt366 => (some (wrap64 (bt350.1 + (wrap64 (bt366.1 - 1))), bt350.2.1, bt366.2.1, bt366.2.2))) else (if bt357.1 = 2 then (if (bt350.2.1.length : Int) > 0 then ((spec_l1Cur_pick.f s0_0 bt357.2.1 bt357.2.2 (bt350.2.1.length : Int)).bind fun bt369 => ((spec_l1Cur_among.f s0_0 bt369.2.1 bt369.2.2 (([(-1), 65535, 65536, 40000] : List Int))).bind fun bt375 => (if 0 ≤ bt369.1 then (if bt369.1 < (bt350.2.1.length : Int) then (some (bt350.1, (bt350.2.1.set (bt369.1 : Int).toNat bt375.1), bt375.2.1, bt375.2.2)) else (none)) else (none)))) else (some (bt350.1, bt350.2.1, bt357.2.1, bt357.2.2))) else (if bt357.1 = 3 then ((spec_l1Cur_pick.f s0_0 bt357.2.1 bt357.2.2 2).bind fun bt379 => ((spec_biNew.f (wrap64 (4096 - bt379.1))).bind fun bt382 => (some (bt382.1, bt382.2, bt379.2.1, bt379.2.2)))) else (if bt357.1 = 4 then ((spec_l1Cur_pick.f s0_0 bt357.2.1 bt357.2.2 5).bind fun bt386 => ((spec_biNew.f (wrap64 (16 * bt386.1))).bind fun bt389 => (some (bt389.1, bt389.2, bt386.2.1, bt386.2.2)))) else (some (bt350.1, bt350.2.1, bt357.2.1, bt357.2.2))))))))) = some (r1, r2, r3, r4) := h
 clear h
 replace H := Option.bind_eq_some_iff.mp H
 obtain ⟨⟨t350, t351, t354, t355⟩, A20, H⟩ := H
 replace H : ((spec_l1Cur_pick.f s0_0 t354 t355 16).bind fun bt357 => (if bt357.1 = 0 then ((spec_l1Cur_pick.f s0_0 bt357.2.1 bt357.2.2 2).bind fun bt360 => (if t351.length < 17592186044416 then (some (t350, (t351 ++ [bt360.1]), bt360.2.1, bt360.2.2)) else (none))) else (if bt357.1 = 1 then ((spec_l1Cur_pick.f s0_0 bt357.2.1 bt357.2.2 3).bind fun bt366 => (some (wrap64 (t350 + (wrap64 (bt366.1 - 1))), t351, bt366.2.1, bt366.2.2))) else (if bt357.1 = 2 then (if (t351.length : Int) > 0 then ((spec_l1Cur_pick.f s0_0 bt357.2.1 bt357.2.2 (t351.length : Int)).bind fun bt369 => ((spec_l1Cur_among.f s0_0 bt369.2.1 bt369.2.2 (([(-1), 65535, 65536, 40000] : List Int))).bind fun bt375 => (if 0 ≤ bt369.1 then (if bt369.1 < (t351.length : Int) then (some (t350, (t351.set (bt369.1 : Int).toNat bt375.1), bt375.2.1, bt375.2.2)) else (none)) else (none)))) else (some (t350, t351, bt357.2.1, bt357.2.2))) else (if bt357.1 = 3 then ((spec_l1Cur_pick.f s0_0 bt357.2.1 bt357.2.2 2).bind fun bt379 => ((spec_biNew.f (wrap64 (4096 - bt379.1))).bind fun bt382 => (some (bt382.1, bt382.2, bt379.2.1, bt379.2.2)))) else (if bt357.1 = 4 then ((spec_l1Cur_pick.f s0_0 bt357.2.1 bt357.2.2 5).bind fun bt386 => ((spec_biNew.f (wrap64 (16 * bt386.1))).bind fun bt389 => (some (bt389.1, bt389.2, bt386.2.1, bt386.2.2)))) else (some (t350, t351, bt357.2.1, bt357.2.2)))))))) = some (r1, r2, r3, r4) := H
 have A2 := am_ A20
 clear A20
 replace H := Option.bind_eq_some_iff.mp H
 obtain ⟨⟨t357, t358, t359⟩, A30, H⟩ := H
 replace H : (if t357 = 0 then ((spec_l1Cur_pick.f s0_0 t358 t359 2).bind fun bt360 => (if t351.length < 17592186044416 then (some (t350, (t351 ++ [bt360.1]), bt360.2.1, bt360.2.2)) else (none))) else (if t357 = 1 then ((spec_l1Cur_pick.f s0_0 t358 t359 3).bind fun bt366 => (some (wrap64 (t350 + (wrap64 (bt366.1 - 1))), t351, bt366.2.1, bt366.2.2))) else (if t357 = 2 then (if (t351.length : Int) > 0 then ((spec_l1Cur_pick.f s0_0 t358 t359 (t351.length : Int)).bind fun bt369 => ((spec_l1Cur_among.f s0_0 bt369.2.1 bt369.2.2 (([(-1), 65535, 65536, 40000] : List Int))).bind fun bt375 => (if 0 ≤ bt369.1 then (if bt369.1 < (t351.length : Int) then (some (t350, (t351.set (bt369.1 : Int).toNat bt375.1), bt375.2.1, bt375.2.2)) else (none)) else (none)))) else (some (t350, t351, t358, t359))) else (if t357 = 3 then ((spec_l1Cur_pick.f s0_0 t358 t359 2).bind fun bt379 => ((spec_biNew.f (wrap64 (4096 - bt379.1))).bind fun bt382 => (some (bt382.1, bt382.2, bt379.2.1, bt379.2.2)))) else (if t357 = 4 then ((spec_l1Cur_pick.f s0_0 t358 t359 5).bind fun bt386 => ((spec_biNew.f (wrap64 (16 * bt386.1))).bind fun bt389 => (some (bt389.1, bt389.2, bt386.2.1, bt386.2.2)))) else (some (t350, t351, t358, t359))))))) = some (r1, r2, r3, r4) := H
 have A3 := am_ A30
 clear A30
 by_cases c4 : t357 = 0
 ·rw [if_pos c4] at H
  have c4b0 : (t357 == 0) = true := beq_iff_eq.mpr c4
  have c4b1 : (t357 != 0) = false := bne_eq_false_iff_eq.mpr c4
  clear c4
  replace H := Option.bind_eq_some_iff.mp H
  obtain ⟨⟨t360, t361, t362⟩, A50, H⟩ := H
  replace H : (if t351.length < 17592186044416 then (some (t350, (t351 ++ [t360]), t361, t362)) else (none)) = some (r1, r2, r3, r4) := H
  have A5 := am_ A50
  clear A50
  by_cases c6 : t351.length < 17592186044416
  ·rw [if_pos c6] at H
   have LMc6 := am_ c6
   clear c6
   obtain ⟨y363, hy363⟩ : ∃ y_ : List Int, y_ = (t351 ++ [t360]) := ⟨_, rfl⟩
   replace H : (some (t350, y363, t361, t362)) = some (r1, r2, r3, r4) := by first | (rw [hy363]; with_reducible exact H) | (have H2_ := (Option.bind_some _ _).symm.trans H; rw [hy363]; with_reducible exact H2_) | (have H2_ := (Option.bind_some _ _).symm.trans H; with_reducible exact H2_) | with_reducible exact H | (rw [hy363]; exact H) | exact H
   have Ny363 := am_ hy363
   clear hy363
   simp only [Option.some.injEq, Prod.mk.injEq] at H
   obtain ⟨rfl, rfl, rfl, rfl⟩ := H
   go_enter Try.func103, Try.ntmps103
   try go_wp2_with (first | ((with_reducible refine gate_dst (N := 2) rfl ?_); refine bev_ 2 #[.int .i64 0, .slice none 0 0] 26 rfl rfl ?_; intro gb349 hg w7 hbox hb; have BK349 := am_ (hbox); have GW349 := am_ ((by rw [hg]; exact (keep_size (w := w) (g := g) (row := none) (lk_ HK)) : w.heap.size ≤ gb349)); have GE349 := am_ ((Nat.le_trans HW0.out (by rw [hg]; exact (keep_size (w := w) (g := g) (row := none) (lk_ HK)) : w.heap.size ≤ gb349) : w0.heap.size ≤ gb349)); have NB0_349 := am_ ((by rw [hg]; exact Nat.ne_of_lt (IsS109.lt (show IsS109 w0 _ g s0_0 s0_1 s0_2 from ls109_ HI0)) : g ≠ gb349)); have NB349_0 := am_ ((by rw [hg]; exact Nat.ne_of_gt (IsS109.lt (show IsS109 w0 _ g s0_0 s0_1 s0_2 from ls109_ HI0)) : gb349 ≠ g)); replace HI0 := am_ (IsS109.below (ls109_ HI0) hb); replace HK := am_ (KeepBut.trans (lk_ HK) (KeepBut.of_below hb g none) (.inl rfl)); replace HB := am_ (below_step (lv109_ HB) hb); clear hb hbox hg) | ((with_reducible refine gate_callee (f := 108) rfl ?_); refine goesL_ (some 5) rfl rfl Try.func108 (by kernel_rfl) rfl #[.pointer (some ⟨g, 0, none⟩), .int .i64 40] rfl lm_ ?_; (with_reducible refine (spec_l1Cur_bits.calls k g s0_0 s0_1 s0_2 40 t350 t351 t354 t355 w0 _ ?side1 ?side2 A2.out).mono ?_); (case side1 => exact ls109_ HI0); (case side2 => exact lv109_ HB); rintro e w8 ⟨v352, rfl, ho0, hi, hb, hk⟩; refine ⟨_, rfl, ?_⟩; have HO353 := am_ (Kd.R_lower ho0 (keep_size (w := w) (g := g) (row := none) (lk_ HK))); replace BK349 := am_ (KeepBut.blk hk (g' := gb349) (lb_ BK349) NB349_0.out (by simp)); replace HK := am_ (KeepBut.trans (lk_ HK) hk (.inl rfl)); replace HB := am_ (hb); replace HI0 := am_ (hi); (try clear hb); (try clear hb2); (try clear hk); (try clear hi); (try clear ho0)) | ((with_reducible refine gate_dst (N := 3) rfl ?_); refine bev_ 3 #[.int .i64 0, .slice none 0 0] 26 rfl rfl ?_; intro gb356 hg w9 hbox hb; have BK356 := am_ (hbox); have GW356 := am_ ((by rw [hg]; exact (keep_size (w := w) (g := g) (row := none) (lk_ HK)) : w.heap.size ≤ gb356)); have GE356 := am_ ((Nat.le_trans HW0.out (by rw [hg]; exact (keep_size (w := w) (g := g) (row := none) (lk_ HK)) : w.heap.size ≤ gb356) : w0.heap.size ≤ gb356)); have NB349_356 := am_ ((by rw [hg]; exact Nat.ne_of_lt (blk_lt (g := gb349) (lb_ BK349)) : gb349 ≠ gb356)); have NB356_349 := am_ ((by rw [hg]; exact Nat.ne_of_gt (blk_lt (g := gb349) (lb_ BK349)) : gb356 ≠ gb349)); have NB0_356 := am_ ((by rw [hg]; exact Nat.ne_of_lt (IsS109.lt (show IsS109 w0 _ g s0_0 t354 t355 from ls109_ HI0)) : g ≠ gb356)); have NB356_0 := am_ ((by rw [hg]; exact Nat.ne_of_gt (IsS109.lt (show IsS109 w0 _ g s0_0 t354 t355 from ls109_ HI0)) : gb356 ≠ g)); replace HO353 := am_ (Kd.R_below (lf_ HO353) hb); replace HI0 := am_ (IsS109.below (ls109_ HI0) hb); replace BK349 := am_ (blk_below (g := gb349) (lb_ BK349) hb); replace HK := am_ (KeepBut.trans (lk_ HK) (KeepBut.of_below hb g none) (.inl rfl)); replace HB := am_ (below_step (lv109_ HB) hb); clear hb hbox hg; have hnb10 := NB356_349.out; have hnc10 := NB349_356.out; have hnb11 := NB356_0.out; have hnc11 := NB0_356.out; obtain ⟨hcz12_0, hcz12_1, hfz12_0, hfz12_1⟩ := bx2_ BK356.out; obtain ⟨Ao13, co13, eo13⟩ := Kd.R_slice HO353.out; subst eo13) | ((with_reducible refine gate_callee (f := 107) rfl ?_); refine goesL_ (some 7) rfl rfl Try.func107 (by kernel_rfl) rfl #[.pointer (some ⟨g, 0, none⟩), .int .i64 16] rfl lm_ ?_; (with_reducible refine (spec_l1Cur_pick.calls g s0_0 t354 t355 16 t357 t358 t359 w0 _ ?side1 ?side2 A3.out).mono ?_); (case side1 => exact ls109_ HI0); (case side2 => exact lv109_ HB); rintro e w14 ⟨rfl, hi, hb, hk⟩; refine ⟨_, rfl, ?_⟩; replace BK349 := am_ (KeepBut.blk hk (g' := gb349) (lg_ BK349) NB349_0.out (by simp)); replace HO353 := am_ (m1_ (Kd.R_keep (IsS109.apart (show IsS109 w0 _ g s0_0 t354 t355 from ls109_ HI0) (lt_ ((m1_ (fr2_ HO353.out BK356.out (.int .i64 t350) (.slice Ao13 t351.length co13))))) (by decide)) hk (fun _ h => h.2))); replace BK356 := am_ (KeepBut.blk hk (g' := gb356) (o := .cells #[.int .i64 t350, .slice Ao13 t351.length co13] 26 (0, 0)) (lq_ BK356) NB356_0.out (by simp)); replace HK := am_ (KeepBut.trans (lk_ HK) hk (.inl rfl)); replace HB := am_ (hb); replace HI0 := am_ (hi); (try clear hb); (try clear hb2); (try clear hk); (try clear hi)))
   replace HO353 := am_ (Kd.R_drew HO353.out); replace BK349 := am_ (blk_drew BK349.out); replace BK356 := am_ (blk_drew BK356.out); replace HI0 := am_ (IsS109.drew HI0.out); replace HK := am_ (keep_drew HK.out); replace HB := am_ (below_drew1 HB.out)
   refine start_ (n := 8) (S := fun w' => w'.cell? ⟨gb356, 0, none⟩ = some (.int .i64 t350) ∧ w'.cell? ⟨gb356, 1, none⟩ = some (.slice Ao13 t351.length co13)) (ds := [7]) #[false, false, false, false, false, false, false, false] (by kernel_rfl) rfl rfl ⟨(blk_cell BK356.out 0).trans rfl, (blk_cell BK356.out 1).trans rfl⟩ (fun hHeld => ?_); refine with_tabW spec_l1Cur_anyBits.tab4 spec_l1Cur_anyBits.bits4 (fun HT_ HW_ => ?_)
   generalize w14.drew = w15 at HO353 BK349 BK356 HI0 HK HB hHeld ⊢
   refine pure_ (i := 0) (N := some 10) (v := ?_) (a' := ?_) #[true, false, false, false, false, false, false, false] rfl rfl (any_of HT_.out (by kernel_rfl)) (fun _ _ _ h => h) (Or.inl ⟨by rfl, ?_⟩) ?_ ?_
   rotate_left
   ·intro w'
    go_simp
    with_reducible rfl
   rotate_left
   ·simp only [Act.put, List.setIfInBounds_toArray, List.set_cons_zero, List.set_cons_succ, i64_w, i32_w]
    rfl
   refine pure_ (i := 2) (N := some 12) (v := ?_) (a' := ?_) #[true, false, true, false, false, false, false, false] rfl rfl (any_of HT_.out (by kernel_rfl)) (fun _ _ _ h => h) (Or.inl ⟨by rfl, ?_⟩) ?_ ?_
   rotate_left
   ·intro w'
    go_simp
    with_reducible rfl
   rotate_left
   ·simp only [Act.put, List.setIfInBounds_toArray, List.set_cons_zero, List.set_cons_succ, i64_w, i32_w]
    rfl
   refine take_ (i := 1) (N := some 11) (v := ?_) (a' := ?_) #[true, true, true, false, false, false, false, false] rfl rfl (take_ofW HT_.out HW_.out (by kernel_rfl)) (fun _ _ _ h => h) (Or.inl ⟨by rfl, ?_⟩) hHeld ?_ ?_
   rotate_left
   ·rintro w' ⟨s0, s1⟩
    go_simp
    with_reducible rfl
   rotate_left
   ·simp only [Act.put, List.setIfInBounds_toArray, List.set_cons_zero, List.set_cons_succ, i64_w, i32_w]
    rfl
   refine one_ (i := 3) (N := some 13) #[true, true, true, true, false, false, false, false] rfl rfl (one_of HT_.out (by kernel_rfl)) (by decide) (fun K hK => ?_)
   refine goes_ Try.func107 (by kernel_rfl) rfl #[.pointer (some ⟨g, 0, none⟩), .int .i64 2] (by rfl) rfl rfl lm_ ?_
   with_reducible refine (spec_l1Cur_pick.calls g s0_0 t358 t359 2 t360 t361 t362 w0 _ ?side1 ?side2 A5.out).mono ?_
   (case side1 => exact ls109_ HI0)
   (case side2 => exact lv109_ HB)
   rintro e w16 ⟨rfl, hi, hb, hk⟩
   refine ⟨_, rfl, ?_⟩
   replace BK349 := am_ (KeepBut.blk hk (g' := gb349) (lb_ BK349) NB349_0.out (by simp)); replace HO353 := am_ (m1_ (Kd.R_keep (IsS109.apart (show IsS109 w0 _ g s0_0 t358 t359 from ls109_ HI0) (lf_ HO353) (by decide)) hk (fun _ h => h.2))); replace BK356 := am_ (KeepBut.blk hk (g' := gb356) (lb_ BK356) NB356_0.out (by simp)); replace HK := am_ (KeepBut.trans (lk_ HK) hk (.inl rfl)); replace HB := am_ (hb); replace HI0 := am_ (hi)
   (try clear hb)
   (try clear hb2)
   (try clear hk)
   (try clear hi)
   refine hK.out _ _ ⟨(blk_cell BK356.out 0).trans rfl, (blk_cell BK356.out 1).trans rfl⟩ (fun hHeld => ?_)
   clear hK K
   refine norm_ (a' := ?_) ?_ ?_
   rotate_left
   ·show Act.put _ (some 13) _ = _
    simp only [Act.put, List.setIfInBounds_toArray, List.set_cons_zero, List.set_cons_succ, i64_w, i32_w]
    rfl
   refine one_ (i := 4) (N := some 14) #[true, true, true, true, true, false, false, false] rfl rfl (one_of HT_.out (by kernel_rfl)) (by decide) (fun K hK => ?_)
   refine value_ (w1 := ?_) (v := ?_) (by rfl) rfl ?_ ?_
   rotate_left 2
   ·go_simp
    constructor
    ·rfl
    ·rfl
   refine hK.out _ _ ⟨(blk_cell (blk_alloc BK356.out _) 0).trans rfl, (blk_cell (blk_alloc BK356.out _) 1).trans rfl⟩ (fun hHeld => ?_)
   clear hK K
   refine norm_ (a' := ?_) ?_ ?_
   rotate_left
   ·show Act.put _ (some 14) _ = _
    simp only [Act.put, List.setIfInBounds_toArray, List.set_cons_zero, List.set_cons_succ, i64_w, i32_w]
    rfl
   refine one_ (i := 5) (N := some 15) #[true, true, true, true, true, true, false, false] rfl rfl (one_of HT_.out (by kernel_rfl)) (by decide) (fun K hK => ?_)
   refine Kd.R_append_step (Kd.int .i64) w.heap.size (by rfl) (.tmp 11) (.tmp 14) 22 3 (.int .i64 0) 8 rfl Try.underlying22 info3 rfl (by decide) (by omega) (.slice Ao13 t351.length co13) t351 t360 [.int .i64 t360] (fun _ => True) (fun _ => False) rfl rfl ?aP (fun _ hk => hk.elim) ?aF ?aO (Below.refl _ _) ?aS ?aL ?_
   (case aP => exact rfl)
   (case aF => exact (fun _ _ => trivial))
   (case aO => exact (lf_ HO353))
   (case aS => exact (keep_size (w := w) (g := g) (row := none) (lk_ HK)))
   (case aL => have := LMc6.out; omega)
   intro v364 w17 ho hb hg hat
   rw [← Ny363.out] at ho
   have HO365 := am_ (ho); replace HI0 := am_ (IsS109.grown (ls109_ HI0) hg (IsS109.own_ne HI0.out HO353.out (by decide))); replace BK349 := am_ (blk_grown (g := gb349) (lb_ BK349) hg (Kd.R_ne HO353.out BK349.out (by decide))); replace BK356 := am_ (blk_grown (g := gb356) (lb_ BK356) hg (Kd.R_ne HO353.out BK356.out (by decide))); replace HB := am_ (below_weaken (lv109_ HB) HL.out hb); replace HK := am_ (KeepBut.trans (lk_ HK) (KeepBut.of_grown hg g) (Kd.R_base2 HO353.out)); clear HO353
   clear ho hb hg hat
   obtain ⟨Ao18, co18, eo18⟩ := Kd.R_slice HO365.out
   (first | subst eo18 | (injection eo18 with f1_ f2_ f3_; have f4_ := f1_.symm; have f5_ := f3_.symm; clear f1_ f2_ f3_; subst f4_; subst f5_))
   refine hK.out _ _ ⟨(blk_cell BK356.out 0).trans rfl, (blk_cell BK356.out 1).trans rfl⟩ (fun hHeld => ?_)
   clear hK K
   refine norm_ (a' := ?_) ?_ ?_
   rotate_left
   ·show Act.put _ (some 15) _ = _
    simp only [Act.put, List.setIfInBounds_toArray, List.set_cons_zero, List.set_cons_succ, i64_w, i32_w]
    rfl
   refine pure_ (i := 6) (N := some 16) (v := ?_) (a' := ?_) #[true, true, true, true, true, true, true, false] rfl rfl (any_of HT_.out (by kernel_rfl)) (fun _ _ _ h => h) (Or.inl ⟨by rfl, ?_⟩) ?_ ?_
   rotate_left
   ·intro w'
    go_simp
    with_reducible rfl
   rotate_left
   ·simp only [Act.put, List.setIfInBounds_toArray, List.set_cons_zero, List.set_cons_succ, i64_w, i32_w]
    rfl
   refine last_ (i := 7) (N := none) #[true, true, true, true, true, true, true, true] rfl rfl (one_of HT_.out (by kernel_rfl)) (by decide) (fun K hK => ?_)
   have hs19 : w17.cell? ⟨gb356, 1, none⟩ = some (.slice Ao13 t351.length co13) := (blk_cell BK356.out 1).trans rfl
   have hfs19 := blk_frozen BK356.out 1
   have hns19_0 := NB349_356.out
   have hms19_0 := NB356_349.out
   refine skip_ (w1 := ?_) (by rfl) rfl ?_ ?_
   rotate_left
   ·go_simp
    rfl
   refine hK.out _ _ ?_
   clear hK K
   refine done_ (done_of HT_.out (by kernel_rfl)) ?_
   obtain ⟨hcz20_0, hcz20_1, hfz20_0, hfz20_1⟩ := bx2_ BK356.out
   have hnb21 := NB349_0.out
   have hnc21 := NB0_349.out
   obtain ⟨hcz22_0, hcz22_1, hfz22_0, hfz22_1⟩ := bx2_ BK349.out
   try go_wp2
   refine bodyPost_ret (results_cell_row rfl _ _ gb349 26 #[.int .i64 t350, .slice Ao18 y363.length co18] (0, 0) _ rfl (lq_ BK349) Try.underlying26 rfl (by kernel_rfl)) rfl ?_
   exact ⟨_, er_, lt_ (mt_ (Kd.R_far (p := ⟨gb349, 1, none⟩) (Kd.R_far (p := ⟨gb349, 0, none⟩) (Kd.R_far (p := ⟨gb356, 1, none⟩) (Kd.R_types (Kd.R_types HO365.out BK356.out (by decide)) BK349.out (by decide)) (fun _ hk => hk.1.2) (.slice Ao18 y363.length co18)) (fun _ hk => hk.2) (.int .i64 t350)) (fun _ hk => hk.2) (.slice Ao18 y363.length co18))), ls109_ HI0, lv109_ HB, lk_ HK⟩
  ·rw [if_neg c6] at H
   exact absurd H (by simp)
 ·rw [if_neg c4] at H
  have c4b0 : (t357 == 0) = false := beq_eq_false_iff_ne.mpr c4
  have c4b1 : (t357 != 0) = true := bne_iff_ne.mpr c4
  by_cases c23 : t357 = 1
  ·rw [if_pos c23] at H
   have c23b0 : (t357 == 1) = true := beq_iff_eq.mpr c23
   have c23b1 : (t357 != 1) = false := bne_eq_false_iff_eq.mpr c23
   clear c23
   replace H := Option.bind_eq_some_iff.mp H
   obtain ⟨⟨t366, t367, t368⟩, A240, H⟩ := H
   replace H : (some (wrap64 (t350 + (wrap64 (t366 - 1))), t351, t367, t368)) = some (r1, r2, r3, r4) := H
   have A24 := am_ A240
   clear A240
   simp only [Option.some.injEq, Prod.mk.injEq] at H
   obtain ⟨rfl, rfl, rfl, rfl⟩ := H
   go_enter Try.func103, Try.ntmps103
   try go_wp2_with (first | ((with_reducible refine gate_dst (N := 2) rfl ?_); refine bev_ 2 #[.int .i64 0, .slice none 0 0] 26 rfl rfl ?_; intro gb349 hg w25 hbox hb; have BK349 := am_ (hbox); have GW349 := am_ ((by rw [hg]; exact (keep_size (w := w) (g := g) (row := none) (lk_ HK)) : w.heap.size ≤ gb349)); have GE349 := am_ ((Nat.le_trans HW0.out (by rw [hg]; exact (keep_size (w := w) (g := g) (row := none) (lk_ HK)) : w.heap.size ≤ gb349) : w0.heap.size ≤ gb349)); have NB0_349 := am_ ((by rw [hg]; exact Nat.ne_of_lt (IsS109.lt (show IsS109 w0 _ g s0_0 s0_1 s0_2 from ls109_ HI0)) : g ≠ gb349)); have NB349_0 := am_ ((by rw [hg]; exact Nat.ne_of_gt (IsS109.lt (show IsS109 w0 _ g s0_0 s0_1 s0_2 from ls109_ HI0)) : gb349 ≠ g)); replace HI0 := am_ (IsS109.below (ls109_ HI0) hb); replace HK := am_ (KeepBut.trans (lk_ HK) (KeepBut.of_below hb g none) (.inl rfl)); replace HB := am_ (below_step (lv109_ HB) hb); clear hb hbox hg) | ((with_reducible refine gate_callee (f := 108) rfl ?_); refine goesL_ (some 5) rfl rfl Try.func108 (by kernel_rfl) rfl #[.pointer (some ⟨g, 0, none⟩), .int .i64 40] rfl lm_ ?_; (with_reducible refine (spec_l1Cur_bits.calls k g s0_0 s0_1 s0_2 40 t350 t351 t354 t355 w0 _ ?side1 ?side2 A2.out).mono ?_); (case side1 => exact ls109_ HI0); (case side2 => exact lv109_ HB); rintro e w26 ⟨v352, rfl, ho0, hi, hb, hk⟩; refine ⟨_, rfl, ?_⟩; have HO353 := am_ (Kd.R_lower ho0 (keep_size (w := w) (g := g) (row := none) (lk_ HK))); replace BK349 := am_ (KeepBut.blk hk (g' := gb349) (lb_ BK349) NB349_0.out (by simp)); replace HK := am_ (KeepBut.trans (lk_ HK) hk (.inl rfl)); replace HB := am_ (hb); replace HI0 := am_ (hi); (try clear hb); (try clear hb2); (try clear hk); (try clear hi); (try clear ho0)) | ((with_reducible refine gate_dst (N := 3) rfl ?_); refine bev_ 3 #[.int .i64 0, .slice none 0 0] 26 rfl rfl ?_; intro gb356 hg w27 hbox hb; have BK356 := am_ (hbox); have GW356 := am_ ((by rw [hg]; exact (keep_size (w := w) (g := g) (row := none) (lk_ HK)) : w.heap.size ≤ gb356)); have GE356 := am_ ((Nat.le_trans HW0.out (by rw [hg]; exact (keep_size (w := w) (g := g) (row := none) (lk_ HK)) : w.heap.size ≤ gb356) : w0.heap.size ≤ gb356)); have NB349_356 := am_ ((by rw [hg]; exact Nat.ne_of_lt (blk_lt (g := gb349) (lb_ BK349)) : gb349 ≠ gb356)); have NB356_349 := am_ ((by rw [hg]; exact Nat.ne_of_gt (blk_lt (g := gb349) (lb_ BK349)) : gb356 ≠ gb349)); have NB0_356 := am_ ((by rw [hg]; exact Nat.ne_of_lt (IsS109.lt (show IsS109 w0 _ g s0_0 t354 t355 from ls109_ HI0)) : g ≠ gb356)); have NB356_0 := am_ ((by rw [hg]; exact Nat.ne_of_gt (IsS109.lt (show IsS109 w0 _ g s0_0 t354 t355 from ls109_ HI0)) : gb356 ≠ g)); replace HO353 := am_ (Kd.R_below (lf_ HO353) hb); replace HI0 := am_ (IsS109.below (ls109_ HI0) hb); replace BK349 := am_ (blk_below (g := gb349) (lb_ BK349) hb); replace HK := am_ (KeepBut.trans (lk_ HK) (KeepBut.of_below hb g none) (.inl rfl)); replace HB := am_ (below_step (lv109_ HB) hb); clear hb hbox hg; have hnb28 := NB356_349.out; have hnc28 := NB349_356.out; have hnb29 := NB356_0.out; have hnc29 := NB0_356.out; obtain ⟨hcz30_0, hcz30_1, hfz30_0, hfz30_1⟩ := bx2_ BK356.out; obtain ⟨Ao31, co31, eo31⟩ := Kd.R_slice HO353.out; subst eo31) | ((with_reducible refine gate_callee (f := 107) rfl ?_); refine goesL_ (some 7) rfl rfl Try.func107 (by kernel_rfl) rfl #[.pointer (some ⟨g, 0, none⟩), .int .i64 16] rfl lm_ ?_; (with_reducible refine (spec_l1Cur_pick.calls g s0_0 t354 t355 16 t357 t358 t359 w0 _ ?side1 ?side2 A3.out).mono ?_); (case side1 => exact ls109_ HI0); (case side2 => exact lv109_ HB); rintro e w32 ⟨rfl, hi, hb, hk⟩; refine ⟨_, rfl, ?_⟩; replace BK349 := am_ (KeepBut.blk hk (g' := gb349) (lg_ BK349) NB349_0.out (by simp)); replace HO353 := am_ (m1_ (Kd.R_keep (IsS109.apart (show IsS109 w0 _ g s0_0 t354 t355 from ls109_ HI0) (lt_ ((m1_ (fr2_ HO353.out BK356.out (.int .i64 t350) (.slice Ao31 t351.length co31))))) (by decide)) hk (fun _ h => h.2))); replace BK356 := am_ (KeepBut.blk hk (g' := gb356) (o := .cells #[.int .i64 t350, .slice Ao31 t351.length co31] 26 (0, 0)) (lq_ BK356) NB356_0.out (by simp)); replace HK := am_ (KeepBut.trans (lk_ HK) hk (.inl rfl)); replace HB := am_ (hb); replace HI0 := am_ (hi); (try clear hb); (try clear hb2); (try clear hk); (try clear hi)))
   replace HO353 := am_ (Kd.R_drew HO353.out); replace BK349 := am_ (blk_drew BK349.out); replace BK356 := am_ (blk_drew BK356.out); replace HI0 := am_ (IsS109.drew HI0.out); replace HK := am_ (keep_drew HK.out); replace HB := am_ (below_drew1 HB.out)
   refine start_ (n := 8) (S := fun w' => w'.cell? ⟨gb356, 0, none⟩ = some (.int .i64 t350) ∧ w'.cell? ⟨gb356, 1, none⟩ = some (.slice Ao31 t351.length co31)) (ds := [7]) #[false, false, false, false, false, false, false, false] (by kernel_rfl) rfl rfl ⟨(blk_cell BK356.out 0).trans rfl, (blk_cell BK356.out 1).trans rfl⟩ (fun hHeld => ?_); refine with_tabW spec_l1Cur_anyBits.tab6 spec_l1Cur_anyBits.bits6 (fun HT_ HW_ => ?_)
   generalize w32.drew = w33 at HO353 BK349 BK356 HI0 HK HB hHeld ⊢
   refine pure_ (i := 0) (N := some 19) (v := ?_) (a' := ?_) #[true, false, false, false, false, false, false, false] rfl rfl (any_of HT_.out (by kernel_rfl)) (fun _ _ _ h => h) (Or.inl ⟨by rfl, ?_⟩) ?_ ?_
   rotate_left
   ·intro w'
    go_simp
    with_reducible rfl
   rotate_left
   ·simp only [Act.put, List.setIfInBounds_toArray, List.set_cons_zero, List.set_cons_succ, i64_w, i32_w]
    rfl
   refine pure_ (i := 2) (N := some 21) (v := ?_) (a' := ?_) #[true, false, true, false, false, false, false, false] rfl rfl (any_of HT_.out (by kernel_rfl)) (fun _ _ _ h => h) (Or.inl ⟨by rfl, ?_⟩) ?_ ?_
   rotate_left
   ·intro w'
    go_simp
    with_reducible rfl
   rotate_left
   ·simp only [Act.put, List.setIfInBounds_toArray, List.set_cons_zero, List.set_cons_succ, i64_w, i32_w]
    rfl
   refine take_ (i := 1) (N := some 20) (v := ?_) (a' := ?_) #[true, true, true, false, false, false, false, false] rfl rfl (take_ofW HT_.out HW_.out (by kernel_rfl)) (fun _ _ _ h => h) (Or.inl ⟨by rfl, ?_⟩) hHeld ?_ ?_
   rotate_left
   ·rintro w' ⟨s0, s1⟩
    go_simp
    with_reducible rfl
   rotate_left
   ·simp only [Act.put, List.setIfInBounds_toArray, List.set_cons_zero, List.set_cons_succ, i64_w, i32_w]
    rfl
   refine one_ (i := 3) (N := some 22) #[true, true, true, true, false, false, false, false] rfl rfl (one_of HT_.out (by kernel_rfl)) (by decide) (fun K hK => ?_)
   refine goes_ Try.func107 (by kernel_rfl) rfl #[.pointer (some ⟨g, 0, none⟩), .int .i64 3] (by rfl) rfl rfl lm_ ?_
   with_reducible refine (spec_l1Cur_pick.calls g s0_0 t358 t359 3 t366 t367 t368 w0 _ ?side1 ?side2 A24.out).mono ?_
   (case side1 => exact ls109_ HI0)
   (case side2 => exact lv109_ HB)
   rintro e w34 ⟨rfl, hi, hb, hk⟩
   refine ⟨_, rfl, ?_⟩
   replace BK349 := am_ (KeepBut.blk hk (g' := gb349) (lb_ BK349) NB349_0.out (by simp)); replace HO353 := am_ (m1_ (Kd.R_keep (IsS109.apart (show IsS109 w0 _ g s0_0 t358 t359 from ls109_ HI0) (lf_ HO353) (by decide)) hk (fun _ h => h.2))); replace BK356 := am_ (KeepBut.blk hk (g' := gb356) (lb_ BK356) NB356_0.out (by simp)); replace HK := am_ (KeepBut.trans (lk_ HK) hk (.inl rfl)); replace HB := am_ (hb); replace HI0 := am_ (hi)
   (try clear hb)
   (try clear hb2)
   (try clear hk)
   (try clear hi)
   refine hK.out _ _ ⟨(blk_cell BK356.out 0).trans rfl, (blk_cell BK356.out 1).trans rfl⟩ (fun hHeld => ?_)
   clear hK K
   refine norm_ (a' := ?_) ?_ ?_
   rotate_left
   ·show Act.put _ (some 22) _ = _
    simp only [Act.put, List.setIfInBounds_toArray, List.set_cons_zero, List.set_cons_succ, i64_w, i32_w]
    rfl
   refine pure_ (i := 4) (N := some 23) (v := ?_) (a' := ?_) #[true, true, true, true, true, false, false, false] rfl rfl (any_of HT_.out (by kernel_rfl)) (fun _ _ _ h => h) (Or.inl ⟨by rfl, ?_⟩) ?_ ?_
   rotate_left
   ·intro w'
    go_simp
    with_reducible rfl
   rotate_left
   ·simp only [Act.put, List.setIfInBounds_toArray, List.set_cons_zero, List.set_cons_succ, i64_w, i32_w]
    rfl
   refine pure_ (i := 5) (N := some 24) (v := ?_) (a' := ?_) #[true, true, true, true, true, true, false, false] rfl rfl (any_of HT_.out (by kernel_rfl)) (fun _ _ _ h => h) (Or.inl ⟨by rfl, ?_⟩) ?_ ?_
   rotate_left
   ·intro w'
    go_simp
    with_reducible rfl
   rotate_left
   ·simp only [Act.put, List.setIfInBounds_toArray, List.set_cons_zero, List.set_cons_succ, i64_w, i32_w]
    rfl
   refine pure_ (i := 6) (N := some 25) (v := ?_) (a' := ?_) #[true, true, true, true, true, true, true, false] rfl rfl (any_of HT_.out (by kernel_rfl)) (fun _ _ _ h => h) (Or.inl ⟨by rfl, ?_⟩) ?_ ?_
   rotate_left
   ·intro w'
    go_simp
    with_reducible rfl
   rotate_left
   ·simp only [Act.put, List.setIfInBounds_toArray, List.set_cons_zero, List.set_cons_succ, i64_w, i32_w]
    rfl
   refine last_ (i := 7) (N := none) #[true, true, true, true, true, true, true, true] rfl rfl (one_of HT_.out (by kernel_rfl)) (by decide) (fun K hK => ?_)
   have hs35 : w34.cell? ⟨gb356, 0, none⟩ = some (.int .i64 t350) := (blk_cell BK356.out 0).trans rfl
   have hfs35 := blk_frozen BK356.out 0
   have hns35_0 := NB349_356.out
   have hms35_0 := NB356_349.out
   refine skip_ (w1 := ?_) (by rfl) rfl ?_ ?_
   rotate_left
   ·go_simp
    rfl
   refine hK.out _ _ ?_
   clear hK K
   refine done_ (done_of HT_.out (by kernel_rfl)) ?_
   obtain ⟨hcz36_0, hcz36_1, hfz36_0, hfz36_1⟩ := bx2_ BK356.out
   have hnb37 := NB349_0.out
   have hnc37 := NB0_349.out
   obtain ⟨hcz38_0, hcz38_1, hfz38_0, hfz38_1⟩ := bx2_ BK349.out
   try go_wp2
   refine bodyPost_ret (results_cell_row rfl _ _ gb349 26 #[.int .i64 (wrap64 (t350 + (wrap64 (t366 - 1)))), .slice Ao31 t351.length co31] (0, 0) _ rfl (lq_ BK349) Try.underlying26 rfl (by kernel_rfl)) rfl ?_
   exact ⟨_, er_, lt_ (mt_ (Kd.R_far (p := ⟨gb349, 1, none⟩) (Kd.R_far (p := ⟨gb349, 0, none⟩) (Kd.R_far (p := ⟨gb356, 0, none⟩) (Kd.R_types (Kd.R_types HO353.out BK356.out (by decide)) BK349.out (by decide)) (fun _ hk => hk.1.2) (.int .i64 (wrap64 (t350 + (wrap64 (t366 - 1)))))) (fun _ hk => hk.2) (.int .i64 (wrap64 (t350 + (wrap64 (t366 - 1)))))) (fun _ hk => hk.2) (.slice Ao31 t351.length co31))), ls109_ HI0, lv109_ HB, lk_ HK⟩
  ·rw [if_neg c23] at H
   have c23b0 : (t357 == 1) = false := beq_eq_false_iff_ne.mpr c23
   have c23b1 : (t357 != 1) = true := bne_iff_ne.mpr c23
   by_cases c39 : t357 = 2
   ·rw [if_pos c39] at H
    have c39b0 : (t357 == 2) = true := beq_iff_eq.mpr c39
    have c39b1 : (t357 != 2) = false := bne_eq_false_iff_eq.mpr c39
    clear c39
    by_cases c40 : (t351.length : Int) > 0
    ·rw [if_pos c40] at H
     have c40b0 : decide (0 < (t351.length : Int)) = true := decide_eq_true c40
     have c40b1 : decide (0 < t351.length) = true := decide_eq_true (by omega)
     clear c40
     replace H := Option.bind_eq_some_iff.mp H
     obtain ⟨⟨t369, t370, t371⟩, A410, H⟩ := H
     replace H : ((spec_l1Cur_among.f s0_0 t370 t371 (([(-1), 65535, 65536, 40000] : List Int))).bind fun bt375 => (if 0 ≤ t369 then (if t369 < (t351.length : Int) then (some (t350, (t351.set (t369 : Int).toNat bt375.1), bt375.2.1, bt375.2.2)) else (none)) else (none))) = some (r1, r2, r3, r4) := H
     have A41 := am_ A410
     clear A410
     obtain ⟨y372, hy372⟩ : ∃ y_ : List Int, y_ = (([(-1), 65535, 65536, 40000] : List Int)) := ⟨_, rfl⟩
     replace H : ((spec_l1Cur_among.f s0_0 t370 t371 y372).bind fun bt375 => (if 0 ≤ t369 then (if t369 < (t351.length : Int) then (some (t350, (t351.set (t369 : Int).toNat bt375.1), bt375.2.1, bt375.2.2)) else (none)) else (none))) = some (r1, r2, r3, r4) := by first | (rw [hy372]; with_reducible exact H) | (have H2_ := (Option.bind_some _ _).symm.trans H; rw [hy372]; with_reducible exact H2_) | (have H2_ := (Option.bind_some _ _).symm.trans H; with_reducible exact H2_) | with_reducible exact H | (rw [hy372]; exact H) | exact H
     have Ny372 := am_ hy372
     clear hy372
     replace H := Option.bind_eq_some_iff.mp H
     obtain ⟨⟨t375, t376, t377⟩, A420, H⟩ := H
     replace H : (if 0 ≤ t369 then (if t369 < (t351.length : Int) then (some (t350, (t351.set (t369 : Int).toNat t375), t376, t377)) else (none)) else (none)) = some (r1, r2, r3, r4) := H
     have A42 := am_ A420
     clear A420
     by_cases c43 : 0 ≤ t369
     ·rw [if_pos c43] at H
      have c43b0 : decide (0 ≤ t369) = true := decide_eq_true c43
      clear c43
      by_cases c44 : t369 < (t351.length : Int)
      ·rw [if_pos c44] at H
       have c44b0 : decide (t369 < (t351.length : Int)) = true := decide_eq_true c44
       clear c44
       obtain ⟨y378, hy378⟩ : ∃ y_ : List Int, y_ = (t351.set (t369 : Int).toNat t375) := ⟨_, rfl⟩
       replace H : (some (t350, y378, t376, t377)) = some (r1, r2, r3, r4) := by first | (rw [hy378]; with_reducible exact H) | (have H2_ := (Option.bind_some _ _).symm.trans H; rw [hy378]; with_reducible exact H2_) | (have H2_ := (Option.bind_some _ _).symm.trans H; with_reducible exact H2_) | with_reducible exact H | (rw [hy378]; exact H) | exact H
       have Ny378 := am_ hy378
       clear hy378
       simp only [Option.some.injEq, Prod.mk.injEq] at H
       obtain ⟨rfl, rfl, rfl, rfl⟩ := H
       go_enter Try.func103, Try.ntmps103
       try go_wp2_with (first | ((with_reducible refine gate_dst (N := 2) rfl ?_); refine bev_ 2 #[.int .i64 0, .slice none 0 0] 26 rfl rfl ?_; intro gb349 hg w46 hbox hb; have BK349 := am_ (hbox); have GW349 := am_ ((by rw [hg]; exact (keep_size (w := w) (g := g) (row := none) (lk_ HK)) : w.heap.size ≤ gb349)); have GE349 := am_ ((Nat.le_trans HW0.out (by rw [hg]; exact (keep_size (w := w) (g := g) (row := none) (lk_ HK)) : w.heap.size ≤ gb349) : w0.heap.size ≤ gb349)); have NB0_349 := am_ ((by rw [hg]; exact Nat.ne_of_lt (IsS109.lt (show IsS109 w0 _ g s0_0 s0_1 s0_2 from ls109_ HI0)) : g ≠ gb349)); have NB349_0 := am_ ((by rw [hg]; exact Nat.ne_of_gt (IsS109.lt (show IsS109 w0 _ g s0_0 s0_1 s0_2 from ls109_ HI0)) : gb349 ≠ g)); replace HI0 := am_ (IsS109.below (ls109_ HI0) hb); replace HK := am_ (KeepBut.trans (lk_ HK) (KeepBut.of_below hb g none) (.inl rfl)); replace HB := am_ (below_step (lv109_ HB) hb); clear hb hbox hg) | ((with_reducible refine gate_callee (f := 108) rfl ?_); refine goesL_ (some 5) rfl rfl Try.func108 (by kernel_rfl) rfl #[.pointer (some ⟨g, 0, none⟩), .int .i64 40] rfl lm_ ?_; (with_reducible refine (spec_l1Cur_bits.calls k g s0_0 s0_1 s0_2 40 t350 t351 t354 t355 w0 _ ?side1 ?side2 A2.out).mono ?_); (case side1 => exact ls109_ HI0); (case side2 => exact lv109_ HB); rintro e w47 ⟨v352, rfl, ho0, hi, hb, hk⟩; refine ⟨_, rfl, ?_⟩; have HO353 := am_ (Kd.R_lower ho0 (keep_size (w := w) (g := g) (row := none) (lk_ HK))); replace BK349 := am_ (KeepBut.blk hk (g' := gb349) (lb_ BK349) NB349_0.out (by simp)); replace HK := am_ (KeepBut.trans (lk_ HK) hk (.inl rfl)); replace HB := am_ (hb); replace HI0 := am_ (hi); (try clear hb); (try clear hb2); (try clear hk); (try clear hi); (try clear ho0)) | ((with_reducible refine gate_dst (N := 3) rfl ?_); refine bev_ 3 #[.int .i64 0, .slice none 0 0] 26 rfl rfl ?_; intro gb356 hg w48 hbox hb; have BK356 := am_ (hbox); have GW356 := am_ ((by rw [hg]; exact (keep_size (w := w) (g := g) (row := none) (lk_ HK)) : w.heap.size ≤ gb356)); have GE356 := am_ ((Nat.le_trans HW0.out (by rw [hg]; exact (keep_size (w := w) (g := g) (row := none) (lk_ HK)) : w.heap.size ≤ gb356) : w0.heap.size ≤ gb356)); have NB349_356 := am_ ((by rw [hg]; exact Nat.ne_of_lt (blk_lt (g := gb349) (lb_ BK349)) : gb349 ≠ gb356)); have NB356_349 := am_ ((by rw [hg]; exact Nat.ne_of_gt (blk_lt (g := gb349) (lb_ BK349)) : gb356 ≠ gb349)); have NB0_356 := am_ ((by rw [hg]; exact Nat.ne_of_lt (IsS109.lt (show IsS109 w0 _ g s0_0 t354 t355 from ls109_ HI0)) : g ≠ gb356)); have NB356_0 := am_ ((by rw [hg]; exact Nat.ne_of_gt (IsS109.lt (show IsS109 w0 _ g s0_0 t354 t355 from ls109_ HI0)) : gb356 ≠ g)); replace HO353 := am_ (Kd.R_below (lf_ HO353) hb); replace HI0 := am_ (IsS109.below (ls109_ HI0) hb); replace BK349 := am_ (blk_below (g := gb349) (lb_ BK349) hb); replace HK := am_ (KeepBut.trans (lk_ HK) (KeepBut.of_below hb g none) (.inl rfl)); replace HB := am_ (below_step (lv109_ HB) hb); clear hb hbox hg; have hnb49 := NB356_349.out; have hnc49 := NB349_356.out; have hnb50 := NB356_0.out; have hnc50 := NB0_356.out; obtain ⟨hcz51_0, hcz51_1, hfz51_0, hfz51_1⟩ := bx2_ BK356.out; obtain ⟨Ao52, co52, eo52⟩ := Kd.R_slice HO353.out; subst eo52) | ((with_reducible refine gate_callee (f := 107) rfl ?_); refine goesL_ (some 7) rfl rfl Try.func107 (by kernel_rfl) rfl #[.pointer (some ⟨g, 0, none⟩), .int .i64 16] rfl lm_ ?_; (with_reducible refine (spec_l1Cur_pick.calls g s0_0 t354 t355 16 t357 t358 t359 w0 _ ?side1 ?side2 A3.out).mono ?_); (case side1 => exact ls109_ HI0); (case side2 => exact lv109_ HB); rintro e w53 ⟨rfl, hi, hb, hk⟩; refine ⟨_, rfl, ?_⟩; replace BK349 := am_ (KeepBut.blk hk (g' := gb349) (lg_ BK349) NB349_0.out (by simp)); replace HO353 := am_ (m1_ (Kd.R_keep (IsS109.apart (show IsS109 w0 _ g s0_0 t354 t355 from ls109_ HI0) (lt_ ((m1_ (fr2_ HO353.out BK356.out (.int .i64 t350) (.slice Ao52 t351.length co52))))) (by decide)) hk (fun _ h => h.2))); replace BK356 := am_ (KeepBut.blk hk (g' := gb356) (o := .cells #[.int .i64 t350, .slice Ao52 t351.length co52] 26 (0, 0)) (lq_ BK356) NB356_0.out (by simp)); replace HK := am_ (KeepBut.trans (lk_ HK) hk (.inl rfl)); replace HB := am_ (hb); replace HI0 := am_ (hi); (try clear hb); (try clear hb2); (try clear hk); (try clear hi); obtain ⟨hcz54_0, hcz54_1, hfz54_0, hfz54_1⟩ := bx2_ BK356.out))
       replace HO353 := am_ (Kd.R_drew HO353.out); replace BK349 := am_ (blk_drew BK349.out); replace BK356 := am_ (blk_drew BK356.out); replace HI0 := am_ (IsS109.drew HI0.out); replace HK := am_ (keep_drew HK.out); replace HB := am_ (below_drew1 HB.out)
       refine start_ (n := 12) (S := fun w' => w'.cell? ⟨gb356, 0, none⟩ = some (.int .i64 t350) ∧ w'.cell? ⟨gb356, 1, none⟩ = some (.slice Ao52 t351.length co52)) (ds := [11]) #[false, false, false, false, false, false, false, false, false, false, false, false] (by kernel_rfl) rfl rfl ⟨(blk_cell BK356.out 0).trans rfl, (blk_cell BK356.out 1).trans rfl⟩ (fun hHeld => ?_); refine with_tabW spec_l1Cur_anyBits.tab9 spec_l1Cur_anyBits.bits9 (fun HT_ HW_ => ?_)
       generalize w53.drew = w55 at HO353 BK349 BK356 HI0 HK HB hHeld ⊢
       refine pure_ (i := 0) (N := some 32) (v := ?_) (a' := ?_) #[true, false, false, false, false, false, false, false, false, false, false, false] rfl rfl (any_of HT_.out (by kernel_rfl)) (fun _ _ _ h => h) (Or.inl ⟨by rfl, ?_⟩) ?_ ?_
       rotate_left
       ·intro w'
        go_simp
        with_reducible rfl
       rotate_left
       ·simp only [Act.put, List.setIfInBounds_toArray, List.set_cons_zero, List.set_cons_succ, i64_w, i32_w]
        rfl
       refine pure_ (i := 2) (N := some 34) (v := ?_) (a' := ?_) #[true, false, true, false, false, false, false, false, false, false, false, false] rfl rfl (any_of HT_.out (by kernel_rfl)) (fun _ _ _ h => h) (Or.inl ⟨by rfl, ?_⟩) ?_ ?_
       rotate_left
       ·intro w'
        go_simp
        with_reducible rfl
       rotate_left
       ·simp only [Act.put, List.setIfInBounds_toArray, List.set_cons_zero, List.set_cons_succ, i64_w, i32_w]
        rfl
       refine pure_ (i := 3) (N := some 35) (v := ?_) (a' := ?_) #[true, false, true, true, false, false, false, false, false, false, false, false] rfl rfl (any_of HT_.out (by kernel_rfl)) (fun _ _ _ h => h) (Or.inl ⟨by rfl, ?_⟩) ?_ ?_
       rotate_left
       ·intro w'
        go_simp
        with_reducible rfl
       rotate_left
       ·simp only [Act.put, List.setIfInBounds_toArray, List.set_cons_zero, List.set_cons_succ, i64_w, i32_w]
        rfl
       refine pure_ (i := 7) (N := some 39) (v := ?_) (a' := ?_) #[true, false, true, true, false, false, false, true, false, false, false, false] rfl rfl (any_of HT_.out (by kernel_rfl)) (fun _ _ _ h => h) (Or.inl ⟨by rfl, ?_⟩) ?_ ?_
       rotate_left
       ·intro w'
        go_simp
        with_reducible rfl
       rotate_left
       ·simp only [Act.put, List.setIfInBounds_toArray, List.set_cons_zero, List.set_cons_succ, i64_w, i32_w]
        rfl
       refine take_ (i := 1) (N := some 33) (v := ?_) (a' := ?_) #[true, true, true, true, false, false, false, true, false, false, false, false] rfl rfl (take_ofW HT_.out HW_.out (by kernel_rfl)) (fun _ _ _ h => h) (Or.inl ⟨by rfl, ?_⟩) hHeld ?_ ?_
       rotate_left
       ·rintro w' ⟨s0, s1⟩
        go_simp
        with_reducible rfl
       rotate_left
       ·simp only [Act.put, List.setIfInBounds_toArray, List.set_cons_zero, List.set_cons_succ, i64_w, i32_w]
        rfl
       refine take_ (i := 4) (N := some 36) (v := ?_) (a' := ?_) #[true, true, true, true, true, false, false, true, false, false, false, false] rfl rfl (take_ofW HT_.out HW_.out (by kernel_rfl)) (fun _ _ _ h => h) (Or.inl ⟨by rfl, ?_⟩) hHeld ?_ ?_
       rotate_left
       ·rintro w' ⟨s0, s1⟩
        go_simp
        with_reducible rfl
       rotate_left
       ·simp only [Act.put, List.setIfInBounds_toArray, List.set_cons_zero, List.set_cons_succ, i64_w, i32_w]
        rfl
       refine pure_ (i := 5) (N := some 37) (v := ?_) (a' := ?_) #[true, true, true, true, true, true, false, true, false, false, false, false] rfl rfl (any_of HT_.out (by kernel_rfl)) (fun _ _ _ h => h) (Or.inl ⟨by rfl, ?_⟩) ?_ ?_
       rotate_left
       ·intro w'
        go_simp
        with_reducible rfl
       rotate_left
       ·simp only [Act.put, List.setIfInBounds_toArray, List.set_cons_zero, List.set_cons_succ, i64_w, i32_w]
        rfl
       refine join_ (σ := Value) 3 #[true, true, true, true, true, true, true, true, true, false, false, false] (fun s_ => [(38, .int .i64 t369), (40, s_)]) (fun s_ w' => (w'.cell? ⟨gb356, 0, none⟩ = some (.int .i64 t350) ∧ w'.cell? ⟨gb356, 1, none⟩ = some (.slice Ao52 t351.length co52)) ∧ (Kd.R (Kd.int .i64) 3 w' w.heap.size (fun k_ => nb_ k_ s_) (.slice Ao52 t351.length co52) t351) ∧ (Kd.R (Kd.int .i64) 3 w' w.heap.size (fun k_ => ns_ k_ Ao52 t351 co52) s_ y372) ∧ (w'.heap[gb349]? = some (.cells #[.int .i64 0, .slice none 0 0] 26 (0, 0))) ∧ (w'.heap[gb356]? = some (.cells #[.int .i64 t350, .slice Ao52 t351.length co52] 26 (0, 0))) ∧ (IsS109 w0 w' g s0_0 t370 t371) ∧ (KeepBut w w' g none) ∧ (Below w0.heap.size w0 w')) ?_ ?_
       rotate_left
       ·intro hCont
        refine two_ (i := 6) (j := 8) (Ni := some 38) (Nj := some 40) #[true, true, true, true, true, true, true, true, false, false, false, false] #[true, true, true, true, true, true, false, true, true, false, false, false] rfl rfl rfl rfl (two_of HT_.out (by kernel_rfl)) (by decide) (by decide) (fun K hK => ?_) (fun K hK => ?_)
        ·skip
         refine goes_ Try.func107 (by kernel_rfl) rfl #[.pointer (some ⟨g, 0, none⟩), .int .i64 (t351.length : Int)] (by rfl) rfl rfl lm_ ?_
         with_reducible refine (spec_l1Cur_pick.calls g s0_0 t358 t359 (t351.length : Int) t369 t370 t371 w0 _ ?side1 ?side2 A41.out).mono ?_
         (case side1 => exact ls109_ HI0)
         (case side2 => exact lv109_ HB)
         rintro e w56 ⟨rfl, hi, hb, hk⟩
         refine ⟨_, rfl, ?_⟩
         replace BK349 := am_ (KeepBut.blk hk (g' := gb349) (lb_ BK349) NB349_0.out (by simp)); replace HO353 := am_ (m1_ (Kd.R_keep (IsS109.apart (show IsS109 w0 _ g s0_0 t358 t359 from ls109_ HI0) (lf_ HO353) (by decide)) hk (fun _ h => h.2))); replace BK356 := am_ (KeepBut.blk hk (g' := gb356) (lb_ BK356) NB356_0.out (by simp)); replace HK := am_ (KeepBut.trans (lk_ HK) hk (.inl rfl)); replace HB := am_ (hb); replace HI0 := am_ (hi)
         (try clear hb)
         (try clear hb2)
         (try clear hk)
         (try clear hi)
         refine hK.out _ _ ⟨(blk_cell BK356.out 0).trans rfl, (blk_cell BK356.out 1).trans rfl⟩ (fun hHeld => ?_)
         clear hK K
         refine norm_ (a' := ?_) ?_ ?_
         rotate_left
         ·show Act.put _ (some 38) _ = _
          simp only [Act.put, List.setIfInBounds_toArray, List.set_cons_zero, List.set_cons_succ, i64_w, i32_w]
          rfl
         refine one_ (i := 8) (N := some 40) #[true, true, true, true, true, true, true, true, true, false, false, false] rfl rfl (one_of HT_.out (by kernel_rfl)) (by decide) (fun K hK => ?_)
         refine Kd.R_lit_step (Kd.int .i64) _ 3 ?hg (N := 40) ?hd (xs := ([(-1), 65535, 65536, 40000] : List Int)) (inner := [.int .i64 (-1), .int .i64 65535, .int .i64 65536, .int .i64 40000]) (ok := fun _ => True) (okp := fun _ => True) ?hr ?hp (fun _ hk => hk) trivial (Below.refl _ _) (Nat.le_refl _) (by simp) ?_; (case hd => rfl); (case hg => rfl); (case hr => first | (go_simp; done) | (go_simp; rfl)); (case hp => exact (Reps.one (show Kd.M (Kd.int .i64) _ _ _ (-1) [.int .i64 (-1)] from rfl) (Reps.one (show Kd.M (Kd.int .i64) _ _ _ 65535 [.int .i64 65535] from rfl) (Reps.one (show Kd.M (Kd.int .i64) _ _ _ 65536 [.int .i64 65536] from rfl) (Reps.one (show Kd.M (Kd.int .i64) _ _ _ 40000 [.int .i64 40000] from rfl) (Reps.none _ _))))))
         intro v373 w57 ho58 hb hg_ hnew_
         clear hg_ hnew_
         (first | rw [← Ny372.out] at ho58 | (simp only [Int.reduceToNat] at ho58; rw [← Ny372.out] at ho58))
         have HO374 := am_ (Kd.R_lower (nw_ ho58 HO353) (keep_size (w := w) (g := g) (row := none) (lk_ HK))); replace HO353 := am_ (Kd.R_elder' (lf_ HO353) (Kd.R_base ho58) hb); replace HI0 := am_ (IsS109.below (ls109_ HI0) hb); replace BK349 := am_ (blk_below (g := gb349) (lb_ BK349) hb); replace BK356 := am_ (blk_below (g := gb356) (lb_ BK356) hb); replace HK := am_ (KeepBut.trans (lk_ HK) (KeepBut.of_below hb g none) (.inl rfl)); replace HB := am_ (below_step (lv109_ HB) hb)
         clear hb ho58
         refine hK.out _ _ ⟨(blk_cell BK356.out 0).trans rfl, (blk_cell BK356.out 1).trans rfl⟩ (fun hHeld => ?_)
         clear hK K
         refine norm_ (a' := ?_) ?_ ?_
         rotate_left
         ·show Act.put _ (some 40) _ = _
          simp only [Act.put, List.setIfInBounds_toArray, List.set_cons_zero, List.set_cons_succ, i64_w, i32_w]
          rfl
         exact norm_ (by simp only [putAll, Act.put, List.setIfInBounds_toArray, List.set_cons_zero, List.set_cons_succ]) (hCont (v373) _ ⟨hHeld, (lt_ (m2_ HO353.out)), (lt_ (m2_ HO374.out)), (lb_ BK349), (lb_ BK356), (ls109_ HI0), (lk_ HK), (lv109_ HB)⟩)
        ·skip
         refine Kd.R_lit_step (Kd.int .i64) _ 3 ?hg (N := 40) ?hd (xs := ([(-1), 65535, 65536, 40000] : List Int)) (inner := [.int .i64 (-1), .int .i64 65535, .int .i64 65536, .int .i64 40000]) (ok := fun _ => True) (okp := fun _ => True) ?hr ?hp (fun _ hk => hk) trivial (Below.refl _ _) (Nat.le_refl _) (by simp) ?_; (case hd => rfl); (case hg => rfl); (case hr => first | (go_simp; done) | (go_simp; rfl)); (case hp => exact (Reps.one (show Kd.M (Kd.int .i64) _ _ _ (-1) [.int .i64 (-1)] from rfl) (Reps.one (show Kd.M (Kd.int .i64) _ _ _ 65535 [.int .i64 65535] from rfl) (Reps.one (show Kd.M (Kd.int .i64) _ _ _ 65536 [.int .i64 65536] from rfl) (Reps.one (show Kd.M (Kd.int .i64) _ _ _ 40000 [.int .i64 40000] from rfl) (Reps.none _ _))))))
         intro v373 w56 ho57 hb hg_ hnew_
         clear hg_ hnew_
         (first | rw [← Ny372.out] at ho57 | (simp only [Int.reduceToNat] at ho57; rw [← Ny372.out] at ho57))
         have HO374 := am_ (Kd.R_lower (nw_ ho57 HO353) (keep_size (w := w) (g := g) (row := none) (lk_ HK))); replace HO353 := am_ (Kd.R_elder' (lf_ HO353) (Kd.R_base ho57) hb); replace HI0 := am_ (IsS109.below (ls109_ HI0) hb); replace BK349 := am_ (blk_below (g := gb349) (lb_ BK349) hb); replace BK356 := am_ (blk_below (g := gb356) (lb_ BK356) hb); replace HK := am_ (KeepBut.trans (lk_ HK) (KeepBut.of_below hb g none) (.inl rfl)); replace HB := am_ (below_step (lv109_ HB) hb)
         clear hb ho57
         refine hK.out _ _ ⟨(blk_cell BK356.out 0).trans rfl, (blk_cell BK356.out 1).trans rfl⟩ (fun hHeld => ?_)
         clear hK K
         refine norm_ (a' := ?_) ?_ ?_
         rotate_left
         ·show Act.put _ (some 40) _ = _
          simp only [Act.put, List.setIfInBounds_toArray, List.set_cons_zero, List.set_cons_succ, i64_w, i32_w]
          rfl
         refine one_ (i := 6) (N := some 38) #[true, true, true, true, true, true, true, true, true, false, false, false] rfl rfl (one_of HT_.out (by kernel_rfl)) (by decide) (fun K hK => ?_)
         refine goes_ Try.func107 (by kernel_rfl) rfl #[.pointer (some ⟨g, 0, none⟩), .int .i64 (t351.length : Int)] (by rfl) rfl rfl lm_ ?_
         with_reducible refine (spec_l1Cur_pick.calls g s0_0 t358 t359 (t351.length : Int) t369 t370 t371 w0 _ ?side1 ?side2 A41.out).mono ?_
         (case side1 => exact ls109_ HI0)
         (case side2 => exact lv109_ HB)
         rintro e w58 ⟨rfl, hi, hb, hk⟩
         refine ⟨_, rfl, ?_⟩
         replace BK349 := am_ (KeepBut.blk hk (g' := gb349) (lb_ BK349) NB349_0.out (by simp)); replace HO353 := am_ (m1_ (Kd.R_keep (IsS109.apart (show IsS109 w0 _ g s0_0 t358 t359 from ls109_ HI0) (lf_ HO353) (by decide)) hk (fun _ h => h.2))); replace BK356 := am_ (KeepBut.blk hk (g' := gb356) (lb_ BK356) NB356_0.out (by simp)); replace HO374 := am_ (m1_ (Kd.R_keep (IsS109.apart (show IsS109 w0 _ g s0_0 t358 t359 from ls109_ HI0) (lf_ HO374) (by decide)) hk (fun _ h => h.2))); replace HK := am_ (KeepBut.trans (lk_ HK) hk (.inl rfl)); replace HB := am_ (hb); replace HI0 := am_ (hi)
         (try clear hb)
         (try clear hb2)
         (try clear hk)
         (try clear hi)
         refine hK.out _ _ ⟨(blk_cell BK356.out 0).trans rfl, (blk_cell BK356.out 1).trans rfl⟩ (fun hHeld => ?_)
         clear hK K
         refine norm_ (a' := ?_) ?_ ?_
         rotate_left
         ·show Act.put _ (some 38) _ = _
          simp only [Act.put, List.setIfInBounds_toArray, List.set_cons_zero, List.set_cons_succ, i64_w, i32_w]
          rfl
         exact norm_ (by simp only [putAll, Act.put, List.setIfInBounds_toArray, List.set_cons_zero, List.set_cons_succ]) (hCont (v373) _ ⟨hHeld, (lt_ (m2_ HO353.out)), (lt_ (m2_ HO374.out)), (lb_ BK349), (lb_ BK356), (ls109_ HI0), (lk_ HK), (lv109_ HB)⟩)
       rintro v373 w59 ⟨hS_, h0_, h1_, h2_, h3_, h4_, h5_, h6_⟩
       have n0_ : Aside0 (Kd.R (Kd.int .i64) 3 w59 w.heap.size (fun k_ => nb_ k_ v373) (.slice Ao52 t351.length co52) t351) := ⟨h0_⟩; have n1_ : Aside0 (Kd.R (Kd.int .i64) 3 w59 w.heap.size (fun k_ => ns_ k_ Ao52 t351 co52) v373 y372) := ⟨h1_⟩; have n2_ : Aside0 (w59.heap[gb349]? = some (.cells #[.int .i64 0, .slice none 0 0] 26 (0, 0))) := ⟨h2_⟩; have n3_ : Aside0 (w59.heap[gb356]? = some (.cells #[.int .i64 t350, .slice Ao52 t351.length co52] 26 (0, 0))) := ⟨h3_⟩; have n4_ : Aside0 (IsS109 w0 w59 g s0_0 t370 t371) := ⟨h4_⟩; have n5_ : Aside0 (KeepBut w w59 g none) := ⟨h5_⟩; have n6_ : Aside0 (Below w0.heap.size w0 w59) := ⟨h6_⟩; clear HO353; clear BK349; clear BK356; clear HI0; clear HK; clear HB
       clear h0_ h1_ h2_ h3_ h4_ h5_ h6_
       have HO353 := n0_
       have HO374 := n1_
       have BK349 := n2_
       have BK356 := n3_
       have HI0 := n4_
       have HK := n5_
       have HB := n6_
       clear n0_ n1_ n2_ n3_ n4_ n5_ n6_
       have hHeld : w59.cell? ⟨gb356, 0, none⟩ = some (.int .i64 t350) ∧ w59.cell? ⟨gb356, 1, none⟩ = some (.slice Ao52 t351.length co52) := hS_
       obtain ⟨Ao60, co60, eo60⟩ := Kd.R_slice HO374.out
       (first | subst eo60 | (injection eo60 with f1_ f2_ f3_; have f4_ := f1_.symm; have f5_ := f3_.symm; clear f1_ f2_ f3_; subst f4_; subst f5_))
       refine norm_ (a' := ?_) ?_ ?_
       rotate_left
       ·simp only [putAll, Act.put, List.setIfInBounds_toArray, List.set_cons_zero, List.set_cons_succ]
        rfl
       refine one_ (i := 9) (N := some 41) #[true, true, true, true, true, true, true, true, true, true, false, false] rfl rfl (one_of HT_.out (by kernel_rfl)) (by decide) (fun K hK => ?_)
       refine goes_ Try.func114 (by kernel_rfl) rfl #[.pointer (some ⟨g, 0, none⟩), .slice Ao60 y372.length co60] (by rfl) rfl rfl lm_ ?_
       with_reducible refine (spec_l1Cur_among.calls g s0_0 t370 t371 _ _ y372 t375 t376 t377 w0 _ ?side1 ?side2 ?side3 ?side4 ?side5 A42.out).mono ?_
       (case side1 => exact ls109_ HI0)
       (case side2 => exact lv109_ HB)
       (case side3 => exact lc_ (Kd.R_reads' HO374.out).2.2)
       (case side4 => exact (Kd.R_reads' HO374.out).2.1)
       (case side5 => exact far_slice (IsS109.own_ne HI0.out HO374.out (by decide)))
       rintro e w61 ⟨rfl, hi, hb, hk⟩
       refine ⟨_, rfl, ?_⟩
       replace BK349 := am_ (KeepBut.blk hk (g' := gb349) (lb_ BK349) NB349_0.out (by simp)); replace HO353 := am_ (m1_ (Kd.R_keep (IsS109.apart (show IsS109 w0 _ g s0_0 t370 t371 from ls109_ HI0) (lf_ HO353) (by decide)) hk (fun _ h => h.2))); replace BK356 := am_ (KeepBut.blk hk (g' := gb356) (lb_ BK356) NB356_0.out (by simp)); replace HO374 := am_ (m1_ (Kd.R_keep (IsS109.apart (show IsS109 w0 _ g s0_0 t370 t371 from ls109_ HI0) (lf_ HO374) (by decide)) hk (fun _ h => h.2))); replace HK := am_ (KeepBut.trans (lk_ HK) hk (.inl rfl)); replace HB := am_ (hb); replace HI0 := am_ (hi)
       (try clear hb)
       (try clear hb2)
       (try clear hk)
       (try clear hi)
       have p45 : 0 ≤ (t369 : Int) := of_decide_eq_true (by first | (with_reducible assumption) | assumption)
       have q45 : (t369 : Int) < ((t351.length : Int) : Int) := of_decide_eq_true (by first | (with_reducible assumption) | assumption)
       obtain ⟨go45, co45, eo45, gb45, gl45, cl45, HG45⟩ := Kd.R_form HO353.out (by omega)
       (first | cases eo45 | (injection eo45 with ea_ en_ ec_; (first | subst ea_ | (injection ea_ with ea_; subst ea_)); subst ec_; clear en_))
       have GB45 := am_ gb45
       have GG45 := am_ HG45
       clear gb45 gl45 HG45
       obtain ⟨hx45_0, hf45_0⟩ := Kd.R_celln 0 HO353.out (t369 : Int) p45 q45
       replace p45 := eq_true p45
       replace q45 := eq_true q45
       have HN0_go45 := am_ (show g ≠ go45 from by have h_ := IsS109.own_ne HI0.out HO353.out (by decide); intro e_; exact h_ (by rw [e_]; rfl))
       have HP62 := Kd.R_putn HO353.out (t369 : Int) t375
       rw [← Ny378.out] at HP62
       have HQ62 := am_ HP62
       clear HP62
       refine hK.out _ _ ⟨(blk_cell BK356.out 0).trans rfl, (blk_cell BK356.out 1).trans rfl⟩ (fun hHeld => ?_)
       clear hK K
       refine norm_ (a' := ?_) ?_ ?_
       rotate_left
       ·show Act.put _ (some 41) _ = _
        simp only [Act.put, List.setIfInBounds_toArray, List.set_cons_zero, List.set_cons_succ, i64_w, i32_w]
        rfl
       refine pure_ (i := 10) (N := some 42) (v := ?_) (a' := ?_) #[true, true, true, true, true, true, true, true, true, true, true, false] rfl rfl (any_of HT_.out (by kernel_rfl)) (fun _ _ _ h => h) (Or.inl ⟨by rfl, ?_⟩) ?_ ?_
       rotate_left
       ·intro w'
        go_simp
        with_reducible rfl
       rotate_left
       ·simp only [Act.put, List.setIfInBounds_toArray, List.set_cons_zero, List.set_cons_succ, i64_w, i32_w]
        rfl
       refine last_ (i := 11) (N := none) #[true, true, true, true, true, true, true, true, true, true, true, true] rfl rfl (one_of HT_.out (by kernel_rfl)) (by decide) (fun K hK => ?_)
       refine skip_ (w1 := ?_) (by rfl) rfl ?_ ?_
       rotate_left
       ·go_simp
        rfl
       refine hK.out _ _ ?_
       clear hK K
       refine done_ (done_of HT_.out (by kernel_rfl)) ?_
       have n0_ : Aside0 (Kd.R (Kd.int .i64) 3 (w61.setCell ⟨go45, (t369 : Int).toNat, none⟩ (.int .i64 t375)) w.heap.size (fun k_ => ns_ k_ Ao60 y372 co60) (.slice (some ⟨go45, 0, none⟩) t351.length co52) y378) := ⟨lf_ HQ62⟩; have n1_ : Aside0 (Kd.R (Kd.int .i64) 3 (w61.setCell ⟨go45, (t369 : Int).toNat, none⟩ (.int .i64 t375)) w.heap.size (fun k_ => some k_ ≠ (.slice (some ⟨go45, 0, none⟩) t351.length co52 : Value).ownBlock) (.slice Ao60 y372.length co60) y372) := ⟨lt_ (m1_ (Kd.R_far (p := ⟨go45, (t369 : Int).toNat, none⟩) (Kd.R_mono HO374.out (fun k_ hk => (⟨hk, fun e_ => hk (by rw [e_]; rfl)⟩ : _ ∧ k_ ≠ go45))) (fun _ hk => hk.2) (.int .i64 t375)))⟩; have n2_ : Aside0 ((w61.setCell ⟨go45, (t369 : Int).toNat, none⟩ (.int .i64 t375)).heap[gb349]? = some (.cells #[.int .i64 0, .slice none 0 0] 26 (0, 0))) := ⟨by (with_reducible repeat (first | refine blk_drewN ?_ _ | refine blk_drew ?_ | refine blk_alloc ?_ _)); refine blk_far ?_ (by have h_ := Kd.R_ne HO353.out BK349.out (by decide); intro e_; exact h_ (by rw [e_]; rfl)) _; (with_reducible repeat (first | refine blk_drewN ?_ _ | refine blk_drew ?_ | refine blk_alloc ?_ _)); exact BK349.out⟩; have n3_ : Aside0 ((w61.setCell ⟨go45, (t369 : Int).toNat, none⟩ (.int .i64 t375)).heap[gb356]? = some (.cells #[.int .i64 t350, .slice (some ⟨go45, 0, none⟩) t351.length co52] 26 (0, 0))) := ⟨by (with_reducible repeat (first | refine blk_drewN ?_ _ | refine blk_drew ?_ | refine blk_alloc ?_ _)); refine blk_far ?_ (by have h_ := Kd.R_ne HO353.out BK356.out (by decide); intro e_; exact h_ (by rw [e_]; rfl)) _; (with_reducible repeat (first | refine blk_drewN ?_ _ | refine blk_drew ?_ | refine blk_alloc ?_ _)); exact BK356.out⟩; have n4_ : Aside0 (IsS109 w0 (w61.setCell ⟨go45, (t369 : Int).toNat, none⟩ (.int .i64 t375)) g s0_0 t376 t377) := ⟨ls109_ HI0⟩; have n5_ : Aside0 (KeepBut w (w61.setCell ⟨go45, (t369 : Int).toNat, none⟩ (.int .i64 t375)) g none) := ⟨lk_ HK⟩; have n6_ : Aside0 (Below w0.heap.size w0 (w61.setCell ⟨go45, (t369 : Int).toNat, none⟩ (.int .i64 t375))) := ⟨by repeat (first | (with_reducible first | exact HB.out | apply below_alloc | apply pw_below_drewN | apply below_drew1 | refine below_set ?_ (Nat.le_trans HL.out GB45.out) | refine below_set ?_ (IsS109.ge HI0.out) | refine below_set ?_ GE349.out | refine below_set ?_ GE356.out) | exact HB.out)⟩
       (try clear HO353)
       (try clear HO374)
       (try clear BK349)
       (try clear BK356)
       (try clear HI0)
       (try clear HK)
       (try clear HB)
       generalize (w61.setCell ⟨go45, (t369 : Int).toNat, none⟩ (.int .i64 t375)) = w63 at n0_ n1_ n2_ n3_ n4_ n5_ n6_ ⊢
       have HO353 := n0_
       have HO374 := n1_
       have BK349 := n2_
       have BK356 := n3_
       have HI0 := n4_
       have HK := n5_
       have HB := n6_
       clear n0_ n1_ n2_ n3_ n4_ n5_ n6_
       obtain ⟨hcz64_0, hcz64_1, hfz64_0, hfz64_1⟩ := bx2_ BK356.out
       have hnb65 := NB349_0.out
       have hnc65 := NB0_349.out
       obtain ⟨hcz66_0, hcz66_1, hfz66_0, hfz66_1⟩ := bx2_ BK349.out
       try go_wp2
       refine bodyPost_ret (results_cell_row rfl _ _ gb349 26 #[.int .i64 t350, .slice (some ⟨go45, 0, none⟩) t351.length co52] (0, 0) _ rfl (lq_ BK349) Try.underlying26 rfl (by kernel_rfl)) rfl ?_
       exact ⟨_, er_, lt_ (mt_ (fr2_ HO353.out BK349.out (.int .i64 t350) (.slice (some ⟨go45, 0, none⟩) t351.length co52))), ls109_ HI0, lv109_ HB, lk_ HK⟩
      ·rw [if_neg c44] at H
       exact absurd H (by simp)
     ·rw [if_neg c43] at H
      exact absurd H (by simp)
    ·rw [if_neg c40] at H
     have c40b0 : decide (0 < (t351.length : Int)) = false := decide_eq_false c40
     have c40b1 : decide (0 < t351.length) = false := decide_eq_false (by omega)
     clear c40
     simp only [Option.some.injEq, Prod.mk.injEq] at H
     obtain ⟨rfl, rfl, rfl, rfl⟩ := H
     go_enter Try.func103, Try.ntmps103
     go_wp2_with (first | ((with_reducible refine gate_dst (N := 2) rfl ?_); refine bev_ 2 #[.int .i64 0, .slice none 0 0] 26 rfl rfl ?_; intro gb349 hg w67 hbox hb; have BK349 := am_ (hbox); have GW349 := am_ ((by rw [hg]; exact (keep_size (w := w) (g := g) (row := none) (lk_ HK)) : w.heap.size ≤ gb349)); have GE349 := am_ ((Nat.le_trans HW0.out (by rw [hg]; exact (keep_size (w := w) (g := g) (row := none) (lk_ HK)) : w.heap.size ≤ gb349) : w0.heap.size ≤ gb349)); have NB0_349 := am_ ((by rw [hg]; exact Nat.ne_of_lt (IsS109.lt (show IsS109 w0 _ g s0_0 s0_1 s0_2 from ls109_ HI0)) : g ≠ gb349)); have NB349_0 := am_ ((by rw [hg]; exact Nat.ne_of_gt (IsS109.lt (show IsS109 w0 _ g s0_0 s0_1 s0_2 from ls109_ HI0)) : gb349 ≠ g)); replace HI0 := am_ (IsS109.below (ls109_ HI0) hb); replace HK := am_ (KeepBut.trans (lk_ HK) (KeepBut.of_below hb g none) (.inl rfl)); replace HB := am_ (below_step (lv109_ HB) hb); clear hb hbox hg) | ((with_reducible refine gate_callee (f := 108) rfl ?_); refine goesL_ (some 5) rfl rfl Try.func108 (by kernel_rfl) rfl #[.pointer (some ⟨g, 0, none⟩), .int .i64 40] rfl lm_ ?_; (with_reducible refine (spec_l1Cur_bits.calls k g s0_0 s0_1 s0_2 40 t350 t351 t354 t355 w0 _ ?side1 ?side2 A2.out).mono ?_); (case side1 => exact ls109_ HI0); (case side2 => exact lv109_ HB); rintro e w68 ⟨v352, rfl, ho0, hi, hb, hk⟩; refine ⟨_, rfl, ?_⟩; have HO353 := am_ (Kd.R_lower ho0 (keep_size (w := w) (g := g) (row := none) (lk_ HK))); replace BK349 := am_ (KeepBut.blk hk (g' := gb349) (lb_ BK349) NB349_0.out (by simp)); replace HK := am_ (KeepBut.trans (lk_ HK) hk (.inl rfl)); replace HB := am_ (hb); replace HI0 := am_ (hi); (try clear hb); (try clear hb2); (try clear hk); (try clear hi); (try clear ho0)) | ((with_reducible refine gate_dst (N := 3) rfl ?_); refine bev_ 3 #[.int .i64 0, .slice none 0 0] 26 rfl rfl ?_; intro gb356 hg w69 hbox hb; have BK356 := am_ (hbox); have GW356 := am_ ((by rw [hg]; exact (keep_size (w := w) (g := g) (row := none) (lk_ HK)) : w.heap.size ≤ gb356)); have GE356 := am_ ((Nat.le_trans HW0.out (by rw [hg]; exact (keep_size (w := w) (g := g) (row := none) (lk_ HK)) : w.heap.size ≤ gb356) : w0.heap.size ≤ gb356)); have NB349_356 := am_ ((by rw [hg]; exact Nat.ne_of_lt (blk_lt (g := gb349) (lb_ BK349)) : gb349 ≠ gb356)); have NB356_349 := am_ ((by rw [hg]; exact Nat.ne_of_gt (blk_lt (g := gb349) (lb_ BK349)) : gb356 ≠ gb349)); have NB0_356 := am_ ((by rw [hg]; exact Nat.ne_of_lt (IsS109.lt (show IsS109 w0 _ g s0_0 t354 t355 from ls109_ HI0)) : g ≠ gb356)); have NB356_0 := am_ ((by rw [hg]; exact Nat.ne_of_gt (IsS109.lt (show IsS109 w0 _ g s0_0 t354 t355 from ls109_ HI0)) : gb356 ≠ g)); replace HO353 := am_ (Kd.R_below (lf_ HO353) hb); replace HI0 := am_ (IsS109.below (ls109_ HI0) hb); replace BK349 := am_ (blk_below (g := gb349) (lb_ BK349) hb); replace HK := am_ (KeepBut.trans (lk_ HK) (KeepBut.of_below hb g none) (.inl rfl)); replace HB := am_ (below_step (lv109_ HB) hb); clear hb hbox hg; have hnb70 := NB356_349.out; have hnc70 := NB349_356.out; have hnb71 := NB356_0.out; have hnc71 := NB0_356.out; obtain ⟨hcz72_0, hcz72_1, hfz72_0, hfz72_1⟩ := bx2_ BK356.out; obtain ⟨Ao73, co73, eo73⟩ := Kd.R_slice HO353.out; subst eo73) | ((with_reducible refine gate_callee (f := 107) rfl ?_); refine goesL_ (some 7) rfl rfl Try.func107 (by kernel_rfl) rfl #[.pointer (some ⟨g, 0, none⟩), .int .i64 16] rfl lm_ ?_; (with_reducible refine (spec_l1Cur_pick.calls g s0_0 t354 t355 16 t357 t358 t359 w0 _ ?side1 ?side2 A3.out).mono ?_); (case side1 => exact ls109_ HI0); (case side2 => exact lv109_ HB); rintro e w74 ⟨rfl, hi, hb, hk⟩; refine ⟨_, rfl, ?_⟩; replace BK349 := am_ (KeepBut.blk hk (g' := gb349) (lg_ BK349) NB349_0.out (by simp)); replace HO353 := am_ (m1_ (Kd.R_keep (IsS109.apart (show IsS109 w0 _ g s0_0 t354 t355 from ls109_ HI0) (lt_ ((m1_ (fr2_ HO353.out BK356.out (.int .i64 t350) (.slice Ao73 t351.length co73))))) (by decide)) hk (fun _ h => h.2))); replace BK356 := am_ (KeepBut.blk hk (g' := gb356) (o := .cells #[.int .i64 t350, .slice Ao73 t351.length co73] 26 (0, 0)) (lq_ BK356) NB356_0.out (by simp)); replace HK := am_ (KeepBut.trans (lk_ HK) hk (.inl rfl)); replace HB := am_ (hb); replace HI0 := am_ (hi); (try clear hb); (try clear hb2); (try clear hk); (try clear hi); obtain ⟨hcz75_0, hcz75_1, hfz75_0, hfz75_1⟩ := bx2_ BK356.out; have hnb76 := NB349_0.out; have hnc76 := NB0_349.out; obtain ⟨hcz77_0, hcz77_1, hfz77_0, hfz77_1⟩ := bx2_ BK349.out))
     refine bodyPost_ret (results_cell_row rfl _ _ gb349 26 #[.int .i64 t350, .slice Ao73 t351.length co73] (0, 0) _ rfl (lq_ BK349) Try.underlying26 rfl (by kernel_rfl)) rfl ?_
     exact ⟨_, er_, lt_ (mt_ (fr2_ HO353.out BK349.out (.int .i64 t350) (.slice Ao73 t351.length co73))), ls109_ HI0, lv109_ HB, lk_ HK⟩
   ·rw [if_neg c39] at H
    have c39b0 : (t357 == 2) = false := beq_eq_false_iff_ne.mpr c39
    have c39b1 : (t357 != 2) = true := bne_iff_ne.mpr c39
    by_cases c78 : t357 = 3
    ·rw [if_pos c78] at H
     have c78b0 : (t357 == 3) = true := beq_iff_eq.mpr c78
     have c78b1 : (t357 != 3) = false := bne_eq_false_iff_eq.mpr c78
     clear c78
     replace H := Option.bind_eq_some_iff.mp H
     obtain ⟨⟨t379, t380, t381⟩, A790, H⟩ := H
     replace H : ((spec_biNew.f (wrap64 (4096 - t379))).bind fun bt382 => (some (bt382.1, bt382.2, t380, t381))) = some (r1, r2, r3, r4) := H
     have A79 := am_ A790
     clear A790
     replace H := Option.bind_eq_some_iff.mp H
     obtain ⟨⟨t382, t383⟩, A800, H⟩ := H
     replace H : (some (t382, t383, t380, t381)) = some (r1, r2, r3, r4) := H
     have A80 := am_ A800
     clear A800
     simp only [Option.some.injEq, Prod.mk.injEq] at H
     obtain ⟨rfl, rfl, rfl, rfl⟩ := H
     go_enter Try.func103, Try.ntmps103
     go_wp2_with (first | ((with_reducible refine gate_dst (N := 2) rfl ?_); refine bev_ 2 #[.int .i64 0, .slice none 0 0] 26 rfl rfl ?_; intro gb349 hg w81 hbox hb; have BK349 := am_ (hbox); have GW349 := am_ ((by rw [hg]; exact (keep_size (w := w) (g := g) (row := none) (lk_ HK)) : w.heap.size ≤ gb349)); have GE349 := am_ ((Nat.le_trans HW0.out (by rw [hg]; exact (keep_size (w := w) (g := g) (row := none) (lk_ HK)) : w.heap.size ≤ gb349) : w0.heap.size ≤ gb349)); have NB0_349 := am_ ((by rw [hg]; exact Nat.ne_of_lt (IsS109.lt (show IsS109 w0 _ g s0_0 s0_1 s0_2 from ls109_ HI0)) : g ≠ gb349)); have NB349_0 := am_ ((by rw [hg]; exact Nat.ne_of_gt (IsS109.lt (show IsS109 w0 _ g s0_0 s0_1 s0_2 from ls109_ HI0)) : gb349 ≠ g)); replace HI0 := am_ (IsS109.below (ls109_ HI0) hb); replace HK := am_ (KeepBut.trans (lk_ HK) (KeepBut.of_below hb g none) (.inl rfl)); replace HB := am_ (below_step (lv109_ HB) hb); clear hb hbox hg) | ((with_reducible refine gate_callee (f := 108) rfl ?_); refine goesL_ (some 5) rfl rfl Try.func108 (by kernel_rfl) rfl #[.pointer (some ⟨g, 0, none⟩), .int .i64 40] rfl lm_ ?_; (with_reducible refine (spec_l1Cur_bits.calls k g s0_0 s0_1 s0_2 40 t350 t351 t354 t355 w0 _ ?side1 ?side2 A2.out).mono ?_); (case side1 => exact ls109_ HI0); (case side2 => exact lv109_ HB); rintro e w82 ⟨v352, rfl, ho0, hi, hb, hk⟩; refine ⟨_, rfl, ?_⟩; have HO353 := am_ (Kd.R_lower ho0 (keep_size (w := w) (g := g) (row := none) (lk_ HK))); replace BK349 := am_ (KeepBut.blk hk (g' := gb349) (lb_ BK349) NB349_0.out (by simp)); replace HK := am_ (KeepBut.trans (lk_ HK) hk (.inl rfl)); replace HB := am_ (hb); replace HI0 := am_ (hi); (try clear hb); (try clear hb2); (try clear hk); (try clear hi); (try clear ho0)) | ((with_reducible refine gate_dst (N := 3) rfl ?_); refine bev_ 3 #[.int .i64 0, .slice none 0 0] 26 rfl rfl ?_; intro gb356 hg w83 hbox hb; have BK356 := am_ (hbox); have GW356 := am_ ((by rw [hg]; exact (keep_size (w := w) (g := g) (row := none) (lk_ HK)) : w.heap.size ≤ gb356)); have GE356 := am_ ((Nat.le_trans HW0.out (by rw [hg]; exact (keep_size (w := w) (g := g) (row := none) (lk_ HK)) : w.heap.size ≤ gb356) : w0.heap.size ≤ gb356)); have NB349_356 := am_ ((by rw [hg]; exact Nat.ne_of_lt (blk_lt (g := gb349) (lb_ BK349)) : gb349 ≠ gb356)); have NB356_349 := am_ ((by rw [hg]; exact Nat.ne_of_gt (blk_lt (g := gb349) (lb_ BK349)) : gb356 ≠ gb349)); have NB0_356 := am_ ((by rw [hg]; exact Nat.ne_of_lt (IsS109.lt (show IsS109 w0 _ g s0_0 t354 t355 from ls109_ HI0)) : g ≠ gb356)); have NB356_0 := am_ ((by rw [hg]; exact Nat.ne_of_gt (IsS109.lt (show IsS109 w0 _ g s0_0 t354 t355 from ls109_ HI0)) : gb356 ≠ g)); replace HO353 := am_ (Kd.R_below (lf_ HO353) hb); replace HI0 := am_ (IsS109.below (ls109_ HI0) hb); replace BK349 := am_ (blk_below (g := gb349) (lb_ BK349) hb); replace HK := am_ (KeepBut.trans (lk_ HK) (KeepBut.of_below hb g none) (.inl rfl)); replace HB := am_ (below_step (lv109_ HB) hb); clear hb hbox hg; have hnb84 := NB356_349.out; have hnc84 := NB349_356.out; have hnb85 := NB356_0.out; have hnc85 := NB0_356.out; obtain ⟨hcz86_0, hcz86_1, hfz86_0, hfz86_1⟩ := bx2_ BK356.out; obtain ⟨Ao87, co87, eo87⟩ := Kd.R_slice HO353.out; subst eo87) | ((with_reducible refine gate_callee (f := 107) rfl ?_); refine goesL_ (some 7) rfl rfl Try.func107 (by kernel_rfl) rfl #[.pointer (some ⟨g, 0, none⟩), .int .i64 16] rfl lm_ ?_; (with_reducible refine (spec_l1Cur_pick.calls g s0_0 t354 t355 16 t357 t358 t359 w0 _ ?side1 ?side2 A3.out).mono ?_); (case side1 => exact ls109_ HI0); (case side2 => exact lv109_ HB); rintro e w88 ⟨rfl, hi, hb, hk⟩; refine ⟨_, rfl, ?_⟩; replace BK349 := am_ (KeepBut.blk hk (g' := gb349) (lg_ BK349) NB349_0.out (by simp)); replace HO353 := am_ (m1_ (Kd.R_keep (IsS109.apart (show IsS109 w0 _ g s0_0 t354 t355 from ls109_ HI0) (lt_ ((m1_ (fr2_ HO353.out BK356.out (.int .i64 t350) (.slice Ao87 t351.length co87))))) (by decide)) hk (fun _ h => h.2))); replace BK356 := am_ (KeepBut.blk hk (g' := gb356) (o := .cells #[.int .i64 t350, .slice Ao87 t351.length co87] 26 (0, 0)) (lq_ BK356) NB356_0.out (by simp)); replace HK := am_ (KeepBut.trans (lk_ HK) hk (.inl rfl)); replace HB := am_ (hb); replace HI0 := am_ (hi); (try clear hb); (try clear hb2); (try clear hk); (try clear hi)) | ((with_reducible refine gate_callee (f := 107) rfl ?_); refine goesL_ (some 46) rfl rfl Try.func107 (by kernel_rfl) rfl #[.pointer (some ⟨g, 0, none⟩), .int .i64 2] rfl lm_ ?_; (with_reducible refine (spec_l1Cur_pick.calls g s0_0 t358 t359 2 t379 t380 t381 w0 _ ?side1 ?side2 A79.out).mono ?_); (case side1 => exact ls109_ HI0); (case side2 => exact lv109_ HB); rintro e w89 ⟨rfl, hi, hb, hk⟩; refine ⟨_, rfl, ?_⟩; replace BK349 := am_ (KeepBut.blk hk (g' := gb349) (lb_ BK349) NB349_0.out (by simp)); replace HO353 := am_ (m1_ (Kd.R_keep (IsS109.apart (show IsS109 w0 _ g s0_0 t358 t359 from ls109_ HI0) (lf_ HO353) (by decide)) hk (fun _ h => h.2))); replace BK356 := am_ (KeepBut.blk hk (g' := gb356) (lb_ BK356) NB356_0.out (by simp)); replace HK := am_ (KeepBut.trans (lk_ HK) hk (.inl rfl)); replace HB := am_ (hb); replace HI0 := am_ (hi); (try clear hb); (try clear hb2); (try clear hk); (try clear hi)) | ((with_reducible refine gate_callee (f := 106) rfl ?_); refine goesL_ (some 48) rfl rfl Try.func106 (by kernel_rfl) rfl #[.int .i64 (wrap64 (4096 - t379))] rfl lm_ ?_; (with_reducible refine (spec_biNew.calls (wrap64 (4096 - t379)) t382 t383 _ A80.out).mono ?_); rintro e w90 ⟨v384, rfl, ho0, hb⟩; refine ⟨_, rfl, ?_⟩; have HO385 := am_ (Kd.R_lower (nw_ ho0 HO353) (keep_size (w := w) (g := g) (row := none) (lk_ HK))); replace HO353 := am_ (Kd.R_elder' (lf_ HO353) (Kd.R_base ho0) hb); replace HI0 := am_ (IsS109.below (ls109_ HI0) hb); replace BK349 := am_ (blk_below (g := gb349) (lb_ BK349) hb); replace BK356 := am_ (blk_below (g := gb356) (lb_ BK356) hb); replace HK := am_ (KeepBut.trans (lk_ HK) (KeepBut.of_below hb g none) (.inl rfl)); replace HB := am_ (below_step (lv109_ HB) hb); (try clear hb); (try clear hb2); (try clear hk); (try clear hi); (try clear ho0); obtain ⟨hcz91_0, hcz91_1, hfz91_0, hfz91_1⟩ := bx2_ BK356.out; obtain ⟨Ao92, co92, eo92⟩ := Kd.R_slice HO385.out; subst eo92; have hnb93 := NB349_0.out; have hnc93 := NB0_349.out; obtain ⟨hcz94_0, hcz94_1, hfz94_0, hfz94_1⟩ := bx2_ BK349.out))
     refine bodyPost_ret (results_cell_row rfl _ _ gb349 26 #[.int .i64 t382, .slice Ao92 t383.length co92] (0, 0) _ rfl (lq_ BK349) Try.underlying26 rfl (by kernel_rfl)) rfl ?_
     exact ⟨_, er_, lt_ (mt_ (Kd.R_far (p := ⟨gb349, 1, none⟩) (Kd.R_far (p := ⟨gb349, 0, none⟩) (Kd.R_far (p := ⟨gb356, 1, none⟩) (Kd.R_far (p := ⟨gb356, 0, none⟩) (Kd.R_types (Kd.R_types HO385.out BK356.out (by decide)) BK349.out (by decide)) (fun _ hk => hk.1.2) (.int .i64 t382)) (fun _ hk => hk.1.2) (.slice Ao92 t383.length co92)) (fun _ hk => hk.2) (.int .i64 t382)) (fun _ hk => hk.2) (.slice Ao92 t383.length co92))), ls109_ HI0, lv109_ HB, lk_ HK⟩
    ·rw [if_neg c78] at H
     have c78b0 : (t357 == 3) = false := beq_eq_false_iff_ne.mpr c78
     have c78b1 : (t357 != 3) = true := bne_iff_ne.mpr c78
     by_cases c95 : t357 = 4
     ·rw [if_pos c95] at H
      have c95b0 : (t357 == 4) = true := beq_iff_eq.mpr c95
      have c95b1 : (t357 != 4) = false := bne_eq_false_iff_eq.mpr c95
      clear c95
      replace H := Option.bind_eq_some_iff.mp H
      obtain ⟨⟨t386, t387, t388⟩, A960, H⟩ := H
      replace H : ((spec_biNew.f (wrap64 (16 * t386))).bind fun bt389 => (some (bt389.1, bt389.2, t387, t388))) = some (r1, r2, r3, r4) := H
      have A96 := am_ A960
      clear A960
      replace H := Option.bind_eq_some_iff.mp H
      obtain ⟨⟨t389, t390⟩, A970, H⟩ := H
      replace H : (some (t389, t390, t387, t388)) = some (r1, r2, r3, r4) := H
      have A97 := am_ A970
      clear A970
      simp only [Option.some.injEq, Prod.mk.injEq] at H
      obtain ⟨rfl, rfl, rfl, rfl⟩ := H
      go_enter Try.func103, Try.ntmps103
      go_wp2_with (first | ((with_reducible refine gate_dst (N := 2) rfl ?_); refine bev_ 2 #[.int .i64 0, .slice none 0 0] 26 rfl rfl ?_; intro gb349 hg w98 hbox hb; have BK349 := am_ (hbox); have GW349 := am_ ((by rw [hg]; exact (keep_size (w := w) (g := g) (row := none) (lk_ HK)) : w.heap.size ≤ gb349)); have GE349 := am_ ((Nat.le_trans HW0.out (by rw [hg]; exact (keep_size (w := w) (g := g) (row := none) (lk_ HK)) : w.heap.size ≤ gb349) : w0.heap.size ≤ gb349)); have NB0_349 := am_ ((by rw [hg]; exact Nat.ne_of_lt (IsS109.lt (show IsS109 w0 _ g s0_0 s0_1 s0_2 from ls109_ HI0)) : g ≠ gb349)); have NB349_0 := am_ ((by rw [hg]; exact Nat.ne_of_gt (IsS109.lt (show IsS109 w0 _ g s0_0 s0_1 s0_2 from ls109_ HI0)) : gb349 ≠ g)); replace HI0 := am_ (IsS109.below (ls109_ HI0) hb); replace HK := am_ (KeepBut.trans (lk_ HK) (KeepBut.of_below hb g none) (.inl rfl)); replace HB := am_ (below_step (lv109_ HB) hb); clear hb hbox hg) | ((with_reducible refine gate_callee (f := 108) rfl ?_); refine goesL_ (some 5) rfl rfl Try.func108 (by kernel_rfl) rfl #[.pointer (some ⟨g, 0, none⟩), .int .i64 40] rfl lm_ ?_; (with_reducible refine (spec_l1Cur_bits.calls k g s0_0 s0_1 s0_2 40 t350 t351 t354 t355 w0 _ ?side1 ?side2 A2.out).mono ?_); (case side1 => exact ls109_ HI0); (case side2 => exact lv109_ HB); rintro e w99 ⟨v352, rfl, ho0, hi, hb, hk⟩; refine ⟨_, rfl, ?_⟩; have HO353 := am_ (Kd.R_lower ho0 (keep_size (w := w) (g := g) (row := none) (lk_ HK))); replace BK349 := am_ (KeepBut.blk hk (g' := gb349) (lb_ BK349) NB349_0.out (by simp)); replace HK := am_ (KeepBut.trans (lk_ HK) hk (.inl rfl)); replace HB := am_ (hb); replace HI0 := am_ (hi); (try clear hb); (try clear hb2); (try clear hk); (try clear hi); (try clear ho0)) | ((with_reducible refine gate_dst (N := 3) rfl ?_); refine bev_ 3 #[.int .i64 0, .slice none 0 0] 26 rfl rfl ?_; intro gb356 hg w100 hbox hb; have BK356 := am_ (hbox); have GW356 := am_ ((by rw [hg]; exact (keep_size (w := w) (g := g) (row := none) (lk_ HK)) : w.heap.size ≤ gb356)); have GE356 := am_ ((Nat.le_trans HW0.out (by rw [hg]; exact (keep_size (w := w) (g := g) (row := none) (lk_ HK)) : w.heap.size ≤ gb356) : w0.heap.size ≤ gb356)); have NB349_356 := am_ ((by rw [hg]; exact Nat.ne_of_lt (blk_lt (g := gb349) (lb_ BK349)) : gb349 ≠ gb356)); have NB356_349 := am_ ((by rw [hg]; exact Nat.ne_of_gt (blk_lt (g := gb349) (lb_ BK349)) : gb356 ≠ gb349)); have NB0_356 := am_ ((by rw [hg]; exact Nat.ne_of_lt (IsS109.lt (show IsS109 w0 _ g s0_0 t354 t355 from ls109_ HI0)) : g ≠ gb356)); have NB356_0 := am_ ((by rw [hg]; exact Nat.ne_of_gt (IsS109.lt (show IsS109 w0 _ g s0_0 t354 t355 from ls109_ HI0)) : gb356 ≠ g)); replace HO353 := am_ (Kd.R_below (lf_ HO353) hb); replace HI0 := am_ (IsS109.below (ls109_ HI0) hb); replace BK349 := am_ (blk_below (g := gb349) (lb_ BK349) hb); replace HK := am_ (KeepBut.trans (lk_ HK) (KeepBut.of_below hb g none) (.inl rfl)); replace HB := am_ (below_step (lv109_ HB) hb); clear hb hbox hg; have hnb101 := NB356_349.out; have hnc101 := NB349_356.out; have hnb102 := NB356_0.out; have hnc102 := NB0_356.out; obtain ⟨hcz103_0, hcz103_1, hfz103_0, hfz103_1⟩ := bx2_ BK356.out; obtain ⟨Ao104, co104, eo104⟩ := Kd.R_slice HO353.out; subst eo104) | ((with_reducible refine gate_callee (f := 107) rfl ?_); refine goesL_ (some 7) rfl rfl Try.func107 (by kernel_rfl) rfl #[.pointer (some ⟨g, 0, none⟩), .int .i64 16] rfl lm_ ?_; (with_reducible refine (spec_l1Cur_pick.calls g s0_0 t354 t355 16 t357 t358 t359 w0 _ ?side1 ?side2 A3.out).mono ?_); (case side1 => exact ls109_ HI0); (case side2 => exact lv109_ HB); rintro e w105 ⟨rfl, hi, hb, hk⟩; refine ⟨_, rfl, ?_⟩; replace BK349 := am_ (KeepBut.blk hk (g' := gb349) (lg_ BK349) NB349_0.out (by simp)); replace HO353 := am_ (m1_ (Kd.R_keep (IsS109.apart (show IsS109 w0 _ g s0_0 t354 t355 from ls109_ HI0) (lt_ ((m1_ (fr2_ HO353.out BK356.out (.int .i64 t350) (.slice Ao104 t351.length co104))))) (by decide)) hk (fun _ h => h.2))); replace BK356 := am_ (KeepBut.blk hk (g' := gb356) (o := .cells #[.int .i64 t350, .slice Ao104 t351.length co104] 26 (0, 0)) (lq_ BK356) NB356_0.out (by simp)); replace HK := am_ (KeepBut.trans (lk_ HK) hk (.inl rfl)); replace HB := am_ (hb); replace HI0 := am_ (hi); (try clear hb); (try clear hb2); (try clear hk); (try clear hi)) | ((with_reducible refine gate_callee (f := 107) rfl ?_); refine goesL_ (some 52) rfl rfl Try.func107 (by kernel_rfl) rfl #[.pointer (some ⟨g, 0, none⟩), .int .i64 5] rfl lm_ ?_; (with_reducible refine (spec_l1Cur_pick.calls g s0_0 t358 t359 5 t386 t387 t388 w0 _ ?side1 ?side2 A96.out).mono ?_); (case side1 => exact ls109_ HI0); (case side2 => exact lv109_ HB); rintro e w106 ⟨rfl, hi, hb, hk⟩; refine ⟨_, rfl, ?_⟩; replace BK349 := am_ (KeepBut.blk hk (g' := gb349) (lb_ BK349) NB349_0.out (by simp)); replace HO353 := am_ (m1_ (Kd.R_keep (IsS109.apart (show IsS109 w0 _ g s0_0 t358 t359 from ls109_ HI0) (lf_ HO353) (by decide)) hk (fun _ h => h.2))); replace BK356 := am_ (KeepBut.blk hk (g' := gb356) (lb_ BK356) NB356_0.out (by simp)); replace HK := am_ (KeepBut.trans (lk_ HK) hk (.inl rfl)); replace HB := am_ (hb); replace HI0 := am_ (hi); (try clear hb); (try clear hb2); (try clear hk); (try clear hi)) | ((with_reducible refine gate_callee (f := 106) rfl ?_); refine goesL_ (some 54) rfl rfl Try.func106 (by kernel_rfl) rfl #[.int .i64 (wrap64 (16 * t386))] rfl lm_ ?_; (with_reducible refine (spec_biNew.calls (wrap64 (16 * t386)) t389 t390 _ A97.out).mono ?_); rintro e w107 ⟨v391, rfl, ho0, hb⟩; refine ⟨_, rfl, ?_⟩; have HO392 := am_ (Kd.R_lower (nw_ ho0 HO353) (keep_size (w := w) (g := g) (row := none) (lk_ HK))); replace HO353 := am_ (Kd.R_elder' (lf_ HO353) (Kd.R_base ho0) hb); replace HI0 := am_ (IsS109.below (ls109_ HI0) hb); replace BK349 := am_ (blk_below (g := gb349) (lb_ BK349) hb); replace BK356 := am_ (blk_below (g := gb356) (lb_ BK356) hb); replace HK := am_ (KeepBut.trans (lk_ HK) (KeepBut.of_below hb g none) (.inl rfl)); replace HB := am_ (below_step (lv109_ HB) hb); (try clear hb); (try clear hb2); (try clear hk); (try clear hi); (try clear ho0); obtain ⟨hcz108_0, hcz108_1, hfz108_0, hfz108_1⟩ := bx2_ BK356.out; obtain ⟨Ao109, co109, eo109⟩ := Kd.R_slice HO392.out; subst eo109; have hnb110 := NB349_0.out; have hnc110 := NB0_349.out; obtain ⟨hcz111_0, hcz111_1, hfz111_0, hfz111_1⟩ := bx2_ BK349.out))
      refine bodyPost_ret (results_cell_row rfl _ _ gb349 26 #[.int .i64 t389, .slice Ao109 t390.length co109] (0, 0) _ rfl (lq_ BK349) Try.underlying26 rfl (by kernel_rfl)) rfl ?_
      exact ⟨_, er_, lt_ (mt_ (Kd.R_far (p := ⟨gb349, 1, none⟩) (Kd.R_far (p := ⟨gb349, 0, none⟩) (Kd.R_far (p := ⟨gb356, 1, none⟩) (Kd.R_far (p := ⟨gb356, 0, none⟩) (Kd.R_types (Kd.R_types HO392.out BK356.out (by decide)) BK349.out (by decide)) (fun _ hk => hk.1.2) (.int .i64 t389)) (fun _ hk => hk.1.2) (.slice Ao109 t390.length co109)) (fun _ hk => hk.2) (.int .i64 t389)) (fun _ hk => hk.2) (.slice Ao109 t390.length co109))), ls109_ HI0, lv109_ HB, lk_ HK⟩
     ·rw [if_neg c95] at H
      have c95b0 : (t357 == 4) = false := beq_eq_false_iff_ne.mpr c95
      have c95b1 : (t357 != 4) = true := bne_iff_ne.mpr c95
      simp only [Option.some.injEq, Prod.mk.injEq] at H
      obtain ⟨rfl, rfl, rfl, rfl⟩ := H
      go_enter Try.func103, Try.ntmps103
      go_wp2_with (first | ((with_reducible refine gate_dst (N := 2) rfl ?_); refine bev_ 2 #[.int .i64 0, .slice none 0 0] 26 rfl rfl ?_; intro gb349 hg w112 hbox hb; have BK349 := am_ (hbox); have GW349 := am_ ((by rw [hg]; exact (keep_size (w := w) (g := g) (row := none) (lk_ HK)) : w.heap.size ≤ gb349)); have GE349 := am_ ((Nat.le_trans HW0.out (by rw [hg]; exact (keep_size (w := w) (g := g) (row := none) (lk_ HK)) : w.heap.size ≤ gb349) : w0.heap.size ≤ gb349)); have NB0_349 := am_ ((by rw [hg]; exact Nat.ne_of_lt (IsS109.lt (show IsS109 w0 _ g s0_0 s0_1 s0_2 from ls109_ HI0)) : g ≠ gb349)); have NB349_0 := am_ ((by rw [hg]; exact Nat.ne_of_gt (IsS109.lt (show IsS109 w0 _ g s0_0 s0_1 s0_2 from ls109_ HI0)) : gb349 ≠ g)); replace HI0 := am_ (IsS109.below (ls109_ HI0) hb); replace HK := am_ (KeepBut.trans (lk_ HK) (KeepBut.of_below hb g none) (.inl rfl)); replace HB := am_ (below_step (lv109_ HB) hb); clear hb hbox hg) | ((with_reducible refine gate_callee (f := 108) rfl ?_); refine goesL_ (some 5) rfl rfl Try.func108 (by kernel_rfl) rfl #[.pointer (some ⟨g, 0, none⟩), .int .i64 40] rfl lm_ ?_; (with_reducible refine (spec_l1Cur_bits.calls k g s0_0 s0_1 s0_2 40 t350 t351 t354 t355 w0 _ ?side1 ?side2 A2.out).mono ?_); (case side1 => exact ls109_ HI0); (case side2 => exact lv109_ HB); rintro e w113 ⟨v352, rfl, ho0, hi, hb, hk⟩; refine ⟨_, rfl, ?_⟩; have HO353 := am_ (Kd.R_lower ho0 (keep_size (w := w) (g := g) (row := none) (lk_ HK))); replace BK349 := am_ (KeepBut.blk hk (g' := gb349) (lb_ BK349) NB349_0.out (by simp)); replace HK := am_ (KeepBut.trans (lk_ HK) hk (.inl rfl)); replace HB := am_ (hb); replace HI0 := am_ (hi); (try clear hb); (try clear hb2); (try clear hk); (try clear hi); (try clear ho0)) | ((with_reducible refine gate_dst (N := 3) rfl ?_); refine bev_ 3 #[.int .i64 0, .slice none 0 0] 26 rfl rfl ?_; intro gb356 hg w114 hbox hb; have BK356 := am_ (hbox); have GW356 := am_ ((by rw [hg]; exact (keep_size (w := w) (g := g) (row := none) (lk_ HK)) : w.heap.size ≤ gb356)); have GE356 := am_ ((Nat.le_trans HW0.out (by rw [hg]; exact (keep_size (w := w) (g := g) (row := none) (lk_ HK)) : w.heap.size ≤ gb356) : w0.heap.size ≤ gb356)); have NB349_356 := am_ ((by rw [hg]; exact Nat.ne_of_lt (blk_lt (g := gb349) (lb_ BK349)) : gb349 ≠ gb356)); have NB356_349 := am_ ((by rw [hg]; exact Nat.ne_of_gt (blk_lt (g := gb349) (lb_ BK349)) : gb356 ≠ gb349)); have NB0_356 := am_ ((by rw [hg]; exact Nat.ne_of_lt (IsS109.lt (show IsS109 w0 _ g s0_0 t354 t355 from ls109_ HI0)) : g ≠ gb356)); have NB356_0 := am_ ((by rw [hg]; exact Nat.ne_of_gt (IsS109.lt (show IsS109 w0 _ g s0_0 t354 t355 from ls109_ HI0)) : gb356 ≠ g)); replace HO353 := am_ (Kd.R_below (lf_ HO353) hb); replace HI0 := am_ (IsS109.below (ls109_ HI0) hb); replace BK349 := am_ (blk_below (g := gb349) (lb_ BK349) hb); replace HK := am_ (KeepBut.trans (lk_ HK) (KeepBut.of_below hb g none) (.inl rfl)); replace HB := am_ (below_step (lv109_ HB) hb); clear hb hbox hg; have hnb115 := NB356_349.out; have hnc115 := NB349_356.out; have hnb116 := NB356_0.out; have hnc116 := NB0_356.out; obtain ⟨hcz117_0, hcz117_1, hfz117_0, hfz117_1⟩ := bx2_ BK356.out; obtain ⟨Ao118, co118, eo118⟩ := Kd.R_slice HO353.out; subst eo118) | ((with_reducible refine gate_callee (f := 107) rfl ?_); refine goesL_ (some 7) rfl rfl Try.func107 (by kernel_rfl) rfl #[.pointer (some ⟨g, 0, none⟩), .int .i64 16] rfl lm_ ?_; (with_reducible refine (spec_l1Cur_pick.calls g s0_0 t354 t355 16 t357 t358 t359 w0 _ ?side1 ?side2 A3.out).mono ?_); (case side1 => exact ls109_ HI0); (case side2 => exact lv109_ HB); rintro e w119 ⟨rfl, hi, hb, hk⟩; refine ⟨_, rfl, ?_⟩; replace BK349 := am_ (KeepBut.blk hk (g' := gb349) (lg_ BK349) NB349_0.out (by simp)); replace HO353 := am_ (m1_ (Kd.R_keep (IsS109.apart (show IsS109 w0 _ g s0_0 t354 t355 from ls109_ HI0) (lt_ ((m1_ (fr2_ HO353.out BK356.out (.int .i64 t350) (.slice Ao118 t351.length co118))))) (by decide)) hk (fun _ h => h.2))); replace BK356 := am_ (KeepBut.blk hk (g' := gb356) (o := .cells #[.int .i64 t350, .slice Ao118 t351.length co118] 26 (0, 0)) (lq_ BK356) NB356_0.out (by simp)); replace HK := am_ (KeepBut.trans (lk_ HK) hk (.inl rfl)); replace HB := am_ (hb); replace HI0 := am_ (hi); (try clear hb); (try clear hb2); (try clear hk); (try clear hi); obtain ⟨hcz120_0, hcz120_1, hfz120_0, hfz120_1⟩ := bx2_ BK356.out; have hnb121 := NB349_0.out; have hnc121 := NB0_349.out; obtain ⟨hcz122_0, hcz122_1, hfz122_0, hfz122_1⟩ := bx2_ BK349.out))
      refine bodyPost_ret (results_cell_row rfl _ _ gb349 26 #[.int .i64 t350, .slice Ao118 t351.length co118] (0, 0) _ rfl (lq_ BK349) Try.underlying26 rfl (by kernel_rfl)) rfl ?_
      exact ⟨_, er_, lt_ (mt_ (fr2_ HO353.out BK349.out (.int .i64 t350) (.slice Ao118 t351.length co118))), ls109_ HI0, lv109_ HB, lk_ HK⟩

end Go.Proofs.Ytkmhjgejficclaa.PFnDirectoriesArePacked
