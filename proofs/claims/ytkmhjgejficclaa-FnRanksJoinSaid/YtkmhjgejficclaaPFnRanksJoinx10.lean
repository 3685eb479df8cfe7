-- Laid by a program of this session: the print of the kit with additions of ours (wip/tools/patchprint.py). Nothing of it is trusted: Lean checks it.
import Derived.Test.YtkmhjgejficclaaPFnRanksJoinx0
import Derived.Test.YtkmhjgejficclaaPFnRanksJoinx1
import Derived.Test.YtkmhjgejficclaaPFnRanksJoinx3
import Derived.Test.YtkmhjgejficclaaPFnRanksJoinx8
import Derived.Test.YtkmhjgejficclaaPFnRanksJoinx9
namespace Go.Proofs.Ytkmhjgejficclaa.PFnRanksJoin
open Go.RowKit Go.Proofs.YtkmhjgejficclaaW.PrintWords Go.Proofs.YtkmhjgejficclaaW.PrintLast Go.Proofs.YtkmhjgejficclaaW.PrintMore
attribute [local go_sem] max2_int min2_int max_two min_two max_three min_three max_four min_four   -- for this text's walks alone
set_option linter.unusedVariables false
set_option linter.unusedSimpArgs false

/-! ### spec_l1Cur_ranked: function 101 -/
def spec_l1Cur_ranked.j0 : Nat → List Int → Int → Int → Int → List Int → Option (Int × List Int × List Int × List Int × Int × Int)
 | 0, _, _, _, _, _ => none
 | k + 1, x1000, x1001, x1002, x383000, x383001 => (spec_raOf.f k x383000 x383001).bind fun bt411 => ((spec_l1Cur_pick.f x1000 x1001 x1002 14).bind fun bt422 => (if bt422.1 = 0 then (if (bt411.2.2.1.length : Int) > 0 then ((spec_l1Cur_pick.f x1000 bt422.2.1 bt422.2.2 (bt411.2.2.1.length : Int)).bind fun bt425 => (if 0 ≤ bt425.1 then (if bt425.1 < (bt411.2.2.1.length : Int) then ((spec_l1Cur_pick.f x1000 bt425.2.1 bt425.2.2 3).bind fun bt429 => (some (bt411.1, bt411.2.1, (bt411.2.2.1.set (bt425.1 : Int).toNat (wrap64 ((rd bt411.2.2.1 bt425.1) + (wrap64 (bt429.1 - 1))))), bt411.2.2.2, bt429.2.1, bt429.2.2))) else (none)) else (none))) else (some (bt411.1, bt411.2.1, bt411.2.2.1, bt411.2.2.2, bt422.2.1, bt422.2.2))) else (if bt422.1 = 1 then (if (bt411.2.2.2.length : Int) > 0 then ((spec_l1Cur_pick.f x1000 bt422.2.1 bt422.2.2 (bt411.2.2.2.length : Int)).bind fun bt433 => (if 0 ≤ bt433.1 then (if bt433.1 < (bt411.2.2.2.length : Int) then ((spec_l1Cur_pick.f x1000 bt433.2.1 bt433.2.2 3).bind fun bt437 => (some (bt411.1, bt411.2.1, bt411.2.2.1, (bt411.2.2.2.set (bt433.1 : Int).toNat (wrap64 ((rd bt411.2.2.2 bt433.1) + (wrap64 (bt437.1 - 1))))), bt437.2.1, bt437.2.2))) else (none)) else (none))) else (some (bt411.1, bt411.2.1, bt411.2.2.1, bt411.2.2.2, bt422.2.1, bt422.2.2))) else (if bt422.1 = 2 then (if bt411.2.2.2.length < 17592186044416 then (some (bt411.1, bt411.2.1, bt411.2.2.1, (bt411.2.2.2 ++ [0]), bt422.2.1, bt422.2.2)) else (none)) else (if bt422.1 = 3 then ((spec_l1Cur_anyBits.f k x1000 bt422.2.1 bt422.2.2).bind fun bt444 => (some (bt444.1, bt444.2.1, bt411.2.2.1, bt411.2.2.2, bt444.2.2.1, bt444.2.2.2))) else (some (bt411.1, bt411.2.1, bt411.2.2.1, bt411.2.2.2, bt422.2.1, bt422.2.2)))))))
def spec_l1Cur_ranked.f (k : Nat) (s0_0 : List Int) (s0_1 : Int) (s0_2 : Int) : Option (Int × List Int × List Int × List Int × Int × Int) := (spec_l1Cur_bits.f k s0_0 s0_1 s0_2 70).bind fun bt376 => ((spec_l1Cur_one.f s0_0 bt376.2.2.1 bt376.2.2.2 8).bind fun bt383 => (if bt383.1 = true then ((spec_l1Cur_bits.f k s0_0 bt383.2.1 bt383.2.2 200).bind fun bt386 => ((spec_biList.f k bt386.1 bt386.2.1).bind fun t392 => ((spec_l1Cur_bits.f k s0_0 bt386.2.2.1 bt386.2.2.2 200).bind fun bt395 => ((spec_biList.f k bt395.1 bt395.2.1).bind fun t401 => (if t392.length + t401.length < 140737488355328 then ((spec_biSome.f k (t392 ++ t401)).bind fun bt407 => (spec_l1Cur_ranked.j0 k s0_0 bt395.2.2.1 bt395.2.2.2 bt407.1 bt407.2)) else (none)))))) else (spec_l1Cur_ranked.j0 k s0_0 bt383.2.1 bt383.2.2 bt376.1 bt376.2.1)))
theorem spec_l1Cur_ranked.mono_l : ∀ k, (∀ y0 y1 y2 y3 y4, LeO (spec_l1Cur_ranked.j0 k y0 y1 y2 y3 y4) (spec_l1Cur_ranked.j0 (k + 1) y0 y1 y2 y3 y4))
 | 0 => fun _ _ _ _ _ r h => by simp [spec_l1Cur_ranked.j0] at h
 | k + 1 => by
  have ih0 := spec_l1Cur_ranked.mono_l k
  ·intro y0 y1 y2 y3 y4
   unfold spec_l1Cur_ranked.j0
   repeat' first
   | (with_reducible exact ih0 _ _ _ _ _)
   | (with_reducible exact spec_biList.mono _ _ _)
   | (with_reducible exact spec_biSome.mono _ _)
   | (with_reducible exact spec_l1Cur_anyBits.mono _ _ _ _)
   | (with_reducible exact spec_l1Cur_bits.mono _ _ _ _ _)
   | (with_reducible exact spec_raOf.mono _ _ _)
   | (with_reducible exact LeO.refl _)
   | (with_reducible exact LeO.none _)
   | (with_reducible refine LeO.ite ?_ ?_)
   | (with_reducible refine LeO.bind ?_ (fun _ => ?_))
   | exact ih0 _ _ _ _ _
   | exact spec_biList.mono _ _ _
   | exact spec_biSome.mono _ _
   | exact spec_l1Cur_anyBits.mono _ _ _ _
   | exact spec_l1Cur_bits.mono _ _ _ _ _
   | exact spec_raOf.mono _ _ _
   | exact LeO.none _
   | refine LeO.ite ?_ ?_
   | refine LeO.bind ?_ (fun _ => ?_)
theorem spec_l1Cur_ranked.mono : ∀ a0 a1 a2 k, LeO (spec_l1Cur_ranked.f k a0 a1 a2) (spec_l1Cur_ranked.f (k + 1) a0 a1 a2) := by
 intro a0 a1 a2 k
 have ih0 := spec_l1Cur_ranked.mono_l k
 unfold spec_l1Cur_ranked.f
 repeat' first
   | (with_reducible exact ih0 _ _ _ _ _)
   | (with_reducible exact spec_biList.mono _ _ _)
   | (with_reducible exact spec_biSome.mono _ _)
   | (with_reducible exact spec_l1Cur_anyBits.mono _ _ _ _)
   | (with_reducible exact spec_l1Cur_bits.mono _ _ _ _ _)
   | (with_reducible exact spec_raOf.mono _ _ _)
   | (with_reducible exact LeO.refl _)
   | (with_reducible exact LeO.none _)
   | (with_reducible refine LeO.ite ?_ ?_)
   | (with_reducible refine LeO.bind ?_ (fun _ => ?_))
   | exact ih0 _ _ _ _ _
   | exact spec_biList.mono _ _ _
   | exact spec_biSome.mono _ _
   | exact spec_l1Cur_anyBits.mono _ _ _ _
   | exact spec_l1Cur_bits.mono _ _ _ _ _
   | exact spec_raOf.mono _ _ _
   | exact LeO.none _
   | refine LeO.ite ?_ ?_
   | refine LeO.bind ?_ (fun _ => ?_)
def spec_l1Cur_ranked.T8 : Bool × List (List Nat × List Nat) := (true, [([], []), ([0], [0]), ([], []), ([], []), ([3], [3]), ([4], [4]), ([2, 5], [2, 5]), ([1, 6], [1, 6]), ([7], [7]), ([], []), ([9, 6], [9]), ([10], [10]), ([8, 11], [8, 11]), ([1, 6, 0, 1, 2, 3, 4, 5, 6, 7, 8, 9, 10, 11, 12], [1, 6]), ([13, 12, 10, 0, 1, 2, 3, 4, 5, 6, 7, 8, 9, 10, 11, 12], [12, 13])])
def spec_l1Cur_ranked.B8 : List Nat := [0, 1, 0, 0, 8, 24, 60, 127, 255, 0, 636, 1660, 4095, 8191, 16383]
theorem spec_l1Cur_ranked.tab8 : rtab .any (opsOf Try.f101 8) = spec_l1Cur_ranked.T8 := by kernel_rfl
theorem spec_l1Cur_ranked.bits8 : waitsOk spec_l1Cur_ranked.T8.2 spec_l1Cur_ranked.B8 = true := by kernel_rfl
def spec_l1Cur_ranked.T11 : Bool × List (List Nat × List Nat) := (true, [([], []), ([0], [0]), ([], []), ([], []), ([3], [3]), ([4], [4]), ([2, 5], [2, 5]), ([1, 6], [1, 6]), ([7], [7]), ([], []), ([9, 6], [9]), ([10], [10]), ([8, 11], [8, 11]), ([1, 6, 0, 1, 2, 3, 4, 5, 6, 7, 8, 9, 10, 11, 12], [1, 6]), ([13, 12, 10, 0, 1, 2, 3, 4, 5, 6, 7, 8, 9, 10, 11, 12], [12, 13])])
def spec_l1Cur_ranked.B11 : List Nat := [0, 1, 0, 0, 8, 24, 60, 127, 255, 0, 636, 1660, 4095, 8191, 16383]
theorem spec_l1Cur_ranked.tab11 : rtab .any (opsOf Try.f101 11) = spec_l1Cur_ranked.T11 := by kernel_rfl
theorem spec_l1Cur_ranked.bits11 : waitsOk spec_l1Cur_ranked.T11.2 spec_l1Cur_ranked.B11 = true := by kernel_rfl
set_option maxHeartbeats 8000000 in
set_option maxRecDepth 100000 in
theorem spec_l1Cur_ranked.calls (k : Nat) (g : Nat) (s0_0 : List Int) (s0_1 : Int) (s0_2 : Int) (r1 : Int) (r2 : List Int) (r3 : List Int) (r4 : List Int) (r5 : Int) (r6 : Int) (w0 w : World) (hI : IsS109 w0 w g s0_0 s0_1 s0_2) (hB : Below w0.heap.size w0 w) (h : spec_l1Cur_ranked.f k s0_0 s0_1 s0_2 = some (r1, r2, r3, r4, r5, r6)) :
  Calls Try.prog 101 #[.pointer (some ⟨g, 0, none⟩)] w fun e w' => ∃ v1_ v2_ v3_ : Value, e = .returned (.agg #[.int .i64 r1, v1_, v2_, v3_]) ∧ Kd.R (Kd.int .i64) 3 w' w.heap.size (fun k_ => nb_ k_ v2_ ∧ nb_ k_ v3_) v1_ r2 ∧ Kd.R (Kd.int .i64) 3 w' w.heap.size (fun k_ => nb_ k_ v1_ ∧ nb_ k_ v3_) v2_ r3 ∧ Kd.R (Kd.int .i64) 3 w' w.heap.size (fun k_ => nb_ k_ v1_ ∧ nb_ k_ v2_) v3_ r4 ∧ IsS109 w0 w' g s0_0 r5 r6 ∧ Below w0.heap.size w0 w' ∧ KeepBut w w' g none := by
 have hu48 := Try.underlying48
 have hu26 := Try.underlying26
 have HI0 := am_ hI
 have HK := am_ (KeepBut.refl w g none)
 have HL := am_ hB.size
 clear hI
 have HW0 := am_ hB.size
 have HB := am_ hB
 clear hB
 have H : ((spec_l1Cur_bits.f k s0_0 s0_1 s0_2 70).bind fun bt376 => ((spec_l1Cur_one.f s0_0 bt376.2.2.1 bt376.2.2.2 8).bind fun bt383 => (if bt383.1 = true then ((spec_l1Cur_bits.f k s0_0 bt383.2.1 bt383.2.2 200).bind fun bt386 => ((spec_biList.f k bt386.1 bt386.2.1).bind fun t392 => ((spec_l1Cur_bits.f k s0_0 bt386.2.2.1 bt386.2.2.2 200).bind fun bt395 => ((spec_biList.f k bt395.1 bt395.2.1).bind fun t401 => (if t392.length + t401.length < 140737488355328 then ((spec_biSome.f k (t392 ++ t401)).bind fun bt407 => (spec_l1Cur_ranked.j0 k s0_0 bt395.2.2.1 bt395.2.2.2 bt407.1 bt407.2)) else (none)))))) else (spec_l1Cur_ranked.j0 k s0_0 bt383.2.1 bt383.2.2 bt376.1 bt376.2.1)))) = some (r1, r2, r3, r4, r5, r6) := h
 clear h
 replace H := Option.bind_eq_some_iff.mp H
 obtain ⟨⟨t376, t377, t380, t381⟩, A20, H⟩ := H
 replace H : ((spec_l1Cur_one.f s0_0 t380 t381 8).bind fun bt383 => (if bt383.1 = true then ((spec_l1Cur_bits.f k s0_0 bt383.2.1 bt383.2.2 200).bind fun bt386 => ((spec_biList.f k bt386.1 bt386.2.1).bind fun t392 => ((spec_l1Cur_bits.f k s0_0 bt386.2.2.1 bt386.2.2.2 200).bind fun bt395 => ((spec_biList.f k bt395.1 bt395.2.1).bind fun t401 => (if t392.length + t401.length < 140737488355328 then ((spec_biSome.f k (t392 ++ t401)).bind fun bt407 => (spec_l1Cur_ranked.j0 k s0_0 bt395.2.2.1 bt395.2.2.2 bt407.1 bt407.2)) else (none)))))) else (spec_l1Cur_ranked.j0 k s0_0 bt383.2.1 bt383.2.2 t376 t377))) = some (r1, r2, r3, r4, r5, r6) := H
 have A2 := am_ A20
 clear A20
 replace H := Option.bind_eq_some_iff.mp H
 obtain ⟨⟨t383, t384, t385⟩, A30, H⟩ := H
 replace H : (if t383 = true then ((spec_l1Cur_bits.f k s0_0 t384 t385 200).bind fun bt386 => ((spec_biList.f k bt386.1 bt386.2.1).bind fun t392 => ((spec_l1Cur_bits.f k s0_0 bt386.2.2.1 bt386.2.2.2 200).bind fun bt395 => ((spec_biList.f k bt395.1 bt395.2.1).bind fun t401 => (if t392.length + t401.length < 140737488355328 then ((spec_biSome.f k (t392 ++ t401)).bind fun bt407 => (spec_l1Cur_ranked.j0 k s0_0 bt395.2.2.1 bt395.2.2.2 bt407.1 bt407.2)) else (none)))))) else (spec_l1Cur_ranked.j0 k s0_0 t384 t385 t376 t377)) = some (r1, r2, r3, r4, r5, r6) := H
 have A3 := am_ A30
 clear A30
 have HC4 := am_ H
 clear H
 go_enter Try.func101, Try.ntmps101
 go_upto_if 8 with (first | ((with_reducible refine gate_dst (N := 2) rfl ?_); refine bev_ 2 #[.int .i64 0, .slice none 0 0, .slice none 0 0, .slice none 0 0] 48 rfl rfl ?_; intro gb375 hg w5 hbox hb; have BK375 := am_ (hbox); have GW375 := am_ ((by rw [hg]; exact (keep_size (w := w) (g := g) (row := none) (lk_ HK)) : w.heap.size ≤ gb375)); have GE375 := am_ ((Nat.le_trans HW0.out (by rw [hg]; exact (keep_size (w := w) (g := g) (row := none) (lk_ HK)) : w.heap.size ≤ gb375) : w0.heap.size ≤ gb375)); have NB0_375 := am_ ((by rw [hg]; exact Nat.ne_of_lt (IsS109.lt (show IsS109 w0 _ g s0_0 s0_1 s0_2 from ls109_ HI0)) : g ≠ gb375)); have NB375_0 := am_ ((by rw [hg]; exact Nat.ne_of_gt (IsS109.lt (show IsS109 w0 _ g s0_0 s0_1 s0_2 from ls109_ HI0)) : gb375 ≠ g)); replace HI0 := am_ (IsS109.below (ls109_ HI0) hb); replace HK := am_ (KeepBut.trans (lk_ HK) (KeepBut.of_below hb g none) (.inl rfl)); replace HB := am_ (below_step (lv109_ HB) hb); clear hb hbox hg) | ((with_reducible refine gate_callee (f := 108) rfl ?_); refine goesL_ (some 6) rfl rfl Try.func108 (by kernel_rfl) rfl #[.pointer (some ⟨g, 0, none⟩), .int .i64 70] rfl lm_ ?_; (with_reducible refine (spec_l1Cur_bits.calls k g s0_0 s0_1 s0_2 70 t376 t377 t380 t381 w0 _ ?side1 ?side2 A2.out).mono ?_); (case side1 => exact ls109_ HI0); (case side2 => exact lv109_ HB); rintro e w6 ⟨v378, rfl, ho0, hi, hb, hk⟩; refine ⟨_, rfl, ?_⟩; have HO379 := am_ (Kd.R_lower ho0 (keep_size (w := w) (g := g) (row := none) (lk_ HK))); replace BK375 := am_ (KeepBut.blk hk (g' := gb375) (lb_ BK375) NB375_0.out (by simp)); replace HK := am_ (KeepBut.trans (lk_ HK) hk (.inl rfl)); replace HB := am_ (hb); replace HI0 := am_ (hi); (try clear hb); (try clear hb2); (try clear hk); (try clear hi); (try clear ho0)) | ((with_reducible refine gate_dst (N := 3) rfl ?_); refine bev_ 3 #[.int .i64 0, .slice none 0 0] 26 rfl rfl ?_; intro gb382 hg w7 hbox hb; have BK382 := am_ (hbox); have GW382 := am_ ((by rw [hg]; exact (keep_size (w := w) (g := g) (row := none) (lk_ HK)) : w.heap.size ≤ gb382)); have GE382 := am_ ((Nat.le_trans HW0.out (by rw [hg]; exact (keep_size (w := w) (g := g) (row := none) (lk_ HK)) : w.heap.size ≤ gb382) : w0.heap.size ≤ gb382)); have NB375_382 := am_ ((by rw [hg]; exact Nat.ne_of_lt (blk_lt (g := gb375) (lb_ BK375)) : gb375 ≠ gb382)); have NB382_375 := am_ ((by rw [hg]; exact Nat.ne_of_gt (blk_lt (g := gb375) (lb_ BK375)) : gb382 ≠ gb375)); have NB0_382 := am_ ((by rw [hg]; exact Nat.ne_of_lt (IsS109.lt (show IsS109 w0 _ g s0_0 t380 t381 from ls109_ HI0)) : g ≠ gb382)); have NB382_0 := am_ ((by rw [hg]; exact Nat.ne_of_gt (IsS109.lt (show IsS109 w0 _ g s0_0 t380 t381 from ls109_ HI0)) : gb382 ≠ g)); replace HO379 := am_ (Kd.R_below (lf_ HO379) hb); replace HI0 := am_ (IsS109.below (ls109_ HI0) hb); replace BK375 := am_ (blk_below (g := gb375) (lb_ BK375) hb); replace HK := am_ (KeepBut.trans (lk_ HK) (KeepBut.of_below hb g none) (.inl rfl)); replace HB := am_ (below_step (lv109_ HB) hb); clear hb hbox hg; have hnb8 := NB382_375.out; have hnc8 := NB375_382.out; have hnb9 := NB382_0.out; have hnc9 := NB0_382.out; obtain ⟨hcz10_0, hcz10_1, hfz10_0, hfz10_1⟩ := bx2_ BK382.out; obtain ⟨Ao11, co11, eo11⟩ := Kd.R_slice HO379.out; subst eo11) | ((with_reducible refine gate_callee (f := 105) rfl ?_); refine goesL_ (some 8) rfl rfl Try.func105 (by kernel_rfl) rfl #[.pointer (some ⟨g, 0, none⟩), .int .i64 8] rfl lm_ ?_; (with_reducible refine (spec_l1Cur_one.calls g s0_0 t380 t381 8 t383 t384 t385 w0 _ ?side1 ?side2 A3.out).mono ?_); (case side1 => exact ls109_ HI0); (case side2 => exact lv109_ HB); rintro e w12 ⟨rfl, hi, hb, hk⟩; refine ⟨_, rfl, ?_⟩; replace BK375 := am_ (KeepBut.blk hk (g' := gb375) (lg_ BK375) NB375_0.out (by simp)); replace HO379 := am_ (m1_ (Kd.R_keep (IsS109.apart (show IsS109 w0 _ g s0_0 t380 t381 from ls109_ HI0) (lt_ ((m1_ (fr2_ HO379.out BK382.out (.int .i64 t376) (.slice Ao11 t377.length co11))))) (by decide)) hk (fun _ h => h.2))); replace BK382 := am_ (KeepBut.blk hk (g' := gb382) (o := .cells #[.int .i64 t376, .slice Ao11 t377.length co11] 26 (0, 0)) (lq_ BK382) NB382_0.out (by simp)); replace HK := am_ (KeepBut.trans (lk_ HK) hk (.inl rfl)); replace HB := am_ (hb); replace HI0 := am_ (hi); (try clear hb); (try clear hb2); (try clear hk); (try clear hi)))
 (try simp only [Act.put, List.setIfInBounds_toArray, List.set_cons_zero, List.set_cons_succ])
 go_cut [] (fun wc => ∃ (kq : Nat) (x1001_3 : Int) (x1002_3 : Int) (x383000_3 : Int) (x383001_3 : List Int) (u383001 : Value), Aside0 (spec_l1Cur_ranked.j0 kq s0_0 x1001_3 x1002_3 x383000_3 x383001_3 = some (r1, r2, r3, r4, r5, r6)) ∧ Aside0 (kq ≤ k) ∧ Aside0 (Kd.R (Kd.int .i64) 3 wc w.heap.size (fun _ => True) u383001 x383001_3) ∧ Aside0 (wc.heap[gb375]? = some (.cells #[.int .i64 0, (.slice none 0 0), (.slice none 0 0), (.slice none 0 0)] 48 (0, 0))) ∧ Aside0 (wc.heap[gb382]? = some (.cells #[.int .i64 x383000_3, u383001] 26 (0, 0))) ∧ Aside0 (IsS109 w0 wc g s0_0 x1001_3 x1002_3) ∧ Aside0 (KeepBut w wc g none) ∧ Aside0 (Below w0.heap.size w0 wc))
 case first =>
  have H := HC4.out
  clear HC4
  by_cases c13 : t383 = true
  ·subst c13
   have H1 : ((spec_l1Cur_bits.f k s0_0 t384 t385 200).bind fun bt386 => ((spec_biList.f k bt386.1 bt386.2.1).bind fun t392 => ((spec_l1Cur_bits.f k s0_0 bt386.2.2.1 bt386.2.2.2 200).bind fun bt395 => ((spec_biList.f k bt395.1 bt395.2.1).bind fun t401 => (if t392.length + t401.length < 140737488355328 then ((spec_biSome.f k (t392 ++ t401)).bind fun bt407 => (spec_l1Cur_ranked.j0 k s0_0 bt395.2.2.1 bt395.2.2.2 bt407.1 bt407.2)) else (none)))))) = some (r1, r2, r3, r4, r5, r6) := by rw [if_pos rfl] at H; exact H
   clear H
   have H := H1
   clear H1
   replace H := Option.bind_eq_some_iff.mp H
   obtain ⟨⟨t386, t387, t390, t391⟩, A140, H⟩ := H
   replace H : ((spec_biList.f k t386 t387).bind fun t392 => ((spec_l1Cur_bits.f k s0_0 t390 t391 200).bind fun bt395 => ((spec_biList.f k bt395.1 bt395.2.1).bind fun t401 => (if t392.length + t401.length < 140737488355328 then ((spec_biSome.f k (t392 ++ t401)).bind fun bt407 => (spec_l1Cur_ranked.j0 k s0_0 bt395.2.2.1 bt395.2.2.2 bt407.1 bt407.2)) else (none))))) = some (r1, r2, r3, r4, r5, r6) := H
   have A14 := am_ A140
   clear A140
   replace H := Option.bind_eq_some_iff.mp H
   obtain ⟨t392, A150, H⟩ := H
   replace H : ((spec_l1Cur_bits.f k s0_0 t390 t391 200).bind fun bt395 => ((spec_biList.f k bt395.1 bt395.2.1).bind fun t401 => (if t392.length + t401.length < 140737488355328 then ((spec_biSome.f k (t392 ++ t401)).bind fun bt407 => (spec_l1Cur_ranked.j0 k s0_0 bt395.2.2.1 bt395.2.2.2 bt407.1 bt407.2)) else (none)))) = some (r1, r2, r3, r4, r5, r6) := H
   have A15 := am_ A150
   clear A150
   replace H := Option.bind_eq_some_iff.mp H
   obtain ⟨⟨t395, t396, t399, t400⟩, A160, H⟩ := H
   replace H : ((spec_biList.f k t395 t396).bind fun t401 => (if t392.length + t401.length < 140737488355328 then ((spec_biSome.f k (t392 ++ t401)).bind fun bt407 => (spec_l1Cur_ranked.j0 k s0_0 t399 t400 bt407.1 bt407.2)) else (none))) = some (r1, r2, r3, r4, r5, r6) := H
   have A16 := am_ A160
   clear A160
   replace H := Option.bind_eq_some_iff.mp H
   obtain ⟨t401, A170, H⟩ := H
   replace H : (if t392.length + t401.length < 140737488355328 then ((spec_biSome.f k (t392 ++ t401)).bind fun bt407 => (spec_l1Cur_ranked.j0 k s0_0 t399 t400 bt407.1 bt407.2)) else (none)) = some (r1, r2, r3, r4, r5, r6) := H
   have A17 := am_ A170
   clear A170
   by_cases c18 : t392.length + t401.length < 140737488355328
   ·rw [if_pos c18] at H
    have LMc18 := am_ c18
    clear c18
    obtain ⟨y404, hy404⟩ : ∃ y_ : List Bool, y_ = (t392 ++ t401) := ⟨_, rfl⟩
    replace H : ((spec_biSome.f k y404).bind fun bt407 => (spec_l1Cur_ranked.j0 k s0_0 t399 t400 bt407.1 bt407.2)) = some (r1, r2, r3, r4, r5, r6) := by first | (rw [hy404]; with_reducible exact H) | (have H2_ := (Option.bind_some _ _).symm.trans H; rw [hy404]; with_reducible exact H2_) | (have H2_ := (Option.bind_some _ _).symm.trans H; with_reducible exact H2_) | with_reducible exact H | (rw [hy404]; exact H) | exact H
    have Ny404 := am_ hy404
    clear hy404
    replace H := Option.bind_eq_some_iff.mp H
    obtain ⟨⟨t407, t408⟩, A190, H⟩ := H
    replace H : (spec_l1Cur_ranked.j0 k s0_0 t399 t400 t407 t408) = some (r1, r2, r3, r4, r5, r6) := H
    have A19 := am_ A190
    clear A190
    have H' := am_ H
    clear H
    go_wp2_with (first | ((with_reducible refine gate_callee (f := 108) rfl ?_); refine goesL_ (some 10) rfl rfl Try.func108 (by kernel_rfl) rfl #[.pointer (some ⟨g, 0, none⟩), .int .i64 200] rfl lm_ ?_; (with_reducible refine (spec_l1Cur_bits.calls k g s0_0 t384 t385 200 t386 t387 t390 t391 w0 _ ?side1 ?side2 A14.out).mono ?_); (case side1 => exact ls109_ HI0); (case side2 => exact lv109_ HB); rintro e w20 ⟨v388, rfl, ho0, hi, hb, hk⟩; refine ⟨_, rfl, ?_⟩; have HO389 := am_ (Kd.R_lower (nw_ ho0 HO379) (keep_size (w := w) (g := g) (row := none) (lk_ HK))); replace BK375 := am_ (KeepBut.blk hk (g' := gb375) (lb_ BK375) NB375_0.out (by simp)); replace HO379 := am_ (m1_ (td_ (Kd.R_oldK (IsS109.apart (show IsS109 w0 _ g s0_0 t384 t385 from ls109_ HI0) (lf_ HO379) (by decide)) hk) ho0)); replace BK382 := am_ (KeepBut.blk hk (g' := gb382) (lb_ BK382) NB382_0.out (by simp)); replace HK := am_ (KeepBut.trans (lk_ HK) hk (.inl rfl)); replace HB := am_ (hb); replace HI0 := am_ (hi); (try clear hb); (try clear hb2); (try clear hk); (try clear hi); (try clear ho0); obtain ⟨Ao21, co21, eo21⟩ := Kd.R_slice HO389.out; subst eo21) | ((with_reducible refine gate_callee (f := 71) rfl ?_); refine goesL_ (some 11) rfl rfl Try.func71 (by kernel_rfl) rfl #[.agg #[.int .i64 t386, .slice Ao21 t387.length co21]] rfl lm_ ?_; (with_reducible refine (spec_biList.calls k t386 _ _ t387 t392 _ ?side1 ?side2 A15.out).mono ?_); (case side1 => exact lc_ (Kd.R_reads' HO389.out).2.2); (case side2 => exact (Kd.R_reads' HO389.out).2.1); rintro e w22 ⟨v393, rfl, ho0, hb⟩; refine ⟨_, rfl, ?_⟩; have HO394 := am_ (Kd.R_lower ho0 (keep_size (w := w) (g := g) (row := none) (lk_ HK))); replace HO379 := am_ (Kd.R_below (lf_ HO379) hb); replace HO389 := am_ (Kd.R_below (lf_ HO389) hb); replace HI0 := am_ (IsS109.below (ls109_ HI0) hb); replace BK375 := am_ (blk_below (g := gb375) (lb_ BK375) hb); replace BK382 := am_ (blk_below (g := gb382) (lb_ BK382) hb); replace HK := am_ (KeepBut.trans (lk_ HK) (KeepBut.of_below hb g none) (.inl rfl)); replace HB := am_ (below_step (lv109_ HB) hb); (try clear hb); (try clear hb2); (try clear hk); (try clear hi); (try clear ho0)) | ((with_reducible refine gate_callee (f := 108) rfl ?_); refine goesL_ (some 13) rfl rfl Try.func108 (by kernel_rfl) rfl #[.pointer (some ⟨g, 0, none⟩), .int .i64 200] rfl lm_ ?_; (with_reducible refine (spec_l1Cur_bits.calls k g s0_0 t390 t391 200 t395 t396 t399 t400 w0 _ ?side1 ?side2 A16.out).mono ?_); (case side1 => exact ls109_ HI0); (case side2 => exact lv109_ HB); rintro e w23 ⟨v397, rfl, ho0, hi, hb, hk⟩; refine ⟨_, rfl, ?_⟩; have HO398 := am_ (Kd.R_lower (nw_ (nw_ ho0 HO379) HO389) (keep_size (w := w) (g := g) (row := none) (lk_ HK))); replace BK375 := am_ (KeepBut.blk hk (g' := gb375) (lb_ BK375) NB375_0.out (by simp)); replace HO379 := am_ (m1_ (td_ (Kd.R_oldK (IsS109.apart (show IsS109 w0 _ g s0_0 t390 t391 from ls109_ HI0) (lf_ HO379) (by decide)) hk) ho0)); replace BK382 := am_ (KeepBut.blk hk (g' := gb382) (lb_ BK382) NB382_0.out (by simp)); replace HO389 := am_ (m1_ (td_ (Kd.R_oldK (IsS109.apart (show IsS109 w0 _ g s0_0 t390 t391 from ls109_ HI0) (lf_ HO389) (by decide)) hk) ho0)); replace HO394 := am_ (m1_ (Kd.R_keep (IsS109.apart (show IsS109 w0 _ g s0_0 t390 t391 from ls109_ HI0) (lf_ HO394) (by decide)) hk (fun _ h => h.2))); replace HK := am_ (KeepBut.trans (lk_ HK) hk (.inl rfl)); replace HB := am_ (hb); replace HI0 := am_ (hi); (try clear hb); (try clear hb2); (try clear hk); (try clear hi); (try clear ho0); obtain ⟨Ao24, co24, eo24⟩ := Kd.R_slice HO398.out; subst eo24) | ((with_reducible refine gate_callee (f := 71) rfl ?_); refine goesL_ (some 14) rfl rfl Try.func71 (by kernel_rfl) rfl #[.agg #[.int .i64 t395, .slice Ao24 t396.length co24]] rfl lm_ ?_; (with_reducible refine (spec_biList.calls k t395 _ _ t396 t401 _ ?side1 ?side2 A17.out).mono ?_); (case side1 => exact lc_ (Kd.R_reads' HO398.out).2.2); (case side2 => exact (Kd.R_reads' HO398.out).2.1); rintro e w25 ⟨v402, rfl, ho0, hb⟩; refine ⟨_, rfl, ?_⟩; have HO403 := am_ (Kd.R_lower (nw_ ho0 HO394) (keep_size (w := w) (g := g) (row := none) (lk_ HK))); replace HO379 := am_ (Kd.R_below (lf_ HO379) hb); replace HO389 := am_ (Kd.R_below (lf_ HO389) hb); replace HO394 := am_ (Kd.R_elder' (lf_ HO394) (Kd.R_base ho0) hb); replace HO398 := am_ (Kd.R_below (lf_ HO398) hb); replace HI0 := am_ (IsS109.below (ls109_ HI0) hb); replace BK375 := am_ (blk_below (g := gb375) (lb_ BK375) hb); replace BK382 := am_ (blk_below (g := gb382) (lb_ BK382) hb); replace HK := am_ (KeepBut.trans (lk_ HK) (KeepBut.of_below hb g none) (.inl rfl)); replace HB := am_ (below_step (lv109_ HB) hb); (try clear hb); (try clear hb2); (try clear hk); (try clear hi); (try clear ho0); obtain ⟨Ao27, co27, eo27⟩ := Kd.R_slice HO403.out; subst eo27) | ((with_reducible refine gate_builtin (b := .append) (xs := #[.tmp 11, .tmp 14]) rfl ?_); at_builtin; refine Kd.R_append_rows Kd.bool w.heap.size rfl (.tmp 11) (.tmp 14) 88 4 (.bool false) 1 rfl Try.underlying88 info4 rfl (by decide) (by omega) v393 t392 t401 _ _ _ (fun k_ => ns_ k_ Ao27 t401 co27) (fun _ => False) rfl rfl ?aO ?aR (fun _ _ h => h) (fun _ h => h.elim) ?aF (Below.refl _ _) ?aS ?aL ?_; (case aR => exact lc_ (Kd.R_reads' HO403.out).2.2); (case aF => exact (fun k_ hk => Kd.fresh' (Kd.R_lt (lf_ HO403)) k_ hk)); (case aO => exact (lt_ (m2_ HO394.out))); (case aS => exact (keep_size (w := w) (g := g) (row := none) (lk_ HK))); (case aL => have := LMc18.out; omega); intro v405 w26 ho hb hg hat; rw [← Ny404.out] at ho; have HO406 := am_ (ho); replace HI0 := am_ (IsS109.grown (ls109_ HI0) hg (IsS109.own_ne HI0.out HO394.out (by decide))); replace BK375 := am_ (blk_grown (g := gb375) (lb_ BK375) hg (Kd.R_ne HO394.out BK375.out (by decide))); replace HO379 := am_ (Kd.R_over' (lf_ HO379) (Kd.R_typed (lf_ HO394)) (by decide) hg); replace BK382 := am_ (blk_grown (g := gb382) (lb_ BK382) hg (Kd.R_ne HO394.out BK382.out (by decide))); replace HO389 := am_ (Kd.R_over' (lf_ HO389) (Kd.R_typed (lf_ HO394)) (by decide) hg); replace HO398 := am_ (Kd.R_over' (lf_ HO398) (Kd.R_typed (lf_ HO394)) (by decide) hg); replace HO403 := am_ (Kd.R_after (ok := (fun _ => True)) (lf_ HO403) hg hat); replace HB := am_ (below_weaken (lv109_ HB) HL.out hb); replace HK := am_ (KeepBut.trans (lk_ HK) (KeepBut.of_grown hg g) (Kd.R_base2 HO394.out)); clear HO394; clear ho hb hg hat; obtain ⟨Ao28, co28, eo28⟩ := Kd.R_slice HO406.out; subst eo28) | ((with_reducible refine gate_callee (f := 72) rfl ?_); refine goesL_ (some 16) rfl rfl Try.func72 (by kernel_rfl) rfl #[.slice Ao28 y404.length co28] rfl lm_ ?_; (with_reducible refine (spec_biSome.calls k _ _ y404 t407 t408 _ ?side1 ?side2 A19.out).mono ?_); (case side1 => exact lc_ (Kd.R_reads' HO406.out).2.2); (case side2 => exact (Kd.R_reads' HO406.out).2.1); rintro e w29 ⟨v409, rfl, ho0, hb⟩; refine ⟨_, rfl, ?_⟩; have HO410 := am_ (Kd.R_lower (nw_ (nw_ (nw_ ho0 HO379) HO389) HO398) (keep_size (w := w) (g := g) (row := none) (lk_ HK))); replace HO379 := am_ (Kd.R_elder' (lf_ HO379) (Kd.R_base ho0) hb); replace HO389 := am_ (Kd.R_elder' (lf_ HO389) (Kd.R_base ho0) hb); replace HO398 := am_ (Kd.R_elder' (lf_ HO398) (Kd.R_base ho0) hb); replace HO403 := am_ (Kd.R_below (lf_ HO403) hb); replace HO406 := am_ (Kd.R_below (lf_ HO406) hb); replace HI0 := am_ (IsS109.below (ls109_ HI0) hb); replace BK375 := am_ (blk_below (g := gb375) (lb_ BK375) hb); replace BK382 := am_ (blk_below (g := gb382) (lb_ BK382) hb); replace HK := am_ (KeepBut.trans (lk_ HK) (KeepBut.of_below hb g none) (.inl rfl)); replace HB := am_ (below_step (lv109_ HB) hb); (try clear hb); (try clear hb2); (try clear hk); (try clear hi); (try clear ho0); have hnb30 := NB382_375.out; have hnc30 := NB375_382.out; have hnb31 := NB382_0.out; have hnc31 := NB0_382.out; obtain ⟨hcz32_0, hcz32_1, hfz32_0, hfz32_1⟩ := bx2_ BK382.out; obtain ⟨Ao33, co33, eo33⟩ := Kd.R_slice HO410.out; subst eo33))
    go_meet
    case rel => exact ⟨_, (t399), (t400), (t407), (t408), (.slice Ao33 t408.length co33), H', ⟨by first | omega | exact Nat.le_refl _⟩, ⟨lt_ (mt_ (fr2_ HO410.out BK382.out (.int .i64 t407) (.slice Ao33 t408.length co33)))⟩, ⟨lg_ BK375⟩, ⟨lq_ BK382⟩, ⟨ls109_ HI0⟩, ⟨lk_ HK⟩, ⟨lv109_ HB⟩⟩
   ·rw [if_neg c18] at H
    exact absurd H (by simp)
  ·replace c13 := Bool.eq_false_iff.mpr c13
   subst c13
   have H1 : (spec_l1Cur_ranked.j0 k s0_0 t384 t385 t376 t377) = some (r1, r2, r3, r4, r5, r6) := by rw [if_neg (show ¬ (false = true) by decide)] at H; exact H
   clear H
   have H := H1
   clear H1
   have H' := am_ H
   clear H
   go_wp2
   go_meet
   case rel => exact ⟨_, (t384), (t385), (t376), (t377), (.slice Ao11 t377.length co11), H', ⟨by first | omega | exact Nat.le_refl _⟩, ⟨lf_ HO379⟩, ⟨lb_ BK375⟩, ⟨lb_ BK382⟩, ⟨ls109_ HI0⟩, ⟨lk_ HK⟩, ⟨lv109_ HB⟩⟩
 case rest =>
  clear HC4
  try clear c1
  try clear p2
  try clear c3
  try clear c7
  try clear c8
  try clear c9
  try clear c10
  try clear c13
  try clear c18
  try clear c30
  try clear c31
  try clear hcz10_0
  try clear hcz10_1
  try clear hcz32_0
  try clear hcz32_1
  try clear hfz10_0
  try clear hfz10_1
  try clear hfz32_0
  try clear hfz32_1
  obtain ⟨kq, x1001_3, x1002_3, x383000_3, x383001_3, u383001, HA, HJ3, HO_383001, BK375, BK382, HI0, HK, HB⟩ := hcut
  cases kq with
  | zero => exact absurd HA.out (by simp [spec_l1Cur_ranked.j0])
  | succ kj3 =>
   have H := HA.out
   clear HA
   simp only [spec_l1Cur_ranked.j0] at H
   replace H := Option.bind_eq_some_iff.mp H
   obtain ⟨⟨t411, t412, t415, t418⟩, A340, H⟩ := H
   replace H : ((spec_l1Cur_pick.f s0_0 x1001_3 x1002_3 14).bind fun bt422 => (if bt422.1 = 0 then (if (t415.length : Int) > 0 then ((spec_l1Cur_pick.f s0_0 bt422.2.1 bt422.2.2 (t415.length : Int)).bind fun bt425 => (if 0 ≤ bt425.1 then (if bt425.1 < (t415.length : Int) then ((spec_l1Cur_pick.f s0_0 bt425.2.1 bt425.2.2 3).bind fun bt429 => (some (t411, t412, (t415.set (bt425.1 : Int).toNat (wrap64 ((rd t415 bt425.1) + (wrap64 (bt429.1 - 1))))), t418, bt429.2.1, bt429.2.2))) else (none)) else (none))) else (some (t411, t412, t415, t418, bt422.2.1, bt422.2.2))) else (if bt422.1 = 1 then (if (t418.length : Int) > 0 then ((spec_l1Cur_pick.f s0_0 bt422.2.1 bt422.2.2 (t418.length : Int)).bind fun bt433 => (if 0 ≤ bt433.1 then (if bt433.1 < (t418.length : Int) then ((spec_l1Cur_pick.f s0_0 bt433.2.1 bt433.2.2 3).bind fun bt437 => (some (t411, t412, t415, (t418.set (bt433.1 : Int).toNat (wrap64 ((rd t418 bt433.1) + (wrap64 (bt437.1 - 1))))), bt437.2.1, bt437.2.2))) else (none)) else (none))) else (some (t411, t412, t415, t418, bt422.2.1, bt422.2.2))) else (if bt422.1 = 2 then (if t418.length < 17592186044416 then (some (t411, t412, t415, (t418 ++ [0]), bt422.2.1, bt422.2.2)) else (none)) else (if bt422.1 = 3 then ((spec_l1Cur_anyBits.f kj3 s0_0 bt422.2.1 bt422.2.2).bind fun bt444 => (some (bt444.1, bt444.2.1, t415, t418, bt444.2.2.1, bt444.2.2.2))) else (some (t411, t412, t415, t418, bt422.2.1, bt422.2.2))))))) = some (r1, r2, r3, r4, r5, r6) := H
   have A34 := am_ A340
   clear A340
   replace H := Option.bind_eq_some_iff.mp H
   obtain ⟨⟨t422, t423, t424⟩, A350, H⟩ := H
   replace H : (if t422 = 0 then (if (t415.length : Int) > 0 then ((spec_l1Cur_pick.f s0_0 t423 t424 (t415.length : Int)).bind fun bt425 => (if 0 ≤ bt425.1 then (if bt425.1 < (t415.length : Int) then ((spec_l1Cur_pick.f s0_0 bt425.2.1 bt425.2.2 3).bind fun bt429 => (some (t411, t412, (t415.set (bt425.1 : Int).toNat (wrap64 ((rd t415 bt425.1) + (wrap64 (bt429.1 - 1))))), t418, bt429.2.1, bt429.2.2))) else (none)) else (none))) else (some (t411, t412, t415, t418, t423, t424))) else (if t422 = 1 then (if (t418.length : Int) > 0 then ((spec_l1Cur_pick.f s0_0 t423 t424 (t418.length : Int)).bind fun bt433 => (if 0 ≤ bt433.1 then (if bt433.1 < (t418.length : Int) then ((spec_l1Cur_pick.f s0_0 bt433.2.1 bt433.2.2 3).bind fun bt437 => (some (t411, t412, t415, (t418.set (bt433.1 : Int).toNat (wrap64 ((rd t418 bt433.1) + (wrap64 (bt437.1 - 1))))), bt437.2.1, bt437.2.2))) else (none)) else (none))) else (some (t411, t412, t415, t418, t423, t424))) else (if t422 = 2 then (if t418.length < 17592186044416 then (some (t411, t412, t415, (t418 ++ [0]), t423, t424)) else (none)) else (if t422 = 3 then ((spec_l1Cur_anyBits.f kj3 s0_0 t423 t424).bind fun bt444 => (some (bt444.1, bt444.2.1, t415, t418, bt444.2.2.1, bt444.2.2.2))) else (some (t411, t412, t415, t418, t423, t424)))))) = some (r1, r2, r3, r4, r5, r6) := H
   have A35 := am_ A350
   clear A350
   by_cases c36 : t422 = 0
   ·rw [if_pos c36] at H
    have c36b0 : (t422 == 0) = true := beq_iff_eq.mpr c36
    have c36b1 : (t422 != 0) = false := bne_eq_false_iff_eq.mpr c36
    clear c36
    by_cases c37 : (t415.length : Int) > 0
    ·rw [if_pos c37] at H
     have c37b0 : decide (0 < (t415.length : Int)) = true := decide_eq_true c37
     have c37b1 : decide (0 < t415.length) = true := decide_eq_true (by omega)
     clear c37
     replace H := Option.bind_eq_some_iff.mp H
     obtain ⟨⟨t425, t426, t427⟩, A380, H⟩ := H
     replace H : (if 0 ≤ t425 then (if t425 < (t415.length : Int) then ((spec_l1Cur_pick.f s0_0 t426 t427 3).bind fun bt429 => (some (t411, t412, (t415.set (t425 : Int).toNat (wrap64 ((rd t415 t425) + (wrap64 (bt429.1 - 1))))), t418, bt429.2.1, bt429.2.2))) else (none)) else (none)) = some (r1, r2, r3, r4, r5, r6) := H
     have A38 := am_ A380
     clear A380
     by_cases c39 : 0 ≤ t425
     ·rw [if_pos c39] at H
      have c39b0 : decide (0 ≤ t425) = true := decide_eq_true c39
      clear c39
      by_cases c40 : t425 < (t415.length : Int)
      ·rw [if_pos c40] at H
       have c40b0 : decide (t425 < (t415.length : Int)) = true := decide_eq_true c40
       clear c40
       replace H := Option.bind_eq_some_iff.mp H
       obtain ⟨⟨t429, t430, t431⟩, A410, H⟩ := H
       replace H : (some (t411, t412, (t415.set (t425 : Int).toNat (wrap64 ((rd t415 t425) + (wrap64 (t429 - 1))))), t418, t430, t431)) = some (r1, r2, r3, r4, r5, r6) := H
       have A41 := am_ A410
       clear A410
       obtain ⟨y432, hy432⟩ : ∃ y_ : List Int, y_ = (t415.set (t425 : Int).toNat (wrap64 ((rd t415 t425) + (wrap64 (t429 - 1))))) := ⟨_, rfl⟩
       replace H : (some (t411, t412, y432, t418, t430, t431)) = some (r1, r2, r3, r4, r5, r6) := by first | (rw [hy432]; with_reducible exact H) | (have H2_ := (Option.bind_some _ _).symm.trans H; rw [hy432]; with_reducible exact H2_) | (have H2_ := (Option.bind_some _ _).symm.trans H; with_reducible exact H2_) | with_reducible exact H | (rw [hy432]; exact H) | exact H
       have Ny432 := am_ hy432
       clear hy432
       simp only [Option.some.injEq, Prod.mk.injEq] at H
       obtain ⟨rfl, rfl, rfl, rfl, rfl, rfl⟩ := H
       have hnb43 := NB382_375.out
       have hnc43 := NB375_382.out
       have hnb44 := NB382_0.out
       have hnc44 := NB0_382.out
       obtain ⟨hcz45_0, hcz45_1, hfz45_0, hfz45_1⟩ := bx2_ BK382.out
       obtain ⟨Ao46, co46, eo46⟩ := Kd.R_slice HO_383001.out
       subst eo46
       try go_wp2_with (first | ((with_reducible refine gate_callee (f := 95) rfl ?_); refine goesL_ (some 18) rfl rfl Try.func95 (by kernel_rfl) rfl #[.agg #[.int .i64 x383000_3, .slice Ao46 x383001_3.length co46]] rfl lm_ ?_; (with_reducible refine (spec_raOf.calls kj3 x383000_3 _ _ x383001_3 t411 t412 t415 t418 _ ?side1 ?side2 A34.out).mono ?_); (case side1 => exact lc_ (Kd.R_reads' HO_383001.out).2.2); (case side2 => exact (Kd.R_reads' HO_383001.out).2.1); rintro e w47 ⟨v413, v416, v419, rfl, ho0, ho1, ho2, hb⟩; refine ⟨_, rfl, ?_⟩; have HO414 := am_ (Kd.R_lower (nw_ ho0 HO_383001) (keep_size (w := w) (g := g) (row := none) (lk_ HK))); have HO417 := am_ (Kd.R_lower (nw_ ho1 HO_383001) (keep_size (w := w) (g := g) (row := none) (lk_ HK))); have HO420 := am_ (Kd.R_lower (nw_ ho2 HO_383001) (keep_size (w := w) (g := g) (row := none) (lk_ HK))); replace HO_383001 := am_ (m1_ (td_ (td_ (td_ (Kd.R_old (lf_ HO_383001) hb) ho0) ho1) ho2)); replace BK375 := am_ (blk_below (g := gb375) (lb_ BK375) hb); replace BK382 := am_ (blk_below (g := gb382) (lb_ BK382) hb); replace HI0 := am_ (IsS109.below (ls109_ HI0) hb); replace HK := am_ (KeepBut.trans (lk_ HK) (KeepBut.of_below hb g none) (.inl rfl)); replace HB := am_ (below_step (lv109_ HB) hb); (try clear hb); (try clear hb2); (try clear hk); (try clear hi); (try clear ho0); (try clear ho1); (try clear ho2)) | ((with_reducible refine gate_dst (N := 4) rfl ?_); refine bev_ 4 #[.int .i64 0, .slice none 0 0, .slice none 0 0, .slice none 0 0] 48 rfl rfl ?_; intro gb421 hg w48 hbox hb; have BK421 := am_ (hbox); have GW421 := am_ ((by rw [hg]; exact (keep_size (w := w) (g := g) (row := none) (lk_ HK)) : w.heap.size ≤ gb421)); have GE421 := am_ ((Nat.le_trans HW0.out (by rw [hg]; exact (keep_size (w := w) (g := g) (row := none) (lk_ HK)) : w.heap.size ≤ gb421) : w0.heap.size ≤ gb421)); have NB375_421 := am_ ((by rw [hg]; exact Nat.ne_of_lt (blk_lt (g := gb375) (lb_ BK375)) : gb375 ≠ gb421)); have NB421_375 := am_ ((by rw [hg]; exact Nat.ne_of_gt (blk_lt (g := gb375) (lb_ BK375)) : gb421 ≠ gb375)); have NB382_421 := am_ ((by rw [hg]; exact Nat.ne_of_lt (blk_lt (g := gb382) (lb_ BK382)) : gb382 ≠ gb421)); have NB421_382 := am_ ((by rw [hg]; exact Nat.ne_of_gt (blk_lt (g := gb382) (lb_ BK382)) : gb421 ≠ gb382)); have NB0_421 := am_ ((by rw [hg]; exact Nat.ne_of_lt (IsS109.lt (show IsS109 w0 _ g s0_0 x1001_3 x1002_3 from ls109_ HI0)) : g ≠ gb421)); have NB421_0 := am_ ((by rw [hg]; exact Nat.ne_of_gt (IsS109.lt (show IsS109 w0 _ g s0_0 x1001_3 x1002_3 from ls109_ HI0)) : gb421 ≠ g)); replace HO_383001 := am_ (Kd.R_below (lf_ HO_383001) hb); replace HO414 := am_ (Kd.R_below (lf_ HO414) hb); replace HO417 := am_ (Kd.R_below (lf_ HO417) hb); replace HO420 := am_ (Kd.R_below (lf_ HO420) hb); replace BK375 := am_ (blk_below (g := gb375) (lb_ BK375) hb); replace BK382 := am_ (blk_below (g := gb382) (lb_ BK382) hb); replace HI0 := am_ (IsS109.below (ls109_ HI0) hb); replace HK := am_ (KeepBut.trans (lk_ HK) (KeepBut.of_below hb g none) (.inl rfl)); replace HB := am_ (below_step (lv109_ HB) hb); clear hb hbox hg; have hnb49 := NB421_375.out; have hnc49 := NB375_421.out; have hnb50 := NB421_382.out; have hnc50 := NB382_421.out; have hnb51 := NB421_0.out; have hnc51 := NB0_421.out; obtain ⟨hcz52_0, hcz52_1, hcz52_2, hcz52_3, hfz52_0, hfz52_1, hfz52_2, hfz52_3⟩ := bx4_ BK421.out; obtain ⟨Ao53, co53, eo53⟩ := Kd.R_slice HO414.out; subst eo53; obtain ⟨Ao54, co54, eo54⟩ := Kd.R_slice HO417.out; subst eo54; obtain ⟨Ao55, co55, eo55⟩ := Kd.R_slice HO420.out; subst eo55) | ((with_reducible refine gate_callee (f := 107) rfl ?_); refine goesL_ (some 20) rfl rfl Try.func107 (by kernel_rfl) rfl #[.pointer (some ⟨g, 0, none⟩), .int .i64 14] rfl lm_ ?_; (with_reducible refine (spec_l1Cur_pick.calls g s0_0 x1001_3 x1002_3 14 t422 t423 t424 w0 _ ?side1 ?side2 A35.out).mono ?_); (case side1 => exact ls109_ HI0); (case side2 => exact lv109_ HB); rintro e w56 ⟨rfl, hi, hb, hk⟩; refine ⟨_, rfl, ?_⟩; replace HO_383001 := am_ (m1_ (Kd.R_keep (IsS109.apart (show IsS109 w0 _ g s0_0 x1001_3 x1002_3 from ls109_ HI0) (lt_ ((m1_ (fr4_ HO_383001.out BK421.out (.int .i64 t411) (.slice Ao53 t412.length co53) (.slice Ao54 t415.length co54) (.slice Ao55 t418.length co55))))) (by decide)) hk (fun _ h => h.2))); replace BK375 := am_ (KeepBut.blk hk (g' := gb375) (lg_ BK375) NB375_0.out (by simp)); replace BK382 := am_ (KeepBut.blk hk (g' := gb382) (lg_ BK382) NB382_0.out (by simp)); replace HO414 := am_ (m1_ (Kd.R_keep (IsS109.apart (show IsS109 w0 _ g s0_0 x1001_3 x1002_3 from ls109_ HI0) (lt_ ((m1_ (fr4_ HO414.out BK421.out (.int .i64 t411) (.slice Ao53 t412.length co53) (.slice Ao54 t415.length co54) (.slice Ao55 t418.length co55))))) (by decide)) hk (fun _ h => h.2))); replace HO417 := am_ (m1_ (Kd.R_keep (IsS109.apart (show IsS109 w0 _ g s0_0 x1001_3 x1002_3 from ls109_ HI0) (lt_ ((m1_ (fr4_ HO417.out BK421.out (.int .i64 t411) (.slice Ao53 t412.length co53) (.slice Ao54 t415.length co54) (.slice Ao55 t418.length co55))))) (by decide)) hk (fun _ h => h.2))); replace HO420 := am_ (m1_ (Kd.R_keep (IsS109.apart (show IsS109 w0 _ g s0_0 x1001_3 x1002_3 from ls109_ HI0) (lt_ ((m1_ (fr4_ HO420.out BK421.out (.int .i64 t411) (.slice Ao53 t412.length co53) (.slice Ao54 t415.length co54) (.slice Ao55 t418.length co55))))) (by decide)) hk (fun _ h => h.2))); replace BK421 := am_ (KeepBut.blk hk (g' := gb421) (o := .cells #[.int .i64 t411, .slice Ao53 t412.length co53, .slice Ao54 t415.length co54, .slice Ao55 t418.length co55] 48 (0, 0)) (lq_ BK421) NB421_0.out (by simp)); replace HK := am_ (KeepBut.trans (lk_ HK) hk (.inl rfl)); replace HB := am_ (hb); replace HI0 := am_ (hi); (try clear hb); (try clear hb2); (try clear hk); (try clear hi); obtain ⟨hcz57_0, hcz57_1, hcz57_2, hcz57_3, hfz57_0, hfz57_1, hfz57_2, hfz57_3⟩ := bx4_ BK421.out))
       have n0_ := am_ (Kd.R_drew HO_383001.out)
       have n1_ := am_ (Kd.R_drew HO414.out)
       have n2_ := am_ (Kd.R_drew HO417.out)
       have n3_ := am_ (Kd.R_drew HO420.out)
       have n4_ := am_ (blk_drew BK375.out)
       have n5_ := am_ (blk_drew BK382.out)
       have n6_ := am_ (blk_drew BK421.out)
       have n7_ := am_ (IsS109.drew HI0.out)
       have n8_ := am_ (keep_drew HK.out)
       have n9_ := am_ (below_drew1 HB.out)
       clear HO_383001
       clear HO414
       clear HO417
       clear HO420
       clear BK375
       clear BK382
       clear BK421
       clear HI0
       clear HK
       clear HB
       have HO_383001 := n0_
       have HO414 := n1_
       have HO417 := n2_
       have HO420 := n3_
       have BK375 := n4_
       have BK382 := n5_
       have BK421 := n6_
       have HI0 := n7_
       have HK := n8_
       have HB := n9_
       clear n0_ n1_ n2_ n3_ n4_ n5_ n6_ n7_ n8_ n9_
       have p428 : 0 ≤ (t425 : Int) := of_decide_eq_true (by first | (with_reducible assumption) | assumption)
       have q428 : t425 < (t415.length : Int) := of_decide_eq_true (by first | (with_reducible assumption) | assumption)
       obtain ⟨ad428, e428, hx428_0⟩ := Kd.at_int (Kd.R_reads' HO417.out).2.2 t425 p428 q428
       cases e428
       replace p428 := eq_true p428
       replace q428 := eq_true q428
       refine start_ (n := 15) (S := fun w' => w'.cell? ⟨gb421, 0, none⟩ = some (.int .i64 t411) ∧ w'.cell? ⟨gb421, 1, none⟩ = some (.slice Ao53 t412.length co53) ∧ w'.cell? ⟨gb421, 2, none⟩ = some (.slice (some ad428) t415.length co54) ∧ w'.cell? ⟨gb421, 3, none⟩ = some (.slice Ao55 t418.length co55) ∧ w'.cell? (ad428.add (t425).toNat) = some (.int .i64 (rd t415 t425))) (ds := [14]) #[false, false, false, false, false, false, false, false, false, false, false, false, false, false, false] (by kernel_rfl) rfl rfl ⟨(blk_cell BK421.out 0).trans rfl, (blk_cell BK421.out 1).trans rfl, (blk_cell BK421.out 2).trans rfl, (blk_cell BK421.out 3).trans rfl, hx428_0⟩ (fun hHeld => ?_); refine with_tabW spec_l1Cur_ranked.tab8 spec_l1Cur_ranked.bits8 (fun HT_ HW_ => ?_)
       generalize w56.drew = w58 at HO_383001 HO414 HO417 HO420 BK375 BK382 BK421 HI0 HK HB hx428_0 hHeld ⊢
       refine pure_ (i := 0) (N := some 27) (v := ?_) (a' := ?_) #[true, false, false, false, false, false, false, false, false, false, false, false, false, false, false] rfl rfl (any_of HT_.out (by kernel_rfl)) (fun _ _ _ h => h) (Or.inl ⟨by rfl, ?_⟩) ?_ ?_
       rotate_left
       ·intro w'
        go_simp
        with_reducible rfl
       rotate_left
       ·simp only [Act.put, List.setIfInBounds_toArray, List.set_cons_zero, List.set_cons_succ, i64_w, i32_w]
        rfl
       refine pure_ (i := 2) (N := some 29) (v := ?_) (a' := ?_) #[true, false, true, false, false, false, false, false, false, false, false, false, false, false, false] rfl rfl (any_of HT_.out (by kernel_rfl)) (fun _ _ _ h => h) (Or.inl ⟨by rfl, ?_⟩) ?_ ?_
       rotate_left
       ·intro w'
        go_simp
        with_reducible rfl
       rotate_left
       ·simp only [Act.put, List.setIfInBounds_toArray, List.set_cons_zero, List.set_cons_succ, i64_w, i32_w]
        rfl
       refine pure_ (i := 3) (N := some 30) (v := ?_) (a' := ?_) #[true, false, true, true, false, false, false, false, false, false, false, false, false, false, false] rfl rfl (any_of HT_.out (by kernel_rfl)) (fun _ _ _ h => h) (Or.inl ⟨by rfl, ?_⟩) ?_ ?_
       rotate_left
       ·intro w'
        go_simp
        with_reducible rfl
       rotate_left
       ·simp only [Act.put, List.setIfInBounds_toArray, List.set_cons_zero, List.set_cons_succ, i64_w, i32_w]
        rfl
       refine pure_ (i := 9) (N := some 36) (v := ?_) (a' := ?_) #[true, false, true, true, false, false, false, false, false, true, false, false, false, false, false] rfl rfl (any_of HT_.out (by kernel_rfl)) (fun _ _ _ h => h) (Or.inl ⟨by rfl, ?_⟩) ?_ ?_
       rotate_left
       ·intro w'
        go_simp
        with_reducible rfl
       rotate_left
       ·simp only [Act.put, List.setIfInBounds_toArray, List.set_cons_zero, List.set_cons_succ, i64_w, i32_w]
        rfl
       refine take_ (i := 1) (N := some 28) (v := ?_) (a' := ?_) #[true, true, true, true, false, false, false, false, false, true, false, false, false, false, false] rfl rfl (take_ofW HT_.out HW_.out (by kernel_rfl)) (fun _ _ _ h => h) (Or.inl ⟨by rfl, ?_⟩) hHeld ?_ ?_
       rotate_left
       ·rintro w' ⟨s0, s1, s2, s3, s4⟩
        go_simp
        with_reducible rfl
       rotate_left
       ·simp only [Act.put, List.setIfInBounds_toArray, List.set_cons_zero, List.set_cons_succ, i64_w, i32_w]
        rfl
       refine take_ (i := 4) (N := some 31) (v := ?_) (a' := ?_) #[true, true, true, true, true, false, false, false, false, true, false, false, false, false, false] rfl rfl (take_ofW HT_.out HW_.out (by kernel_rfl)) (fun _ _ _ h => h) (Or.inl ⟨by rfl, ?_⟩) hHeld ?_ ?_
       rotate_left
       ·rintro w' ⟨s0, s1, s2, s3, s4⟩
        go_simp
        with_reducible rfl
       rotate_left
       ·simp only [Act.put, List.setIfInBounds_toArray, List.set_cons_zero, List.set_cons_succ, i64_w, i32_w]
        rfl
       refine pure_ (i := 5) (N := some 32) (v := ?_) (a' := ?_) #[true, true, true, true, true, true, false, false, false, true, false, false, false, false, false] rfl rfl (any_of HT_.out (by kernel_rfl)) (fun _ _ _ h => h) (Or.inl ⟨by rfl, ?_⟩) ?_ ?_
       rotate_left
       ·intro w'
        go_simp
        with_reducible rfl
       rotate_left
       ·simp only [Act.put, List.setIfInBounds_toArray, List.set_cons_zero, List.set_cons_succ, i64_w, i32_w]
        rfl
       refine one_ (i := 6) (N := some 33) #[true, true, true, true, true, true, true, false, false, true, false, false, false, false, false] rfl rfl (one_of HT_.out (by kernel_rfl)) (by decide) (fun K hK => ?_)
       refine goes_ Try.func107 (by kernel_rfl) rfl #[.pointer (some ⟨g, 0, none⟩), .int .i64 (t415.length : Int)] (by rfl) rfl rfl lm_ ?_
       with_reducible refine (spec_l1Cur_pick.calls g s0_0 t423 t424 (t415.length : Int) t425 t426 t427 w0 _ ?side1 ?side2 A38.out).mono ?_
       (case side1 => exact ls109_ HI0)
       (case side2 => exact lv109_ HB)
       rintro e w59 ⟨rfl, hi, hb, hk⟩
       have HS4_ := keep_cell hk (hHeld.2.2.2.2) (by first | (rw [add_block]; exact Kd.own_blk (IsS109.own_ne HI0.out HO417.out (by decide))) | (show (Addr.add _ _).block ≠ _; rw [add_block]; exact Kd.own_blk (IsS109.own_ne HI0.out HO417.out (by decide))) | exact Kd.own_blk (IsS109.own_ne HI0.out HO417.out (by decide)))
       refine ⟨_, rfl, ?_⟩
       have n0_ := am_ (m1_ (Kd.R_keep (IsS109.apart (show IsS109 w0 _ g s0_0 t423 t424 from ls109_ HI0) (lf_ HO_383001) (by decide)) hk (fun _ h => h.2)))
       have n1_ := am_ (KeepBut.blk hk (g' := gb375) (lb_ BK375) NB375_0.out (by simp))
       have n2_ := am_ (KeepBut.blk hk (g' := gb382) (lb_ BK382) NB382_0.out (by simp))
       have n3_ := am_ (m1_ (Kd.R_keep (IsS109.apart (show IsS109 w0 _ g s0_0 t423 t424 from ls109_ HI0) (lf_ HO414) (by decide)) hk (fun _ h => h.2)))
       have n4_ := am_ (m1_ (Kd.R_keep (IsS109.apart (show IsS109 w0 _ g s0_0 t423 t424 from ls109_ HI0) (lf_ HO417) (by decide)) hk (fun _ h => h.2)))
       have n5_ := am_ (m1_ (Kd.R_keep (IsS109.apart (show IsS109 w0 _ g s0_0 t423 t424 from ls109_ HI0) (lf_ HO420) (by decide)) hk (fun _ h => h.2)))
       have n6_ := am_ (KeepBut.blk hk (g' := gb421) (lb_ BK421) NB421_0.out (by simp))
       have n7_ := am_ (KeepBut.trans (lk_ HK) hk (.inl rfl))
       have n8_ := am_ (hb)
       have n9_ := am_ (hi)
       clear HO_383001
       clear BK375
       clear BK382
       clear HO414
       clear HO417
       clear HO420
       clear BK421
       clear HK
       clear HB
       clear HI0
       have HO_383001 := n0_
       have BK375 := n1_
       have BK382 := n2_
       have HO414 := n3_
       have HO417 := n4_
       have HO420 := n5_
       have BK421 := n6_
       have HK := n7_
       have HB := n8_
       have HI0 := n9_
       clear n0_ n1_ n2_ n3_ n4_ n5_ n6_ n7_ n8_ n9_
       (try clear hb)
       (try clear hb2)
       (try clear hk)
       (try clear hi)
       refine hK.out _ _ ⟨(blk_cell BK421.out 0).trans rfl, (blk_cell BK421.out 1).trans rfl, (blk_cell BK421.out 2).trans rfl, (blk_cell BK421.out 3).trans rfl, HS4_⟩ (fun hHeld => ?_)
       clear hK K
       refine norm_ (a' := ?_) ?_ ?_
       rotate_left
       ·show Act.put _ (some 33) _ = _
        simp only [Act.put, List.setIfInBounds_toArray, List.set_cons_zero, List.set_cons_succ, i64_w, i32_w]
        rfl
       refine pure_ (i := 7) (N := some 34) (v := ?_) (a' := ?_) #[true, true, true, true, true, true, true, true, false, true, false, false, false, false, false] rfl rfl (any_of HT_.out (by kernel_rfl)) (fun _ _ _ h => h) (Or.inl ⟨by rfl, ?_⟩) ?_ ?_
       rotate_left
       ·intro w'
        go_simp
        with_reducible rfl
       rotate_left
       ·simp only [Act.put, List.setIfInBounds_toArray, List.set_cons_zero, List.set_cons_succ, i64_w, i32_w]
        rfl
       refine take_ (i := 8) (N := some 35) (v := ?_) (a' := ?_) #[true, true, true, true, true, true, true, true, true, true, false, false, false, false, false] rfl rfl (take_ofW HT_.out HW_.out (by kernel_rfl)) (fun _ _ _ h => h) (Or.inl ⟨by rfl, ?_⟩) hHeld ?_ ?_
       rotate_left
       ·rintro w' ⟨s0, s1, s2, s3, s4⟩
        go_simp
        with_reducible rfl
       rotate_left
       ·simp only [Act.put, List.setIfInBounds_toArray, List.set_cons_zero, List.set_cons_succ, i64_w, i32_w]
        rfl
       refine one_ (i := 10) (N := some 37) #[true, true, true, true, true, true, true, true, true, true, true, false, false, false, false] rfl rfl (one_of HT_.out (by kernel_rfl)) (by decide) (fun K hK => ?_)
       refine goes_ Try.func107 (by kernel_rfl) rfl #[.pointer (some ⟨g, 0, none⟩), .int .i64 3] (by rfl) rfl rfl lm_ ?_
       with_reducible refine (spec_l1Cur_pick.calls g s0_0 t426 t427 3 t429 t430 t431 w0 _ ?side1 ?side2 A41.out).mono ?_
       (case side1 => exact ls109_ HI0)
       (case side2 => exact lv109_ HB)
       rintro e w60 ⟨rfl, hi, hb, hk⟩
       have HS4_ := keep_cell hk (hHeld.2.2.2.2) (by first | (rw [add_block]; exact Kd.own_blk (IsS109.own_ne HI0.out HO417.out (by decide))) | (show (Addr.add _ _).block ≠ _; rw [add_block]; exact Kd.own_blk (IsS109.own_ne HI0.out HO417.out (by decide))) | exact Kd.own_blk (IsS109.own_ne HI0.out HO417.out (by decide)))
       refine ⟨_, rfl, ?_⟩
       have n0_ := am_ (m1_ (Kd.R_keep (IsS109.apart (show IsS109 w0 _ g s0_0 t426 t427 from ls109_ HI0) (lf_ HO_383001) (by decide)) hk (fun _ h => h.2)))
       have n1_ := am_ (KeepBut.blk hk (g' := gb375) (lb_ BK375) NB375_0.out (by simp))
       have n2_ := am_ (KeepBut.blk hk (g' := gb382) (lb_ BK382) NB382_0.out (by simp))
       have n3_ := am_ (m1_ (Kd.R_keep (IsS109.apart (show IsS109 w0 _ g s0_0 t426 t427 from ls109_ HI0) (lf_ HO414) (by decide)) hk (fun _ h => h.2)))
       have n4_ := am_ (m1_ (Kd.R_keep (IsS109.apart (show IsS109 w0 _ g s0_0 t426 t427 from ls109_ HI0) (lf_ HO417) (by decide)) hk (fun _ h => h.2)))
       have n5_ := am_ (m1_ (Kd.R_keep (IsS109.apart (show IsS109 w0 _ g s0_0 t426 t427 from ls109_ HI0) (lf_ HO420) (by decide)) hk (fun _ h => h.2)))
       have n6_ := am_ (KeepBut.blk hk (g' := gb421) (lb_ BK421) NB421_0.out (by simp))
       have n7_ := am_ (KeepBut.trans (lk_ HK) hk (.inl rfl))
       have n8_ := am_ (hb)
       have n9_ := am_ (hi)
       clear HO_383001
       clear BK375
       clear BK382
       clear HO414
       clear HO417
       clear HO420
       clear BK421
       clear HK
       clear HB
       clear HI0
       have HO_383001 := n0_
       have BK375 := n1_
       have BK382 := n2_
       have HO414 := n3_
       have HO417 := n4_
       have HO420 := n5_
       have BK421 := n6_
       have HK := n7_
       have HB := n8_
       have HI0 := n9_
       clear n0_ n1_ n2_ n3_ n4_ n5_ n6_ n7_ n8_ n9_
       (try clear hb)
       (try clear hb2)
       (try clear hk)
       (try clear hi)
       have p42 : 0 ≤ (t425 : Int) := of_decide_eq_true (by first | (with_reducible assumption) | assumption)
       have q42 : (t425 : Int) < ((t415.length : Int) : Int) := of_decide_eq_true (by first | (with_reducible assumption) | assumption)
       obtain ⟨go42, co42, eo42, gb42, gl42, cl42, HG42⟩ := Kd.R_form HO417.out (by omega)
       (first | cases eo42 | (injection eo42 with ea_ en_ ec_; (first | subst ea_ | (injection ea_ with ea_; subst ea_)); subst ec_; clear en_))
       have GB42 := am_ gb42
       have GG42 := am_ HG42
       clear gb42 gl42 HG42
       (first | simp only [add_plain] at hx428_0 | skip)
       obtain ⟨hx42_0, hf42_0⟩ := Kd.R_celln 0 HO417.out (t425 : Int) p42 q42
       replace p42 := eq_true p42
       replace q42 := eq_true q42
       have HN0_go42 := am_ (show g ≠ go42 from by have h_ := IsS109.own_ne HI0.out HO417.out (by decide); intro e_; exact h_ (by rw [e_]; rfl))
       have HP61 := Kd.R_putn HO417.out (t425 : Int) (wrap64 ((rd t415 t425) + (wrap64 (t429 - 1))))
       rw [← Ny432.out] at HP61
       have HQ61 := am_ HP61
       clear HP61
       refine hK.out _ _ ⟨(blk_cell BK421.out 0).trans rfl, (blk_cell BK421.out 1).trans rfl, (blk_cell BK421.out 2).trans rfl, (blk_cell BK421.out 3).trans rfl, HS4_⟩ (fun hHeld => ?_)
       clear hK K
       refine norm_ (a' := ?_) ?_ ?_
       rotate_left
       ·show Act.put _ (some 37) _ = _
        simp only [Act.put, List.setIfInBounds_toArray, List.set_cons_zero, List.set_cons_succ, i64_w, i32_w]
        rfl
       refine pure_ (i := 11) (N := some 38) (v := ?_) (a' := ?_) #[true, true, true, true, true, true, true, true, true, true, true, true, false, false, false] rfl rfl (any_of HT_.out (by kernel_rfl)) (fun _ _ _ h => h) (Or.inl ⟨by rfl, ?_⟩) ?_ ?_
       rotate_left
       ·intro w'
        go_simp
        with_reducible rfl
       rotate_left
       ·simp only [Act.put, List.setIfInBounds_toArray, List.set_cons_zero, List.set_cons_succ, i64_w, i32_w]
        rfl
       refine pure_ (i := 12) (N := some 39) (v := ?_) (a' := ?_) #[true, true, true, true, true, true, true, true, true, true, true, true, true, false, false] rfl rfl (any_of HT_.out (by kernel_rfl)) (fun _ _ _ h => h) (Or.inl ⟨by rfl, ?_⟩) ?_ ?_
       rotate_left
       ·intro w'
        go_simp
        with_reducible rfl
       rotate_left
       ·simp only [Act.put, List.setIfInBounds_toArray, List.set_cons_zero, List.set_cons_succ, i64_w, i32_w]
        rfl
       refine pure_ (i := 13) (N := some 40) (v := ?_) (a' := ?_) #[true, true, true, true, true, true, true, true, true, true, true, true, true, true, false] rfl rfl (any_of HT_.out (by kernel_rfl)) (fun _ _ _ h => h) (Or.inl ⟨by rfl, ?_⟩) ?_ ?_
       rotate_left
       ·intro w'
        go_simp
        with_reducible rfl
       rotate_left
       ·simp only [Act.put, List.setIfInBounds_toArray, List.set_cons_zero, List.set_cons_succ, i64_w, i32_w]
        rfl
       refine last_ (i := 14) (N := none) #[true, true, true, true, true, true, true, true, true, true, true, true, true, true, true] rfl rfl (one_of HT_.out (by kernel_rfl)) (by decide) (fun K hK => ?_)
       refine skip_ (w1 := ?_) (by rfl) rfl ?_ ?_
       rotate_left
       ·go_simp
        rfl
       refine hK.out _ _ ?_
       clear hK K
       refine done_ (done_of HT_.out (by kernel_rfl)) ?_
       have n0_ : Aside0 (Kd.R (Kd.int .i64) 3 (w60.setCell ⟨go42, (t425 : Int).toNat, none⟩ (.int .i64 (wrap64 ((rd t415 t425) + (wrap64 (t429 - 1)))))) w.heap.size (fun k_ => ns_ k_ Ao53 t412 co53 ∧ some k_ ≠ (.slice (some ⟨go42, 0, none⟩) t415.length co54 : Value).ownBlock ∧ ns_ k_ Ao55 t418 co55) (.slice Ao46 x383001_3.length co46) x383001_3) := ⟨lo2_ (Kd.R_far (p := ⟨go42, (t425 : Int).toNat, none⟩) (Kd.R_mono HO_383001.out (fun k_ hk => (⟨hk, fun e_ => hk.1.2 (by rw [e_]; rfl)⟩ : _ ∧ k_ ≠ go42))) (fun _ hk => hk.2) (.int .i64 (wrap64 ((rd t415 t425) + (wrap64 (t429 - 1))))))⟩
       have n1_ : Aside0 (Kd.R (Kd.int .i64) 3 (w60.setCell ⟨go42, (t425 : Int).toNat, none⟩ (.int .i64 (wrap64 ((rd t415 t425) + (wrap64 (t429 - 1)))))) w.heap.size (fun k_ => ns_ k_ Ao46 x383001_3 co46 ∧ some k_ ≠ (.slice (some ⟨go42, 0, none⟩) t415.length co54 : Value).ownBlock ∧ ns_ k_ Ao55 t418 co55) (.slice Ao53 t412.length co53) t412) := ⟨lo2_ (Kd.R_far (p := ⟨go42, (t425 : Int).toNat, none⟩) (Kd.R_mono HO414.out (fun k_ hk => (⟨hk, fun e_ => hk.1.1 (by rw [e_]; rfl)⟩ : _ ∧ k_ ≠ go42))) (fun _ hk => hk.2) (.int .i64 (wrap64 ((rd t415 t425) + (wrap64 (t429 - 1))))))⟩
       have n2_ : Aside0 (Kd.R (Kd.int .i64) 3 (w60.setCell ⟨go42, (t425 : Int).toNat, none⟩ (.int .i64 (wrap64 ((rd t415 t425) + (wrap64 (t429 - 1)))))) w.heap.size (fun k_ => ns_ k_ Ao46 x383001_3 co46 ∧ ns_ k_ Ao53 t412 co53 ∧ ns_ k_ Ao55 t418 co55) (.slice (some ⟨go42, 0, none⟩) t415.length co54) y432) := ⟨lo_ HQ61⟩
       have n3_ : Aside0 (Kd.R (Kd.int .i64) 3 (w60.setCell ⟨go42, (t425 : Int).toNat, none⟩ (.int .i64 (wrap64 ((rd t415 t425) + (wrap64 (t429 - 1)))))) w.heap.size (fun k_ => ns_ k_ Ao46 x383001_3 co46 ∧ ns_ k_ Ao53 t412 co53 ∧ some k_ ≠ (.slice (some ⟨go42, 0, none⟩) t415.length co54 : Value).ownBlock) (.slice Ao55 t418.length co55) t418) := ⟨lo2_ (Kd.R_far (p := ⟨go42, (t425 : Int).toNat, none⟩) (Kd.R_mono HO420.out (fun k_ hk => (⟨hk, fun e_ => hk.1.2 (by rw [e_]; rfl)⟩ : _ ∧ k_ ≠ go42))) (fun _ hk => hk.2) (.int .i64 (wrap64 ((rd t415 t425) + (wrap64 (t429 - 1))))))⟩
       have n4_ : Aside0 ((w60.setCell ⟨go42, (t425 : Int).toNat, none⟩ (.int .i64 (wrap64 ((rd t415 t425) + (wrap64 (t429 - 1)))))).heap[gb375]? = some (.cells #[.int .i64 0, .slice none 0 0, .slice none 0 0, .slice none 0 0] 48 (0, 0))) := ⟨by (with_reducible repeat (first | refine blk_drewN ?_ _ | refine blk_drew ?_ | refine blk_alloc ?_ _)); refine blk_far ?_ (by have h_ := Kd.R_ne HO417.out BK375.out (by decide); intro e_; exact h_ (by rw [e_]; rfl)) _; (with_reducible repeat (first | refine blk_drewN ?_ _ | refine blk_drew ?_ | refine blk_alloc ?_ _)); exact BK375.out⟩
       have n5_ : Aside0 ((w60.setCell ⟨go42, (t425 : Int).toNat, none⟩ (.int .i64 (wrap64 ((rd t415 t425) + (wrap64 (t429 - 1)))))).heap[gb382]? = some (.cells #[.int .i64 x383000_3, .slice Ao46 x383001_3.length co46] 26 (0, 0))) := ⟨by (with_reducible repeat (first | refine blk_drewN ?_ _ | refine blk_drew ?_ | refine blk_alloc ?_ _)); refine blk_far ?_ (by have h_ := Kd.R_ne HO417.out BK382.out (by decide); intro e_; exact h_ (by rw [e_]; rfl)) _; (with_reducible repeat (first | refine blk_drewN ?_ _ | refine blk_drew ?_ | refine blk_alloc ?_ _)); exact BK382.out⟩
       have n6_ : Aside0 ((w60.setCell ⟨go42, (t425 : Int).toNat, none⟩ (.int .i64 (wrap64 ((rd t415 t425) + (wrap64 (t429 - 1)))))).heap[gb421]? = some (.cells #[.int .i64 t411, .slice Ao53 t412.length co53, .slice (some ⟨go42, 0, none⟩) t415.length co54, .slice Ao55 t418.length co55] 48 (0, 0))) := ⟨by (with_reducible repeat (first | refine blk_drewN ?_ _ | refine blk_drew ?_ | refine blk_alloc ?_ _)); refine blk_far ?_ (by have h_ := Kd.R_ne HO417.out BK421.out (by decide); intro e_; exact h_ (by rw [e_]; rfl)) _; (with_reducible repeat (first | refine blk_drewN ?_ _ | refine blk_drew ?_ | refine blk_alloc ?_ _)); exact BK421.out⟩
       have n7_ : Aside0 (IsS109 w0 (w60.setCell ⟨go42, (t425 : Int).toNat, none⟩ (.int .i64 (wrap64 ((rd t415 t425) + (wrap64 (t429 - 1)))))) g s0_0 t430 t431) := ⟨ls109_ HI0⟩
       have n8_ : Aside0 (KeepBut w (w60.setCell ⟨go42, (t425 : Int).toNat, none⟩ (.int .i64 (wrap64 ((rd t415 t425) + (wrap64 (t429 - 1)))))) g none) := ⟨lk_ HK⟩
       have n9_ : Aside0 (Below w0.heap.size w0 (w60.setCell ⟨go42, (t425 : Int).toNat, none⟩ (.int .i64 (wrap64 ((rd t415 t425) + (wrap64 (t429 - 1))))))) := ⟨by repeat (first | (with_reducible first | exact HB.out | apply below_alloc | apply pw_below_drewN | apply below_drew1 | refine below_set ?_ (Nat.le_trans HL.out GB42.out) | refine below_set ?_ (IsS109.ge HI0.out) | refine below_set ?_ GE375.out | refine below_set ?_ GE382.out | refine below_set ?_ GE421.out) | exact HB.out)⟩
       (try clear HO_383001)
       (try clear HO414)
       (try clear HO417)
       (try clear HO420)
       (try clear BK375)
       (try clear BK382)
       (try clear BK421)
       (try clear HI0)
       (try clear HK)
       (try clear HB)
       generalize (w60.setCell ⟨go42, (t425 : Int).toNat, none⟩ (.int .i64 (wrap64 ((rd t415 t425) + (wrap64 (t429 - 1)))))) = w62 at n0_ n1_ n2_ n3_ n4_ n5_ n6_ n7_ n8_ n9_ ⊢
       have HO_383001 := n0_
       have HO414 := n1_
       have HO417 := n2_
       have HO420 := n3_
       have BK375 := n4_
       have BK382 := n5_
       have BK421 := n6_
       have HI0 := n7_
       have HK := n8_
       have HB := n9_
       clear n0_ n1_ n2_ n3_ n4_ n5_ n6_ n7_ n8_ n9_
       obtain ⟨hcz63_0, hcz63_1, hcz63_2, hcz63_3, hfz63_0, hfz63_1, hfz63_2, hfz63_3⟩ := bx4_ BK421.out
       have hnb64 := NB375_0.out
       have hnc64 := NB0_375.out
       obtain ⟨hcz65_0, hcz65_1, hcz65_2, hcz65_3, hfz65_0, hfz65_1, hfz65_2, hfz65_3⟩ := bx4_ BK375.out
       try go_wp2
       refine bodyPost_ret (results_cell_row rfl _ _ gb375 48 #[.int .i64 t411, .slice Ao53 t412.length co53, .slice (some ⟨go42, 0, none⟩) t415.length co54, .slice Ao55 t418.length co55] (0, 0) _ rfl (lq_ BK375) Try.underlying48 rfl (by kernel_rfl)) rfl ?_
       exact ⟨_, _, _, er_, lo2_ (fr4_ HO414.out BK375.out (.int .i64 t411) (.slice Ao53 t412.length co53) (.slice (some ⟨go42, 0, none⟩) t415.length co54) (.slice Ao55 t418.length co55)), lo2_ (fr4_ HO417.out BK375.out (.int .i64 t411) (.slice Ao53 t412.length co53) (.slice (some ⟨go42, 0, none⟩) t415.length co54) (.slice Ao55 t418.length co55)), lo2_ (fr4_ HO420.out BK375.out (.int .i64 t411) (.slice Ao53 t412.length co53) (.slice (some ⟨go42, 0, none⟩) t415.length co54) (.slice Ao55 t418.length co55)), ls109_ HI0, lv109_ HB, lk_ HK⟩
      ·rw [if_neg c40] at H
       exact absurd H (by simp)
     ·rw [if_neg c39] at H
      exact absurd H (by simp)
    ·rw [if_neg c37] at H
     have c37b0 : decide (0 < (t415.length : Int)) = false := decide_eq_false c37
     have c37b1 : decide (0 < t415.length) = false := decide_eq_false (by omega)
     clear c37
     simp only [Option.some.injEq, Prod.mk.injEq] at H
     obtain ⟨rfl, rfl, rfl, rfl, rfl, rfl⟩ := H
     have hnb66 := NB382_375.out
     have hnc66 := NB375_382.out
     have hnb67 := NB382_0.out
     have hnc67 := NB0_382.out
     obtain ⟨hcz68_0, hcz68_1, hfz68_0, hfz68_1⟩ := bx2_ BK382.out
     obtain ⟨Ao69, co69, eo69⟩ := Kd.R_slice HO_383001.out
     subst eo69
     go_wp2_with (first | ((with_reducible refine gate_callee (f := 95) rfl ?_); refine goesL_ (some 18) rfl rfl Try.func95 (by kernel_rfl) rfl #[.agg #[.int .i64 x383000_3, .slice Ao69 x383001_3.length co69]] rfl lm_ ?_; (with_reducible refine (spec_raOf.calls kj3 x383000_3 _ _ x383001_3 t411 t412 t415 t418 _ ?side1 ?side2 A34.out).mono ?_); (case side1 => exact lc_ (Kd.R_reads' HO_383001.out).2.2); (case side2 => exact (Kd.R_reads' HO_383001.out).2.1); rintro e w70 ⟨v413, v416, v419, rfl, ho0, ho1, ho2, hb⟩; refine ⟨_, rfl, ?_⟩; have HO414 := am_ (Kd.R_lower (nw_ ho0 HO_383001) (keep_size (w := w) (g := g) (row := none) (lk_ HK))); have HO417 := am_ (Kd.R_lower (nw_ ho1 HO_383001) (keep_size (w := w) (g := g) (row := none) (lk_ HK))); have HO420 := am_ (Kd.R_lower (nw_ ho2 HO_383001) (keep_size (w := w) (g := g) (row := none) (lk_ HK))); replace HO_383001 := am_ (m1_ (td_ (td_ (td_ (Kd.R_old (lf_ HO_383001) hb) ho0) ho1) ho2)); replace BK375 := am_ (blk_below (g := gb375) (lb_ BK375) hb); replace BK382 := am_ (blk_below (g := gb382) (lb_ BK382) hb); replace HI0 := am_ (IsS109.below (ls109_ HI0) hb); replace HK := am_ (KeepBut.trans (lk_ HK) (KeepBut.of_below hb g none) (.inl rfl)); replace HB := am_ (below_step (lv109_ HB) hb); (try clear hb); (try clear hb2); (try clear hk); (try clear hi); (try clear ho0); (try clear ho1); (try clear ho2)) | ((with_reducible refine gate_dst (N := 4) rfl ?_); refine bev_ 4 #[.int .i64 0, .slice none 0 0, .slice none 0 0, .slice none 0 0] 48 rfl rfl ?_; intro gb421 hg w71 hbox hb; have BK421 := am_ (hbox); have GW421 := am_ ((by rw [hg]; exact (keep_size (w := w) (g := g) (row := none) (lk_ HK)) : w.heap.size ≤ gb421)); have GE421 := am_ ((Nat.le_trans HW0.out (by rw [hg]; exact (keep_size (w := w) (g := g) (row := none) (lk_ HK)) : w.heap.size ≤ gb421) : w0.heap.size ≤ gb421)); have NB375_421 := am_ ((by rw [hg]; exact Nat.ne_of_lt (blk_lt (g := gb375) (lb_ BK375)) : gb375 ≠ gb421)); have NB421_375 := am_ ((by rw [hg]; exact Nat.ne_of_gt (blk_lt (g := gb375) (lb_ BK375)) : gb421 ≠ gb375)); have NB382_421 := am_ ((by rw [hg]; exact Nat.ne_of_lt (blk_lt (g := gb382) (lb_ BK382)) : gb382 ≠ gb421)); have NB421_382 := am_ ((by rw [hg]; exact Nat.ne_of_gt (blk_lt (g := gb382) (lb_ BK382)) : gb421 ≠ gb382)); have NB0_421 := am_ ((by rw [hg]; exact Nat.ne_of_lt (IsS109.lt (show IsS109 w0 _ g s0_0 x1001_3 x1002_3 from ls109_ HI0)) : g ≠ gb421)); have NB421_0 := am_ ((by rw [hg]; exact Nat.ne_of_gt (IsS109.lt (show IsS109 w0 _ g s0_0 x1001_3 x1002_3 from ls109_ HI0)) : gb421 ≠ g)); replace HO_383001 := am_ (Kd.R_below (lf_ HO_383001) hb); replace HO414 := am_ (Kd.R_below (lf_ HO414) hb); replace HO417 := am_ (Kd.R_below (lf_ HO417) hb); replace HO420 := am_ (Kd.R_below (lf_ HO420) hb); replace BK375 := am_ (blk_below (g := gb375) (lb_ BK375) hb); replace BK382 := am_ (blk_below (g := gb382) (lb_ BK382) hb); replace HI0 := am_ (IsS109.below (ls109_ HI0) hb); replace HK := am_ (KeepBut.trans (lk_ HK) (KeepBut.of_below hb g none) (.inl rfl)); replace HB := am_ (below_step (lv109_ HB) hb); clear hb hbox hg; have hnb72 := NB421_375.out; have hnc72 := NB375_421.out; have hnb73 := NB421_382.out; have hnc73 := NB382_421.out; have hnb74 := NB421_0.out; have hnc74 := NB0_421.out; obtain ⟨hcz75_0, hcz75_1, hcz75_2, hcz75_3, hfz75_0, hfz75_1, hfz75_2, hfz75_3⟩ := bx4_ BK421.out; obtain ⟨Ao76, co76, eo76⟩ := Kd.R_slice HO414.out; subst eo76; obtain ⟨Ao77, co77, eo77⟩ := Kd.R_slice HO417.out; subst eo77; obtain ⟨Ao78, co78, eo78⟩ := Kd.R_slice HO420.out; subst eo78) | ((with_reducible refine gate_callee (f := 107) rfl ?_); refine goesL_ (some 20) rfl rfl Try.func107 (by kernel_rfl) rfl #[.pointer (some ⟨g, 0, none⟩), .int .i64 14] rfl lm_ ?_; (with_reducible refine (spec_l1Cur_pick.calls g s0_0 x1001_3 x1002_3 14 t422 t423 t424 w0 _ ?side1 ?side2 A35.out).mono ?_); (case side1 => exact ls109_ HI0); (case side2 => exact lv109_ HB); rintro e w79 ⟨rfl, hi, hb, hk⟩; refine ⟨_, rfl, ?_⟩; replace HO_383001 := am_ (m1_ (Kd.R_keep (IsS109.apart (show IsS109 w0 _ g s0_0 x1001_3 x1002_3 from ls109_ HI0) (lt_ ((m1_ (fr4_ HO_383001.out BK421.out (.int .i64 t411) (.slice Ao76 t412.length co76) (.slice Ao77 t415.length co77) (.slice Ao78 t418.length co78))))) (by decide)) hk (fun _ h => h.2))); replace BK375 := am_ (KeepBut.blk hk (g' := gb375) (lg_ BK375) NB375_0.out (by simp)); replace BK382 := am_ (KeepBut.blk hk (g' := gb382) (lg_ BK382) NB382_0.out (by simp)); replace HO414 := am_ (m1_ (Kd.R_keep (IsS109.apart (show IsS109 w0 _ g s0_0 x1001_3 x1002_3 from ls109_ HI0) (lt_ ((m1_ (fr4_ HO414.out BK421.out (.int .i64 t411) (.slice Ao76 t412.length co76) (.slice Ao77 t415.length co77) (.slice Ao78 t418.length co78))))) (by decide)) hk (fun _ h => h.2))); replace HO417 := am_ (m1_ (Kd.R_keep (IsS109.apart (show IsS109 w0 _ g s0_0 x1001_3 x1002_3 from ls109_ HI0) (lt_ ((m1_ (fr4_ HO417.out BK421.out (.int .i64 t411) (.slice Ao76 t412.length co76) (.slice Ao77 t415.length co77) (.slice Ao78 t418.length co78))))) (by decide)) hk (fun _ h => h.2))); replace HO420 := am_ (m1_ (Kd.R_keep (IsS109.apart (show IsS109 w0 _ g s0_0 x1001_3 x1002_3 from ls109_ HI0) (lt_ ((m1_ (fr4_ HO420.out BK421.out (.int .i64 t411) (.slice Ao76 t412.length co76) (.slice Ao77 t415.length co77) (.slice Ao78 t418.length co78))))) (by decide)) hk (fun _ h => h.2))); replace BK421 := am_ (KeepBut.blk hk (g' := gb421) (o := .cells #[.int .i64 t411, .slice Ao76 t412.length co76, .slice Ao77 t415.length co77, .slice Ao78 t418.length co78] 48 (0, 0)) (lq_ BK421) NB421_0.out (by simp)); replace HK := am_ (KeepBut.trans (lk_ HK) hk (.inl rfl)); replace HB := am_ (hb); replace HI0 := am_ (hi); (try clear hb); (try clear hb2); (try clear hk); (try clear hi); obtain ⟨hcz80_0, hcz80_1, hcz80_2, hcz80_3, hfz80_0, hfz80_1, hfz80_2, hfz80_3⟩ := bx4_ BK421.out; have hnb81 := NB375_0.out; have hnc81 := NB0_375.out; obtain ⟨hcz82_0, hcz82_1, hcz82_2, hcz82_3, hfz82_0, hfz82_1, hfz82_2, hfz82_3⟩ := bx4_ BK375.out))
     refine bodyPost_ret (results_cell_row rfl _ _ gb375 48 #[.int .i64 t411, .slice Ao76 t412.length co76, .slice Ao77 t415.length co77, .slice Ao78 t418.length co78] (0, 0) _ rfl (lq_ BK375) Try.underlying48 rfl (by kernel_rfl)) rfl ?_
     exact ⟨_, _, _, er_, lo2_ (fr4_ HO414.out BK375.out (.int .i64 t411) (.slice Ao76 t412.length co76) (.slice Ao77 t415.length co77) (.slice Ao78 t418.length co78)), lo2_ (fr4_ HO417.out BK375.out (.int .i64 t411) (.slice Ao76 t412.length co76) (.slice Ao77 t415.length co77) (.slice Ao78 t418.length co78)), lo2_ (fr4_ HO420.out BK375.out (.int .i64 t411) (.slice Ao76 t412.length co76) (.slice Ao77 t415.length co77) (.slice Ao78 t418.length co78)), ls109_ HI0, lv109_ HB, lk_ HK⟩
   ·rw [if_neg c36] at H
    have c36b0 : (t422 == 0) = false := beq_eq_false_iff_ne.mpr c36
    have c36b1 : (t422 != 0) = true := bne_iff_ne.mpr c36
    by_cases c83 : t422 = 1
    ·rw [if_pos c83] at H
     have c83b0 : (t422 == 1) = true := beq_iff_eq.mpr c83
     have c83b1 : (t422 != 1) = false := bne_eq_false_iff_eq.mpr c83
     clear c83
     by_cases c84 : (t418.length : Int) > 0
     ·rw [if_pos c84] at H
      have c84b0 : decide (0 < (t418.length : Int)) = true := decide_eq_true c84
      have c84b1 : decide (0 < t418.length) = true := decide_eq_true (by omega)
      clear c84
      replace H := Option.bind_eq_some_iff.mp H
      obtain ⟨⟨t433, t434, t435⟩, A850, H⟩ := H
      replace H : (if 0 ≤ t433 then (if t433 < (t418.length : Int) then ((spec_l1Cur_pick.f s0_0 t434 t435 3).bind fun bt437 => (some (t411, t412, t415, (t418.set (t433 : Int).toNat (wrap64 ((rd t418 t433) + (wrap64 (bt437.1 - 1))))), bt437.2.1, bt437.2.2))) else (none)) else (none)) = some (r1, r2, r3, r4, r5, r6) := H
      have A85 := am_ A850
      clear A850
      by_cases c86 : 0 ≤ t433
      ·rw [if_pos c86] at H
       have c86b0 : decide (0 ≤ t433) = true := decide_eq_true c86
       clear c86
       by_cases c87 : t433 < (t418.length : Int)
       ·rw [if_pos c87] at H
        have c87b0 : decide (t433 < (t418.length : Int)) = true := decide_eq_true c87
        clear c87
        replace H := Option.bind_eq_some_iff.mp H
        obtain ⟨⟨t437, t438, t439⟩, A880, H⟩ := H
        replace H : (some (t411, t412, t415, (t418.set (t433 : Int).toNat (wrap64 ((rd t418 t433) + (wrap64 (t437 - 1))))), t438, t439)) = some (r1, r2, r3, r4, r5, r6) := H
        have A88 := am_ A880
        clear A880
        obtain ⟨y440, hy440⟩ : ∃ y_ : List Int, y_ = (t418.set (t433 : Int).toNat (wrap64 ((rd t418 t433) + (wrap64 (t437 - 1))))) := ⟨_, rfl⟩
        replace H : (some (t411, t412, t415, y440, t438, t439)) = some (r1, r2, r3, r4, r5, r6) := by first | (rw [hy440]; with_reducible exact H) | (have H2_ := (Option.bind_some _ _).symm.trans H; rw [hy440]; with_reducible exact H2_) | (have H2_ := (Option.bind_some _ _).symm.trans H; with_reducible exact H2_) | with_reducible exact H | (rw [hy440]; exact H) | exact H
        have Ny440 := am_ hy440
        clear hy440
        simp only [Option.some.injEq, Prod.mk.injEq] at H
        obtain ⟨rfl, rfl, rfl, rfl, rfl, rfl⟩ := H
        have hnb90 := NB382_375.out
        have hnc90 := NB375_382.out
        have hnb91 := NB382_0.out
        have hnc91 := NB0_382.out
        obtain ⟨hcz92_0, hcz92_1, hfz92_0, hfz92_1⟩ := bx2_ BK382.out
        obtain ⟨Ao93, co93, eo93⟩ := Kd.R_slice HO_383001.out
        subst eo93
        try go_wp2_with (first | ((with_reducible refine gate_callee (f := 95) rfl ?_); refine goesL_ (some 18) rfl rfl Try.func95 (by kernel_rfl) rfl #[.agg #[.int .i64 x383000_3, .slice Ao93 x383001_3.length co93]] rfl lm_ ?_; (with_reducible refine (spec_raOf.calls kj3 x383000_3 _ _ x383001_3 t411 t412 t415 t418 _ ?side1 ?side2 A34.out).mono ?_); (case side1 => exact lc_ (Kd.R_reads' HO_383001.out).2.2); (case side2 => exact (Kd.R_reads' HO_383001.out).2.1); rintro e w94 ⟨v413, v416, v419, rfl, ho0, ho1, ho2, hb⟩; refine ⟨_, rfl, ?_⟩; have HO414 := am_ (Kd.R_lower (nw_ ho0 HO_383001) (keep_size (w := w) (g := g) (row := none) (lk_ HK))); have HO417 := am_ (Kd.R_lower (nw_ ho1 HO_383001) (keep_size (w := w) (g := g) (row := none) (lk_ HK))); have HO420 := am_ (Kd.R_lower (nw_ ho2 HO_383001) (keep_size (w := w) (g := g) (row := none) (lk_ HK))); replace HO_383001 := am_ (m1_ (td_ (td_ (td_ (Kd.R_old (lf_ HO_383001) hb) ho0) ho1) ho2)); replace BK375 := am_ (blk_below (g := gb375) (lb_ BK375) hb); replace BK382 := am_ (blk_below (g := gb382) (lb_ BK382) hb); replace HI0 := am_ (IsS109.below (ls109_ HI0) hb); replace HK := am_ (KeepBut.trans (lk_ HK) (KeepBut.of_below hb g none) (.inl rfl)); replace HB := am_ (below_step (lv109_ HB) hb); (try clear hb); (try clear hb2); (try clear hk); (try clear hi); (try clear ho0); (try clear ho1); (try clear ho2)) | ((with_reducible refine gate_dst (N := 4) rfl ?_); refine bev_ 4 #[.int .i64 0, .slice none 0 0, .slice none 0 0, .slice none 0 0] 48 rfl rfl ?_; intro gb421 hg w95 hbox hb; have BK421 := am_ (hbox); have GW421 := am_ ((by rw [hg]; exact (keep_size (w := w) (g := g) (row := none) (lk_ HK)) : w.heap.size ≤ gb421)); have GE421 := am_ ((Nat.le_trans HW0.out (by rw [hg]; exact (keep_size (w := w) (g := g) (row := none) (lk_ HK)) : w.heap.size ≤ gb421) : w0.heap.size ≤ gb421)); have NB375_421 := am_ ((by rw [hg]; exact Nat.ne_of_lt (blk_lt (g := gb375) (lb_ BK375)) : gb375 ≠ gb421)); have NB421_375 := am_ ((by rw [hg]; exact Nat.ne_of_gt (blk_lt (g := gb375) (lb_ BK375)) : gb421 ≠ gb375)); have NB382_421 := am_ ((by rw [hg]; exact Nat.ne_of_lt (blk_lt (g := gb382) (lb_ BK382)) : gb382 ≠ gb421)); have NB421_382 := am_ ((by rw [hg]; exact Nat.ne_of_gt (blk_lt (g := gb382) (lb_ BK382)) : gb421 ≠ gb382)); have NB0_421 := am_ ((by rw [hg]; exact Nat.ne_of_lt (IsS109.lt (show IsS109 w0 _ g s0_0 x1001_3 x1002_3 from ls109_ HI0)) : g ≠ gb421)); have NB421_0 := am_ ((by rw [hg]; exact Nat.ne_of_gt (IsS109.lt (show IsS109 w0 _ g s0_0 x1001_3 x1002_3 from ls109_ HI0)) : gb421 ≠ g)); replace HO_383001 := am_ (Kd.R_below (lf_ HO_383001) hb); replace HO414 := am_ (Kd.R_below (lf_ HO414) hb); replace HO417 := am_ (Kd.R_below (lf_ HO417) hb); replace HO420 := am_ (Kd.R_below (lf_ HO420) hb); replace BK375 := am_ (blk_below (g := gb375) (lb_ BK375) hb); replace BK382 := am_ (blk_below (g := gb382) (lb_ BK382) hb); replace HI0 := am_ (IsS109.below (ls109_ HI0) hb); replace HK := am_ (KeepBut.trans (lk_ HK) (KeepBut.of_below hb g none) (.inl rfl)); replace HB := am_ (below_step (lv109_ HB) hb); clear hb hbox hg; have hnb96 := NB421_375.out; have hnc96 := NB375_421.out; have hnb97 := NB421_382.out; have hnc97 := NB382_421.out; have hnb98 := NB421_0.out; have hnc98 := NB0_421.out; obtain ⟨hcz99_0, hcz99_1, hcz99_2, hcz99_3, hfz99_0, hfz99_1, hfz99_2, hfz99_3⟩ := bx4_ BK421.out; obtain ⟨Ao100, co100, eo100⟩ := Kd.R_slice HO414.out; subst eo100; obtain ⟨Ao101, co101, eo101⟩ := Kd.R_slice HO417.out; subst eo101; obtain ⟨Ao102, co102, eo102⟩ := Kd.R_slice HO420.out; subst eo102) | ((with_reducible refine gate_callee (f := 107) rfl ?_); refine goesL_ (some 20) rfl rfl Try.func107 (by kernel_rfl) rfl #[.pointer (some ⟨g, 0, none⟩), .int .i64 14] rfl lm_ ?_; (with_reducible refine (spec_l1Cur_pick.calls g s0_0 x1001_3 x1002_3 14 t422 t423 t424 w0 _ ?side1 ?side2 A35.out).mono ?_); (case side1 => exact ls109_ HI0); (case side2 => exact lv109_ HB); rintro e w103 ⟨rfl, hi, hb, hk⟩; refine ⟨_, rfl, ?_⟩; replace HO_383001 := am_ (m1_ (Kd.R_keep (IsS109.apart (show IsS109 w0 _ g s0_0 x1001_3 x1002_3 from ls109_ HI0) (lt_ ((m1_ (fr4_ HO_383001.out BK421.out (.int .i64 t411) (.slice Ao100 t412.length co100) (.slice Ao101 t415.length co101) (.slice Ao102 t418.length co102))))) (by decide)) hk (fun _ h => h.2))); replace BK375 := am_ (KeepBut.blk hk (g' := gb375) (lg_ BK375) NB375_0.out (by simp)); replace BK382 := am_ (KeepBut.blk hk (g' := gb382) (lg_ BK382) NB382_0.out (by simp)); replace HO414 := am_ (m1_ (Kd.R_keep (IsS109.apart (show IsS109 w0 _ g s0_0 x1001_3 x1002_3 from ls109_ HI0) (lt_ ((m1_ (fr4_ HO414.out BK421.out (.int .i64 t411) (.slice Ao100 t412.length co100) (.slice Ao101 t415.length co101) (.slice Ao102 t418.length co102))))) (by decide)) hk (fun _ h => h.2))); replace HO417 := am_ (m1_ (Kd.R_keep (IsS109.apart (show IsS109 w0 _ g s0_0 x1001_3 x1002_3 from ls109_ HI0) (lt_ ((m1_ (fr4_ HO417.out BK421.out (.int .i64 t411) (.slice Ao100 t412.length co100) (.slice Ao101 t415.length co101) (.slice Ao102 t418.length co102))))) (by decide)) hk (fun _ h => h.2))); replace HO420 := am_ (m1_ (Kd.R_keep (IsS109.apart (show IsS109 w0 _ g s0_0 x1001_3 x1002_3 from ls109_ HI0) (lt_ ((m1_ (fr4_ HO420.out BK421.out (.int .i64 t411) (.slice Ao100 t412.length co100) (.slice Ao101 t415.length co101) (.slice Ao102 t418.length co102))))) (by decide)) hk (fun _ h => h.2))); replace BK421 := am_ (KeepBut.blk hk (g' := gb421) (o := .cells #[.int .i64 t411, .slice Ao100 t412.length co100, .slice Ao101 t415.length co101, .slice Ao102 t418.length co102] 48 (0, 0)) (lq_ BK421) NB421_0.out (by simp)); replace HK := am_ (KeepBut.trans (lk_ HK) hk (.inl rfl)); replace HB := am_ (hb); replace HI0 := am_ (hi); (try clear hb); (try clear hb2); (try clear hk); (try clear hi); obtain ⟨hcz104_0, hcz104_1, hcz104_2, hcz104_3, hfz104_0, hfz104_1, hfz104_2, hfz104_3⟩ := bx4_ BK421.out))
        have n0_ := am_ (Kd.R_drew HO_383001.out)
        have n1_ := am_ (Kd.R_drew HO414.out)
        have n2_ := am_ (Kd.R_drew HO417.out)
        have n3_ := am_ (Kd.R_drew HO420.out)
        have n4_ := am_ (blk_drew BK375.out)
        have n5_ := am_ (blk_drew BK382.out)
        have n6_ := am_ (blk_drew BK421.out)
        have n7_ := am_ (IsS109.drew HI0.out)
        have n8_ := am_ (keep_drew HK.out)
        have n9_ := am_ (below_drew1 HB.out)
        clear HO_383001
        clear HO414
        clear HO417
        clear HO420
        clear BK375
        clear BK382
        clear BK421
        clear HI0
        clear HK
        clear HB
        have HO_383001 := n0_
        have HO414 := n1_
        have HO417 := n2_
        have HO420 := n3_
        have BK375 := n4_
        have BK382 := n5_
        have BK421 := n6_
        have HI0 := n7_
        have HK := n8_
        have HB := n9_
        clear n0_ n1_ n2_ n3_ n4_ n5_ n6_ n7_ n8_ n9_
        have p436 : 0 ≤ (t433 : Int) := of_decide_eq_true (by first | (with_reducible assumption) | assumption)
        have q436 : t433 < (t418.length : Int) := of_decide_eq_true (by first | (with_reducible assumption) | assumption)
        obtain ⟨ad436, e436, hx436_0⟩ := Kd.at_int (Kd.R_reads' HO420.out).2.2 t433 p436 q436
        cases e436
        replace p436 := eq_true p436
        replace q436 := eq_true q436
        refine start_ (n := 15) (S := fun w' => w'.cell? ⟨gb421, 0, none⟩ = some (.int .i64 t411) ∧ w'.cell? ⟨gb421, 1, none⟩ = some (.slice Ao100 t412.length co100) ∧ w'.cell? ⟨gb421, 2, none⟩ = some (.slice Ao101 t415.length co101) ∧ w'.cell? ⟨gb421, 3, none⟩ = some (.slice (some ad436) t418.length co102) ∧ w'.cell? (ad436.add (t433).toNat) = some (.int .i64 (rd t418 t433))) (ds := [14]) #[false, false, false, false, false, false, false, false, false, false, false, false, false, false, false] (by kernel_rfl) rfl rfl ⟨(blk_cell BK421.out 0).trans rfl, (blk_cell BK421.out 1).trans rfl, (blk_cell BK421.out 2).trans rfl, (blk_cell BK421.out 3).trans rfl, hx436_0⟩ (fun hHeld => ?_); refine with_tabW spec_l1Cur_ranked.tab11 spec_l1Cur_ranked.bits11 (fun HT_ HW_ => ?_)
        generalize w103.drew = w105 at HO_383001 HO414 HO417 HO420 BK375 BK382 BK421 HI0 HK HB hx436_0 hHeld ⊢
        refine pure_ (i := 0) (N := some 47) (v := ?_) (a' := ?_) #[true, false, false, false, false, false, false, false, false, false, false, false, false, false, false] rfl rfl (any_of HT_.out (by kernel_rfl)) (fun _ _ _ h => h) (Or.inl ⟨by rfl, ?_⟩) ?_ ?_
        rotate_left
        ·intro w'
         go_simp
         with_reducible rfl
        rotate_left
        ·simp only [Act.put, List.setIfInBounds_toArray, List.set_cons_zero, List.set_cons_succ, i64_w, i32_w]
         rfl
        refine pure_ (i := 2) (N := some 49) (v := ?_) (a' := ?_) #[true, false, true, false, false, false, false, false, false, false, false, false, false, false, false] rfl rfl (any_of HT_.out (by kernel_rfl)) (fun _ _ _ h => h) (Or.inl ⟨by rfl, ?_⟩) ?_ ?_
        rotate_left
        ·intro w'
         go_simp
         with_reducible rfl
        rotate_left
        ·simp only [Act.put, List.setIfInBounds_toArray, List.set_cons_zero, List.set_cons_succ, i64_w, i32_w]
         rfl
        refine pure_ (i := 3) (N := some 50) (v := ?_) (a' := ?_) #[true, false, true, true, false, false, false, false, false, false, false, false, false, false, false] rfl rfl (any_of HT_.out (by kernel_rfl)) (fun _ _ _ h => h) (Or.inl ⟨by rfl, ?_⟩) ?_ ?_
        rotate_left
        ·intro w'
         go_simp
         with_reducible rfl
        rotate_left
        ·simp only [Act.put, List.setIfInBounds_toArray, List.set_cons_zero, List.set_cons_succ, i64_w, i32_w]
         rfl
        refine pure_ (i := 9) (N := some 56) (v := ?_) (a' := ?_) #[true, false, true, true, false, false, false, false, false, true, false, false, false, false, false] rfl rfl (any_of HT_.out (by kernel_rfl)) (fun _ _ _ h => h) (Or.inl ⟨by rfl, ?_⟩) ?_ ?_
        rotate_left
        ·intro w'
         go_simp
         with_reducible rfl
        rotate_left
        ·simp only [Act.put, List.setIfInBounds_toArray, List.set_cons_zero, List.set_cons_succ, i64_w, i32_w]
         rfl
        refine take_ (i := 1) (N := some 48) (v := ?_) (a' := ?_) #[true, true, true, true, false, false, false, false, false, true, false, false, false, false, false] rfl rfl (take_ofW HT_.out HW_.out (by kernel_rfl)) (fun _ _ _ h => h) (Or.inl ⟨by rfl, ?_⟩) hHeld ?_ ?_
        rotate_left
        ·rintro w' ⟨s0, s1, s2, s3, s4⟩
         go_simp
         with_reducible rfl
        rotate_left
        ·simp only [Act.put, List.setIfInBounds_toArray, List.set_cons_zero, List.set_cons_succ, i64_w, i32_w]
         rfl
        refine take_ (i := 4) (N := some 51) (v := ?_) (a' := ?_) #[true, true, true, true, true, false, false, false, false, true, false, false, false, false, false] rfl rfl (take_ofW HT_.out HW_.out (by kernel_rfl)) (fun _ _ _ h => h) (Or.inl ⟨by rfl, ?_⟩) hHeld ?_ ?_
        rotate_left
        ·rintro w' ⟨s0, s1, s2, s3, s4⟩
         go_simp
         with_reducible rfl
        rotate_left
        ·simp only [Act.put, List.setIfInBounds_toArray, List.set_cons_zero, List.set_cons_succ, i64_w, i32_w]
         rfl
        refine pure_ (i := 5) (N := some 52) (v := ?_) (a' := ?_) #[true, true, true, true, true, true, false, false, false, true, false, false, false, false, false] rfl rfl (any_of HT_.out (by kernel_rfl)) (fun _ _ _ h => h) (Or.inl ⟨by rfl, ?_⟩) ?_ ?_
        rotate_left
        ·intro w'
         go_simp
         with_reducible rfl
        rotate_left
        ·simp only [Act.put, List.setIfInBounds_toArray, List.set_cons_zero, List.set_cons_succ, i64_w, i32_w]
         rfl
        refine one_ (i := 6) (N := some 53) #[true, true, true, true, true, true, true, false, false, true, false, false, false, false, false] rfl rfl (one_of HT_.out (by kernel_rfl)) (by decide) (fun K hK => ?_)
        refine goes_ Try.func107 (by kernel_rfl) rfl #[.pointer (some ⟨g, 0, none⟩), .int .i64 (t418.length : Int)] (by rfl) rfl rfl lm_ ?_
        with_reducible refine (spec_l1Cur_pick.calls g s0_0 t423 t424 (t418.length : Int) t433 t434 t435 w0 _ ?side1 ?side2 A85.out).mono ?_
        (case side1 => exact ls109_ HI0)
        (case side2 => exact lv109_ HB)
        rintro e w106 ⟨rfl, hi, hb, hk⟩
        have HS4_ := keep_cell hk (hHeld.2.2.2.2) (by first | (rw [add_block]; exact Kd.own_blk (IsS109.own_ne HI0.out HO420.out (by decide))) | (show (Addr.add _ _).block ≠ _; rw [add_block]; exact Kd.own_blk (IsS109.own_ne HI0.out HO420.out (by decide))) | exact Kd.own_blk (IsS109.own_ne HI0.out HO420.out (by decide)))
        refine ⟨_, rfl, ?_⟩
        have n0_ := am_ (m1_ (Kd.R_keep (IsS109.apart (show IsS109 w0 _ g s0_0 t423 t424 from ls109_ HI0) (lf_ HO_383001) (by decide)) hk (fun _ h => h.2)))
        have n1_ := am_ (KeepBut.blk hk (g' := gb375) (lb_ BK375) NB375_0.out (by simp))
        have n2_ := am_ (KeepBut.blk hk (g' := gb382) (lb_ BK382) NB382_0.out (by simp))
        have n3_ := am_ (m1_ (Kd.R_keep (IsS109.apart (show IsS109 w0 _ g s0_0 t423 t424 from ls109_ HI0) (lf_ HO414) (by decide)) hk (fun _ h => h.2)))
        have n4_ := am_ (m1_ (Kd.R_keep (IsS109.apart (show IsS109 w0 _ g s0_0 t423 t424 from ls109_ HI0) (lf_ HO417) (by decide)) hk (fun _ h => h.2)))
        have n5_ := am_ (m1_ (Kd.R_keep (IsS109.apart (show IsS109 w0 _ g s0_0 t423 t424 from ls109_ HI0) (lf_ HO420) (by decide)) hk (fun _ h => h.2)))
        have n6_ := am_ (KeepBut.blk hk (g' := gb421) (lb_ BK421) NB421_0.out (by simp))
        have n7_ := am_ (KeepBut.trans (lk_ HK) hk (.inl rfl))
        have n8_ := am_ (hb)
        have n9_ := am_ (hi)
        clear HO_383001
        clear BK375
        clear BK382
        clear HO414
        clear HO417
        clear HO420
        clear BK421
        clear HK
        clear HB
        clear HI0
        have HO_383001 := n0_
        have BK375 := n1_
        have BK382 := n2_
        have HO414 := n3_
        have HO417 := n4_
        have HO420 := n5_
        have BK421 := n6_
        have HK := n7_
        have HB := n8_
        have HI0 := n9_
        clear n0_ n1_ n2_ n3_ n4_ n5_ n6_ n7_ n8_ n9_
        (try clear hb)
        (try clear hb2)
        (try clear hk)
        (try clear hi)
        refine hK.out _ _ ⟨(blk_cell BK421.out 0).trans rfl, (blk_cell BK421.out 1).trans rfl, (blk_cell BK421.out 2).trans rfl, (blk_cell BK421.out 3).trans rfl, HS4_⟩ (fun hHeld => ?_)
        clear hK K
        refine norm_ (a' := ?_) ?_ ?_
        rotate_left
        ·show Act.put _ (some 53) _ = _
         simp only [Act.put, List.setIfInBounds_toArray, List.set_cons_zero, List.set_cons_succ, i64_w, i32_w]
         rfl
        refine pure_ (i := 7) (N := some 54) (v := ?_) (a' := ?_) #[true, true, true, true, true, true, true, true, false, true, false, false, false, false, false] rfl rfl (any_of HT_.out (by kernel_rfl)) (fun _ _ _ h => h) (Or.inl ⟨by rfl, ?_⟩) ?_ ?_
        rotate_left
        ·intro w'
         go_simp
         with_reducible rfl
        rotate_left
        ·simp only [Act.put, List.setIfInBounds_toArray, List.set_cons_zero, List.set_cons_succ, i64_w, i32_w]
         rfl
        refine take_ (i := 8) (N := some 55) (v := ?_) (a' := ?_) #[true, true, true, true, true, true, true, true, true, true, false, false, false, false, false] rfl rfl (take_ofW HT_.out HW_.out (by kernel_rfl)) (fun _ _ _ h => h) (Or.inl ⟨by rfl, ?_⟩) hHeld ?_ ?_
        rotate_left
        ·rintro w' ⟨s0, s1, s2, s3, s4⟩
         go_simp
         with_reducible rfl
        rotate_left
        ·simp only [Act.put, List.setIfInBounds_toArray, List.set_cons_zero, List.set_cons_succ, i64_w, i32_w]
         rfl
        refine one_ (i := 10) (N := some 57) #[true, true, true, true, true, true, true, true, true, true, true, false, false, false, false] rfl rfl (one_of HT_.out (by kernel_rfl)) (by decide) (fun K hK => ?_)
        refine goes_ Try.func107 (by kernel_rfl) rfl #[.pointer (some ⟨g, 0, none⟩), .int .i64 3] (by rfl) rfl rfl lm_ ?_
        with_reducible refine (spec_l1Cur_pick.calls g s0_0 t434 t435 3 t437 t438 t439 w0 _ ?side1 ?side2 A88.out).mono ?_
        (case side1 => exact ls109_ HI0)
        (case side2 => exact lv109_ HB)
        rintro e w107 ⟨rfl, hi, hb, hk⟩
        have HS4_ := keep_cell hk (hHeld.2.2.2.2) (by first | (rw [add_block]; exact Kd.own_blk (IsS109.own_ne HI0.out HO420.out (by decide))) | (show (Addr.add _ _).block ≠ _; rw [add_block]; exact Kd.own_blk (IsS109.own_ne HI0.out HO420.out (by decide))) | exact Kd.own_blk (IsS109.own_ne HI0.out HO420.out (by decide)))
        refine ⟨_, rfl, ?_⟩
        have n0_ := am_ (m1_ (Kd.R_keep (IsS109.apart (show IsS109 w0 _ g s0_0 t434 t435 from ls109_ HI0) (lf_ HO_383001) (by decide)) hk (fun _ h => h.2)))
        have n1_ := am_ (KeepBut.blk hk (g' := gb375) (lb_ BK375) NB375_0.out (by simp))
        have n2_ := am_ (KeepBut.blk hk (g' := gb382) (lb_ BK382) NB382_0.out (by simp))
        have n3_ := am_ (m1_ (Kd.R_keep (IsS109.apart (show IsS109 w0 _ g s0_0 t434 t435 from ls109_ HI0) (lf_ HO414) (by decide)) hk (fun _ h => h.2)))
        have n4_ := am_ (m1_ (Kd.R_keep (IsS109.apart (show IsS109 w0 _ g s0_0 t434 t435 from ls109_ HI0) (lf_ HO417) (by decide)) hk (fun _ h => h.2)))
        have n5_ := am_ (m1_ (Kd.R_keep (IsS109.apart (show IsS109 w0 _ g s0_0 t434 t435 from ls109_ HI0) (lf_ HO420) (by decide)) hk (fun _ h => h.2)))
        have n6_ := am_ (KeepBut.blk hk (g' := gb421) (lb_ BK421) NB421_0.out (by simp))
        have n7_ := am_ (KeepBut.trans (lk_ HK) hk (.inl rfl))
        have n8_ := am_ (hb)
        have n9_ := am_ (hi)
        clear HO_383001
        clear BK375
        clear BK382
        clear HO414
        clear HO417
        clear HO420
        clear BK421
        clear HK
        clear HB
        clear HI0
        have HO_383001 := n0_
        have BK375 := n1_
        have BK382 := n2_
        have HO414 := n3_
        have HO417 := n4_
        have HO420 := n5_
        have BK421 := n6_
        have HK := n7_
        have HB := n8_
        have HI0 := n9_
        clear n0_ n1_ n2_ n3_ n4_ n5_ n6_ n7_ n8_ n9_
        (try clear hb)
        (try clear hb2)
        (try clear hk)
        (try clear hi)
        have p89 : 0 ≤ (t433 : Int) := of_decide_eq_true (by first | (with_reducible assumption) | assumption)
        have q89 : (t433 : Int) < ((t418.length : Int) : Int) := of_decide_eq_true (by first | (with_reducible assumption) | assumption)
        obtain ⟨go89, co89, eo89, gb89, gl89, cl89, HG89⟩ := Kd.R_form HO420.out (by omega)
        (first | cases eo89 | (injection eo89 with ea_ en_ ec_; (first | subst ea_ | (injection ea_ with ea_; subst ea_)); subst ec_; clear en_))
        have GB89 := am_ gb89
        have GG89 := am_ HG89
        clear gb89 gl89 HG89
        (first | simp only [add_plain] at hx436_0 | skip)
        obtain ⟨hx89_0, hf89_0⟩ := Kd.R_celln 0 HO420.out (t433 : Int) p89 q89
        replace p89 := eq_true p89
        replace q89 := eq_true q89
        have HN0_go89 := am_ (show g ≠ go89 from by have h_ := IsS109.own_ne HI0.out HO420.out (by decide); intro e_; exact h_ (by rw [e_]; rfl))
        have HP108 := Kd.R_putn HO420.out (t433 : Int) (wrap64 ((rd t418 t433) + (wrap64 (t437 - 1))))
        rw [← Ny440.out] at HP108
        have HQ108 := am_ HP108
        clear HP108
        refine hK.out _ _ ⟨(blk_cell BK421.out 0).trans rfl, (blk_cell BK421.out 1).trans rfl, (blk_cell BK421.out 2).trans rfl, (blk_cell BK421.out 3).trans rfl, HS4_⟩ (fun hHeld => ?_)
        clear hK K
        refine norm_ (a' := ?_) ?_ ?_
        rotate_left
        ·show Act.put _ (some 57) _ = _
         simp only [Act.put, List.setIfInBounds_toArray, List.set_cons_zero, List.set_cons_succ, i64_w, i32_w]
         rfl
        refine pure_ (i := 11) (N := some 58) (v := ?_) (a' := ?_) #[true, true, true, true, true, true, true, true, true, true, true, true, false, false, false] rfl rfl (any_of HT_.out (by kernel_rfl)) (fun _ _ _ h => h) (Or.inl ⟨by rfl, ?_⟩) ?_ ?_
        rotate_left
        ·intro w'
         go_simp
         with_reducible rfl
        rotate_left
        ·simp only [Act.put, List.setIfInBounds_toArray, List.set_cons_zero, List.set_cons_succ, i64_w, i32_w]
         rfl
        refine pure_ (i := 12) (N := some 59) (v := ?_) (a' := ?_) #[true, true, true, true, true, true, true, true, true, true, true, true, true, false, false] rfl rfl (any_of HT_.out (by kernel_rfl)) (fun _ _ _ h => h) (Or.inl ⟨by rfl, ?_⟩) ?_ ?_
        rotate_left
        ·intro w'
         go_simp
         with_reducible rfl
        rotate_left
        ·simp only [Act.put, List.setIfInBounds_toArray, List.set_cons_zero, List.set_cons_succ, i64_w, i32_w]
         rfl
        refine pure_ (i := 13) (N := some 60) (v := ?_) (a' := ?_) #[true, true, true, true, true, true, true, true, true, true, true, true, true, true, false] rfl rfl (any_of HT_.out (by kernel_rfl)) (fun _ _ _ h => h) (Or.inl ⟨by rfl, ?_⟩) ?_ ?_
        rotate_left
        ·intro w'
         go_simp
         with_reducible rfl
        rotate_left
        ·simp only [Act.put, List.setIfInBounds_toArray, List.set_cons_zero, List.set_cons_succ, i64_w, i32_w]
         rfl
        refine last_ (i := 14) (N := none) #[true, true, true, true, true, true, true, true, true, true, true, true, true, true, true] rfl rfl (one_of HT_.out (by kernel_rfl)) (by decide) (fun K hK => ?_)
        refine skip_ (w1 := ?_) (by rfl) rfl ?_ ?_
        rotate_left
        ·go_simp
         rfl
        refine hK.out _ _ ?_
        clear hK K
        refine done_ (done_of HT_.out (by kernel_rfl)) ?_
        have n0_ : Aside0 (Kd.R (Kd.int .i64) 3 (w107.setCell ⟨go89, (t433 : Int).toNat, none⟩ (.int .i64 (wrap64 ((rd t418 t433) + (wrap64 (t437 - 1)))))) w.heap.size (fun k_ => ns_ k_ Ao100 t412 co100 ∧ ns_ k_ Ao101 t415 co101 ∧ some k_ ≠ (.slice (some ⟨go89, 0, none⟩) t418.length co102 : Value).ownBlock) (.slice Ao93 x383001_3.length co93) x383001_3) := ⟨lo2_ (Kd.R_far (p := ⟨go89, (t433 : Int).toNat, none⟩) (Kd.R_mono HO_383001.out (fun k_ hk => (⟨hk, fun e_ => hk.2 (by rw [e_]; rfl)⟩ : _ ∧ k_ ≠ go89))) (fun _ hk => hk.2) (.int .i64 (wrap64 ((rd t418 t433) + (wrap64 (t437 - 1))))))⟩
        have n1_ : Aside0 (Kd.R (Kd.int .i64) 3 (w107.setCell ⟨go89, (t433 : Int).toNat, none⟩ (.int .i64 (wrap64 ((rd t418 t433) + (wrap64 (t437 - 1)))))) w.heap.size (fun k_ => ns_ k_ Ao93 x383001_3 co93 ∧ ns_ k_ Ao101 t415 co101 ∧ some k_ ≠ (.slice (some ⟨go89, 0, none⟩) t418.length co102 : Value).ownBlock) (.slice Ao100 t412.length co100) t412) := ⟨lo2_ (Kd.R_far (p := ⟨go89, (t433 : Int).toNat, none⟩) (Kd.R_mono HO414.out (fun k_ hk => (⟨hk, fun e_ => hk.1.2 (by rw [e_]; rfl)⟩ : _ ∧ k_ ≠ go89))) (fun _ hk => hk.2) (.int .i64 (wrap64 ((rd t418 t433) + (wrap64 (t437 - 1))))))⟩
        have n2_ : Aside0 (Kd.R (Kd.int .i64) 3 (w107.setCell ⟨go89, (t433 : Int).toNat, none⟩ (.int .i64 (wrap64 ((rd t418 t433) + (wrap64 (t437 - 1)))))) w.heap.size (fun k_ => ns_ k_ Ao93 x383001_3 co93 ∧ ns_ k_ Ao100 t412 co100 ∧ some k_ ≠ (.slice (some ⟨go89, 0, none⟩) t418.length co102 : Value).ownBlock) (.slice Ao101 t415.length co101) t415) := ⟨lo2_ (Kd.R_far (p := ⟨go89, (t433 : Int).toNat, none⟩) (Kd.R_mono HO417.out (fun k_ hk => (⟨hk, fun e_ => hk.1.2 (by rw [e_]; rfl)⟩ : _ ∧ k_ ≠ go89))) (fun _ hk => hk.2) (.int .i64 (wrap64 ((rd t418 t433) + (wrap64 (t437 - 1))))))⟩
        have n3_ : Aside0 (Kd.R (Kd.int .i64) 3 (w107.setCell ⟨go89, (t433 : Int).toNat, none⟩ (.int .i64 (wrap64 ((rd t418 t433) + (wrap64 (t437 - 1)))))) w.heap.size (fun k_ => ns_ k_ Ao93 x383001_3 co93 ∧ ns_ k_ Ao100 t412 co100 ∧ ns_ k_ Ao101 t415 co101) (.slice (some ⟨go89, 0, none⟩) t418.length co102) y440) := ⟨lo_ HQ108⟩
        have n4_ : Aside0 ((w107.setCell ⟨go89, (t433 : Int).toNat, none⟩ (.int .i64 (wrap64 ((rd t418 t433) + (wrap64 (t437 - 1)))))).heap[gb375]? = some (.cells #[.int .i64 0, .slice none 0 0, .slice none 0 0, .slice none 0 0] 48 (0, 0))) := ⟨by (with_reducible repeat (first | refine blk_drewN ?_ _ | refine blk_drew ?_ | refine blk_alloc ?_ _)); refine blk_far ?_ (by have h_ := Kd.R_ne HO420.out BK375.out (by decide); intro e_; exact h_ (by rw [e_]; rfl)) _; (with_reducible repeat (first | refine blk_drewN ?_ _ | refine blk_drew ?_ | refine blk_alloc ?_ _)); exact BK375.out⟩
        have n5_ : Aside0 ((w107.setCell ⟨go89, (t433 : Int).toNat, none⟩ (.int .i64 (wrap64 ((rd t418 t433) + (wrap64 (t437 - 1)))))).heap[gb382]? = some (.cells #[.int .i64 x383000_3, .slice Ao93 x383001_3.length co93] 26 (0, 0))) := ⟨by (with_reducible repeat (first | refine blk_drewN ?_ _ | refine blk_drew ?_ | refine blk_alloc ?_ _)); refine blk_far ?_ (by have h_ := Kd.R_ne HO420.out BK382.out (by decide); intro e_; exact h_ (by rw [e_]; rfl)) _; (with_reducible repeat (first | refine blk_drewN ?_ _ | refine blk_drew ?_ | refine blk_alloc ?_ _)); exact BK382.out⟩
        have n6_ : Aside0 ((w107.setCell ⟨go89, (t433 : Int).toNat, none⟩ (.int .i64 (wrap64 ((rd t418 t433) + (wrap64 (t437 - 1)))))).heap[gb421]? = some (.cells #[.int .i64 t411, .slice Ao100 t412.length co100, .slice Ao101 t415.length co101, .slice (some ⟨go89, 0, none⟩) t418.length co102] 48 (0, 0))) := ⟨by (with_reducible repeat (first | refine blk_drewN ?_ _ | refine blk_drew ?_ | refine blk_alloc ?_ _)); refine blk_far ?_ (by have h_ := Kd.R_ne HO420.out BK421.out (by decide); intro e_; exact h_ (by rw [e_]; rfl)) _; (with_reducible repeat (first | refine blk_drewN ?_ _ | refine blk_drew ?_ | refine blk_alloc ?_ _)); exact BK421.out⟩
        have n7_ : Aside0 (IsS109 w0 (w107.setCell ⟨go89, (t433 : Int).toNat, none⟩ (.int .i64 (wrap64 ((rd t418 t433) + (wrap64 (t437 - 1)))))) g s0_0 t438 t439) := ⟨ls109_ HI0⟩
        have n8_ : Aside0 (KeepBut w (w107.setCell ⟨go89, (t433 : Int).toNat, none⟩ (.int .i64 (wrap64 ((rd t418 t433) + (wrap64 (t437 - 1)))))) g none) := ⟨lk_ HK⟩
        have n9_ : Aside0 (Below w0.heap.size w0 (w107.setCell ⟨go89, (t433 : Int).toNat, none⟩ (.int .i64 (wrap64 ((rd t418 t433) + (wrap64 (t437 - 1))))))) := ⟨by repeat (first | (with_reducible first | exact HB.out | apply below_alloc | apply pw_below_drewN | apply below_drew1 | refine below_set ?_ (Nat.le_trans HL.out GB89.out) | refine below_set ?_ (IsS109.ge HI0.out) | refine below_set ?_ GE375.out | refine below_set ?_ GE382.out | refine below_set ?_ GE421.out) | exact HB.out)⟩
        (try clear HO_383001)
        (try clear HO414)
        (try clear HO417)
        (try clear HO420)
        (try clear BK375)
        (try clear BK382)
        (try clear BK421)
        (try clear HI0)
        (try clear HK)
        (try clear HB)
        generalize (w107.setCell ⟨go89, (t433 : Int).toNat, none⟩ (.int .i64 (wrap64 ((rd t418 t433) + (wrap64 (t437 - 1)))))) = w109 at n0_ n1_ n2_ n3_ n4_ n5_ n6_ n7_ n8_ n9_ ⊢
        have HO_383001 := n0_
        have HO414 := n1_
        have HO417 := n2_
        have HO420 := n3_
        have BK375 := n4_
        have BK382 := n5_
        have BK421 := n6_
        have HI0 := n7_
        have HK := n8_
        have HB := n9_
        clear n0_ n1_ n2_ n3_ n4_ n5_ n6_ n7_ n8_ n9_
        obtain ⟨hcz110_0, hcz110_1, hcz110_2, hcz110_3, hfz110_0, hfz110_1, hfz110_2, hfz110_3⟩ := bx4_ BK421.out
        have hnb111 := NB375_0.out
        have hnc111 := NB0_375.out
        obtain ⟨hcz112_0, hcz112_1, hcz112_2, hcz112_3, hfz112_0, hfz112_1, hfz112_2, hfz112_3⟩ := bx4_ BK375.out
        try go_wp2
        refine bodyPost_ret (results_cell_row rfl _ _ gb375 48 #[.int .i64 t411, .slice Ao100 t412.length co100, .slice Ao101 t415.length co101, .slice (some ⟨go89, 0, none⟩) t418.length co102] (0, 0) _ rfl (lq_ BK375) Try.underlying48 rfl (by kernel_rfl)) rfl ?_
        exact ⟨_, _, _, er_, lo2_ (fr4_ HO414.out BK375.out (.int .i64 t411) (.slice Ao100 t412.length co100) (.slice Ao101 t415.length co101) (.slice (some ⟨go89, 0, none⟩) t418.length co102)), lo2_ (fr4_ HO417.out BK375.out (.int .i64 t411) (.slice Ao100 t412.length co100) (.slice Ao101 t415.length co101) (.slice (some ⟨go89, 0, none⟩) t418.length co102)), lo2_ (fr4_ HO420.out BK375.out (.int .i64 t411) (.slice Ao100 t412.length co100) (.slice Ao101 t415.length co101) (.slice (some ⟨go89, 0, none⟩) t418.length co102)), ls109_ HI0, lv109_ HB, lk_ HK⟩
       ·rw [if_neg c87] at H
        exact absurd H (by simp)
      ·rw [if_neg c86] at H
       exact absurd H (by simp)
     ·rw [if_neg c84] at H
      have c84b0 : decide (0 < (t418.length : Int)) = false := decide_eq_false c84
      have c84b1 : decide (0 < t418.length) = false := decide_eq_false (by omega)
      clear c84
      simp only [Option.some.injEq, Prod.mk.injEq] at H
      obtain ⟨rfl, rfl, rfl, rfl, rfl, rfl⟩ := H
      have hnb113 := NB382_375.out
      have hnc113 := NB375_382.out
      have hnb114 := NB382_0.out
      have hnc114 := NB0_382.out
      obtain ⟨hcz115_0, hcz115_1, hfz115_0, hfz115_1⟩ := bx2_ BK382.out
      obtain ⟨Ao116, co116, eo116⟩ := Kd.R_slice HO_383001.out
      subst eo116
      go_wp2_with (first | ((with_reducible refine gate_callee (f := 95) rfl ?_); refine goesL_ (some 18) rfl rfl Try.func95 (by kernel_rfl) rfl #[.agg #[.int .i64 x383000_3, .slice Ao116 x383001_3.length co116]] rfl lm_ ?_; (with_reducible refine (spec_raOf.calls kj3 x383000_3 _ _ x383001_3 t411 t412 t415 t418 _ ?side1 ?side2 A34.out).mono ?_); (case side1 => exact lc_ (Kd.R_reads' HO_383001.out).2.2); (case side2 => exact (Kd.R_reads' HO_383001.out).2.1); rintro e w117 ⟨v413, v416, v419, rfl, ho0, ho1, ho2, hb⟩; refine ⟨_, rfl, ?_⟩; have HO414 := am_ (Kd.R_lower (nw_ ho0 HO_383001) (keep_size (w := w) (g := g) (row := none) (lk_ HK))); have HO417 := am_ (Kd.R_lower (nw_ ho1 HO_383001) (keep_size (w := w) (g := g) (row := none) (lk_ HK))); have HO420 := am_ (Kd.R_lower (nw_ ho2 HO_383001) (keep_size (w := w) (g := g) (row := none) (lk_ HK))); replace HO_383001 := am_ (m1_ (td_ (td_ (td_ (Kd.R_old (lf_ HO_383001) hb) ho0) ho1) ho2)); replace BK375 := am_ (blk_below (g := gb375) (lb_ BK375) hb); replace BK382 := am_ (blk_below (g := gb382) (lb_ BK382) hb); replace HI0 := am_ (IsS109.below (ls109_ HI0) hb); replace HK := am_ (KeepBut.trans (lk_ HK) (KeepBut.of_below hb g none) (.inl rfl)); replace HB := am_ (below_step (lv109_ HB) hb); (try clear hb); (try clear hb2); (try clear hk); (try clear hi); (try clear ho0); (try clear ho1); (try clear ho2)) | ((with_reducible refine gate_dst (N := 4) rfl ?_); refine bev_ 4 #[.int .i64 0, .slice none 0 0, .slice none 0 0, .slice none 0 0] 48 rfl rfl ?_; intro gb421 hg w118 hbox hb; have BK421 := am_ (hbox); have GW421 := am_ ((by rw [hg]; exact (keep_size (w := w) (g := g) (row := none) (lk_ HK)) : w.heap.size ≤ gb421)); have GE421 := am_ ((Nat.le_trans HW0.out (by rw [hg]; exact (keep_size (w := w) (g := g) (row := none) (lk_ HK)) : w.heap.size ≤ gb421) : w0.heap.size ≤ gb421)); have NB375_421 := am_ ((by rw [hg]; exact Nat.ne_of_lt (blk_lt (g := gb375) (lb_ BK375)) : gb375 ≠ gb421)); have NB421_375 := am_ ((by rw [hg]; exact Nat.ne_of_gt (blk_lt (g := gb375) (lb_ BK375)) : gb421 ≠ gb375)); have NB382_421 := am_ ((by rw [hg]; exact Nat.ne_of_lt (blk_lt (g := gb382) (lb_ BK382)) : gb382 ≠ gb421)); have NB421_382 := am_ ((by rw [hg]; exact Nat.ne_of_gt (blk_lt (g := gb382) (lb_ BK382)) : gb421 ≠ gb382)); have NB0_421 := am_ ((by rw [hg]; exact Nat.ne_of_lt (IsS109.lt (show IsS109 w0 _ g s0_0 x1001_3 x1002_3 from ls109_ HI0)) : g ≠ gb421)); have NB421_0 := am_ ((by rw [hg]; exact Nat.ne_of_gt (IsS109.lt (show IsS109 w0 _ g s0_0 x1001_3 x1002_3 from ls109_ HI0)) : gb421 ≠ g)); replace HO_383001 := am_ (Kd.R_below (lf_ HO_383001) hb); replace HO414 := am_ (Kd.R_below (lf_ HO414) hb); replace HO417 := am_ (Kd.R_below (lf_ HO417) hb); replace HO420 := am_ (Kd.R_below (lf_ HO420) hb); replace BK375 := am_ (blk_below (g := gb375) (lb_ BK375) hb); replace BK382 := am_ (blk_below (g := gb382) (lb_ BK382) hb); replace HI0 := am_ (IsS109.below (ls109_ HI0) hb); replace HK := am_ (KeepBut.trans (lk_ HK) (KeepBut.of_below hb g none) (.inl rfl)); replace HB := am_ (below_step (lv109_ HB) hb); clear hb hbox hg; have hnb119 := NB421_375.out; have hnc119 := NB375_421.out; have hnb120 := NB421_382.out; have hnc120 := NB382_421.out; have hnb121 := NB421_0.out; have hnc121 := NB0_421.out; obtain ⟨hcz122_0, hcz122_1, hcz122_2, hcz122_3, hfz122_0, hfz122_1, hfz122_2, hfz122_3⟩ := bx4_ BK421.out; obtain ⟨Ao123, co123, eo123⟩ := Kd.R_slice HO414.out; subst eo123; obtain ⟨Ao124, co124, eo124⟩ := Kd.R_slice HO417.out; subst eo124; obtain ⟨Ao125, co125, eo125⟩ := Kd.R_slice HO420.out; subst eo125) | ((with_reducible refine gate_callee (f := 107) rfl ?_); refine goesL_ (some 20) rfl rfl Try.func107 (by kernel_rfl) rfl #[.pointer (some ⟨g, 0, none⟩), .int .i64 14] rfl lm_ ?_; (with_reducible refine (spec_l1Cur_pick.calls g s0_0 x1001_3 x1002_3 14 t422 t423 t424 w0 _ ?side1 ?side2 A35.out).mono ?_); (case side1 => exact ls109_ HI0); (case side2 => exact lv109_ HB); rintro e w126 ⟨rfl, hi, hb, hk⟩; refine ⟨_, rfl, ?_⟩; replace HO_383001 := am_ (m1_ (Kd.R_keep (IsS109.apart (show IsS109 w0 _ g s0_0 x1001_3 x1002_3 from ls109_ HI0) (lt_ ((m1_ (fr4_ HO_383001.out BK421.out (.int .i64 t411) (.slice Ao123 t412.length co123) (.slice Ao124 t415.length co124) (.slice Ao125 t418.length co125))))) (by decide)) hk (fun _ h => h.2))); replace BK375 := am_ (KeepBut.blk hk (g' := gb375) (lg_ BK375) NB375_0.out (by simp)); replace BK382 := am_ (KeepBut.blk hk (g' := gb382) (lg_ BK382) NB382_0.out (by simp)); replace HO414 := am_ (m1_ (Kd.R_keep (IsS109.apart (show IsS109 w0 _ g s0_0 x1001_3 x1002_3 from ls109_ HI0) (lt_ ((m1_ (fr4_ HO414.out BK421.out (.int .i64 t411) (.slice Ao123 t412.length co123) (.slice Ao124 t415.length co124) (.slice Ao125 t418.length co125))))) (by decide)) hk (fun _ h => h.2))); replace HO417 := am_ (m1_ (Kd.R_keep (IsS109.apart (show IsS109 w0 _ g s0_0 x1001_3 x1002_3 from ls109_ HI0) (lt_ ((m1_ (fr4_ HO417.out BK421.out (.int .i64 t411) (.slice Ao123 t412.length co123) (.slice Ao124 t415.length co124) (.slice Ao125 t418.length co125))))) (by decide)) hk (fun _ h => h.2))); replace HO420 := am_ (m1_ (Kd.R_keep (IsS109.apart (show IsS109 w0 _ g s0_0 x1001_3 x1002_3 from ls109_ HI0) (lt_ ((m1_ (fr4_ HO420.out BK421.out (.int .i64 t411) (.slice Ao123 t412.length co123) (.slice Ao124 t415.length co124) (.slice Ao125 t418.length co125))))) (by decide)) hk (fun _ h => h.2))); replace BK421 := am_ (KeepBut.blk hk (g' := gb421) (o := .cells #[.int .i64 t411, .slice Ao123 t412.length co123, .slice Ao124 t415.length co124, .slice Ao125 t418.length co125] 48 (0, 0)) (lq_ BK421) NB421_0.out (by simp)); replace HK := am_ (KeepBut.trans (lk_ HK) hk (.inl rfl)); replace HB := am_ (hb); replace HI0 := am_ (hi); (try clear hb); (try clear hb2); (try clear hk); (try clear hi); obtain ⟨hcz127_0, hcz127_1, hcz127_2, hcz127_3, hfz127_0, hfz127_1, hfz127_2, hfz127_3⟩ := bx4_ BK421.out; have hnb128 := NB375_0.out; have hnc128 := NB0_375.out; obtain ⟨hcz129_0, hcz129_1, hcz129_2, hcz129_3, hfz129_0, hfz129_1, hfz129_2, hfz129_3⟩ := bx4_ BK375.out))
      refine bodyPost_ret (results_cell_row rfl _ _ gb375 48 #[.int .i64 t411, .slice Ao123 t412.length co123, .slice Ao124 t415.length co124, .slice Ao125 t418.length co125] (0, 0) _ rfl (lq_ BK375) Try.underlying48 rfl (by kernel_rfl)) rfl ?_
      exact ⟨_, _, _, er_, lo2_ (fr4_ HO414.out BK375.out (.int .i64 t411) (.slice Ao123 t412.length co123) (.slice Ao124 t415.length co124) (.slice Ao125 t418.length co125)), lo2_ (fr4_ HO417.out BK375.out (.int .i64 t411) (.slice Ao123 t412.length co123) (.slice Ao124 t415.length co124) (.slice Ao125 t418.length co125)), lo2_ (fr4_ HO420.out BK375.out (.int .i64 t411) (.slice Ao123 t412.length co123) (.slice Ao124 t415.length co124) (.slice Ao125 t418.length co125)), ls109_ HI0, lv109_ HB, lk_ HK⟩
    ·rw [if_neg c83] at H
     have c83b0 : (t422 == 1) = false := beq_eq_false_iff_ne.mpr c83
     have c83b1 : (t422 != 1) = true := bne_iff_ne.mpr c83
     by_cases c130 : t422 = 2
     ·rw [if_pos c130] at H
      have c130b0 : (t422 == 2) = true := beq_iff_eq.mpr c130
      have c130b1 : (t422 != 2) = false := bne_eq_false_iff_eq.mpr c130
      clear c130
      by_cases c131 : t418.length < 17592186044416
      ·rw [if_pos c131] at H
       have LMc131 := am_ c131
       clear c131
       obtain ⟨y441, hy441⟩ : ∃ y_ : List Int, y_ = (t418 ++ [0]) := ⟨_, rfl⟩
       replace H : (some (t411, t412, t415, y441, t423, t424)) = some (r1, r2, r3, r4, r5, r6) := by first | (rw [hy441]; with_reducible exact H) | (have H2_ := (Option.bind_some _ _).symm.trans H; rw [hy441]; with_reducible exact H2_) | (have H2_ := (Option.bind_some _ _).symm.trans H; with_reducible exact H2_) | with_reducible exact H | (rw [hy441]; exact H) | exact H
       have Ny441 := am_ hy441
       clear hy441
       simp only [Option.some.injEq, Prod.mk.injEq] at H
       obtain ⟨rfl, rfl, rfl, rfl, rfl, rfl⟩ := H
       have hnb132 := NB382_375.out
       have hnc132 := NB375_382.out
       have hnb133 := NB382_0.out
       have hnc133 := NB0_382.out
       obtain ⟨hcz134_0, hcz134_1, hfz134_0, hfz134_1⟩ := bx2_ BK382.out
       obtain ⟨Ao135, co135, eo135⟩ := Kd.R_slice HO_383001.out
       subst eo135
       go_wp2_with (first | ((with_reducible refine gate_callee (f := 95) rfl ?_); refine goesL_ (some 18) rfl rfl Try.func95 (by kernel_rfl) rfl #[.agg #[.int .i64 x383000_3, .slice Ao135 x383001_3.length co135]] rfl lm_ ?_; (with_reducible refine (spec_raOf.calls kj3 x383000_3 _ _ x383001_3 t411 t412 t415 t418 _ ?side1 ?side2 A34.out).mono ?_); (case side1 => exact lc_ (Kd.R_reads' HO_383001.out).2.2); (case side2 => exact (Kd.R_reads' HO_383001.out).2.1); rintro e w136 ⟨v413, v416, v419, rfl, ho0, ho1, ho2, hb⟩; refine ⟨_, rfl, ?_⟩; have HO414 := am_ (Kd.R_lower (nw_ ho0 HO_383001) (keep_size (w := w) (g := g) (row := none) (lk_ HK))); have HO417 := am_ (Kd.R_lower (nw_ ho1 HO_383001) (keep_size (w := w) (g := g) (row := none) (lk_ HK))); have HO420 := am_ (Kd.R_lower (nw_ ho2 HO_383001) (keep_size (w := w) (g := g) (row := none) (lk_ HK))); replace HO_383001 := am_ (m1_ (td_ (td_ (td_ (Kd.R_old (lf_ HO_383001) hb) ho0) ho1) ho2)); replace BK375 := am_ (blk_below (g := gb375) (lb_ BK375) hb); replace BK382 := am_ (blk_below (g := gb382) (lb_ BK382) hb); replace HI0 := am_ (IsS109.below (ls109_ HI0) hb); replace HK := am_ (KeepBut.trans (lk_ HK) (KeepBut.of_below hb g none) (.inl rfl)); replace HB := am_ (below_step (lv109_ HB) hb); (try clear hb); (try clear hb2); (try clear hk); (try clear hi); (try clear ho0); (try clear ho1); (try clear ho2)) | ((with_reducible refine gate_dst (N := 4) rfl ?_); refine bev_ 4 #[.int .i64 0, .slice none 0 0, .slice none 0 0, .slice none 0 0] 48 rfl rfl ?_; intro gb421 hg w137 hbox hb; have BK421 := am_ (hbox); have GW421 := am_ ((by rw [hg]; exact (keep_size (w := w) (g := g) (row := none) (lk_ HK)) : w.heap.size ≤ gb421)); have GE421 := am_ ((Nat.le_trans HW0.out (by rw [hg]; exact (keep_size (w := w) (g := g) (row := none) (lk_ HK)) : w.heap.size ≤ gb421) : w0.heap.size ≤ gb421)); have NB375_421 := am_ ((by rw [hg]; exact Nat.ne_of_lt (blk_lt (g := gb375) (lb_ BK375)) : gb375 ≠ gb421)); have NB421_375 := am_ ((by rw [hg]; exact Nat.ne_of_gt (blk_lt (g := gb375) (lb_ BK375)) : gb421 ≠ gb375)); have NB382_421 := am_ ((by rw [hg]; exact Nat.ne_of_lt (blk_lt (g := gb382) (lb_ BK382)) : gb382 ≠ gb421)); have NB421_382 := am_ ((by rw [hg]; exact Nat.ne_of_gt (blk_lt (g := gb382) (lb_ BK382)) : gb421 ≠ gb382)); have NB0_421 := am_ ((by rw [hg]; exact Nat.ne_of_lt (IsS109.lt (show IsS109 w0 _ g s0_0 x1001_3 x1002_3 from ls109_ HI0)) : g ≠ gb421)); have NB421_0 := am_ ((by rw [hg]; exact Nat.ne_of_gt (IsS109.lt (show IsS109 w0 _ g s0_0 x1001_3 x1002_3 from ls109_ HI0)) : gb421 ≠ g)); replace HO_383001 := am_ (Kd.R_below (lf_ HO_383001) hb); replace HO414 := am_ (Kd.R_below (lf_ HO414) hb); replace HO417 := am_ (Kd.R_below (lf_ HO417) hb); replace HO420 := am_ (Kd.R_below (lf_ HO420) hb); replace BK375 := am_ (blk_below (g := gb375) (lb_ BK375) hb); replace BK382 := am_ (blk_below (g := gb382) (lb_ BK382) hb); replace HI0 := am_ (IsS109.below (ls109_ HI0) hb); replace HK := am_ (KeepBut.trans (lk_ HK) (KeepBut.of_below hb g none) (.inl rfl)); replace HB := am_ (below_step (lv109_ HB) hb); clear hb hbox hg; have hnb138 := NB421_375.out; have hnc138 := NB375_421.out; have hnb139 := NB421_382.out; have hnc139 := NB382_421.out; have hnb140 := NB421_0.out; have hnc140 := NB0_421.out; obtain ⟨hcz141_0, hcz141_1, hcz141_2, hcz141_3, hfz141_0, hfz141_1, hfz141_2, hfz141_3⟩ := bx4_ BK421.out; obtain ⟨Ao142, co142, eo142⟩ := Kd.R_slice HO414.out; subst eo142; obtain ⟨Ao143, co143, eo143⟩ := Kd.R_slice HO417.out; subst eo143; obtain ⟨Ao144, co144, eo144⟩ := Kd.R_slice HO420.out; subst eo144) | ((with_reducible refine gate_callee (f := 107) rfl ?_); refine goesL_ (some 20) rfl rfl Try.func107 (by kernel_rfl) rfl #[.pointer (some ⟨g, 0, none⟩), .int .i64 14] rfl lm_ ?_; (with_reducible refine (spec_l1Cur_pick.calls g s0_0 x1001_3 x1002_3 14 t422 t423 t424 w0 _ ?side1 ?side2 A35.out).mono ?_); (case side1 => exact ls109_ HI0); (case side2 => exact lv109_ HB); rintro e w145 ⟨rfl, hi, hb, hk⟩; refine ⟨_, rfl, ?_⟩; replace HO_383001 := am_ (m1_ (Kd.R_keep (IsS109.apart (show IsS109 w0 _ g s0_0 x1001_3 x1002_3 from ls109_ HI0) (lt_ ((m1_ (fr4_ HO_383001.out BK421.out (.int .i64 t411) (.slice Ao142 t412.length co142) (.slice Ao143 t415.length co143) (.slice Ao144 t418.length co144))))) (by decide)) hk (fun _ h => h.2))); replace BK375 := am_ (KeepBut.blk hk (g' := gb375) (lg_ BK375) NB375_0.out (by simp)); replace BK382 := am_ (KeepBut.blk hk (g' := gb382) (lg_ BK382) NB382_0.out (by simp)); replace HO414 := am_ (m1_ (Kd.R_keep (IsS109.apart (show IsS109 w0 _ g s0_0 x1001_3 x1002_3 from ls109_ HI0) (lt_ ((m1_ (fr4_ HO414.out BK421.out (.int .i64 t411) (.slice Ao142 t412.length co142) (.slice Ao143 t415.length co143) (.slice Ao144 t418.length co144))))) (by decide)) hk (fun _ h => h.2))); replace HO417 := am_ (m1_ (Kd.R_keep (IsS109.apart (show IsS109 w0 _ g s0_0 x1001_3 x1002_3 from ls109_ HI0) (lt_ ((m1_ (fr4_ HO417.out BK421.out (.int .i64 t411) (.slice Ao142 t412.length co142) (.slice Ao143 t415.length co143) (.slice Ao144 t418.length co144))))) (by decide)) hk (fun _ h => h.2))); replace HO420 := am_ (m1_ (Kd.R_keep (IsS109.apart (show IsS109 w0 _ g s0_0 x1001_3 x1002_3 from ls109_ HI0) (lt_ ((m1_ (fr4_ HO420.out BK421.out (.int .i64 t411) (.slice Ao142 t412.length co142) (.slice Ao143 t415.length co143) (.slice Ao144 t418.length co144))))) (by decide)) hk (fun _ h => h.2))); replace BK421 := am_ (KeepBut.blk hk (g' := gb421) (o := .cells #[.int .i64 t411, .slice Ao142 t412.length co142, .slice Ao143 t415.length co143, .slice Ao144 t418.length co144] 48 (0, 0)) (lq_ BK421) NB421_0.out (by simp)); replace HK := am_ (KeepBut.trans (lk_ HK) hk (.inl rfl)); replace HB := am_ (hb); replace HI0 := am_ (hi); (try clear hb); (try clear hb2); (try clear hk); (try clear hi); obtain ⟨hcz146_0, hcz146_1, hcz146_2, hcz146_3, hfz146_0, hfz146_1, hfz146_2, hfz146_3⟩ := bx4_ BK421.out) | ((with_reducible refine gate_builtin (b := .append) (xs := #[.tmp 64, .tmp 65]) rfl ?_); at_builtin; refine Kd.R_append (Kd.int .i64) w.heap.size rfl (.tmp 64) (.tmp 65) 22 3 (.int .i64 0) 8 rfl Try.underlying22 info3 rfl (by decide) (by omega) (.slice Ao144 t418.length co144) t418 0 [.int .i64 0] (fun k_ => ns_ k_ Ao135 x383001_3 co135 ∧ ns_ k_ Ao142 t412 co142 ∧ ns_ k_ Ao143 t415 co143) (fun _ => False) rfl rfl ?aP (fun _ hk => hk.elim) ?aF ?aO (Below.refl _ _) ?aS ?aL ?_; (case aP => exact rfl); (case aF => exact (fun k_ hk => ⟨Kd.fresh' (Kd.R_lt (lf_ HO_383001)) k_ hk, Kd.fresh' (Kd.R_lt (lf_ HO414)) k_ hk, Kd.fresh' (Kd.R_lt (lf_ HO417)) k_ hk⟩)); (case aO => exact (lo_ HO420)); (case aS => exact (keep_size (w := w) (g := g) (row := none) (lk_ HK))); (case aL => have := LMc131.out; omega); intro v442 w147 ho hb hg hat; rw [← Ny441.out] at ho; have HO443 := am_ (ho); replace HO_383001 := am_ (Kd.R_after (ok := (fun k_ => ns_ k_ Ao142 t412 co142 ∧ ns_ k_ Ao143 t415 co143)) (lo_ HO_383001) hg hat); replace BK375 := am_ (blk_grown (g := gb375) (lb_ BK375) hg (Kd.R_ne HO420.out BK375.out (by decide))); replace BK382 := am_ (blk_grown (g := gb382) (lb_ BK382) hg (Kd.R_ne HO420.out BK382.out (by decide))); replace HI0 := am_ (IsS109.grown (ls109_ HI0) hg (IsS109.own_ne HI0.out HO420.out (by decide))); replace HO414 := am_ (Kd.R_after (ok := (fun k_ => ns_ k_ Ao135 x383001_3 co135 ∧ ns_ k_ Ao143 t415 co143)) (lo_ HO414) hg hat); replace HO417 := am_ (Kd.R_after (ok := (fun k_ => ns_ k_ Ao135 x383001_3 co135 ∧ ns_ k_ Ao142 t412 co142)) (lo_ HO417) hg hat); replace BK421 := am_ (blk_grown (g := gb421) (lb_ BK421) hg (Kd.R_ne HO420.out BK421.out (by decide))); replace HB := am_ (below_weaken (lv109_ HB) HL.out hb); replace HK := am_ (KeepBut.trans (lk_ HK) (KeepBut.of_grown hg g) (Kd.R_base2 HO420.out)); clear HO420; clear ho hb hg hat; obtain ⟨Ao148, co148, eo148⟩ := Kd.R_slice HO443.out; subst eo148; obtain ⟨hcz149_0, hcz149_1, hcz149_2, hcz149_3, hfz149_0, hfz149_1, hfz149_2, hfz149_3⟩ := bx4_ BK421.out; have hnb150 := NB375_0.out; have hnc150 := NB0_375.out; obtain ⟨hcz151_0, hcz151_1, hcz151_2, hcz151_3, hfz151_0, hfz151_1, hfz151_2, hfz151_3⟩ := bx4_ BK375.out))
       refine bodyPost_ret (results_cell_row rfl _ _ gb375 48 #[.int .i64 t411, .slice Ao142 t412.length co142, .slice Ao143 t415.length co143, .slice Ao148 y441.length co148] (0, 0) _ rfl (lq_ BK375) Try.underlying48 rfl (by kernel_rfl)) rfl ?_
       exact ⟨_, _, _, er_, lo2_ (Kd.R_far (p := ⟨gb375, 3, none⟩) (Kd.R_far (p := ⟨gb375, 2, none⟩) (Kd.R_far (p := ⟨gb375, 1, none⟩) (Kd.R_far (p := ⟨gb375, 0, none⟩) (Kd.R_far (p := ⟨gb421, 3, none⟩) (Kd.R_types (Kd.R_types HO414.out BK421.out (by decide)) BK375.out (by decide)) (fun _ hk => hk.1.2) (.slice Ao148 y441.length co148)) (fun _ hk => hk.2) (.int .i64 t411)) (fun _ hk => hk.2) (.slice Ao142 t412.length co142)) (fun _ hk => hk.2) (.slice Ao143 t415.length co143)) (fun _ hk => hk.2) (.slice Ao148 y441.length co148)), lo2_ (Kd.R_far (p := ⟨gb375, 3, none⟩) (Kd.R_far (p := ⟨gb375, 2, none⟩) (Kd.R_far (p := ⟨gb375, 1, none⟩) (Kd.R_far (p := ⟨gb375, 0, none⟩) (Kd.R_far (p := ⟨gb421, 3, none⟩) (Kd.R_types (Kd.R_types HO417.out BK421.out (by decide)) BK375.out (by decide)) (fun _ hk => hk.1.2) (.slice Ao148 y441.length co148)) (fun _ hk => hk.2) (.int .i64 t411)) (fun _ hk => hk.2) (.slice Ao142 t412.length co142)) (fun _ hk => hk.2) (.slice Ao143 t415.length co143)) (fun _ hk => hk.2) (.slice Ao148 y441.length co148)), lo2_ (Kd.R_far (p := ⟨gb375, 3, none⟩) (Kd.R_far (p := ⟨gb375, 2, none⟩) (Kd.R_far (p := ⟨gb375, 1, none⟩) (Kd.R_far (p := ⟨gb375, 0, none⟩) (Kd.R_far (p := ⟨gb421, 3, none⟩) (Kd.R_types (Kd.R_types HO443.out BK421.out (by decide)) BK375.out (by decide)) (fun _ hk => hk.1.2) (.slice Ao148 y441.length co148)) (fun _ hk => hk.2) (.int .i64 t411)) (fun _ hk => hk.2) (.slice Ao142 t412.length co142)) (fun _ hk => hk.2) (.slice Ao143 t415.length co143)) (fun _ hk => hk.2) (.slice Ao148 y441.length co148)), ls109_ HI0, lv109_ HB, lk_ HK⟩
      ·rw [if_neg c131] at H
       exact absurd H (by simp)
     ·rw [if_neg c130] at H
      have c130b0 : (t422 == 2) = false := beq_eq_false_iff_ne.mpr c130
      have c130b1 : (t422 != 2) = true := bne_iff_ne.mpr c130
      by_cases c152 : t422 = 3
      ·rw [if_pos c152] at H
       have c152b0 : (t422 == 3) = true := beq_iff_eq.mpr c152
       have c152b1 : (t422 != 3) = false := bne_eq_false_iff_eq.mpr c152
       clear c152
       replace H := Option.bind_eq_some_iff.mp H
       obtain ⟨⟨t444, t445, t448, t449⟩, A1530, H⟩ := H
       replace H : (some (t444, t445, t415, t418, t448, t449)) = some (r1, r2, r3, r4, r5, r6) := H
       have A153 := am_ A1530
       clear A1530
       simp only [Option.some.injEq, Prod.mk.injEq] at H
       obtain ⟨rfl, rfl, rfl, rfl, rfl, rfl⟩ := H
       have hnb154 := NB382_375.out
       have hnc154 := NB375_382.out
       have hnb155 := NB382_0.out
       have hnc155 := NB0_382.out
       obtain ⟨hcz156_0, hcz156_1, hfz156_0, hfz156_1⟩ := bx2_ BK382.out
       obtain ⟨Ao157, co157, eo157⟩ := Kd.R_slice HO_383001.out
       subst eo157
       go_wp2_with (first | ((with_reducible refine gate_callee (f := 95) rfl ?_); refine goesL_ (some 18) rfl rfl Try.func95 (by kernel_rfl) rfl #[.agg #[.int .i64 x383000_3, .slice Ao157 x383001_3.length co157]] rfl lm_ ?_; (with_reducible refine (spec_raOf.calls kj3 x383000_3 _ _ x383001_3 t411 t412 t415 t418 _ ?side1 ?side2 A34.out).mono ?_); (case side1 => exact lc_ (Kd.R_reads' HO_383001.out).2.2); (case side2 => exact (Kd.R_reads' HO_383001.out).2.1); rintro e w158 ⟨v413, v416, v419, rfl, ho0, ho1, ho2, hb⟩; refine ⟨_, rfl, ?_⟩; have HO414 := am_ (Kd.R_lower (nw_ ho0 HO_383001) (keep_size (w := w) (g := g) (row := none) (lk_ HK))); have HO417 := am_ (Kd.R_lower (nw_ ho1 HO_383001) (keep_size (w := w) (g := g) (row := none) (lk_ HK))); have HO420 := am_ (Kd.R_lower (nw_ ho2 HO_383001) (keep_size (w := w) (g := g) (row := none) (lk_ HK))); replace HO_383001 := am_ (m1_ (td_ (td_ (td_ (Kd.R_old (lf_ HO_383001) hb) ho0) ho1) ho2)); replace BK375 := am_ (blk_below (g := gb375) (lb_ BK375) hb); replace BK382 := am_ (blk_below (g := gb382) (lb_ BK382) hb); replace HI0 := am_ (IsS109.below (ls109_ HI0) hb); replace HK := am_ (KeepBut.trans (lk_ HK) (KeepBut.of_below hb g none) (.inl rfl)); replace HB := am_ (below_step (lv109_ HB) hb); (try clear hb); (try clear hb2); (try clear hk); (try clear hi); (try clear ho0); (try clear ho1); (try clear ho2)) | ((with_reducible refine gate_dst (N := 4) rfl ?_); refine bev_ 4 #[.int .i64 0, .slice none 0 0, .slice none 0 0, .slice none 0 0] 48 rfl rfl ?_; intro gb421 hg w159 hbox hb; have BK421 := am_ (hbox); have GW421 := am_ ((by rw [hg]; exact (keep_size (w := w) (g := g) (row := none) (lk_ HK)) : w.heap.size ≤ gb421)); have GE421 := am_ ((Nat.le_trans HW0.out (by rw [hg]; exact (keep_size (w := w) (g := g) (row := none) (lk_ HK)) : w.heap.size ≤ gb421) : w0.heap.size ≤ gb421)); have NB375_421 := am_ ((by rw [hg]; exact Nat.ne_of_lt (blk_lt (g := gb375) (lb_ BK375)) : gb375 ≠ gb421)); have NB421_375 := am_ ((by rw [hg]; exact Nat.ne_of_gt (blk_lt (g := gb375) (lb_ BK375)) : gb421 ≠ gb375)); have NB382_421 := am_ ((by rw [hg]; exact Nat.ne_of_lt (blk_lt (g := gb382) (lb_ BK382)) : gb382 ≠ gb421)); have NB421_382 := am_ ((by rw [hg]; exact Nat.ne_of_gt (blk_lt (g := gb382) (lb_ BK382)) : gb421 ≠ gb382)); have NB0_421 := am_ ((by rw [hg]; exact Nat.ne_of_lt (IsS109.lt (show IsS109 w0 _ g s0_0 x1001_3 x1002_3 from ls109_ HI0)) : g ≠ gb421)); have NB421_0 := am_ ((by rw [hg]; exact Nat.ne_of_gt (IsS109.lt (show IsS109 w0 _ g s0_0 x1001_3 x1002_3 from ls109_ HI0)) : gb421 ≠ g)); replace HO_383001 := am_ (Kd.R_below (lf_ HO_383001) hb); replace HO414 := am_ (Kd.R_below (lf_ HO414) hb); replace HO417 := am_ (Kd.R_below (lf_ HO417) hb); replace HO420 := am_ (Kd.R_below (lf_ HO420) hb); replace BK375 := am_ (blk_below (g := gb375) (lb_ BK375) hb); replace BK382 := am_ (blk_below (g := gb382) (lb_ BK382) hb); replace HI0 := am_ (IsS109.below (ls109_ HI0) hb); replace HK := am_ (KeepBut.trans (lk_ HK) (KeepBut.of_below hb g none) (.inl rfl)); replace HB := am_ (below_step (lv109_ HB) hb); clear hb hbox hg; have hnb160 := NB421_375.out; have hnc160 := NB375_421.out; have hnb161 := NB421_382.out; have hnc161 := NB382_421.out; have hnb162 := NB421_0.out; have hnc162 := NB0_421.out; obtain ⟨hcz163_0, hcz163_1, hcz163_2, hcz163_3, hfz163_0, hfz163_1, hfz163_2, hfz163_3⟩ := bx4_ BK421.out; obtain ⟨Ao164, co164, eo164⟩ := Kd.R_slice HO414.out; subst eo164; obtain ⟨Ao165, co165, eo165⟩ := Kd.R_slice HO417.out; subst eo165; obtain ⟨Ao166, co166, eo166⟩ := Kd.R_slice HO420.out; subst eo166) | ((with_reducible refine gate_callee (f := 107) rfl ?_); refine goesL_ (some 20) rfl rfl Try.func107 (by kernel_rfl) rfl #[.pointer (some ⟨g, 0, none⟩), .int .i64 14] rfl lm_ ?_; (with_reducible refine (spec_l1Cur_pick.calls g s0_0 x1001_3 x1002_3 14 t422 t423 t424 w0 _ ?side1 ?side2 A35.out).mono ?_); (case side1 => exact ls109_ HI0); (case side2 => exact lv109_ HB); rintro e w167 ⟨rfl, hi, hb, hk⟩; refine ⟨_, rfl, ?_⟩; replace HO_383001 := am_ (m1_ (Kd.R_keep (IsS109.apart (show IsS109 w0 _ g s0_0 x1001_3 x1002_3 from ls109_ HI0) (lt_ ((m1_ (fr4_ HO_383001.out BK421.out (.int .i64 t411) (.slice Ao164 t412.length co164) (.slice Ao165 t415.length co165) (.slice Ao166 t418.length co166))))) (by decide)) hk (fun _ h => h.2))); replace BK375 := am_ (KeepBut.blk hk (g' := gb375) (lg_ BK375) NB375_0.out (by simp)); replace BK382 := am_ (KeepBut.blk hk (g' := gb382) (lg_ BK382) NB382_0.out (by simp)); replace HO414 := am_ (m1_ (Kd.R_keep (IsS109.apart (show IsS109 w0 _ g s0_0 x1001_3 x1002_3 from ls109_ HI0) (lt_ ((m1_ (fr4_ HO414.out BK421.out (.int .i64 t411) (.slice Ao164 t412.length co164) (.slice Ao165 t415.length co165) (.slice Ao166 t418.length co166))))) (by decide)) hk (fun _ h => h.2))); replace HO417 := am_ (m1_ (Kd.R_keep (IsS109.apart (show IsS109 w0 _ g s0_0 x1001_3 x1002_3 from ls109_ HI0) (lt_ ((m1_ (fr4_ HO417.out BK421.out (.int .i64 t411) (.slice Ao164 t412.length co164) (.slice Ao165 t415.length co165) (.slice Ao166 t418.length co166))))) (by decide)) hk (fun _ h => h.2))); replace HO420 := am_ (m1_ (Kd.R_keep (IsS109.apart (show IsS109 w0 _ g s0_0 x1001_3 x1002_3 from ls109_ HI0) (lt_ ((m1_ (fr4_ HO420.out BK421.out (.int .i64 t411) (.slice Ao164 t412.length co164) (.slice Ao165 t415.length co165) (.slice Ao166 t418.length co166))))) (by decide)) hk (fun _ h => h.2))); replace BK421 := am_ (KeepBut.blk hk (g' := gb421) (o := .cells #[.int .i64 t411, .slice Ao164 t412.length co164, .slice Ao165 t415.length co165, .slice Ao166 t418.length co166] 48 (0, 0)) (lq_ BK421) NB421_0.out (by simp)); replace HK := am_ (KeepBut.trans (lk_ HK) hk (.inl rfl)); replace HB := am_ (hb); replace HI0 := am_ (hi); (try clear hb); (try clear hb2); (try clear hk); (try clear hi)) | ((with_reducible refine gate_callee (f := 103) rfl ?_); refine goesL_ (some 71) rfl rfl Try.func103 (by kernel_rfl) rfl #[.pointer (some ⟨g, 0, none⟩)] rfl lm_ ?_; (with_reducible refine (spec_l1Cur_anyBits.calls kj3 g s0_0 t423 t424 t444 t445 t448 t449 w0 _ ?side1 ?side2 A153.out).mono ?_); (case side1 => exact ls109_ HI0); (case side2 => exact lv109_ HB); rintro e w168 ⟨v446, rfl, ho0, hi, hb, hk⟩; refine ⟨_, rfl, ?_⟩; have HO447 := am_ (Kd.R_lower (nw_ (nw_ (nw_ (nw_ ho0 HO_383001) HO414) HO417) HO420) (keep_size (w := w) (g := g) (row := none) (lk_ HK))); replace HO_383001 := am_ (m1_ (td_ (Kd.R_oldK (IsS109.apart (show IsS109 w0 _ g s0_0 t423 t424 from ls109_ HI0) (lf_ HO_383001) (by decide)) hk) ho0)); replace BK375 := am_ (KeepBut.blk hk (g' := gb375) (lb_ BK375) NB375_0.out (by simp)); replace BK382 := am_ (KeepBut.blk hk (g' := gb382) (lb_ BK382) NB382_0.out (by simp)); replace HO414 := am_ (m1_ (td_ (Kd.R_oldK (IsS109.apart (show IsS109 w0 _ g s0_0 t423 t424 from ls109_ HI0) (lf_ HO414) (by decide)) hk) ho0)); replace HO417 := am_ (m1_ (td_ (Kd.R_oldK (IsS109.apart (show IsS109 w0 _ g s0_0 t423 t424 from ls109_ HI0) (lf_ HO417) (by decide)) hk) ho0)); replace HO420 := am_ (m1_ (td_ (Kd.R_oldK (IsS109.apart (show IsS109 w0 _ g s0_0 t423 t424 from ls109_ HI0) (lf_ HO420) (by decide)) hk) ho0)); replace BK421 := am_ (KeepBut.blk hk (g' := gb421) (lb_ BK421) NB421_0.out (by simp)); replace HK := am_ (KeepBut.trans (lk_ HK) hk (.inl rfl)); replace HB := am_ (hb); replace HI0 := am_ (hi); (try clear hb); (try clear hb2); (try clear hk); (try clear hi); (try clear ho0); obtain ⟨hcz169_0, hcz169_1, hcz169_2, hcz169_3, hfz169_0, hfz169_1, hfz169_2, hfz169_3⟩ := bx4_ BK421.out; obtain ⟨Ao170, co170, eo170⟩ := Kd.R_slice HO447.out; subst eo170; have hnb171 := NB375_0.out; have hnc171 := NB0_375.out; obtain ⟨hcz172_0, hcz172_1, hcz172_2, hcz172_3, hfz172_0, hfz172_1, hfz172_2, hfz172_3⟩ := bx4_ BK375.out))
       refine bodyPost_ret (results_cell_row rfl _ _ gb375 48 #[.int .i64 t444, .slice Ao170 t445.length co170, .slice Ao165 t415.length co165, .slice Ao166 t418.length co166] (0, 0) _ rfl (lq_ BK375) Try.underlying48 rfl (by kernel_rfl)) rfl ?_
       exact ⟨_, _, _, er_, lo2_ (Kd.R_far (p := ⟨gb375, 3, none⟩) (Kd.R_far (p := ⟨gb375, 2, none⟩) (Kd.R_far (p := ⟨gb375, 1, none⟩) (Kd.R_far (p := ⟨gb375, 0, none⟩) (Kd.R_far (p := ⟨gb421, 1, none⟩) (Kd.R_far (p := ⟨gb421, 0, none⟩) (Kd.R_types (Kd.R_types HO447.out BK421.out (by decide)) BK375.out (by decide)) (fun _ hk => hk.1.2) (.int .i64 t444)) (fun _ hk => hk.1.2) (.slice Ao170 t445.length co170)) (fun _ hk => hk.2) (.int .i64 t444)) (fun _ hk => hk.2) (.slice Ao170 t445.length co170)) (fun _ hk => hk.2) (.slice Ao165 t415.length co165)) (fun _ hk => hk.2) (.slice Ao166 t418.length co166)), lo2_ (Kd.R_far (p := ⟨gb375, 3, none⟩) (Kd.R_far (p := ⟨gb375, 2, none⟩) (Kd.R_far (p := ⟨gb375, 1, none⟩) (Kd.R_far (p := ⟨gb375, 0, none⟩) (Kd.R_far (p := ⟨gb421, 1, none⟩) (Kd.R_far (p := ⟨gb421, 0, none⟩) (Kd.R_types (Kd.R_types HO417.out BK421.out (by decide)) BK375.out (by decide)) (fun _ hk => hk.1.2) (.int .i64 t444)) (fun _ hk => hk.1.2) (.slice Ao170 t445.length co170)) (fun _ hk => hk.2) (.int .i64 t444)) (fun _ hk => hk.2) (.slice Ao170 t445.length co170)) (fun _ hk => hk.2) (.slice Ao165 t415.length co165)) (fun _ hk => hk.2) (.slice Ao166 t418.length co166)), lo2_ (Kd.R_far (p := ⟨gb375, 3, none⟩) (Kd.R_far (p := ⟨gb375, 2, none⟩) (Kd.R_far (p := ⟨gb375, 1, none⟩) (Kd.R_far (p := ⟨gb375, 0, none⟩) (Kd.R_far (p := ⟨gb421, 1, none⟩) (Kd.R_far (p := ⟨gb421, 0, none⟩) (Kd.R_types (Kd.R_types HO420.out BK421.out (by decide)) BK375.out (by decide)) (fun _ hk => hk.1.2) (.int .i64 t444)) (fun _ hk => hk.1.2) (.slice Ao170 t445.length co170)) (fun _ hk => hk.2) (.int .i64 t444)) (fun _ hk => hk.2) (.slice Ao170 t445.length co170)) (fun _ hk => hk.2) (.slice Ao165 t415.length co165)) (fun _ hk => hk.2) (.slice Ao166 t418.length co166)), ls109_ HI0, lv109_ HB, lk_ HK⟩
      ·rw [if_neg c152] at H
       have c152b0 : (t422 == 3) = false := beq_eq_false_iff_ne.mpr c152
       have c152b1 : (t422 != 3) = true := bne_iff_ne.mpr c152
       simp only [Option.some.injEq, Prod.mk.injEq] at H
       obtain ⟨rfl, rfl, rfl, rfl, rfl, rfl⟩ := H
       have hnb173 := NB382_375.out
       have hnc173 := NB375_382.out
       have hnb174 := NB382_0.out
       have hnc174 := NB0_382.out
       obtain ⟨hcz175_0, hcz175_1, hfz175_0, hfz175_1⟩ := bx2_ BK382.out
       obtain ⟨Ao176, co176, eo176⟩ := Kd.R_slice HO_383001.out
       subst eo176
       go_wp2_with (first | ((with_reducible refine gate_callee (f := 95) rfl ?_); refine goesL_ (some 18) rfl rfl Try.func95 (by kernel_rfl) rfl #[.agg #[.int .i64 x383000_3, .slice Ao176 x383001_3.length co176]] rfl lm_ ?_; (with_reducible refine (spec_raOf.calls kj3 x383000_3 _ _ x383001_3 t411 t412 t415 t418 _ ?side1 ?side2 A34.out).mono ?_); (case side1 => exact lc_ (Kd.R_reads' HO_383001.out).2.2); (case side2 => exact (Kd.R_reads' HO_383001.out).2.1); rintro e w177 ⟨v413, v416, v419, rfl, ho0, ho1, ho2, hb⟩; refine ⟨_, rfl, ?_⟩; have HO414 := am_ (Kd.R_lower (nw_ ho0 HO_383001) (keep_size (w := w) (g := g) (row := none) (lk_ HK))); have HO417 := am_ (Kd.R_lower (nw_ ho1 HO_383001) (keep_size (w := w) (g := g) (row := none) (lk_ HK))); have HO420 := am_ (Kd.R_lower (nw_ ho2 HO_383001) (keep_size (w := w) (g := g) (row := none) (lk_ HK))); replace HO_383001 := am_ (m1_ (td_ (td_ (td_ (Kd.R_old (lf_ HO_383001) hb) ho0) ho1) ho2)); replace BK375 := am_ (blk_below (g := gb375) (lb_ BK375) hb); replace BK382 := am_ (blk_below (g := gb382) (lb_ BK382) hb); replace HI0 := am_ (IsS109.below (ls109_ HI0) hb); replace HK := am_ (KeepBut.trans (lk_ HK) (KeepBut.of_below hb g none) (.inl rfl)); replace HB := am_ (below_step (lv109_ HB) hb); (try clear hb); (try clear hb2); (try clear hk); (try clear hi); (try clear ho0); (try clear ho1); (try clear ho2)) | ((with_reducible refine gate_dst (N := 4) rfl ?_); refine bev_ 4 #[.int .i64 0, .slice none 0 0, .slice none 0 0, .slice none 0 0] 48 rfl rfl ?_; intro gb421 hg w178 hbox hb; have BK421 := am_ (hbox); have GW421 := am_ ((by rw [hg]; exact (keep_size (w := w) (g := g) (row := none) (lk_ HK)) : w.heap.size ≤ gb421)); have GE421 := am_ ((Nat.le_trans HW0.out (by rw [hg]; exact (keep_size (w := w) (g := g) (row := none) (lk_ HK)) : w.heap.size ≤ gb421) : w0.heap.size ≤ gb421)); have NB375_421 := am_ ((by rw [hg]; exact Nat.ne_of_lt (blk_lt (g := gb375) (lb_ BK375)) : gb375 ≠ gb421)); have NB421_375 := am_ ((by rw [hg]; exact Nat.ne_of_gt (blk_lt (g := gb375) (lb_ BK375)) : gb421 ≠ gb375)); have NB382_421 := am_ ((by rw [hg]; exact Nat.ne_of_lt (blk_lt (g := gb382) (lb_ BK382)) : gb382 ≠ gb421)); have NB421_382 := am_ ((by rw [hg]; exact Nat.ne_of_gt (blk_lt (g := gb382) (lb_ BK382)) : gb421 ≠ gb382)); have NB0_421 := am_ ((by rw [hg]; exact Nat.ne_of_lt (IsS109.lt (show IsS109 w0 _ g s0_0 x1001_3 x1002_3 from ls109_ HI0)) : g ≠ gb421)); have NB421_0 := am_ ((by rw [hg]; exact Nat.ne_of_gt (IsS109.lt (show IsS109 w0 _ g s0_0 x1001_3 x1002_3 from ls109_ HI0)) : gb421 ≠ g)); replace HO_383001 := am_ (Kd.R_below (lf_ HO_383001) hb); replace HO414 := am_ (Kd.R_below (lf_ HO414) hb); replace HO417 := am_ (Kd.R_below (lf_ HO417) hb); replace HO420 := am_ (Kd.R_below (lf_ HO420) hb); replace BK375 := am_ (blk_below (g := gb375) (lb_ BK375) hb); replace BK382 := am_ (blk_below (g := gb382) (lb_ BK382) hb); replace HI0 := am_ (IsS109.below (ls109_ HI0) hb); replace HK := am_ (KeepBut.trans (lk_ HK) (KeepBut.of_below hb g none) (.inl rfl)); replace HB := am_ (below_step (lv109_ HB) hb); clear hb hbox hg; have hnb179 := NB421_375.out; have hnc179 := NB375_421.out; have hnb180 := NB421_382.out; have hnc180 := NB382_421.out; have hnb181 := NB421_0.out; have hnc181 := NB0_421.out; obtain ⟨hcz182_0, hcz182_1, hcz182_2, hcz182_3, hfz182_0, hfz182_1, hfz182_2, hfz182_3⟩ := bx4_ BK421.out; obtain ⟨Ao183, co183, eo183⟩ := Kd.R_slice HO414.out; subst eo183; obtain ⟨Ao184, co184, eo184⟩ := Kd.R_slice HO417.out; subst eo184; obtain ⟨Ao185, co185, eo185⟩ := Kd.R_slice HO420.out; subst eo185) | ((with_reducible refine gate_callee (f := 107) rfl ?_); refine goesL_ (some 20) rfl rfl Try.func107 (by kernel_rfl) rfl #[.pointer (some ⟨g, 0, none⟩), .int .i64 14] rfl lm_ ?_; (with_reducible refine (spec_l1Cur_pick.calls g s0_0 x1001_3 x1002_3 14 t422 t423 t424 w0 _ ?side1 ?side2 A35.out).mono ?_); (case side1 => exact ls109_ HI0); (case side2 => exact lv109_ HB); rintro e w186 ⟨rfl, hi, hb, hk⟩; refine ⟨_, rfl, ?_⟩; replace HO_383001 := am_ (m1_ (Kd.R_keep (IsS109.apart (show IsS109 w0 _ g s0_0 x1001_3 x1002_3 from ls109_ HI0) (lt_ ((m1_ (fr4_ HO_383001.out BK421.out (.int .i64 t411) (.slice Ao183 t412.length co183) (.slice Ao184 t415.length co184) (.slice Ao185 t418.length co185))))) (by decide)) hk (fun _ h => h.2))); replace BK375 := am_ (KeepBut.blk hk (g' := gb375) (lg_ BK375) NB375_0.out (by simp)); replace BK382 := am_ (KeepBut.blk hk (g' := gb382) (lg_ BK382) NB382_0.out (by simp)); replace HO414 := am_ (m1_ (Kd.R_keep (IsS109.apart (show IsS109 w0 _ g s0_0 x1001_3 x1002_3 from ls109_ HI0) (lt_ ((m1_ (fr4_ HO414.out BK421.out (.int .i64 t411) (.slice Ao183 t412.length co183) (.slice Ao184 t415.length co184) (.slice Ao185 t418.length co185))))) (by decide)) hk (fun _ h => h.2))); replace HO417 := am_ (m1_ (Kd.R_keep (IsS109.apart (show IsS109 w0 _ g s0_0 x1001_3 x1002_3 from ls109_ HI0) (lt_ ((m1_ (fr4_ HO417.out BK421.out (.int .i64 t411) (.slice Ao183 t412.length co183) (.slice Ao184 t415.length co184) (.slice Ao185 t418.length co185))))) (by decide)) hk (fun _ h => h.2))); replace HO420 := am_ (m1_ (Kd.R_keep (IsS109.apart (show IsS109 w0 _ g s0_0 x1001_3 x1002_3 from ls109_ HI0) (lt_ ((m1_ (fr4_ HO420.out BK421.out (.int .i64 t411) (.slice Ao183 t412.length co183) (.slice Ao184 t415.length co184) (.slice Ao185 t418.length co185))))) (by decide)) hk (fun _ h => h.2))); replace BK421 := am_ (KeepBut.blk hk (g' := gb421) (o := .cells #[.int .i64 t411, .slice Ao183 t412.length co183, .slice Ao184 t415.length co184, .slice Ao185 t418.length co185] 48 (0, 0)) (lq_ BK421) NB421_0.out (by simp)); replace HK := am_ (KeepBut.trans (lk_ HK) hk (.inl rfl)); replace HB := am_ (hb); replace HI0 := am_ (hi); (try clear hb); (try clear hb2); (try clear hk); (try clear hi); obtain ⟨hcz187_0, hcz187_1, hcz187_2, hcz187_3, hfz187_0, hfz187_1, hfz187_2, hfz187_3⟩ := bx4_ BK421.out; have hnb188 := NB375_0.out; have hnc188 := NB0_375.out; obtain ⟨hcz189_0, hcz189_1, hcz189_2, hcz189_3, hfz189_0, hfz189_1, hfz189_2, hfz189_3⟩ := bx4_ BK375.out))
       refine bodyPost_ret (results_cell_row rfl _ _ gb375 48 #[.int .i64 t411, .slice Ao183 t412.length co183, .slice Ao184 t415.length co184, .slice Ao185 t418.length co185] (0, 0) _ rfl (lq_ BK375) Try.underlying48 rfl (by kernel_rfl)) rfl ?_
       exact ⟨_, _, _, er_, lo2_ (fr4_ HO414.out BK375.out (.int .i64 t411) (.slice Ao183 t412.length co183) (.slice Ao184 t415.length co184) (.slice Ao185 t418.length co185)), lo2_ (fr4_ HO417.out BK375.out (.int .i64 t411) (.slice Ao183 t412.length co183) (.slice Ao184 t415.length co184) (.slice Ao185 t418.length co185)), lo2_ (fr4_ HO420.out BK375.out (.int .i64 t411) (.slice Ao183 t412.length co183) (.slice Ao184 t415.length co184) (.slice Ao185 t418.length co185)), ls109_ HI0, lv109_ HB, lk_ HK⟩

end Go.Proofs.Ytkmhjgejficclaa.PFnRanksJoin
