-- Laid by a program of this session: the print of the kit with additions of ours (wip/tools/patchprint.py). Nothing of it is trusted: Lean checks it.
import Derived.Test.YtkmhjgejficclaaPFnDirectoriesArePackedx0
import Derived.Test.YtkmhjgejficclaaPFnDirectoriesArePackedx4
import Derived.Test.YtkmhjgejficclaaPFnDirectoriesArePackedx5
import Derived.Test.YtkmhjgejficclaaPFnDirectoriesArePackedx9
import Derived.Test.YtkmhjgejficclaaPFnDirectoriesArePackedx10
import Derived.Test.YtkmhjgejficclaaPFnDirectoriesArePackedx11
namespace Go.Proofs.Ytkmhjgejficclaa.PFnDirectoriesArePacked
open Go.RowKit Go.Proofs.YtkmhjgejficclaaW.PrintWords Go.Proofs.YtkmhjgejficclaaW.PrintLast Go.Proofs.YtkmhjgejficclaaW.PrintMore
attribute [local go_sem] max2_int min2_int max_two min_two max_three min_three max_four min_four   -- for this text's walks alone
set_option linter.unusedVariables false
set_option linter.unusedSimpArgs false

/-! ### spec_l1Cur_ranked: function 101 -/
def spec_l1Cur_ranked.j0 : Nat → List Int → Int → Int → Int → List Int → Option (Int × List Int × List Int × List Int × Int × Int)
 | 0, _, _, _, _, _ => none
 | k + 1, x1000, x1001, x1002, x401000, x401001 => (spec_raOf.f k x401000 x401001).bind fun bt429 => ((spec_l1Cur_pick.f x1000 x1001 x1002 14).bind fun bt440 => (if bt440.1 = 0 then (if (bt429.2.2.1.length : Int) > 0 then ((spec_l1Cur_pick.f x1000 bt440.2.1 bt440.2.2 (bt429.2.2.1.length : Int)).bind fun bt443 => (if 0 ≤ bt443.1 then (if bt443.1 < (bt429.2.2.1.length : Int) then ((spec_l1Cur_pick.f x1000 bt443.2.1 bt443.2.2 3).bind fun bt447 => (some (bt429.1, bt429.2.1, (bt429.2.2.1.set (bt443.1 : Int).toNat (wrap64 ((rd bt429.2.2.1 bt443.1) + (wrap64 (bt447.1 - 1))))), bt429.2.2.2, bt447.2.1, bt447.2.2))) else (none)) else (none))) else (some (bt429.1, bt429.2.1, bt429.2.2.1, bt429.2.2.2, bt440.2.1, bt440.2.2))) else (if bt440.1 = 1 then (if (bt429.2.2.2.length : Int) > 0 then ((spec_l1Cur_pick.f x1000 bt440.2.1 bt440.2.2 (bt429.2.2.2.length : Int)).bind fun bt451 => (if 0 ≤ bt451.1 then (if bt451.1 < (bt429.2.2.2.length : Int) then ((spec_l1Cur_pick.f x1000 bt451.2.1 bt451.2.2 3).bind fun bt455 => (some (bt429.1, bt429.2.1, bt429.2.2.1, (bt429.2.2.2.set (bt451.1 : Int).toNat (wrap64 ((rd bt429.2.2.2 bt451.1) + (wrap64 (bt455.1 - 1))))), bt455.2.1, bt455.2.2))) else (none)) else (none))) else (some (bt429.1, bt429.2.1, bt429.2.2.1, bt429.2.2.2, bt440.2.1, bt440.2.2))) else (if bt440.1 = 2 then (if bt429.2.2.2.length < 17592186044416 then (some (bt429.1, bt429.2.1, bt429.2.2.1, (bt429.2.2.2 ++ [0]), bt440.2.1, bt440.2.2)) else (none)) else (if bt440.1 = 3 then ((spec_l1Cur_anyBits.f k x1000 bt440.2.1 bt440.2.2).bind fun bt462 => (some (bt462.1, bt462.2.1, bt429.2.2.1, bt429.2.2.2, bt462.2.2.1, bt462.2.2.2))) else (some (bt429.1, bt429.2.1, bt429.2.2.1, bt429.2.2.2, bt440.2.1, bt440.2.2)))))))
def spec_l1Cur_ranked.f (k : Nat) (s0_0 : List Int) (s0_1 : Int) (s0_2 : Int) : Option (Int × List Int × List Int × List Int × Int × Int) := (spec_l1Cur_bits.f k s0_0 s0_1 s0_2 70).bind fun bt394 => ((spec_l1Cur_one.f s0_0 bt394.2.2.1 bt394.2.2.2 8).bind fun bt401 => (if bt401.1 = true then ((spec_l1Cur_bits.f k s0_0 bt401.2.1 bt401.2.2 200).bind fun bt404 => ((spec_biList.f k bt404.1 bt404.2.1).bind fun t410 => ((spec_l1Cur_bits.f k s0_0 bt404.2.2.1 bt404.2.2.2 200).bind fun bt413 => ((spec_biList.f k bt413.1 bt413.2.1).bind fun t419 => (if t410.length + t419.length < 140737488355328 then ((spec_biSome.f k (t410 ++ t419)).bind fun bt425 => (spec_l1Cur_ranked.j0 k s0_0 bt413.2.2.1 bt413.2.2.2 bt425.1 bt425.2)) else (none)))))) else (spec_l1Cur_ranked.j0 k s0_0 bt401.2.1 bt401.2.2 bt394.1 bt394.2.1)))
theorem spec_l1Cur_ranked.mono_l : ∀ k, (∀ y0 y1 y2 y3 y4, LeO (spec_l1Cur_ranked.j0 k y0 y1 y2 y3 y4) (spec_l1Cur_ranked.j0 (k + 1) y0 y1 y2 y3 y4))
 | 0 => fun _ _ _ _ _ r h => by simp [spec_l1Cur_ranked.j0] at h
 | k + 1 => by
  have ih0 := spec_l1Cur_ranked.mono_l k
  ·intro y0 y1 y2 y3 y4
   unfold spec_l1Cur_ranked.j0
   repeat' first
   | (with_reducible exact ih0 _ _ _ _ _)
   | (with_reducible exact spec_biList.mono _ _ _)
   | (with_reducible exact spec_biSome.mono _ _)
   | (with_reducible exact spec_l1Cur_anyBits.mono _ _ _ _)
   | (with_reducible exact spec_l1Cur_bits.mono _ _ _ _ _)
   | (with_reducible exact spec_raOf.mono _ _ _)
   | (with_reducible exact LeO.refl _)
   | (with_reducible exact LeO.none _)
   | (with_reducible refine LeO.ite ?_ ?_)
   | (with_reducible refine LeO.bind ?_ (fun _ => ?_))
   | exact ih0 _ _ _ _ _
   | exact spec_biList.mono _ _ _
   | exact spec_biSome.mono _ _
   | exact spec_l1Cur_anyBits.mono _ _ _ _
   | exact spec_l1Cur_bits.mono _ _ _ _ _
   | exact spec_raOf.mono _ _ _
   | exact LeO.none _
   | refine LeO.ite ?_ ?_
   | refine LeO.bind ?_ (fun _ => ?_)
theorem spec_l1Cur_ranked.mono : ∀ a0 a1 a2 k, LeO (spec_l1Cur_ranked.f k a0 a1 a2) (spec_l1Cur_ranked.f (k + 1) a0 a1 a2) := by
 intro a0 a1 a2 k
 have ih0 := spec_l1Cur_ranked.mono_l k
 unfold spec_l1Cur_ranked.f
 repeat' first
   | (with_reducible exact ih0 _ _ _ _ _)
   | (with_reducible exact spec_biList.mono _ _ _)
   | (with_reducible exact spec_biSome.mono _ _)
   | (with_reducible exact spec_l1Cur_anyBits.mono _ _ _ _)
   | (with_reducible exact spec_l1Cur_bits.mono _ _ _ _ _)
   | (with_reducible exact spec_raOf.mono _ _ _)
   | (with_reducible exact LeO.refl _)
   | (with_reducible exact LeO.none _)
   | (with_reducible refine LeO.ite ?_ ?_)
   | (with_reducible refine LeO.bind ?_ (fun _ => ?_))
   | exact ih0 _ _ _ _ _
   | exact spec_biList.mono _ _ _
   | exact spec_biSome.mono _ _
   | exact spec_l1Cur_anyBits.mono _ _ _ _
   | exact spec_l1Cur_bits.mono _ _ _ _ _
   | exact spec_raOf.mono _ _ _
   | exact LeO.none _
   | refine LeO.ite ?_ ?_
   | refine LeO.bind ?_ (fun _ => ?_)
def spec_l1Cur_ranked.T8 : Bool × List (List Nat × List Nat) := (true, [([], []), ([0], [0]), ([], []), ([], []), ([3], [3]), ([4], [4]), ([2, 5], [2, 5]), ([1, 6], [1, 6]), ([7], [7]), ([], []), ([9, 6], [9]), ([10], [10]), ([8, 11], [8, 11]), ([1, 6, 0, 1, 2, 3, 4, 5, 6, 7, 8, 9, 10, 11, 12], [1, 6]), ([13, 12, 10, 0, 1, 2, 3, 4, 5, 6, 7, 8, 9, 10, 11, 12], [12, 13])])
def spec_l1Cur_ranked.B8 : List Nat := [0, 1, 0, 0, 8, 24, 60, 127, 255, 0, 636, 1660, 4095, 8191, 16383]
theorem spec_l1Cur_ranked.tab8 : rtab .any (opsOf Try.f101 8) = spec_l1Cur_ranked.T8 := by kernel_rfl
theorem spec_l1Cur_ranked.bits8 : waitsOk spec_l1Cur_ranked.T8.2 spec_l1Cur_ranked.B8 = true := by kernel_rfl
def spec_l1Cur_ranked.T11 : Bool × List (List Nat × List Nat) := (true, [([], []), ([0], [0]), ([], []), ([], []), ([3], [3]), ([4], [4]), ([2, 5], [2, 5]), ([1, 6], [1, 6]), ([7], [7]), ([], []), ([9, 6], [9]), ([10], [10]), ([8, 11], [8, 11]), ([1, 6, 0, 1, 2, 3, 4, 5, 6, 7, 8, 9, 10, 11, 12], [1, 6]), ([13, 12, 10, 0, 1, 2, 3, 4, 5, 6, 7, 8, 9, 10, 11, 12], [12, 13])])
def spec_l1Cur_ranked.B11 : List Nat := [0, 1, 0, 0, 8, 24, 60, 127, 255, 0, 636, 1660, 4095, 8191, 16383]
theorem spec_l1Cur_ranked.tab11 : rtab .any (opsOf Try.f101 11) = spec_l1Cur_ranked.T11 := by kernel_rfl
theorem spec_l1Cur_ranked.bits11 : waitsOk spec_l1Cur_ranked.T11.2 spec_l1Cur_ranked.B11 = true := by kernel_rfl
set_option maxHeartbeats 8000000 in
set_option maxRecDepth 100000 in
theorem spec_l1Cur_ranked.calls (k : Nat) (g : Nat) (s0_0 : List Int) (s0_1 : Int) (s0_2 : Int) (r1 : Int) (r2 : List Int) (r3 : List Int) (r4 : List Int) (r5 : Int) (r6 : Int) (w0 w : World) (hI : IsS109 w0 w g s0_0 s0_1 s0_2) (hB : Below w0.heap.size w0 w) (h : spec_l1Cur_ranked.f k s0_0 s0_1 s0_2 = some (r1, r2, r3, r4, r5, r6)) :
  Calls Try.prog 101 #[.pointer (some ⟨g, 0, none⟩)] w fun e w' => ∃ v1_ v2_ v3_ : Value, e = .returned (.agg #[.int .i64 r1, v1_, v2_, v3_]) ∧ Kd.R (Kd.int .i64) 3 w' w.heap.size (fun k_ => nb_ k_ v2_ ∧ nb_ k_ v3_) v1_ r2 ∧ Kd.R (Kd.int .i64) 3 w' w.heap.size (fun k_ => nb_ k_ v1_ ∧ nb_ k_ v3_) v2_ r3 ∧ Kd.R (Kd.int .i64) 3 w' w.heap.size (fun k_ => nb_ k_ v1_ ∧ nb_ k_ v2_) v3_ r4 ∧ IsS109 w0 w' g s0_0 r5 r6 ∧ Below w0.heap.size w0 w' ∧ KeepBut w w' g none := by
 have hu48 := Try.underlying48
 have hu26 := Try.underlying26
 have HI0 := am_ hI
 have HK := am_ (KeepBut.refl w g none)
 have HL := am_ hB.size
 clear hI
 have HW0 := am_ hB.size
 have HB := am_ hB
 clear hB
 have H : ((spec_l1Cur_bits.f k s0_0 s0_1 s0_2 70).bind fun bt394 => ((spec_l1Cur_one.f s0_0 bt394.2.2.1 bt394.2.2.2 8).bind fun bt401 => (if bt401.1 = true then ((spec_l1Cur_bits.f k s0_0 bt401.2.1 bt401.2.2 200).bind fun bt404 => ((spec_biList.f k bt404.1 bt404.2.1).bind fun t410 => ((spec_l1Cur_bits.f k s0_0 bt404.2.2.1 bt404.2.2.2 200).bind fun bt413 => ((spec_biList.f k bt413.1 bt413.2.1).bind fun t419 => (if t410.length + t419.length < 140737488355328 then ((spec_biSome.f k (t410 ++ t419)).bind fun bt425 => (spec_l1Cur_ranked.j0 k s0_0 bt413.2.2.1 bt413.2.2.2 bt425.1 bt425.2)) else (none)))))) else (spec_l1Cur_ranked.j0 k s0_0 bt401.2.1 bt401.2.2 bt394.1 bt394.2.1)))) = some (r1, r2, r3, r4, r5, r6) := h
 clear h
 replace H := Option.bind_eq_some_iff.mp H
 obtain ⟨⟨t394, t395, t398, t399⟩, A20, H⟩ := H
 replace H : ((spec_l1Cur_one.f s0_0 t398 t399 8).bind fun bt401 => (if bt401.1 = true then ((spec_l1Cur_bits.f k s0_0 bt401.2.1 bt401.2.2 200).bind fun bt404 => ((spec_biList.f k bt404.1 bt404.2.1).bind fun t410 => ((spec_l1Cur_bits.f k s0_0 bt404.2.2.1 bt404.2.2.2 200).bind fun bt413 => ((spec_biList.f k bt413.1 bt413.2.1).bind fun t419 => (if t410.length + t419.length < 140737488355328 then ((spec_biSome.f k (t410 ++ t419)).bind fun bt425 => (spec_l1Cur_ranked.j0 k s0_0 bt413.2.2.1 bt413.2.2.2 bt425.1 bt425.2)) else (none)))))) else (spec_l1Cur_ranked.j0 k s0_0 bt401.2.1 bt401.2.2 t394 t395))) = some (r1, r2, r3, r4, r5, r6) := H
 have A2 := am_ A20
 clear A20
 replace H := Option.bind_eq_some_iff.mp H
 obtain ⟨⟨t401, t402, t403⟩, A30, H⟩ := H
 replace H : (if t401 = true then ((spec_l1Cur_bits.f k s0_0 t402 t403 200).bind fun bt404 => ((spec_biList.f k bt404.1 bt404.2.1).bind fun t410 => ((spec_l1Cur_bits.f k s0_0 bt404.2.2.1 bt404.2.2.2 200).bind fun bt413 => ((spec_biList.f k bt413.1 bt413.2.1).bind fun t419 => (if t410.length + t419.length < 140737488355328 then ((spec_biSome.f k (t410 ++ t419)).bind fun bt425 => (spec_l1Cur_ranked.j0 k s0_0 bt413.2.2.1 bt413.2.2.2 bt425.1 bt425.2)) else (none)))))) else (spec_l1Cur_ranked.j0 k s0_0 t402 t403 t394 t395)) = some (r1, r2, r3, r4, r5, r6) := H
 have A3 := am_ A30
 clear A30
 have HC4 := am_ H
 clear H
 go_enter Try.func101, Try.ntmps101
 go_upto_if 8 with (first | ((with_reducible refine gate_dst (N := 2) rfl ?_); refine bev_ 2 #[.int .i64 0, .slice none 0 0, .slice none 0 0, .slice none 0 0] 48 rfl rfl ?_; intro gb393 hg w5 hbox hb; have BK393 := am_ (hbox); have GW393 := am_ ((by rw [hg]; exact (keep_size (w := w) (g := g) (row := none) (lk_ HK)) : w.heap.size ≤ gb393)); have GE393 := am_ ((Nat.le_trans HW0.out (by rw [hg]; exact (keep_size (w := w) (g := g) (row := none) (lk_ HK)) : w.heap.size ≤ gb393) : w0.heap.size ≤ gb393)); have NB0_393 := am_ ((by rw [hg]; exact Nat.ne_of_lt (IsS109.lt (show IsS109 w0 _ g s0_0 s0_1 s0_2 from ls109_ HI0)) : g ≠ gb393)); have NB393_0 := am_ ((by rw [hg]; exact Nat.ne_of_gt (IsS109.lt (show IsS109 w0 _ g s0_0 s0_1 s0_2 from ls109_ HI0)) : gb393 ≠ g)); replace HI0 := am_ (IsS109.below (ls109_ HI0) hb); replace HK := am_ (KeepBut.trans (lk_ HK) (KeepBut.of_below hb g none) (.inl rfl)); replace HB := am_ (below_step (lv109_ HB) hb); clear hb hbox hg) | ((with_reducible refine gate_callee (f := 108) rfl ?_); refine goesL_ (some 6) rfl rfl Try.func108 (by kernel_rfl) rfl #[.pointer (some ⟨g, 0, none⟩), .int .i64 70] rfl lm_ ?_; (with_reducible refine (spec_l1Cur_bits.calls k g s0_0 s0_1 s0_2 70 t394 t395 t398 t399 w0 _ ?side1 ?side2 A2.out).mono ?_); (case side1 => exact ls109_ HI0); (case side2 => exact lv109_ HB); rintro e w6 ⟨v396, rfl, ho0, hi, hb, hk⟩; refine ⟨_, rfl, ?_⟩; have HO397 := am_ (Kd.R_lower ho0 (keep_size (w := w) (g := g) (row := none) (lk_ HK))); replace BK393 := am_ (KeepBut.blk hk (g' := gb393) (lb_ BK393) NB393_0.out (by simp)); replace HK := am_ (KeepBut.trans (lk_ HK) hk (.inl rfl)); replace HB := am_ (hb); replace HI0 := am_ (hi); (try clear hb); (try clear hb2); (try clear hk); (try clear hi); (try clear ho0)) | ((with_reducible refine gate_dst (N := 3) rfl ?_); refine bev_ 3 #[.int .i64 0, .slice none 0 0] 26 rfl rfl ?_; intro gb400 hg w7 hbox hb; have BK400 := am_ (hbox); have GW400 := am_ ((by rw [hg]; exact (keep_size (w := w) (g := g) (row := none) (lk_ HK)) : w.heap.size ≤ gb400)); have GE400 := am_ ((Nat.le_trans HW0.out (by rw [hg]; exact (keep_size (w := w) (g := g) (row := none) (lk_ HK)) : w.heap.size ≤ gb400) : w0.heap.size ≤ gb400)); have NB393_400 := am_ ((by rw [hg]; exact Nat.ne_of_lt (blk_lt (g := gb393) (lb_ BK393)) : gb393 ≠ gb400)); have NB400_393 := am_ ((by rw [hg]; exact Nat.ne_of_gt (blk_lt (g := gb393) (lb_ BK393)) : gb400 ≠ gb393)); have NB0_400 := am_ ((by rw [hg]; exact Nat.ne_of_lt (IsS109.lt (show IsS109 w0 _ g s0_0 t398 t399 from ls109_ HI0)) : g ≠ gb400)); have NB400_0 := am_ ((by rw [hg]; exact Nat.ne_of_gt (IsS109.lt (show IsS109 w0 _ g s0_0 t398 t399 from ls109_ HI0)) : gb400 ≠ g)); replace HO397 := am_ (Kd.R_below (lf_ HO397) hb); replace HI0 := am_ (IsS109.below (ls109_ HI0) hb); replace BK393 := am_ (blk_below (g := gb393) (lb_ BK393) hb); replace HK := am_ (KeepBut.trans (lk_ HK) (KeepBut.of_below hb g none) (.inl rfl)); replace HB := am_ (below_step (lv109_ HB) hb); clear hb hbox hg; have hnb8 := NB400_393.out; have hnc8 := NB393_400.out; have hnb9 := NB400_0.out; have hnc9 := NB0_400.out; obtain ⟨hcz10_0, hcz10_1, hfz10_0, hfz10_1⟩ := bx2_ BK400.out; obtain ⟨Ao11, co11, eo11⟩ := Kd.R_slice HO397.out; subst eo11) | ((with_reducible refine gate_callee (f := 105) rfl ?_); refine goesL_ (some 8) rfl rfl Try.func105 (by kernel_rfl) rfl #[.pointer (some ⟨g, 0, none⟩), .int .i64 8] rfl lm_ ?_; (with_reducible refine (spec_l1Cur_one.calls g s0_0 t398 t399 8 t401 t402 t403 w0 _ ?side1 ?side2 A3.out).mono ?_); (case side1 => exact ls109_ HI0); (case side2 => exact lv109_ HB); rintro e w12 ⟨rfl, hi, hb, hk⟩; refine ⟨_, rfl, ?_⟩; replace BK393 := am_ (KeepBut.blk hk (g' := gb393) (lg_ BK393) NB393_0.out (by simp)); replace HO397 := am_ (m1_ (Kd.R_keep (IsS109.apart (show IsS109 w0 _ g s0_0 t398 t399 from ls109_ HI0) (lt_ ((m1_ (fr2_ HO397.out BK400.out (.int .i64 t394) (.slice Ao11 t395.length co11))))) (by decide)) hk (fun _ h => h.2))); replace BK400 := am_ (KeepBut.blk hk (g' := gb400) (o := .cells #[.int .i64 t394, .slice Ao11 t395.length co11] 26 (0, 0)) (lq_ BK400) NB400_0.out (by simp)); replace HK := am_ (KeepBut.trans (lk_ HK) hk (.inl rfl)); replace HB := am_ (hb); replace HI0 := am_ (hi); (try clear hb); (try clear hb2); (try clear hk); (try clear hi)))
 (try simp only [Act.put, List.setIfInBounds_toArray, List.set_cons_zero, List.set_cons_succ])
 go_cut [] (fun wc => ∃ (kq : Nat) (x1001_3 : Int) (x1002_3 : Int) (x401000_3 : Int) (x401001_3 : List Int) (u401001 : Value), Aside0 (spec_l1Cur_ranked.j0 kq s0_0 x1001_3 x1002_3 x401000_3 x401001_3 = some (r1, r2, r3, r4, r5, r6)) ∧ Aside0 (kq ≤ k) ∧ Aside0 (Kd.R (Kd.int .i64) 3 wc w.heap.size (fun _ => True) u401001 x401001_3) ∧ Aside0 (wc.heap[gb393]? = some (.cells #[.int .i64 0, (.slice none 0 0), (.slice none 0 0), (.slice none 0 0)] 48 (0, 0))) ∧ Aside0 (wc.heap[gb400]? = some (.cells #[.int .i64 x401000_3, u401001] 26 (0, 0))) ∧ Aside0 (IsS109 w0 wc g s0_0 x1001_3 x1002_3) ∧ Aside0 (KeepBut w wc g none) ∧ Aside0 (Below w0.heap.size w0 wc))
 case first =>
  have H := HC4.out
  clear HC4
  by_cases c13 : t401 = true
  ·subst c13
   have H1 : ((spec_l1Cur_bits.f k s0_0 t402 t403 200).bind fun bt404 => ((spec_biList.f k bt404.1 bt404.2.1).bind fun t410 => ((spec_l1Cur_bits.f k s0_0 bt404.2.2.1 bt404.2.2.2 200).bind fun bt413 => ((spec_biList.f k bt413.1 bt413.2.1).bind fun t419 => (if t410.length + t419.length < 140737488355328 then ((spec_biSome.f k (t410 ++ t419)).bind fun bt425 => (spec_l1Cur_ranked.j0 k s0_0 bt413.2.2.1 bt413.2.2.2 bt425.1 bt425.2)) else (none)))))) = some (r1, r2, r3, r4, r5, r6) := by rw [if_pos rfl] at H; exact H
   clear H
   have H := H1
   clear H1
   replace H := Option.bind_eq_some_iff.mp H
   obtain ⟨⟨t404, t405, t408, t409⟩, A140, H⟩ := H
   replace H : ((spec_biList.f k t404 t405).bind fun t410 => ((spec_l1Cur_bits.f k s0_0 t408 t409 200).bind fun bt413 => ((spec_biList.f k bt413.1 bt413.2.1).bind fun t419 => (if t410.length + t419.length < 140737488355328 then ((spec_biSome.f k (t410 ++ t419)).bind fun bt425 => (spec_l1Cur_ranked.j0 k s0_0 bt413.2.2.1 bt413.2.2.2 bt425.1 bt425.2)) else (none))))) = some (r1, r2, r3, r4, r5, r6) := H
   have A14 := am_ A140
   clear A140
   replace H := Option.bind_eq_some_iff.mp H
   obtain ⟨t410, A150, H⟩ := H
   replace H : ((spec_l1Cur_bits.f k s0_0 t408 t409 200).bind fun bt413 => ((spec_biList.f k bt413.1 bt413.2.1).bind fun t419 => (if t410.length + t419.length < 140737488355328 then ((spec_biSome.f k (t410 ++ t419)).bind fun bt425 => (spec_l1Cur_ranked.j0 k s0_0 bt413.2.2.1 bt413.2.2.2 bt425.1 bt425.2)) else (none)))) = some (r1, r2, r3, r4, r5, r6) := H
   have A15 := am_ A150
   clear A150
   replace H := Option.bind_eq_some_iff.mp H
   obtain ⟨⟨t413, t414, t417, t418⟩, A160, H⟩ := H
   replace H : ((spec_biList.f k t413 t414).bind fun t419 => (if t410.length + t419.length < 140737488355328 then ((spec_biSome.f k (t410 ++ t419)).bind fun bt425 => (spec_l1Cur_ranked.j0 k s0_0 t417 t418 bt425.1 bt425.2)) else (none))) = some (r1, r2, r3, r4, r5, r6) := H
   have A16 := am_ A160
   clear A160
   replace H := Option.bind_eq_some_iff.mp H
   obtain ⟨t419, A170, H⟩ := H
   replace H : (if t410.length + t419.length < 140737488355328 then ((spec_biSome.f k (t410 ++ t419)).bind fun bt425 => (spec_l1Cur_ranked.j0 k s0_0 t417 t418 bt425.1 bt425.2)) else (none)) = some (r1, r2, r3, r4, r5, r6) := H
   have A17 := am_ A170
   clear A170
   by_cases c18 : t410.length + t419.length < 140737488355328
   ·rw [if_pos c18] at H
    have LMc18 := am_ c18
    clear c18
    obtain ⟨y422, hy422⟩ : ∃ y_ : List Bool, y_ = (t410 ++ t419) := ⟨_, rfl⟩
    replace H : ((spec_biSome.f k y422).bind fun bt425 => (spec_l1Cur_ranked.j0 k s0_0 t417 t418 bt425.1 bt425.2)) = some (r1, r2, r3, r4, r5, r6) := by first | (rw [hy422]; with_reducible exact H) | (have H2_ := (Option.bind_some _ _).symm.trans H; rw [hy422]; with_reducible exact H2_) | (have H2_ := (Option.bind_some _ _).symm.trans H; with_reducible exact H2_) | with_reducible exact H | (rw [hy422]; exact H) | exact H
    have Ny422 := am_ hy422
    clear hy422
    replace H := Option.bind_eq_some_iff.mp H
    obtain ⟨⟨t425, t426⟩, A190, H⟩ := H
    replace H : (spec_l1Cur_ranked.j0 k s0_0 t417 t418 t425 t426) = some (r1, r2, r3, r4, r5, r6) := H
    have A19 := am_ A190
    clear A190
    have H' := am_ H
    clear H
    go_wp2_with (first | ((with_reducible refine gate_callee (f := 108) rfl ?_); refine goesL_ (some 10) rfl rfl Try.func108 (by kernel_rfl) rfl #[.pointer (some ⟨g, 0, none⟩), .int .i64 200] rfl lm_ ?_; (with_reducible refine (spec_l1Cur_bits.calls k g s0_0 t402 t403 200 t404 t405 t408 t409 w0 _ ?side1 ?side2 A14.out).mono ?_); (case side1 => exact ls109_ HI0); (case side2 => exact lv109_ HB); rintro e w20 ⟨v406, rfl, ho0, hi, hb, hk⟩; refine ⟨_, rfl, ?_⟩; have HO407 := am_ (Kd.R_lower (nw_ ho0 HO397) (keep_size (w := w) (g := g) (row := none) (lk_ HK))); replace BK393 := am_ (KeepBut.blk hk (g' := gb393) (lb_ BK393) NB393_0.out (by simp)); replace HO397 := am_ (m1_ (td_ (Kd.R_oldK (IsS109.apart (show IsS109 w0 _ g s0_0 t402 t403 from ls109_ HI0) (lf_ HO397) (by decide)) hk) ho0)); replace BK400 := am_ (KeepBut.blk hk (g' := gb400) (lb_ BK400) NB400_0.out (by simp)); replace HK := am_ (KeepBut.trans (lk_ HK) hk (.inl rfl)); replace HB := am_ (hb); replace HI0 := am_ (hi); (try clear hb); (try clear hb2); (try clear hk); (try clear hi); (try clear ho0); obtain ⟨Ao21, co21, eo21⟩ := Kd.R_slice HO407.out; subst eo21) | ((with_reducible refine gate_callee (f := 71) rfl ?_); refine goesL_ (some 11) rfl rfl Try.func71 (by kernel_rfl) rfl #[.agg #[.int .i64 t404, .slice Ao21 t405.length co21]] rfl lm_ ?_; (with_reducible refine (spec_biList.calls k t404 _ _ t405 t410 _ ?side1 ?side2 A15.out).mono ?_); (case side1 => exact lc_ (Kd.R_reads' HO407.out).2.2); (case side2 => exact (Kd.R_reads' HO407.out).2.1); rintro e w22 ⟨v411, rfl, ho0, hb⟩; refine ⟨_, rfl, ?_⟩; have HO412 := am_ (Kd.R_lower ho0 (keep_size (w := w) (g := g) (row := none) (lk_ HK))); replace HO397 := am_ (Kd.R_below (lf_ HO397) hb); replace HO407 := am_ (Kd.R_below (lf_ HO407) hb); replace HI0 := am_ (IsS109.below (ls109_ HI0) hb); replace BK393 := am_ (blk_below (g := gb393) (lb_ BK393) hb); replace BK400 := am_ (blk_below (g := gb400) (lb_ BK400) hb); replace HK := am_ (KeepBut.trans (lk_ HK) (KeepBut.of_below hb g none) (.inl rfl)); replace HB := am_ (below_step (lv109_ HB) hb); (try clear hb); (try clear hb2); (try clear hk); (try clear hi); (try clear ho0)) | ((with_reducible refine gate_callee (f := 108) rfl ?_); refine goesL_ (some 13) rfl rfl Try.func108 (by kernel_rfl) rfl #[.pointer (some ⟨g, 0, none⟩), .int .i64 200] rfl lm_ ?_; (with_reducible refine (spec_l1Cur_bits.calls k g s0_0 t408 t409 200 t413 t414 t417 t418 w0 _ ?side1 ?side2 A16.out).mono ?_); (case side1 => exact ls109_ HI0); (case side2 => exact lv109_ HB); rintro e w23 ⟨v415, rfl, ho0, hi, hb, hk⟩; refine ⟨_, rfl, ?_⟩; have HO416 := am_ (Kd.R_lower (nw_ (nw_ ho0 HO397) HO407) (keep_size (w := w) (g := g) (row := none) (lk_ HK))); replace BK393 := am_ (KeepBut.blk hk (g' := gb393) (lb_ BK393) NB393_0.out (by simp)); replace HO397 := am_ (m1_ (td_ (Kd.R_oldK (IsS109.apart (show IsS109 w0 _ g s0_0 t408 t409 from ls109_ HI0) (lf_ HO397) (by decide)) hk) ho0)); replace BK400 := am_ (KeepBut.blk hk (g' := gb400) (lb_ BK400) NB400_0.out (by simp)); replace HO407 := am_ (m1_ (td_ (Kd.R_oldK (IsS109.apart (show IsS109 w0 _ g s0_0 t408 t409 from ls109_ HI0) (lf_ HO407) (by decide)) hk) ho0)); replace HO412 := am_ (m1_ (Kd.R_keep (IsS109.apart (show IsS109 w0 _ g s0_0 t408 t409 from ls109_ HI0) (lf_ HO412) (by decide)) hk (fun _ h => h.2))); replace HK := am_ (KeepBut.trans (lk_ HK) hk (.inl rfl)); replace HB := am_ (hb); replace HI0 := am_ (hi); (try clear hb); (try clear hb2); (try clear hk); (try clear hi); (try clear ho0); obtain ⟨Ao24, co24, eo24⟩ := Kd.R_slice HO416.out; subst eo24) | ((with_reducible refine gate_callee (f := 71) rfl ?_); refine goesL_ (some 14) rfl rfl Try.func71 (by kernel_rfl) rfl #[.agg #[.int .i64 t413, .slice Ao24 t414.length co24]] rfl lm_ ?_; (with_reducible refine (spec_biList.calls k t413 _ _ t414 t419 _ ?side1 ?side2 A17.out).mono ?_); (case side1 => exact lc_ (Kd.R_reads' HO416.out).2.2); (case side2 => exact (Kd.R_reads' HO416.out).2.1); rintro e w25 ⟨v420, rfl, ho0, hb⟩; refine ⟨_, rfl, ?_⟩; have HO421 := am_ (Kd.R_lower (nw_ ho0 HO412) (keep_size (w := w) (g := g) (row := none) (lk_ HK))); replace HO397 := am_ (Kd.R_below (lf_ HO397) hb); replace HO407 := am_ (Kd.R_below (lf_ HO407) hb); replace HO412 := am_ (Kd.R_elder' (lf_ HO412) (Kd.R_base ho0) hb); replace HO416 := am_ (Kd.R_below (lf_ HO416) hb); replace HI0 := am_ (IsS109.below (ls109_ HI0) hb); replace BK393 := am_ (blk_below (g := gb393) (lb_ BK393) hb); replace BK400 := am_ (blk_below (g := gb400) (lb_ BK400) hb); replace HK := am_ (KeepBut.trans (lk_ HK) (KeepBut.of_below hb g none) (.inl rfl)); replace HB := am_ (below_step (lv109_ HB) hb); (try clear hb); (try clear hb2); (try clear hk); (try clear hi); (try clear ho0); obtain ⟨Ao27, co27, eo27⟩ := Kd.R_slice HO421.out; subst eo27) | ((with_reducible refine gate_builtin (b := .append) (xs := #[.tmp 11, .tmp 14]) rfl ?_); at_builtin; refine Kd.R_append_rows Kd.bool w.heap.size rfl (.tmp 11) (.tmp 14) 88 4 (.bool false) 1 rfl Try.underlying88 info4 rfl (by decide) (by omega) v411 t410 t419 _ _ _ (fun k_ => ns_ k_ Ao27 t419 co27) (fun _ => False) rfl rfl ?aO ?aR (fun _ _ h => h) (fun _ h => h.elim) ?aF (Below.refl _ _) ?aS ?aL ?_; (case aR => exact lc_ (Kd.R_reads' HO421.out).2.2); (case aF => exact (fun k_ hk => Kd.fresh' (Kd.R_lt (lf_ HO421)) k_ hk)); (case aO => exact (lt_ (m2_ HO412.out))); (case aS => exact (keep_size (w := w) (g := g) (row := none) (lk_ HK))); (case aL => have := LMc18.out; omega); intro v423 w26 ho hb hg hat; rw [← Ny422.out] at ho; have HO424 := am_ (ho); replace HI0 := am_ (IsS109.grown (ls109_ HI0) hg (IsS109.own_ne HI0.out HO412.out (by decide))); replace BK393 := am_ (blk_grown (g := gb393) (lb_ BK393) hg (Kd.R_ne HO412.out BK393.out (by decide))); replace HO397 := am_ (Kd.R_over' (lf_ HO397) (Kd.R_typed (lf_ HO412)) (by decide) hg); replace BK400 := am_ (blk_grown (g := gb400) (lb_ BK400) hg (Kd.R_ne HO412.out BK400.out (by decide))); replace HO407 := am_ (Kd.R_over' (lf_ HO407) (Kd.R_typed (lf_ HO412)) (by decide) hg); replace HO416 := am_ (Kd.R_over' (lf_ HO416) (Kd.R_typed (lf_ HO412)) (by decide) hg); replace HO421 := am_ (Kd.R_after (ok := (fun _ => True)) (lf_ HO421) hg hat); replace HB := am_ (below_weaken (lv109_ HB) HL.out hb); replace HK := am_ (KeepBut.trans (lk_ HK) (KeepBut.of_grown hg g) (Kd.R_base2 HO412.out)); clear HO412; clear ho hb hg hat; obtain ⟨Ao28, co28, eo28⟩ := Kd.R_slice HO424.out; subst eo28) | ((with_reducible refine gate_callee (f := 72) rfl ?_); refine goesL_ (some 16) rfl rfl Try.func72 (by kernel_rfl) rfl #[.slice Ao28 y422.length co28] rfl lm_ ?_; (with_reducible refine (spec_biSome.calls k _ _ y422 t425 t426 _ ?side1 ?side2 A19.out).mono ?_); (case side1 => exact lc_ (Kd.R_reads' HO424.out).2.2); (case side2 => exact (Kd.R_reads' HO424.out).2.1); rintro e w29 ⟨v427, rfl, ho0, hb⟩; refine ⟨_, rfl, ?_⟩; have HO428 := am_ (Kd.R_lower (nw_ (nw_ (nw_ ho0 HO397) HO407) HO416) (keep_size (w := w) (g := g) (row := none) (lk_ HK))); replace HO397 := am_ (Kd.R_elder' (lf_ HO397) (Kd.R_base ho0) hb); replace HO407 := am_ (Kd.R_elder' (lf_ HO407) (Kd.R_base ho0) hb); replace HO416 := am_ (Kd.R_elder' (lf_ HO416) (Kd.R_base ho0) hb); replace HO421 := am_ (Kd.R_below (lf_ HO421) hb); replace HO424 := am_ (Kd.R_below (lf_ HO424) hb); replace HI0 := am_ (IsS109.below (ls109_ HI0) hb); replace BK393 := am_ (blk_below (g := gb393) (lb_ BK393) hb); replace BK400 := am_ (blk_below (g := gb400) (lb_ BK400) hb); replace HK := am_ (KeepBut.trans (lk_ HK) (KeepBut.of_below hb g none) (.inl rfl)); replace HB := am_ (below_step (lv109_ HB) hb); (try clear hb); (try clear hb2); (try clear hk); (try clear hi); (try clear ho0); have hnb30 := NB400_393.out; have hnc30 := NB393_400.out; have hnb31 := NB400_0.out; have hnc31 := NB0_400.out; obtain ⟨hcz32_0, hcz32_1, hfz32_0, hfz32_1⟩ := bx2_ BK400.out; obtain ⟨Ao33, co33, eo33⟩ := Kd.R_slice HO428.out; subst eo33))
    go_meet
    case rel => exact ⟨_, (t417), (t418), (t425), (t426), (.slice Ao33 t426.length co33), H', ⟨by first | omega | exact Nat.le_refl _⟩, ⟨lt_ (mt_ (fr2_ HO428.out BK400.out (.int .i64 t425) (.slice Ao33 t426.length co33)))⟩, ⟨lg_ BK393⟩, ⟨lq_ BK400⟩, ⟨ls109_ HI0⟩, ⟨lk_ HK⟩, ⟨lv109_ HB⟩⟩
   ·rw [if_neg c18] at H
    exact absurd H (by simp)
  ·replace c13 := Bool.eq_false_iff.mpr c13
   subst c13
   have H1 : (spec_l1Cur_ranked.j0 k s0_0 t402 t403 t394 t395) = some (r1, r2, r3, r4, r5, r6) := by rw [if_neg (show ¬ (false = true) by decide)] at H; exact H
   clear H
   have H := H1
   clear H1
   have H' := am_ H
   clear H
   go_wp2
   go_meet
   case rel => exact ⟨_, (t402), (t403), (t394), (t395), (.slice Ao11 t395.length co11), H', ⟨by first | omega | exact Nat.le_refl _⟩, ⟨lf_ HO397⟩, ⟨lb_ BK393⟩, ⟨lb_ BK400⟩, ⟨ls109_ HI0⟩, ⟨lk_ HK⟩, ⟨lv109_ HB⟩⟩
 case rest =>
  clear HC4
  try clear c1
  try clear p2
  try clear c3
  try clear c7
  try clear c8
  try clear c9
  try clear c10
  try clear c13
  try clear c18
  try clear c30
  try clear c31
  try clear hcz10_0
  try clear hcz10_1
  try clear hcz32_0
  try clear hcz32_1
  try clear hfz10_0
  try clear hfz10_1
  try clear hfz32_0
  try clear hfz32_1
  obtain ⟨kq, x1001_3, x1002_3, x401000_3, x401001_3, u401001, HA, HJ3, HO_401001, BK393, BK400, HI0, HK, HB⟩ := hcut
  cases kq with
  | zero => exact absurd HA.out (by simp [spec_l1Cur_ranked.j0])
  | succ kj3 =>
   have H := HA.out
   clear HA
   simp only [spec_l1Cur_ranked.j0] at H
   replace H := Option.bind_eq_some_iff.mp H
   obtain ⟨⟨t429, t430, t433, t436⟩, A340, H⟩ := H
   replace H : ((spec_l1Cur_pick.f s0_0 x1001_3 x1002_3 14).bind fun bt440 => (if bt440.1 = 0 then (if (t433.length : Int) > 0 then ((spec_l1Cur_pick.f s0_0 bt440.2.1 bt440.2.2 (t433.length : Int)).bind fun bt443 => (if 0 ≤ bt443.1 then (if bt443.1 < (t433.length : Int) then ((spec_l1Cur_pick.f s0_0 bt443.2.1 bt443.2.2 3).bind fun bt447 => (some (t429, t430, (t433.set (bt443.1 : Int).toNat (wrap64 ((rd t433 bt443.1) + (wrap64 (bt447.1 - 1))))), t436, bt447.2.1, bt447.2.2))) else (none)) else (none))) else (some (t429, t430, t433, t436, bt440.2.1, bt440.2.2))) else (if bt440.1 = 1 then (if (t436.length : Int) > 0 then ((spec_l1Cur_pick.f s0_0 bt440.2.1 bt440.2.2 (t436.length : Int)).bind fun bt451 => (if 0 ≤ bt451.1 then (if bt451.1 < (t436.length : Int) then ((spec_l1Cur_pick.f s0_0 bt451.2.1 bt451.2.2 3).bind fun bt455 => (some (t429, t430, t433, (t436.set (bt451.1 : Int).toNat (wrap64 ((rd t436 bt451.1) + (wrap64 (bt455.1 - 1))))), bt455.2.1, bt455.2.2))) else (none)) else (none))) else (some (t429, t430, t433, t436, bt440.2.1, bt440.2.2))) else (if bt440.1 = 2 then (if t436.length < 17592186044416 then (some (t429, t430, t433, (t436 ++ [0]), bt440.2.1, bt440.2.2)) else (none)) else (if bt440.1 = 3 then ((spec_l1Cur_anyBits.f kj3 s0_0 bt440.2.1 bt440.2.2).bind fun bt462 => (some (bt462.1, bt462.2.1, t433, t436, bt462.2.2.1, bt462.2.2.2))) else (some (t429, t430, t433, t436, bt440.2.1, bt440.2.2))))))) = some (r1, r2, r3, r4, r5, r6) := H
   have A34 := am_ A340
   clear A340
   replace H := Option.bind_eq_some_iff.mp H
   obtain ⟨⟨t440, t441, t442⟩, A350, H⟩ := H
   replace H : (if t440 = 0 then (if (t433.length : Int) > 0 then ((spec_l1Cur_pick.f s0_0 t441 t442 (t433.length : Int)).bind fun bt443 => (if 0 ≤ bt443.1 then (if bt443.1 < (t433.length : Int) then ((spec_l1Cur_pick.f s0_0 bt443.2.1 bt443.2.2 3).bind fun bt447 => (some (t429, t430, (t433.set (bt443.1 : Int).toNat (wrap64 ((rd t433 bt443.1) + (wrap64 (bt447.1 - 1))))), t436, bt447.2.1, bt447.2.2))) else (none)) else (none))) else (some (t429, t430, t433, t436, t441, t442))) else (if t440 = 1 then (if (t436.length : Int) > 0 then ((spec_l1Cur_pick.f s0_0 t441 t442 (t436.length : Int)).bind fun bt451 => (if 0 ≤ bt451.1 then (if bt451.1 < (t436.length : Int) then ((spec_l1Cur_pick.f s0_0 bt451.2.1 bt451.2.2 3).bind fun bt455 => (some (t429, t430, t433, (t436.set (bt451.1 : Int).toNat (wrap64 ((rd t436 bt451.1) + (wrap64 (bt455.1 - 1))))), bt455.2.1, bt455.2.2))) else (none)) else (none))) else (some (t429, t430, t433, t436, t441, t442))) else (if t440 = 2 then (if t436.length < 17592186044416 then (some (t429, t430, t433, (t436 ++ [0]), t441, t442)) else (none)) else (if t440 = 3 then ((spec_l1Cur_anyBits.f kj3 s0_0 t441 t442).bind fun bt462 => (some (bt462.1, bt462.2.1, t433, t436, bt462.2.2.1, bt462.2.2.2))) else (some (t429, t430, t433, t436, t441, t442)))))) = some (r1, r2, r3, r4, r5, r6) := H
   have A35 := am_ A350
   clear A350
   by_cases c36 : t440 = 0
   ·rw [if_pos c36] at H
    have c36b0 : (t440 == 0) = true := beq_iff_eq.mpr c36
    have c36b1 : (t440 != 0) = false := bne_eq_false_iff_eq.mpr c36
    clear c36
    by_cases c37 : (t433.length : Int) > 0
    ·rw [if_pos c37] at H
     have c37b0 : decide (0 < (t433.length : Int)) = true := decide_eq_true c37
     have c37b1 : decide (0 < t433.length) = true := decide_eq_true (by omega)
     clear c37
     replace H := Option.bind_eq_some_iff.mp H
     obtain ⟨⟨t443, t444, t445⟩, A380, H⟩ := H
     replace H : (if 0 ≤ t443 then (if t443 < (t433.length : Int) then ((spec_l1Cur_pick.f s0_0 t444 t445 3).bind fun bt447 => (some (t429, t430, (t433.set (t443 : Int).toNat (wrap64 ((rd t433 t443) + (wrap64 (bt447.1 - 1))))), t436, bt447.2.1, bt447.2.2))) else (none)) else (none)) = some (r1, r2, r3, r4, r5, r6) := H
     have A38 := am_ A380
     clear A380
     by_cases c39 : 0 ≤ t443
     ·rw [if_pos c39] at H
      have c39b0 : decide (0 ≤ t443) = true := decide_eq_true c39
      clear c39
      by_cases c40 : t443 < (t433.length : Int)
      ·rw [if_pos c40] at H
       have c40b0 : decide (t443 < (t433.length : Int)) = true := decide_eq_true c40
       clear c40
       replace H := Option.bind_eq_some_iff.mp H
       obtain ⟨⟨t447, t448, t449⟩, A410, H⟩ := H
       replace H : (some (t429, t430, (t433.set (t443 : Int).toNat (wrap64 ((rd t433 t443) + (wrap64 (t447 - 1))))), t436, t448, t449)) = some (r1, r2, r3, r4, r5, r6) := H
       have A41 := am_ A410
       clear A410
       obtain ⟨y450, hy450⟩ : ∃ y_ : List Int, y_ = (t433.set (t443 : Int).toNat (wrap64 ((rd t433 t443) + (wrap64 (t447 - 1))))) := ⟨_, rfl⟩
       replace H : (some (t429, t430, y450, t436, t448, t449)) = some (r1, r2, r3, r4, r5, r6) := by first | (rw [hy450]; with_reducible exact H) | (have H2_ := (Option.bind_some _ _).symm.trans H; rw [hy450]; with_reducible exact H2_) | (have H2_ := (Option.bind_some _ _).symm.trans H; with_reducible exact H2_) | with_reducible exact H | (rw [hy450]; exact H) | exact H
       have Ny450 := am_ hy450
       clear hy450
       simp only [Option.some.injEq, Prod.mk.injEq] at H
       obtain ⟨rfl, rfl, rfl, rfl, rfl, rfl⟩ := H
       have hnb43 := NB400_393.out
       have hnc43 := NB393_400.out
       have hnb44 := NB400_0.out
       have hnc44 := NB0_400.out
       obtain ⟨hcz45_0, hcz45_1, hfz45_0, hfz45_1⟩ := bx2_ BK400.out
       obtain ⟨Ao46, co46, eo46⟩ := Kd.R_slice HO_401001.out
       subst eo46
       try go_wp2_with (first | ((with_reducible refine gate_callee (f := 95) rfl ?_); refine goesL_ (some 18) rfl rfl Try.func95 (by kernel_rfl) rfl #[.agg #[.int .i64 x401000_3, .slice Ao46 x401001_3.length co46]] rfl lm_ ?_; (with_reducible refine (spec_raOf.calls kj3 x401000_3 _ _ x401001_3 t429 t430 t433 t436 _ ?side1 ?side2 A34.out).mono ?_); (case side1 => exact lc_ (Kd.R_reads' HO_401001.out).2.2); (case side2 => exact (Kd.R_reads' HO_401001.out).2.1); rintro e w47 ⟨v431, v434, v437, rfl, ho0, ho1, ho2, hb⟩; refine ⟨_, rfl, ?_⟩; have HO432 := am_ (Kd.R_lower (nw_ ho0 HO_401001) (keep_size (w := w) (g := g) (row := none) (lk_ HK))); have HO435 := am_ (Kd.R_lower (nw_ ho1 HO_401001) (keep_size (w := w) (g := g) (row := none) (lk_ HK))); have HO438 := am_ (Kd.R_lower (nw_ ho2 HO_401001) (keep_size (w := w) (g := g) (row := none) (lk_ HK))); replace HO_401001 := am_ (m1_ (td_ (td_ (td_ (Kd.R_old (lf_ HO_401001) hb) ho0) ho1) ho2)); replace BK393 := am_ (blk_below (g := gb393) (lb_ BK393) hb); replace BK400 := am_ (blk_below (g := gb400) (lb_ BK400) hb); replace HI0 := am_ (IsS109.below (ls109_ HI0) hb); replace HK := am_ (KeepBut.trans (lk_ HK) (KeepBut.of_below hb g none) (.inl rfl)); replace HB := am_ (below_step (lv109_ HB) hb); (try clear hb); (try clear hb2); (try clear hk); (try clear hi); (try clear ho0); (try clear ho1); (try clear ho2)) | ((with_reducible refine gate_dst (N := 4) rfl ?_); refine bev_ 4 #[.int .i64 0, .slice none 0 0, .slice none 0 0, .slice none 0 0] 48 rfl rfl ?_; intro gb439 hg w48 hbox hb; have BK439 := am_ (hbox); have GW439 := am_ ((by rw [hg]; exact (keep_size (w := w) (g := g) (row := none) (lk_ HK)) : w.heap.size ≤ gb439)); have GE439 := am_ ((Nat.le_trans HW0.out (by rw [hg]; exact (keep_size (w := w) (g := g) (row := none) (lk_ HK)) : w.heap.size ≤ gb439) : w0.heap.size ≤ gb439)); have NB393_439 := am_ ((by rw [hg]; exact Nat.ne_of_lt (blk_lt (g := gb393) (lb_ BK393)) : gb393 ≠ gb439)); have NB439_393 := am_ ((by rw [hg]; exact Nat.ne_of_gt (blk_lt (g := gb393) (lb_ BK393)) : gb439 ≠ gb393)); have NB400_439 := am_ ((by rw [hg]; exact Nat.ne_of_lt (blk_lt (g := gb400) (lb_ BK400)) : gb400 ≠ gb439)); have NB439_400 := am_ ((by rw [hg]; exact Nat.ne_of_gt (blk_lt (g := gb400) (lb_ BK400)) : gb439 ≠ gb400)); have NB0_439 := am_ ((by rw [hg]; exact Nat.ne_of_lt (IsS109.lt (show IsS109 w0 _ g s0_0 x1001_3 x1002_3 from ls109_ HI0)) : g ≠ gb439)); have NB439_0 := am_ ((by rw [hg]; exact Nat.ne_of_gt (IsS109.lt (show IsS109 w0 _ g s0_0 x1001_3 x1002_3 from ls109_ HI0)) : gb439 ≠ g)); replace HO_401001 := am_ (Kd.R_below (lf_ HO_401001) hb); replace HO432 := am_ (Kd.R_below (lf_ HO432) hb); replace HO435 := am_ (Kd.R_below (lf_ HO435) hb); replace HO438 := am_ (Kd.R_below (lf_ HO438) hb); replace BK393 := am_ (blk_below (g := gb393) (lb_ BK393) hb); replace BK400 := am_ (blk_below (g := gb400) (lb_ BK400) hb); replace HI0 := am_ (IsS109.below (ls109_ HI0) hb); replace HK := am_ (KeepBut.trans (lk_ HK) (KeepBut.of_below hb g none) (.inl rfl)); replace HB := am_ (below_step (lv109_ HB) hb); clear hb hbox hg; have hnb49 := NB439_393.out; have hnc49 := NB393_439.out; have hnb50 := NB439_400.out; have hnc50 := NB400_439.out; have hnb51 := NB439_0.out; have hnc51 := NB0_439.out; obtain ⟨hcz52_0, hcz52_1, hcz52_2, hcz52_3, hfz52_0, hfz52_1, hfz52_2, hfz52_3⟩ := bx4_ BK439.out; obtain ⟨Ao53, co53, eo53⟩ := Kd.R_slice HO432.out; subst eo53; obtain ⟨Ao54, co54, eo54⟩ := Kd.R_slice HO435.out; subst eo54; obtain ⟨Ao55, co55, eo55⟩ := Kd.R_slice HO438.out; subst eo55) | ((with_reducible refine gate_callee (f := 107) rfl ?_); refine goesL_ (some 20) rfl rfl Try.func107 (by kernel_rfl) rfl #[.pointer (some ⟨g, 0, none⟩), .int .i64 14] rfl lm_ ?_; (with_reducible refine (spec_l1Cur_pick.calls g s0_0 x1001_3 x1002_3 14 t440 t441 t442 w0 _ ?side1 ?side2 A35.out).mono ?_); (case side1 => exact ls109_ HI0); (case side2 => exact lv109_ HB); rintro e w56 ⟨rfl, hi, hb, hk⟩; refine ⟨_, rfl, ?_⟩; replace HO_401001 := am_ (m1_ (Kd.R_keep (IsS109.apart (show IsS109 w0 _ g s0_0 x1001_3 x1002_3 from ls109_ HI0) (lt_ ((m1_ (fr4_ HO_401001.out BK439.out (.int .i64 t429) (.slice Ao53 t430.length co53) (.slice Ao54 t433.length co54) (.slice Ao55 t436.length co55))))) (by decide)) hk (fun _ h => h.2))); replace BK393 := am_ (KeepBut.blk hk (g' := gb393) (lg_ BK393) NB393_0.out (by simp)); replace BK400 := am_ (KeepBut.blk hk (g' := gb400) (lg_ BK400) NB400_0.out (by simp)); replace HO432 := am_ (m1_ (Kd.R_keep (IsS109.apart (show IsS109 w0 _ g s0_0 x1001_3 x1002_3 from ls109_ HI0) (lt_ ((m1_ (fr4_ HO432.out BK439.out (.int .i64 t429) (.slice Ao53 t430.length co53) (.slice Ao54 t433.length co54) (.slice Ao55 t436.length co55))))) (by decide)) hk (fun _ h => h.2))); replace HO435 := am_ (m1_ (Kd.R_keep (IsS109.apart (show IsS109 w0 _ g s0_0 x1001_3 x1002_3 from ls109_ HI0) (lt_ ((m1_ (fr4_ HO435.out BK439.out (.int .i64 t429) (.slice Ao53 t430.length co53) (.slice Ao54 t433.length co54) (.slice Ao55 t436.length co55))))) (by decide)) hk (fun _ h => h.2))); replace HO438 := am_ (m1_ (Kd.R_keep (IsS109.apart (show IsS109 w0 _ g s0_0 x1001_3 x1002_3 from ls109_ HI0) (lt_ ((m1_ (fr4_ HO438.out BK439.out (.int .i64 t429) (.slice Ao53 t430.length co53) (.slice Ao54 t433.length co54) (.slice Ao55 t436.length co55))))) (by decide)) hk (fun _ h => h.2))); replace BK439 := am_ (KeepBut.blk hk (g' := gb439) (o := .cells #[.int .i64 t429, .slice Ao53 t430.length co53, .slice Ao54 t433.length co54, .slice Ao55 t436.length co55] 48 (0, 0)) (lq_ BK439) NB439_0.out (by simp)); replace HK := am_ (KeepBut.trans (lk_ HK) hk (.inl rfl)); replace HB := am_ (hb); replace HI0 := am_ (hi); (try clear hb); (try clear hb2); (try clear hk); (try clear hi); obtain ⟨hcz57_0, hcz57_1, hcz57_2, hcz57_3, hfz57_0, hfz57_1, hfz57_2, hfz57_3⟩ := bx4_ BK439.out))
       replace HO_401001 := am_ (Kd.R_drew HO_401001.out); replace HO432 := am_ (Kd.R_drew HO432.out); replace HO435 := am_ (Kd.R_drew HO435.out); replace HO438 := am_ (Kd.R_drew HO438.out); replace BK393 := am_ (blk_drew BK393.out); replace BK400 := am_ (blk_drew BK400.out); replace BK439 := am_ (blk_drew BK439.out); replace HI0 := am_ (IsS109.drew HI0.out); replace HK := am_ (keep_drew HK.out); replace HB := am_ (below_drew1 HB.out)
       have p446 : 0 ≤ (t443 : Int) := of_decide_eq_true (by first | (with_reducible assumption) | assumption)
       have q446 : t443 < (t433.length : Int) := of_decide_eq_true (by first | (with_reducible assumption) | assumption)
       obtain ⟨ad446, e446, hx446_0⟩ := Kd.at_int (Kd.R_reads' HO435.out).2.2 t443 p446 q446
       cases e446
       replace p446 := eq_true p446
       replace q446 := eq_true q446
       refine start_ (n := 15) (S := fun w' => w'.cell? ⟨gb439, 0, none⟩ = some (.int .i64 t429) ∧ w'.cell? ⟨gb439, 1, none⟩ = some (.slice Ao53 t430.length co53) ∧ w'.cell? ⟨gb439, 2, none⟩ = some (.slice (some ad446) t433.length co54) ∧ w'.cell? ⟨gb439, 3, none⟩ = some (.slice Ao55 t436.length co55) ∧ w'.cell? (ad446.add (t443).toNat) = some (.int .i64 (rd t433 t443))) (ds := [14]) #[false, false, false, false, false, false, false, false, false, false, false, false, false, false, false] (by kernel_rfl) rfl rfl ⟨(blk_cell BK439.out 0).trans rfl, (blk_cell BK439.out 1).trans rfl, (blk_cell BK439.out 2).trans rfl, (blk_cell BK439.out 3).trans rfl, hx446_0⟩ (fun hHeld => ?_); refine with_tabW spec_l1Cur_ranked.tab8 spec_l1Cur_ranked.bits8 (fun HT_ HW_ => ?_)
       generalize w56.drew = w58 at HO_401001 HO432 HO435 HO438 BK393 BK400 BK439 HI0 HK HB hx446_0 hHeld ⊢
       refine pure_ (i := 0) (N := some 27) (v := ?_) (a' := ?_) #[true, false, false, false, false, false, false, false, false, false, false, false, false, false, false] rfl rfl (any_of HT_.out (by kernel_rfl)) (fun _ _ _ h => h) (Or.inl ⟨by rfl, ?_⟩) ?_ ?_
       rotate_left
       ·intro w'
        go_simp
        with_reducible rfl
       rotate_left
       ·simp only [Act.put, List.setIfInBounds_toArray, List.set_cons_zero, List.set_cons_succ, i64_w, i32_w]
        rfl
       refine pure_ (i := 2) (N := some 29) (v := ?_) (a' := ?_) #[true, false, true, false, false, false, false, false, false, false, false, false, false, false, false] rfl rfl (any_of HT_.out (by kernel_rfl)) (fun _ _ _ h => h) (Or.inl ⟨by rfl, ?_⟩) ?_ ?_
       rotate_left
       ·intro w'
        go_simp
        with_reducible rfl
       rotate_left
       ·simp only [Act.put, List.setIfInBounds_toArray, List.set_cons_zero, List.set_cons_succ, i64_w, i32_w]
        rfl
       refine pure_ (i := 3) (N := some 30) (v := ?_) (a' := ?_) #[true, false, true, true, false, false, false, false, false, false, false, false, false, false, false] rfl rfl (any_of HT_.out (by kernel_rfl)) (fun _ _ _ h => h) (Or.inl ⟨by rfl, ?_⟩) ?_ ?_
       rotate_left
       ·intro w'
        go_simp
        with_reducible rfl
       rotate_left
       ·simp only [Act.put, List.setIfInBounds_toArray, List.set_cons_zero, List.set_cons_succ, i64_w, i32_w]
        rfl
       refine pure_ (i := 9) (N := some 36) (v := ?_) (a' := ?_) #[true, false, true, true, false, false, false, false, false, true, false, false, false, false, false] rfl rfl (any_of HT_.out (by kernel_rfl)) (fun _ _ _ h => h) (Or.inl ⟨by rfl, ?_⟩) ?_ ?_
       rotate_left
       ·intro w'
        go_simp
        with_reducible rfl
       rotate_left
       ·simp only [Act.put, List.setIfInBounds_toArray, List.set_cons_zero, List.set_cons_succ, i64_w, i32_w]
        rfl
       refine take_ (i := 1) (N := some 28) (v := ?_) (a' := ?_) #[true, true, true, true, false, false, false, false, false, true, false, false, false, false, false] rfl rfl (take_ofW HT_.out HW_.out (by kernel_rfl)) (fun _ _ _ h => h) (Or.inl ⟨by rfl, ?_⟩) hHeld ?_ ?_
       rotate_left
       ·rintro w' ⟨s0, s1, s2, s3, s4⟩
        go_simp
        with_reducible rfl
       rotate_left
       ·simp only [Act.put, List.setIfInBounds_toArray, List.set_cons_zero, List.set_cons_succ, i64_w, i32_w]
        rfl
       refine take_ (i := 4) (N := some 31) (v := ?_) (a' := ?_) #[true, true, true, true, true, false, false, false, false, true, false, false, false, false, false] rfl rfl (take_ofW HT_.out HW_.out (by kernel_rfl)) (fun _ _ _ h => h) (Or.inl ⟨by rfl, ?_⟩) hHeld ?_ ?_
       rotate_left
       ·rintro w' ⟨s0, s1, s2, s3, s4⟩
        go_simp
        with_reducible rfl
       rotate_left
       ·simp only [Act.put, List.setIfInBounds_toArray, List.set_cons_zero, List.set_cons_succ, i64_w, i32_w]
        rfl
       refine pure_ (i := 5) (N := some 32) (v := ?_) (a' := ?_) #[true, true, true, true, true, true, false, false, false, true, false, false, false, false, false] rfl rfl (any_of HT_.out (by kernel_rfl)) (fun _ _ _ h => h) (Or.inl ⟨by rfl, ?_⟩) ?_ ?_
       rotate_left
       ·intro w'
        go_simp
        with_reducible rfl
       rotate_left
       ·simp only [Act.put, List.setIfInBounds_toArray, List.set_cons_zero, List.set_cons_succ, i64_w, i32_w]
        rfl
       refine one_ (i := 6) (N := some 33) #[true, true, true, true, true, true, true, false, false, true, false, false, false, false, false] rfl rfl (one_of HT_.out (by kernel_rfl)) (by decide) (fun K hK => ?_)
       refine goes_ Try.func107 (by kernel_rfl) rfl #[.pointer (some ⟨g, 0, none⟩), .int .i64 (t433.length : Int)] (by rfl) rfl rfl lm_ ?_
       with_reducible refine (spec_l1Cur_pick.calls g s0_0 t441 t442 (t433.length : Int) t443 t444 t445 w0 _ ?side1 ?side2 A38.out).mono ?_
       (case side1 => exact ls109_ HI0)
       (case side2 => exact lv109_ HB)
       rintro e w59 ⟨rfl, hi, hb, hk⟩
       have HS4_ := keep_cell hk (hHeld.2.2.2.2) (by first | (rw [add_block]; exact Kd.own_blk (IsS109.own_ne HI0.out HO435.out (by decide))) | (show (Addr.add _ _).block ≠ _; rw [add_block]; exact Kd.own_blk (IsS109.own_ne HI0.out HO435.out (by decide))) | exact Kd.own_blk (IsS109.own_ne HI0.out HO435.out (by decide)))
       refine ⟨_, rfl, ?_⟩
       replace HO_401001 := am_ (m1_ (Kd.R_keep (IsS109.apart (show IsS109 w0 _ g s0_0 t441 t442 from ls109_ HI0) (lf_ HO_401001) (by decide)) hk (fun _ h => h.2))); replace BK393 := am_ (KeepBut.blk hk (g' := gb393) (lb_ BK393) NB393_0.out (by simp)); replace BK400 := am_ (KeepBut.blk hk (g' := gb400) (lb_ BK400) NB400_0.out (by simp)); replace HO432 := am_ (m1_ (Kd.R_keep (IsS109.apart (show IsS109 w0 _ g s0_0 t441 t442 from ls109_ HI0) (lf_ HO432) (by decide)) hk (fun _ h => h.2))); replace HO435 := am_ (m1_ (Kd.R_keep (IsS109.apart (show IsS109 w0 _ g s0_0 t441 t442 from ls109_ HI0) (lf_ HO435) (by decide)) hk (fun _ h => h.2))); replace HO438 := am_ (m1_ (Kd.R_keep (IsS109.apart (show IsS109 w0 _ g s0_0 t441 t442 from ls109_ HI0) (lf_ HO438) (by decide)) hk (fun _ h => h.2))); replace BK439 := am_ (KeepBut.blk hk (g' := gb439) (lb_ BK439) NB439_0.out (by simp)); replace HK := am_ (KeepBut.trans (lk_ HK) hk (.inl rfl)); replace HB := am_ (hb); replace HI0 := am_ (hi)
       (try clear hb)
       (try clear hb2)
       (try clear hk)
       (try clear hi)
       refine hK.out _ _ ⟨(blk_cell BK439.out 0).trans rfl, (blk_cell BK439.out 1).trans rfl, (blk_cell BK439.out 2).trans rfl, (blk_cell BK439.out 3).trans rfl, HS4_⟩ (fun hHeld => ?_)
       clear hK K
       refine norm_ (a' := ?_) ?_ ?_
       rotate_left
       ·show Act.put _ (some 33) _ = _
        simp only [Act.put, List.setIfInBounds_toArray, List.set_cons_zero, List.set_cons_succ, i64_w, i32_w]
        rfl
       refine pure_ (i := 7) (N := some 34) (v := ?_) (a' := ?_) #[true, true, true, true, true, true, true, true, false, true, false, false, false, false, false] rfl rfl (any_of HT_.out (by kernel_rfl)) (fun _ _ _ h => h) (Or.inl ⟨by rfl, ?_⟩) ?_ ?_
       rotate_left
       ·intro w'
        go_simp
        with_reducible rfl
       rotate_left
       ·simp only [Act.put, List.setIfInBounds_toArray, List.set_cons_zero, List.set_cons_succ, i64_w, i32_w]
        rfl
       refine take_ (i := 8) (N := some 35) (v := ?_) (a' := ?_) #[true, true, true, true, true, true, true, true, true, true, false, false, false, false, false] rfl rfl (take_ofW HT_.out HW_.out (by kernel_rfl)) (fun _ _ _ h => h) (Or.inl ⟨by rfl, ?_⟩) hHeld ?_ ?_
       rotate_left
       ·rintro w' ⟨s0, s1, s2, s3, s4⟩
        go_simp
        with_reducible rfl
       rotate_left
       ·simp only [Act.put, List.setIfInBounds_toArray, List.set_cons_zero, List.set_cons_succ, i64_w, i32_w]
        rfl
       refine one_ (i := 10) (N := some 37) #[true, true, true, true, true, true, true, true, true, true, true, false, false, false, false] rfl rfl (one_of HT_.out (by kernel_rfl)) (by decide) (fun K hK => ?_)
       refine goes_ Try.func107 (by kernel_rfl) rfl #[.pointer (some ⟨g, 0, none⟩), .int .i64 3] (by rfl) rfl rfl lm_ ?_
       with_reducible refine (spec_l1Cur_pick.calls g s0_0 t444 t445 3 t447 t448 t449 w0 _ ?side1 ?side2 A41.out).mono ?_
       (case side1 => exact ls109_ HI0)
       (case side2 => exact lv109_ HB)
       rintro e w60 ⟨rfl, hi, hb, hk⟩
       have HS4_ := keep_cell hk (hHeld.2.2.2.2) (by first | (rw [add_block]; exact Kd.own_blk (IsS109.own_ne HI0.out HO435.out (by decide))) | (show (Addr.add _ _).block ≠ _; rw [add_block]; exact Kd.own_blk (IsS109.own_ne HI0.out HO435.out (by decide))) | exact Kd.own_blk (IsS109.own_ne HI0.out HO435.out (by decide)))
       refine ⟨_, rfl, ?_⟩
       replace HO_401001 := am_ (m1_ (Kd.R_keep (IsS109.apart (show IsS109 w0 _ g s0_0 t444 t445 from ls109_ HI0) (lf_ HO_401001) (by decide)) hk (fun _ h => h.2))); replace BK393 := am_ (KeepBut.blk hk (g' := gb393) (lb_ BK393) NB393_0.out (by simp)); replace BK400 := am_ (KeepBut.blk hk (g' := gb400) (lb_ BK400) NB400_0.out (by simp)); replace HO432 := am_ (m1_ (Kd.R_keep (IsS109.apart (show IsS109 w0 _ g s0_0 t444 t445 from ls109_ HI0) (lf_ HO432) (by decide)) hk (fun _ h => h.2))); replace HO435 := am_ (m1_ (Kd.R_keep (IsS109.apart (show IsS109 w0 _ g s0_0 t444 t445 from ls109_ HI0) (lf_ HO435) (by decide)) hk (fun _ h => h.2))); replace HO438 := am_ (m1_ (Kd.R_keep (IsS109.apart (show IsS109 w0 _ g s0_0 t444 t445 from ls109_ HI0) (lf_ HO438) (by decide)) hk (fun _ h => h.2))); replace BK439 := am_ (KeepBut.blk hk (g' := gb439) (lb_ BK439) NB439_0.out (by simp)); replace HK := am_ (KeepBut.trans (lk_ HK) hk (.inl rfl)); replace HB := am_ (hb); replace HI0 := am_ (hi)
       (try clear hb)
       (try clear hb2)
       (try clear hk)
       (try clear hi)
       have p42 : 0 ≤ (t443 : Int) := of_decide_eq_true (by first | (with_reducible assumption) | assumption)
       have q42 : (t443 : Int) < ((t433.length : Int) : Int) := of_decide_eq_true (by first | (with_reducible assumption) | assumption)
       obtain ⟨go42, co42, eo42, gb42, gl42, cl42, HG42⟩ := Kd.R_form HO435.out (by omega)
       (first | cases eo42 | (injection eo42 with ea_ en_ ec_; (first | subst ea_ | (injection ea_ with ea_; subst ea_)); subst ec_; clear en_))
       have GB42 := am_ gb42
       have GG42 := am_ HG42
       clear gb42 gl42 HG42
       (first | simp only [add_plain] at hx446_0 | skip)
       obtain ⟨hx42_0, hf42_0⟩ := Kd.R_celln 0 HO435.out (t443 : Int) p42 q42
       replace p42 := eq_true p42
       replace q42 := eq_true q42
       have HN0_go42 := am_ (show g ≠ go42 from by have h_ := IsS109.own_ne HI0.out HO435.out (by decide); intro e_; exact h_ (by rw [e_]; rfl))
       have HP61 := Kd.R_putn HO435.out (t443 : Int) (wrap64 ((rd t433 t443) + (wrap64 (t447 - 1))))
       rw [← Ny450.out] at HP61
       have HQ61 := am_ HP61
       clear HP61
       refine hK.out _ _ ⟨(blk_cell BK439.out 0).trans rfl, (blk_cell BK439.out 1).trans rfl, (blk_cell BK439.out 2).trans rfl, (blk_cell BK439.out 3).trans rfl, HS4_⟩ (fun hHeld => ?_)
       clear hK K
       refine norm_ (a' := ?_) ?_ ?_
       rotate_left
       ·show Act.put _ (some 37) _ = _
        simp only [Act.put, List.setIfInBounds_toArray, List.set_cons_zero, List.set_cons_succ, i64_w, i32_w]
        rfl
       refine pure_ (i := 11) (N := some 38) (v := ?_) (a' := ?_) #[true, true, true, true, true, true, true, true, true, true, true, true, false, false, false] rfl rfl (any_of HT_.out (by kernel_rfl)) (fun _ _ _ h => h) (Or.inl ⟨by rfl, ?_⟩) ?_ ?_
       rotate_left
       ·intro w'
        go_simp
        with_reducible rfl
       rotate_left
       ·simp only [Act.put, List.setIfInBounds_toArray, List.set_cons_zero, List.set_cons_succ, i64_w, i32_w]
        rfl
       refine pure_ (i := 12) (N := some 39) (v := ?_) (a' := ?_) #[true, true, true, true, true, true, true, true, true, true, true, true, true, false, false] rfl rfl (any_of HT_.out (by kernel_rfl)) (fun _ _ _ h => h) (Or.inl ⟨by rfl, ?_⟩) ?_ ?_
       rotate_left
       ·intro w'
        go_simp
        with_reducible rfl
       rotate_left
       ·simp only [Act.put, List.setIfInBounds_toArray, List.set_cons_zero, List.set_cons_succ, i64_w, i32_w]
        rfl
       refine pure_ (i := 13) (N := some 40) (v := ?_) (a' := ?_) #[true, true, true, true, true, true, true, true, true, true, true, true, true, true, false] rfl rfl (any_of HT_.out (by kernel_rfl)) (fun _ _ _ h => h) (Or.inl ⟨by rfl, ?_⟩) ?_ ?_
       rotate_left
       ·intro w'
        go_simp
        with_reducible rfl
       rotate_left
       ·simp only [Act.put, List.setIfInBounds_toArray, List.set_cons_zero, List.set_cons_succ, i64_w, i32_w]
        rfl
       refine last_ (i := 14) (N := none) #[true, true, true, true, true, true, true, true, true, true, true, true, true, true, true] rfl rfl (one_of HT_.out (by kernel_rfl)) (by decide) (fun K hK => ?_)
       refine skip_ (w1 := ?_) (by rfl) rfl ?_ ?_
       rotate_left
       ·go_simp
        rfl
       refine hK.out _ _ ?_
       clear hK K
       refine done_ (done_of HT_.out (by kernel_rfl)) ?_
       have n0_ : Aside0 (Kd.R (Kd.int .i64) 3 (w60.setCell ⟨go42, (t443 : Int).toNat, none⟩ (.int .i64 (wrap64 ((rd t433 t443) + (wrap64 (t447 - 1)))))) w.heap.size (fun k_ => ns_ k_ Ao53 t430 co53 ∧ some k_ ≠ (.slice (some ⟨go42, 0, none⟩) t433.length co54 : Value).ownBlock ∧ ns_ k_ Ao55 t436 co55) (.slice Ao46 x401001_3.length co46) x401001_3) := ⟨lo2_ (Kd.R_far (p := ⟨go42, (t443 : Int).toNat, none⟩) (Kd.R_mono HO_401001.out (fun k_ hk => (⟨hk, fun e_ => hk.1.2 (by rw [e_]; rfl)⟩ : _ ∧ k_ ≠ go42))) (fun _ hk => hk.2) (.int .i64 (wrap64 ((rd t433 t443) + (wrap64 (t447 - 1))))))⟩; have n1_ : Aside0 (Kd.R (Kd.int .i64) 3 (w60.setCell ⟨go42, (t443 : Int).toNat, none⟩ (.int .i64 (wrap64 ((rd t433 t443) + (wrap64 (t447 - 1)))))) w.heap.size (fun k_ => ns_ k_ Ao46 x401001_3 co46 ∧ some k_ ≠ (.slice (some ⟨go42, 0, none⟩) t433.length co54 : Value).ownBlock ∧ ns_ k_ Ao55 t436 co55) (.slice Ao53 t430.length co53) t430) := ⟨lo2_ (Kd.R_far (p := ⟨go42, (t443 : Int).toNat, none⟩) (Kd.R_mono HO432.out (fun k_ hk => (⟨hk, fun e_ => hk.1.1 (by rw [e_]; rfl)⟩ : _ ∧ k_ ≠ go42))) (fun _ hk => hk.2) (.int .i64 (wrap64 ((rd t433 t443) + (wrap64 (t447 - 1))))))⟩; have n2_ : Aside0 (Kd.R (Kd.int .i64) 3 (w60.setCell ⟨go42, (t443 : Int).toNat, none⟩ (.int .i64 (wrap64 ((rd t433 t443) + (wrap64 (t447 - 1)))))) w.heap.size (fun k_ => ns_ k_ Ao46 x401001_3 co46 ∧ ns_ k_ Ao53 t430 co53 ∧ ns_ k_ Ao55 t436 co55) (.slice (some ⟨go42, 0, none⟩) t433.length co54) y450) := ⟨lo_ HQ61⟩; have n3_ : Aside0 (Kd.R (Kd.int .i64) 3 (w60.setCell ⟨go42, (t443 : Int).toNat, none⟩ (.int .i64 (wrap64 ((rd t433 t443) + (wrap64 (t447 - 1)))))) w.heap.size (fun k_ => ns_ k_ Ao46 x401001_3 co46 ∧ ns_ k_ Ao53 t430 co53 ∧ some k_ ≠ (.slice (some ⟨go42, 0, none⟩) t433.length co54 : Value).ownBlock) (.slice Ao55 t436.length co55) t436) := ⟨lo2_ (Kd.R_far (p := ⟨go42, (t443 : Int).toNat, none⟩) (Kd.R_mono HO438.out (fun k_ hk => (⟨hk, fun e_ => hk.1.2 (by rw [e_]; rfl)⟩ : _ ∧ k_ ≠ go42))) (fun _ hk => hk.2) (.int .i64 (wrap64 ((rd t433 t443) + (wrap64 (t447 - 1))))))⟩; have n4_ : Aside0 ((w60.setCell ⟨go42, (t443 : Int).toNat, none⟩ (.int .i64 (wrap64 ((rd t433 t443) + (wrap64 (t447 - 1)))))).heap[gb393]? = some (.cells #[.int .i64 0, .slice none 0 0, .slice none 0 0, .slice none 0 0] 48 (0, 0))) := ⟨by (with_reducible repeat (first | refine blk_drewN ?_ _ | refine blk_drew ?_ | refine blk_alloc ?_ _)); refine blk_far ?_ (by have h_ := Kd.R_ne HO435.out BK393.out (by decide); intro e_; exact h_ (by rw [e_]; rfl)) _; (with_reducible repeat (first | refine blk_drewN ?_ _ | refine blk_drew ?_ | refine blk_alloc ?_ _)); exact BK393.out⟩; have n5_ : Aside0 ((w60.setCell ⟨go42, (t443 : Int).toNat, none⟩ (.int .i64 (wrap64 ((rd t433 t443) + (wrap64 (t447 - 1)))))).heap[gb400]? = some (.cells #[.int .i64 x401000_3, .slice Ao46 x401001_3.length co46] 26 (0, 0))) := ⟨by (with_reducible repeat (first | refine blk_drewN ?_ _ | refine blk_drew ?_ | refine blk_alloc ?_ _)); refine blk_far ?_ (by have h_ := Kd.R_ne HO435.out BK400.out (by decide); intro e_; exact h_ (by rw [e_]; rfl)) _; (with_reducible repeat (first | refine blk_drewN ?_ _ | refine blk_drew ?_ | refine blk_alloc ?_ _)); exact BK400.out⟩; have n6_ : Aside0 ((w60.setCell ⟨go42, (t443 : Int).toNat, none⟩ (.int .i64 (wrap64 ((rd t433 t443) + (wrap64 (t447 - 1)))))).heap[gb439]? = some (.cells #[.int .i64 t429, .slice Ao53 t430.length co53, .slice (some ⟨go42, 0, none⟩) t433.length co54, .slice Ao55 t436.length co55] 48 (0, 0))) := ⟨by (with_reducible repeat (first | refine blk_drewN ?_ _ | refine blk_drew ?_ | refine blk_alloc ?_ _)); refine blk_far ?_ (by have h_ := Kd.R_ne HO435.out BK439.out (by decide); intro e_; exact h_ (by rw [e_]; rfl)) _; (with_reducible repeat (first | refine blk_drewN ?_ _ | refine blk_drew ?_ | refine blk_alloc ?_ _)); exact BK439.out⟩; have n7_ : Aside0 (IsS109 w0 (w60.setCell ⟨go42, (t443 : Int).toNat, none⟩ (.int .i64 (wrap64 ((rd t433 t443) + (wrap64 (t447 - 1)))))) g s0_0 t448 t449) := ⟨ls109_ HI0⟩; have n8_ : Aside0 (KeepBut w (w60.setCell ⟨go42, (t443 : Int).toNat, none⟩ (.int .i64 (wrap64 ((rd t433 t443) + (wrap64 (t447 - 1)))))) g none) := ⟨lk_ HK⟩; have n9_ : Aside0 (Below w0.heap.size w0 (w60.setCell ⟨go42, (t443 : Int).toNat, none⟩ (.int .i64 (wrap64 ((rd t433 t443) + (wrap64 (t447 - 1))))))) := ⟨by repeat (first | (with_reducible first | exact HB.out | apply below_alloc | apply pw_below_drewN | apply below_drew1 | refine below_set ?_ (Nat.le_trans HL.out GB42.out) | refine below_set ?_ (IsS109.ge HI0.out) | refine below_set ?_ GE393.out | refine below_set ?_ GE400.out | refine below_set ?_ GE439.out) | exact HB.out)⟩
       (try clear HO_401001)
       (try clear HO432)
       (try clear HO435)
       (try clear HO438)
       (try clear BK393)
       (try clear BK400)
       (try clear BK439)
       (try clear HI0)
       (try clear HK)
       (try clear HB)
       generalize (w60.setCell ⟨go42, (t443 : Int).toNat, none⟩ (.int .i64 (wrap64 ((rd t433 t443) + (wrap64 (t447 - 1)))))) = w62 at n0_ n1_ n2_ n3_ n4_ n5_ n6_ n7_ n8_ n9_ ⊢
       have HO_401001 := n0_
       have HO432 := n1_
       have HO435 := n2_
       have HO438 := n3_
       have BK393 := n4_
       have BK400 := n5_
       have BK439 := n6_
       have HI0 := n7_
       have HK := n8_
       have HB := n9_
       clear n0_ n1_ n2_ n3_ n4_ n5_ n6_ n7_ n8_ n9_
       obtain ⟨hcz63_0, hcz63_1, hcz63_2, hcz63_3, hfz63_0, hfz63_1, hfz63_2, hfz63_3⟩ := bx4_ BK439.out
       have hnb64 := NB393_0.out
       have hnc64 := NB0_393.out
       obtain ⟨hcz65_0, hcz65_1, hcz65_2, hcz65_3, hfz65_0, hfz65_1, hfz65_2, hfz65_3⟩ := bx4_ BK393.out
       try go_wp2
       refine bodyPost_ret (results_cell_row rfl _ _ gb393 48 #[.int .i64 t429, .slice Ao53 t430.length co53, .slice (some ⟨go42, 0, none⟩) t433.length co54, .slice Ao55 t436.length co55] (0, 0) _ rfl (lq_ BK393) Try.underlying48 rfl (by kernel_rfl)) rfl ?_
       exact ⟨_, _, _, er_, lo2_ (fr4_ HO432.out BK393.out (.int .i64 t429) (.slice Ao53 t430.length co53) (.slice (some ⟨go42, 0, none⟩) t433.length co54) (.slice Ao55 t436.length co55)), lo2_ (fr4_ HO435.out BK393.out (.int .i64 t429) (.slice Ao53 t430.length co53) (.slice (some ⟨go42, 0, none⟩) t433.length co54) (.slice Ao55 t436.length co55)), lo2_ (fr4_ HO438.out BK393.out (.int .i64 t429) (.slice Ao53 t430.length co53) (.slice (some ⟨go42, 0, none⟩) t433.length co54) (.slice Ao55 t436.length co55)), ls109_ HI0, lv109_ HB, lk_ HK⟩
      ·rw [if_neg c40] at H
       exact absurd H (by simp)
     ·rw [if_neg c39] at H
      exact absurd H (by simp)
    ·rw [if_neg c37] at H
     have c37b0 : decide (0 < (t433.length : Int)) = false := decide_eq_false c37
     have c37b1 : decide (0 < t433.length) = false := decide_eq_false (by omega)
     clear c37
     simp only [Option.some.injEq, Prod.mk.injEq] at H
     obtain ⟨rfl, rfl, rfl, rfl, rfl, rfl⟩ := H
     have hnb66 := NB400_393.out
     have hnc66 := NB393_400.out
     have hnb67 := NB400_0.out
     have hnc67 := NB0_400.out
     obtain ⟨hcz68_0, hcz68_1, hfz68_0, hfz68_1⟩ := bx2_ BK400.out
     obtain ⟨Ao69, co69, eo69⟩ := Kd.R_slice HO_401001.out
     subst eo69
     go_wp2_with (first | ((with_reducible refine gate_callee (f := 95) rfl ?_); refine goesL_ (some 18) rfl rfl Try.func95 (by kernel_rfl) rfl #[.agg #[.int .i64 x401000_3, .slice Ao69 x401001_3.length co69]] rfl lm_ ?_; (with_reducible refine (spec_raOf.calls kj3 x401000_3 _ _ x401001_3 t429 t430 t433 t436 _ ?side1 ?side2 A34.out).mono ?_); (case side1 => exact lc_ (Kd.R_reads' HO_401001.out).2.2); (case side2 => exact (Kd.R_reads' HO_401001.out).2.1); rintro e w70 ⟨v431, v434, v437, rfl, ho0, ho1, ho2, hb⟩; refine ⟨_, rfl, ?_⟩; have HO432 := am_ (Kd.R_lower (nw_ ho0 HO_401001) (keep_size (w := w) (g := g) (row := none) (lk_ HK))); have HO435 := am_ (Kd.R_lower (nw_ ho1 HO_401001) (keep_size (w := w) (g := g) (row := none) (lk_ HK))); have HO438 := am_ (Kd.R_lower (nw_ ho2 HO_401001) (keep_size (w := w) (g := g) (row := none) (lk_ HK))); replace HO_401001 := am_ (m1_ (td_ (td_ (td_ (Kd.R_old (lf_ HO_401001) hb) ho0) ho1) ho2)); replace BK393 := am_ (blk_below (g := gb393) (lb_ BK393) hb); replace BK400 := am_ (blk_below (g := gb400) (lb_ BK400) hb); replace HI0 := am_ (IsS109.below (ls109_ HI0) hb); replace HK := am_ (KeepBut.trans (lk_ HK) (KeepBut.of_below hb g none) (.inl rfl)); replace HB := am_ (below_step (lv109_ HB) hb); (try clear hb); (try clear hb2); (try clear hk); (try clear hi); (try clear ho0); (try clear ho1); (try clear ho2)) | ((with_reducible refine gate_dst (N := 4) rfl ?_); refine bev_ 4 #[.int .i64 0, .slice none 0 0, .slice none 0 0, .slice none 0 0] 48 rfl rfl ?_; intro gb439 hg w71 hbox hb; have BK439 := am_ (hbox); have GW439 := am_ ((by rw [hg]; exact (keep_size (w := w) (g := g) (row := none) (lk_ HK)) : w.heap.size ≤ gb439)); have GE439 := am_ ((Nat.le_trans HW0.out (by rw [hg]; exact (keep_size (w := w) (g := g) (row := none) (lk_ HK)) : w.heap.size ≤ gb439) : w0.heap.size ≤ gb439)); have NB393_439 := am_ ((by rw [hg]; exact Nat.ne_of_lt (blk_lt (g := gb393) (lb_ BK393)) : gb393 ≠ gb439)); have NB439_393 := am_ ((by rw [hg]; exact Nat.ne_of_gt (blk_lt (g := gb393) (lb_ BK393)) : gb439 ≠ gb393)); have NB400_439 := am_ ((by rw [hg]; exact Nat.ne_of_lt (blk_lt (g := gb400) (lb_ BK400)) : gb400 ≠ gb439)); have NB439_400 := am_ ((by rw [hg]; exact Nat.ne_of_gt (blk_lt (g := gb400) (lb_ BK400)) : gb439 ≠ gb400)); have NB0_439 := am_ ((by rw [hg]; exact Nat.ne_of_lt (IsS109.lt (show IsS109 w0 _ g s0_0 x1001_3 x1002_3 from ls109_ HI0)) : g ≠ gb439)); have NB439_0 := am_ ((by rw [hg]; exact Nat.ne_of_gt (IsS109.lt (show IsS109 w0 _ g s0_0 x1001_3 x1002_3 from ls109_ HI0)) : gb439 ≠ g)); replace HO_401001 := am_ (Kd.R_below (lf_ HO_401001) hb); replace HO432 := am_ (Kd.R_below (lf_ HO432) hb); replace HO435 := am_ (Kd.R_below (lf_ HO435) hb); replace HO438 := am_ (Kd.R_below (lf_ HO438) hb); replace BK393 := am_ (blk_below (g := gb393) (lb_ BK393) hb); replace BK400 := am_ (blk_below (g := gb400) (lb_ BK400) hb); replace HI0 := am_ (IsS109.below (ls109_ HI0) hb); replace HK := am_ (KeepBut.trans (lk_ HK) (KeepBut.of_below hb g none) (.inl rfl)); replace HB := am_ (below_step (lv109_ HB) hb); clear hb hbox hg; have hnb72 := NB439_393.out; have hnc72 := NB393_439.out; have hnb73 := NB439_400.out; have hnc73 := NB400_439.out; have hnb74 := NB439_0.out; have hnc74 := NB0_439.out; obtain ⟨hcz75_0, hcz75_1, hcz75_2, hcz75_3, hfz75_0, hfz75_1, hfz75_2, hfz75_3⟩ := bx4_ BK439.out; obtain ⟨Ao76, co76, eo76⟩ := Kd.R_slice HO432.out; subst eo76; obtain ⟨Ao77, co77, eo77⟩ := Kd.R_slice HO435.out; subst eo77; obtain ⟨Ao78, co78, eo78⟩ := Kd.R_slice HO438.out; subst eo78) | ((with_reducible refine gate_callee (f := 107) rfl ?_); refine goesL_ (some 20) rfl rfl Try.func107 (by kernel_rfl) rfl #[.pointer (some ⟨g, 0, none⟩), .int .i64 14] rfl lm_ ?_; (with_reducible refine (spec_l1Cur_pick.calls g s0_0 x1001_3 x1002_3 14 t440 t441 t442 w0 _ ?side1 ?side2 A35.out).mono ?_); (case side1 => exact ls109_ HI0); (case side2 => exact lv109_ HB); rintro e w79 ⟨rfl, hi, hb, hk⟩; refine ⟨_, rfl, ?_⟩; replace HO_401001 := am_ (m1_ (Kd.R_keep (IsS109.apart (show IsS109 w0 _ g s0_0 x1001_3 x1002_3 from ls109_ HI0) (lt_ ((m1_ (fr4_ HO_401001.out BK439.out (.int .i64 t429) (.slice Ao76 t430.length co76) (.slice Ao77 t433.length co77) (.slice Ao78 t436.length co78))))) (by decide)) hk (fun _ h => h.2))); replace BK393 := am_ (KeepBut.blk hk (g' := gb393) (lg_ BK393) NB393_0.out (by simp)); replace BK400 := am_ (KeepBut.blk hk (g' := gb400) (lg_ BK400) NB400_0.out (by simp)); replace HO432 := am_ (m1_ (Kd.R_keep (IsS109.apart (show IsS109 w0 _ g s0_0 x1001_3 x1002_3 from ls109_ HI0) (lt_ ((m1_ (fr4_ HO432.out BK439.out (.int .i64 t429) (.slice Ao76 t430.length co76) (.slice Ao77 t433.length co77) (.slice Ao78 t436.length co78))))) (by decide)) hk (fun _ h => h.2))); replace HO435 := am_ (m1_ (Kd.R_keep (IsS109.apart (show IsS109 w0 _ g s0_0 x1001_3 x1002_3 from ls109_ HI0) (lt_ ((m1_ (fr4_ HO435.out BK439.out (.int .i64 t429) (.slice Ao76 t430.length co76) (.slice Ao77 t433.length co77) (.slice Ao78 t436.length co78))))) (by decide)) hk (fun _ h => h.2))); replace HO438 := am_ (m1_ (Kd.R_keep (IsS109.apart (show IsS109 w0 _ g s0_0 x1001_3 x1002_3 from ls109_ HI0) (lt_ ((m1_ (fr4_ HO438.out BK439.out (.int .i64 t429) (.slice Ao76 t430.length co76) (.slice Ao77 t433.length co77) (.slice Ao78 t436.length co78))))) (by decide)) hk (fun _ h => h.2))); replace BK439 := am_ (KeepBut.blk hk (g' := gb439) (o := .cells #[.int .i64 t429, .slice Ao76 t430.length co76, .slice Ao77 t433.length co77, .slice Ao78 t436.length co78] 48 (0, 0)) (lq_ BK439) NB439_0.out (by simp)); replace HK := am_ (KeepBut.trans (lk_ HK) hk (.inl rfl)); replace HB := am_ (hb); replace HI0 := am_ (hi); (try clear hb); (try clear hb2); (try clear hk); (try clear hi); obtain ⟨hcz80_0, hcz80_1, hcz80_2, hcz80_3, hfz80_0, hfz80_1, hfz80_2, hfz80_3⟩ := bx4_ BK439.out; have hnb81 := NB393_0.out; have hnc81 := NB0_393.out; obtain ⟨hcz82_0, hcz82_1, hcz82_2, hcz82_3, hfz82_0, hfz82_1, hfz82_2, hfz82_3⟩ := bx4_ BK393.out))
     refine bodyPost_ret (results_cell_row rfl _ _ gb393 48 #[.int .i64 t429, .slice Ao76 t430.length co76, .slice Ao77 t433.length co77, .slice Ao78 t436.length co78] (0, 0) _ rfl (lq_ BK393) Try.underlying48 rfl (by kernel_rfl)) rfl ?_
     exact ⟨_, _, _, er_, lo2_ (fr4_ HO432.out BK393.out (.int .i64 t429) (.slice Ao76 t430.length co76) (.slice Ao77 t433.length co77) (.slice Ao78 t436.length co78)), lo2_ (fr4_ HO435.out BK393.out (.int .i64 t429) (.slice Ao76 t430.length co76) (.slice Ao77 t433.length co77) (.slice Ao78 t436.length co78)), lo2_ (fr4_ HO438.out BK393.out (.int .i64 t429) (.slice Ao76 t430.length co76) (.slice Ao77 t433.length co77) (.slice Ao78 t436.length co78)), ls109_ HI0, lv109_ HB, lk_ HK⟩
   ·rw [if_neg c36] at H
    have c36b0 : (t440 == 0) = false := beq_eq_false_iff_ne.mpr c36
    have c36b1 : (t440 != 0) = true := bne_iff_ne.mpr c36
    by_cases c83 : t440 = 1
    ·rw [if_pos c83] at H
     have c83b0 : (t440 == 1) = true := beq_iff_eq.mpr c83
     have c83b1 : (t440 != 1) = false := bne_eq_false_iff_eq.mpr c83
     clear c83
     by_cases c84 : (t436.length : Int) > 0
     ·rw [if_pos c84] at H
      have c84b0 : decide (0 < (t436.length : Int)) = true := decide_eq_true c84
      have c84b1 : decide (0 < t436.length) = true := decide_eq_true (by omega)
      clear c84
      replace H := Option.bind_eq_some_iff.mp H
      obtain ⟨⟨t451, t452, t453⟩, A850, H⟩ := H
      replace H : (if 0 ≤ t451 then (if t451 < (t436.length : Int) then ((spec_l1Cur_pick.f s0_0 t452 t453 3).bind fun bt455 => (some (t429, t430, t433, (t436.set (t451 : Int).toNat (wrap64 ((rd t436 t451) + (wrap64 (bt455.1 - 1))))), bt455.2.1, bt455.2.2))) else (none)) else (none)) = some (r1, r2, r3, r4, r5, r6) := H
      have A85 := am_ A850
      clear A850
      by_cases c86 : 0 ≤ t451
      ·rw [if_pos c86] at H
       have c86b0 : decide (0 ≤ t451) = true := decide_eq_true c86
       clear c86
       by_cases c87 : t451 < (t436.length : Int)
       ·rw [if_pos c87] at H
        have c87b0 : decide (t451 < (t436.length : Int)) = true := decide_eq_true c87
        clear c87
        replace H := Option.bind_eq_some_iff.mp H
        obtain ⟨⟨t455, t456, t457⟩, A880, H⟩ := H
        replace H : (some (t429, t430, t433, (t436.set (t451 : Int).toNat (wrap64 ((rd t436 t451) + (wrap64 (t455 - 1))))), t456, t457)) = some (r1, r2, r3, r4, r5, r6) := H
        have A88 := am_ A880
        clear A880
        obtain ⟨y458, hy458⟩ : ∃ y_ : List Int, y_ = (t436.set (t451 : Int).toNat (wrap64 ((rd t436 t451) + (wrap64 (t455 - 1))))) := ⟨_, rfl⟩
        replace H : (some (t429, t430, t433, y458, t456, t457)) = some (r1, r2, r3, r4, r5, r6) := by first | (rw [hy458]; with_reducible exact H) | (have H2_ := (Option.bind_some _ _).symm.trans H; rw [hy458]; with_reducible exact H2_) | (have H2_ := (Option.bind_some _ _).symm.trans H; with_reducible exact H2_) | with_reducible exact H | (rw [hy458]; exact H) | exact H
        have Ny458 := am_ hy458
        clear hy458
        simp only [Option.some.injEq, Prod.mk.injEq] at H
        obtain ⟨rfl, rfl, rfl, rfl, rfl, rfl⟩ := H
        have hnb90 := NB400_393.out
        have hnc90 := NB393_400.out
        have hnb91 := NB400_0.out
        have hnc91 := NB0_400.out
        obtain ⟨hcz92_0, hcz92_1, hfz92_0, hfz92_1⟩ := bx2_ BK400.out
        obtain ⟨Ao93, co93, eo93⟩ := Kd.R_slice HO_401001.out
        subst eo93
        try go_wp2_with (first | ((with_reducible refine gate_callee (f := 95) rfl ?_); refine goesL_ (some 18) rfl rfl Try.func95 (by kernel_rfl) rfl #[.agg #[.int .i64 x401000_3, .slice Ao93 x401001_3.length co93]] rfl lm_ ?_; (with_reducible refine (spec_raOf.calls kj3 x401000_3 _ _ x401001_3 t429 t430 t433 t436 _ ?side1 ?side2 A34.out).mono ?_); (case side1 => exact lc_ (Kd.R_reads' HO_401001.out).2.2); (case side2 => exact (Kd.R_reads' HO_401001.out).2.1); rintro e w94 ⟨v431, v434, v437, rfl, ho0, ho1, ho2, hb⟩; refine ⟨_, rfl, ?_⟩; have HO432 := am_ (Kd.R_lower (nw_ ho0 HO_401001) (keep_size (w := w) (g := g) (row := none) (lk_ HK))); have HO435 := am_ (Kd.R_lower (nw_ ho1 HO_401001) (keep_size (w := w) (g := g) (row := none) (lk_ HK))); have HO438 := am_ (Kd.R_lower (nw_ ho2 HO_401001) (keep_size (w := w) (g := g) (row := none) (lk_ HK))); replace HO_401001 := am_ (m1_ (td_ (td_ (td_ (Kd.R_old (lf_ HO_401001) hb) ho0) ho1) ho2)); replace BK393 := am_ (blk_below (g := gb393) (lb_ BK393) hb); replace BK400 := am_ (blk_below (g := gb400) (lb_ BK400) hb); replace HI0 := am_ (IsS109.below (ls109_ HI0) hb); replace HK := am_ (KeepBut.trans (lk_ HK) (KeepBut.of_below hb g none) (.inl rfl)); replace HB := am_ (below_step (lv109_ HB) hb); (try clear hb); (try clear hb2); (try clear hk); (try clear hi); (try clear ho0); (try clear ho1); (try clear ho2)) | ((with_reducible refine gate_dst (N := 4) rfl ?_); refine bev_ 4 #[.int .i64 0, .slice none 0 0, .slice none 0 0, .slice none 0 0] 48 rfl rfl ?_; intro gb439 hg w95 hbox hb; have BK439 := am_ (hbox); have GW439 := am_ ((by rw [hg]; exact (keep_size (w := w) (g := g) (row := none) (lk_ HK)) : w.heap.size ≤ gb439)); have GE439 := am_ ((Nat.le_trans HW0.out (by rw [hg]; exact (keep_size (w := w) (g := g) (row := none) (lk_ HK)) : w.heap.size ≤ gb439) : w0.heap.size ≤ gb439)); have NB393_439 := am_ ((by rw [hg]; exact Nat.ne_of_lt (blk_lt (g := gb393) (lb_ BK393)) : gb393 ≠ gb439)); have NB439_393 := am_ ((by rw [hg]; exact Nat.ne_of_gt (blk_lt (g := gb393) (lb_ BK393)) : gb439 ≠ gb393)); have NB400_439 := am_ ((by rw [hg]; exact Nat.ne_of_lt (blk_lt (g := gb400) (lb_ BK400)) : gb400 ≠ gb439)); have NB439_400 := am_ ((by rw [hg]; exact Nat.ne_of_gt (blk_lt (g := gb400) (lb_ BK400)) : gb439 ≠ gb400)); have NB0_439 := am_ ((by rw [hg]; exact Nat.ne_of_lt (IsS109.lt (show IsS109 w0 _ g s0_0 x1001_3 x1002_3 from ls109_ HI0)) : g ≠ gb439)); have NB439_0 := am_ ((by rw [hg]; exact Nat.ne_of_gt (IsS109.lt (show IsS109 w0 _ g s0_0 x1001_3 x1002_3 from ls109_ HI0)) : gb439 ≠ g)); replace HO_401001 := am_ (Kd.R_below (lf_ HO_401001) hb); replace HO432 := am_ (Kd.R_below (lf_ HO432) hb); replace HO435 := am_ (Kd.R_below (lf_ HO435) hb); replace HO438 := am_ (Kd.R_below (lf_ HO438) hb); replace BK393 := am_ (blk_below (g := gb393) (lb_ BK393) hb); replace BK400 := am_ (blk_below (g := gb400) (lb_ BK400) hb); replace HI0 := am_ (IsS109.below (ls109_ HI0) hb); replace HK := am_ (KeepBut.trans (lk_ HK) (KeepBut.of_below hb g none) (.inl rfl)); replace HB := am_ (below_step (lv109_ HB) hb); clear hb hbox hg; have hnb96 := NB439_393.out; have hnc96 := NB393_439.out; have hnb97 := NB439_400.out; have hnc97 := NB400_439.out; have hnb98 := NB439_0.out; have hnc98 := NB0_439.out; obtain ⟨hcz99_0, hcz99_1, hcz99_2, hcz99_3, hfz99_0, hfz99_1, hfz99_2, hfz99_3⟩ := bx4_ BK439.out; obtain ⟨Ao100, co100, eo100⟩ := Kd.R_slice HO432.out; subst eo100; obtain ⟨Ao101, co101, eo101⟩ := Kd.R_slice HO435.out; subst eo101; obtain ⟨Ao102, co102, eo102⟩ := Kd.R_slice HO438.out; subst eo102) | ((with_reducible refine gate_callee (f := 107) rfl ?_); refine goesL_ (some 20) rfl rfl Try.func107 (by kernel_rfl) rfl #[.pointer (some ⟨g, 0, none⟩), .int .i64 14] rfl lm_ ?_; (with_reducible refine (spec_l1Cur_pick.calls g s0_0 x1001_3 x1002_3 14 t440 t441 t442 w0 _ ?side1 ?side2 A35.out).mono ?_); (case side1 => exact ls109_ HI0); (case side2 => exact lv109_ HB); rintro e w103 ⟨rfl, hi, hb, hk⟩; refine ⟨_, rfl, ?_⟩; replace HO_401001 := am_ (m1_ (Kd.R_keep (IsS109.apart (show IsS109 w0 _ g s0_0 x1001_3 x1002_3 from ls109_ HI0) (lt_ ((m1_ (fr4_ HO_401001.out BK439.out (.int .i64 t429) (.slice Ao100 t430.length co100) (.slice Ao101 t433.length co101) (.slice Ao102 t436.length co102))))) (by decide)) hk (fun _ h => h.2))); replace BK393 := am_ (KeepBut.blk hk (g' := gb393) (lg_ BK393) NB393_0.out (by simp)); replace BK400 := am_ (KeepBut.blk hk (g' := gb400) (lg_ BK400) NB400_0.out (by simp)); replace HO432 := am_ (m1_ (Kd.R_keep (IsS109.apart (show IsS109 w0 _ g s0_0 x1001_3 x1002_3 from ls109_ HI0) (lt_ ((m1_ (fr4_ HO432.out BK439.out (.int .i64 t429) (.slice Ao100 t430.length co100) (.slice Ao101 t433.length co101) (.slice Ao102 t436.length co102))))) (by decide)) hk (fun _ h => h.2))); replace HO435 := am_ (m1_ (Kd.R_keep (IsS109.apart (show IsS109 w0 _ g s0_0 x1001_3 x1002_3 from ls109_ HI0) (lt_ ((m1_ (fr4_ HO435.out BK439.out (.int .i64 t429) (.slice Ao100 t430.length co100) (.slice Ao101 t433.length co101) (.slice Ao102 t436.length co102))))) (by decide)) hk (fun _ h => h.2))); replace HO438 := am_ (m1_ (Kd.R_keep (IsS109.apart (show IsS109 w0 _ g s0_0 x1001_3 x1002_3 from ls109_ HI0) (lt_ ((m1_ (fr4_ HO438.out BK439.out (.int .i64 t429) (.slice Ao100 t430.length co100) (.slice Ao101 t433.length co101) (.slice Ao102 t436.length co102))))) (by decide)) hk (fun _ h => h.2))); replace BK439 := am_ (KeepBut.blk hk (g' := gb439) (o := .cells #[.int .i64 t429, .slice Ao100 t430.length co100, .slice Ao101 t433.length co101, .slice Ao102 t436.length co102] 48 (0, 0)) (lq_ BK439) NB439_0.out (by simp)); replace HK := am_ (KeepBut.trans (lk_ HK) hk (.inl rfl)); replace HB := am_ (hb); replace HI0 := am_ (hi); (try clear hb); (try clear hb2); (try clear hk); (try clear hi); obtain ⟨hcz104_0, hcz104_1, hcz104_2, hcz104_3, hfz104_0, hfz104_1, hfz104_2, hfz104_3⟩ := bx4_ BK439.out))
        replace HO_401001 := am_ (Kd.R_drew HO_401001.out); replace HO432 := am_ (Kd.R_drew HO432.out); replace HO435 := am_ (Kd.R_drew HO435.out); replace HO438 := am_ (Kd.R_drew HO438.out); replace BK393 := am_ (blk_drew BK393.out); replace BK400 := am_ (blk_drew BK400.out); replace BK439 := am_ (blk_drew BK439.out); replace HI0 := am_ (IsS109.drew HI0.out); replace HK := am_ (keep_drew HK.out); replace HB := am_ (below_drew1 HB.out)
        have p454 : 0 ≤ (t451 : Int) := of_decide_eq_true (by first | (with_reducible assumption) | assumption)
        have q454 : t451 < (t436.length : Int) := of_decide_eq_true (by first | (with_reducible assumption) | assumption)
        obtain ⟨ad454, e454, hx454_0⟩ := Kd.at_int (Kd.R_reads' HO438.out).2.2 t451 p454 q454
        cases e454
        replace p454 := eq_true p454
        replace q454 := eq_true q454
        refine start_ (n := 15) (S := fun w' => w'.cell? ⟨gb439, 0, none⟩ = some (.int .i64 t429) ∧ w'.cell? ⟨gb439, 1, none⟩ = some (.slice Ao100 t430.length co100) ∧ w'.cell? ⟨gb439, 2, none⟩ = some (.slice Ao101 t433.length co101) ∧ w'.cell? ⟨gb439, 3, none⟩ = some (.slice (some ad454) t436.length co102) ∧ w'.cell? (ad454.add (t451).toNat) = some (.int .i64 (rd t436 t451))) (ds := [14]) #[false, false, false, false, false, false, false, false, false, false, false, false, false, false, false] (by kernel_rfl) rfl rfl ⟨(blk_cell BK439.out 0).trans rfl, (blk_cell BK439.out 1).trans rfl, (blk_cell BK439.out 2).trans rfl, (blk_cell BK439.out 3).trans rfl, hx454_0⟩ (fun hHeld => ?_); refine with_tabW spec_l1Cur_ranked.tab11 spec_l1Cur_ranked.bits11 (fun HT_ HW_ => ?_)
        generalize w103.drew = w105 at HO_401001 HO432 HO435 HO438 BK393 BK400 BK439 HI0 HK HB hx454_0 hHeld ⊢
        refine pure_ (i := 0) (N := some 47) (v := ?_) (a' := ?_) #[true, false, false, false, false, false, false, false, false, false, false, false, false, false, false] rfl rfl (any_of HT_.out (by kernel_rfl)) (fun _ _ _ h => h) (Or.inl ⟨by rfl, ?_⟩) ?_ ?_
        rotate_left
        ·intro w'
         go_simp
         with_reducible rfl
        rotate_left
        ·simp only [Act.put, List.setIfInBounds_toArray, List.set_cons_zero, List.set_cons_succ, i64_w, i32_w]
         rfl
        refine pure_ (i := 2) (N := some 49) (v := ?_) (a' := ?_) #[true, false, true, false, false, false, false, false, false, false, false, false, false, false, false] rfl rfl (any_of HT_.out (by kernel_rfl)) (fun _ _ _ h => h) (Or.inl ⟨by rfl, ?_⟩) ?_ ?_
        rotate_left
        ·intro w'
         go_simp
         with_reducible rfl
        rotate_left
        ·simp only [Act.put, List.setIfInBounds_toArray, List.set_cons_zero, List.set_cons_succ, i64_w, i32_w]
         rfl
        refine pure_ (i := 3) (N := some 50) (v := ?_) (a' := ?_) #[true, false, true, true, false, false, false, false, false, false, false, false, false, false, false] rfl rfl (any_of HT_.out (by kernel_rfl)) (fun _ _ _ h => h) (Or.inl ⟨by rfl, ?_⟩) ?_ ?_
        rotate_left
        ·intro w'
         go_simp
         with_reducible rfl
        rotate_left
        ·simp only [Act.put, List.setIfInBounds_toArray, List.set_cons_zero, List.set_cons_succ, i64_w, i32_w]
         rfl
        refine pure_ (i := 9) (N := some 56) (v := ?_) (a' := ?_) #[true, false, true, true, false, false, false, false, false, true, false, false, false, false, false] rfl rfl (any_of HT_.out (by kernel_rfl)) (fun _ _ _ h => h) (Or.inl ⟨by rfl, ?_⟩) ?_ ?_
        rotate_left
        ·intro w'
         go_simp
         with_reducible rfl
        rotate_left
        ·simp only [Act.put, List.setIfInBounds_toArray, List.set_cons_zero, List.set_cons_succ, i64_w, i32_w]
         rfl
        refine take_ (i := 1) (N := some 48) (v := ?_) (a' := ?_) #[true, true, true, true, false, false, false, false, false, true, false, false, false, false, false] rfl rfl (take_ofW HT_.out HW_.out (by kernel_rfl)) (fun _ _ _ h => h) (Or.inl ⟨by rfl, ?_⟩) hHeld ?_ ?_
        rotate_left
        ·rintro w' ⟨s0, s1, s2, s3, s4⟩
         go_simp
         with_reducible rfl
        rotate_left
        ·simp only [Act.put, List.setIfInBounds_toArray, List.set_cons_zero, List.set_cons_succ, i64_w, i32_w]
         rfl
        refine take_ (i := 4) (N := some 51) (v := ?_) (a' := ?_) #[true, true, true, true, true, false, false, false, false, true, false, false, false, false, false] rfl rfl (take_ofW HT_.out HW_.out (by kernel_rfl)) (fun _ _ _ h => h) (Or.inl ⟨by rfl, ?_⟩) hHeld ?_ ?_
        rotate_left
        ·rintro w' ⟨s0, s1, s2, s3, s4⟩
         go_simp
         with_reducible rfl
        rotate_left
        ·simp only [Act.put, List.setIfInBounds_toArray, List.set_cons_zero, List.set_cons_succ, i64_w, i32_w]
         rfl
        refine pure_ (i := 5) (N := some 52) (v := ?_) (a' := ?_) #[true, true, true, true, true, true, false, false, false, true, false, false, false, false, false] rfl rfl (any_of HT_.out (by kernel_rfl)) (fun _ _ _ h => h) (Or.inl ⟨by rfl, ?_⟩) ?_ ?_
        rotate_left
        ·intro w'
         go_simp
         with_reducible rfl
        rotate_left
        ·simp only [Act.put, List.setIfInBounds_toArray, List.set_cons_zero, List.set_cons_succ, i64_w, i32_w]
         rfl
        refine one_ (i := 6) (N := some 53) #[true, true, true, true, true, true, true, false, false, true, false, false, false, false, false] rfl rfl (one_of HT_.out (by kernel_rfl)) (by decide) (fun K hK => ?_)
        refine goes_ Try.func107 (by kernel_rfl) rfl #[.pointer (some ⟨g, 0, none⟩), .int .i64 (t436.length : Int)] (by rfl) rfl rfl lm_ ?_
        with_reducible refine (spec_l1Cur_pick.calls g s0_0 t441 t442 (t436.length : Int) t451 t452 t453 w0 _ ?side1 ?side2 A85.out).mono ?_
        (case side1 => exact ls109_ HI0)
        (case side2 => exact lv109_ HB)
        rintro e w106 ⟨rfl, hi, hb, hk⟩
        have HS4_ := keep_cell hk (hHeld.2.2.2.2) (by first | (rw [add_block]; exact Kd.own_blk (IsS109.own_ne HI0.out HO438.out (by decide))) | (show (Addr.add _ _).block ≠ _; rw [add_block]; exact Kd.own_blk (IsS109.own_ne HI0.out HO438.out (by decide))) | exact Kd.own_blk (IsS109.own_ne HI0.out HO438.out (by decide)))
        refine ⟨_, rfl, ?_⟩
        replace HO_401001 := am_ (m1_ (Kd.R_keep (IsS109.apart (show IsS109 w0 _ g s0_0 t441 t442 from ls109_ HI0) (lf_ HO_401001) (by decide)) hk (fun _ h => h.2))); replace BK393 := am_ (KeepBut.blk hk (g' := gb393) (lb_ BK393) NB393_0.out (by simp)); replace BK400 := am_ (KeepBut.blk hk (g' := gb400) (lb_ BK400) NB400_0.out (by simp)); replace HO432 := am_ (m1_ (Kd.R_keep (IsS109.apart (show IsS109 w0 _ g s0_0 t441 t442 from ls109_ HI0) (lf_ HO432) (by decide)) hk (fun _ h => h.2))); replace HO435 := am_ (m1_ (Kd.R_keep (IsS109.apart (show IsS109 w0 _ g s0_0 t441 t442 from ls109_ HI0) (lf_ HO435) (by decide)) hk (fun _ h => h.2))); replace HO438 := am_ (m1_ (Kd.R_keep (IsS109.apart (show IsS109 w0 _ g s0_0 t441 t442 from ls109_ HI0) (lf_ HO438) (by decide)) hk (fun _ h => h.2))); replace BK439 := am_ (KeepBut.blk hk (g' := gb439) (lb_ BK439) NB439_0.out (by simp)); replace HK := am_ (KeepBut.trans (lk_ HK) hk (.inl rfl)); replace HB := am_ (hb); replace HI0 := am_ (hi)
        (try clear hb)
        (try clear hb2)
        (try clear hk)
        (try clear hi)
        refine hK.out _ _ ⟨(blk_cell BK439.out 0).trans rfl, (blk_cell BK439.out 1).trans rfl, (blk_cell BK439.out 2).trans rfl, (blk_cell BK439.out 3).trans rfl, HS4_⟩ (fun hHeld => ?_)
        clear hK K
        refine norm_ (a' := ?_) ?_ ?_
        rotate_left
        ·show Act.put _ (some 53) _ = _
         simp only [Act.put, List.setIfInBounds_toArray, List.set_cons_zero, List.set_cons_succ, i64_w, i32_w]
         rfl
        refine pure_ (i := 7) (N := some 54) (v := ?_) (a' := ?_) #[true, true, true, true, true, true, true, true, false, true, false, false, false, false, false] rfl rfl (any_of HT_.out (by kernel_rfl)) (fun _ _ _ h => h) (Or.inl ⟨by rfl, ?_⟩) ?_ ?_
        rotate_left
        ·intro w'
         go_simp
         with_reducible rfl
        rotate_left
        ·simp only [Act.put, List.setIfInBounds_toArray, List.set_cons_zero, List.set_cons_succ, i64_w, i32_w]
         rfl
        refine take_ (i := 8) (N := some 55) (v := ?_) (a' := ?_) #[true, true, true, true, true, true, true, true, true, true, false, false, false, false, false] rfl rfl (take_ofW HT_.out HW_.out (by kernel_rfl)) (fun _ _ _ h => h) (Or.inl ⟨by rfl, ?_⟩) hHeld ?_ ?_
        rotate_left
        ·rintro w' ⟨s0, s1, s2, s3, s4⟩
         go_simp
         with_reducible rfl
        rotate_left
        ·simp only [Act.put, List.setIfInBounds_toArray, List.set_cons_zero, List.set_cons_succ, i64_w, i32_w]
         rfl
        refine one_ (i := 10) (N := some 57) #[true, true, true, true, true, true, true, true, true, true, true, false, false, false, false] rfl rfl (one_of HT_.out (by kernel_rfl)) (by decide) (fun K hK => ?_)
        refine goes_ Try.func107 (by kernel_rfl) rfl #[.pointer (some ⟨g, 0, none⟩), .int .i64 3] (by rfl) rfl rfl lm_ ?_
        with_reducible refine (spec_l1Cur_pick.calls g s0_0 t452 t453 3 t455 t456 t457 w0 _ ?side1 ?side2 A88.out).mono ?_
        (case side1 => exact ls109_ HI0)
        (case side2 => exact lv109_ HB)
        rintro e w107 ⟨rfl, hi, hb, hk⟩
        have HS4_ := keep_cell hk (hHeld.2.2.2.2) (by first | (rw [add_block]; exact Kd.own_blk (IsS109.own_ne HI0.out HO438.out (by decide))) | (show (Addr.add _ _).block ≠ _; rw [add_block]; exact Kd.own_blk (IsS109.own_ne HI0.out HO438.out (by decide))) | exact Kd.own_blk (IsS109.own_ne HI0.out HO438.out (by decide)))
        refine ⟨_, rfl, ?_⟩
        replace HO_401001 := am_ (m1_ (Kd.R_keep (IsS109.apart (show IsS109 w0 _ g s0_0 t452 t453 from ls109_ HI0) (lf_ HO_401001) (by decide)) hk (fun _ h => h.2))); replace BK393 := am_ (KeepBut.blk hk (g' := gb393) (lb_ BK393) NB393_0.out (by simp)); replace BK400 := am_ (KeepBut.blk hk (g' := gb400) (lb_ BK400) NB400_0.out (by simp)); replace HO432 := am_ (m1_ (Kd.R_keep (IsS109.apart (show IsS109 w0 _ g s0_0 t452 t453 from ls109_ HI0) (lf_ HO432) (by decide)) hk (fun _ h => h.2))); replace HO435 := am_ (m1_ (Kd.R_keep (IsS109.apart (show IsS109 w0 _ g s0_0 t452 t453 from ls109_ HI0) (lf_ HO435) (by decide)) hk (fun _ h => h.2))); replace HO438 := am_ (m1_ (Kd.R_keep (IsS109.apart (show IsS109 w0 _ g s0_0 t452 t453 from ls109_ HI0) (lf_ HO438) (by decide)) hk (fun _ h => h.2))); replace BK439 := am_ (KeepBut.blk hk (g' := gb439) (lb_ BK439) NB439_0.out (by simp)); replace HK := am_ (KeepBut.trans (lk_ HK) hk (.inl rfl)); replace HB := am_ (hb); replace HI0 := am_ (hi)
        (try clear hb)
        (try clear hb2)
        (try clear hk)
        (try clear hi)
        have p89 : 0 ≤ (t451 : Int) := of_decide_eq_true (by first | (with_reducible assumption) | assumption)
        have q89 : (t451 : Int) < ((t436.length : Int) : Int) := of_decide_eq_true (by first | (with_reducible assumption) | assumption)
        obtain ⟨go89, co89, eo89, gb89, gl89, cl89, HG89⟩ := Kd.R_form HO438.out (by omega)
        (first | cases eo89 | (injection eo89 with ea_ en_ ec_; (first | subst ea_ | (injection ea_ with ea_; subst ea_)); subst ec_; clear en_))
        have GB89 := am_ gb89
        have GG89 := am_ HG89
        clear gb89 gl89 HG89
        (first | simp only [add_plain] at hx454_0 | skip)
        obtain ⟨hx89_0, hf89_0⟩ := Kd.R_celln 0 HO438.out (t451 : Int) p89 q89
        replace p89 := eq_true p89
        replace q89 := eq_true q89
        have HN0_go89 := am_ (show g ≠ go89 from by have h_ := IsS109.own_ne HI0.out HO438.out (by decide); intro e_; exact h_ (by rw [e_]; rfl))
        have HP108 := Kd.R_putn HO438.out (t451 : Int) (wrap64 ((rd t436 t451) + (wrap64 (t455 - 1))))
        rw [← Ny458.out] at HP108
        have HQ108 := am_ HP108
        clear HP108
        refine hK.out _ _ ⟨(blk_cell BK439.out 0).trans rfl, (blk_cell BK439.out 1).trans rfl, (blk_cell BK439.out 2).trans rfl, (blk_cell BK439.out 3).trans rfl, HS4_⟩ (fun hHeld => ?_)
        clear hK K
        refine norm_ (a' := ?_) ?_ ?_
        rotate_left
        ·show Act.put _ (some 57) _ = _
         simp only [Act.put, List.setIfInBounds_toArray, List.set_cons_zero, List.set_cons_succ, i64_w, i32_w]
         rfl
        refine pure_ (i := 11) (N := some 58) (v := ?_) (a' := ?_) #[true, true, true, true, true, true, true, true, true, true, true, true, false, false, false] rfl rfl (any_of HT_.out (by kernel_rfl)) (fun _ _ _ h => h) (Or.inl ⟨by rfl, ?_⟩) ?_ ?_
        rotate_left
        ·intro w'
         go_simp
         with_reducible rfl
        rotate_left
        ·simp only [Act.put, List.setIfInBounds_toArray, List.set_cons_zero, List.set_cons_succ, i64_w, i32_w]
         rfl
        refine pure_ (i := 12) (N := some 59) (v := ?_) (a' := ?_) #[true, true, true, true, true, true, true, true, true, true, true, true, true, false, false] rfl rfl (any_of HT_.out (by kernel_rfl)) (fun _ _ _ h => h) (Or.inl ⟨by rfl, ?_⟩) ?_ ?_
        rotate_left
        ·intro w'
         go_simp
         with_reducible rfl
        rotate_left
        ·simp only [Act.put, List.setIfInBounds_toArray, List.set_cons_zero, List.set_cons_succ, i64_w, i32_w]
         rfl
        refine pure_ (i := 13) (N := some 60) (v := ?_) (a' := ?_) #[true, true, true, true, true, true, true, true, true, true, true, true, true, true, false] rfl rfl (any_of HT_.out (by kernel_rfl)) (fun _ _ _ h => h) (Or.inl ⟨by rfl, ?_⟩) ?_ ?_
        rotate_left
        ·intro w'
         go_simp
         with_reducible rfl
        rotate_left
        ·simp only [Act.put, List.setIfInBounds_toArray, List.set_cons_zero, List.set_cons_succ, i64_w, i32_w]
         rfl
        refine last_ (i := 14) (N := none) #[true, true, true, true, true, true, true, true, true, true, true, true, true, true, true] rfl rfl (one_of HT_.out (by kernel_rfl)) (by decide) (fun K hK => ?_)
        refine skip_ (w1 := ?_) (by rfl) rfl ?_ ?_
        rotate_left
        ·go_simp
         rfl
        refine hK.out _ _ ?_
        clear hK K
        refine done_ (done_of HT_.out (by kernel_rfl)) ?_
        have n0_ : Aside0 (Kd.R (Kd.int .i64) 3 (w107.setCell ⟨go89, (t451 : Int).toNat, none⟩ (.int .i64 (wrap64 ((rd t436 t451) + (wrap64 (t455 - 1)))))) w.heap.size (fun k_ => ns_ k_ Ao100 t430 co100 ∧ ns_ k_ Ao101 t433 co101 ∧ some k_ ≠ (.slice (some ⟨go89, 0, none⟩) t436.length co102 : Value).ownBlock) (.slice Ao93 x401001_3.length co93) x401001_3) := ⟨lo2_ (Kd.R_far (p := ⟨go89, (t451 : Int).toNat, none⟩) (Kd.R_mono HO_401001.out (fun k_ hk => (⟨hk, fun e_ => hk.2 (by rw [e_]; rfl)⟩ : _ ∧ k_ ≠ go89))) (fun _ hk => hk.2) (.int .i64 (wrap64 ((rd t436 t451) + (wrap64 (t455 - 1))))))⟩; have n1_ : Aside0 (Kd.R (Kd.int .i64) 3 (w107.setCell ⟨go89, (t451 : Int).toNat, none⟩ (.int .i64 (wrap64 ((rd t436 t451) + (wrap64 (t455 - 1)))))) w.heap.size (fun k_ => ns_ k_ Ao93 x401001_3 co93 ∧ ns_ k_ Ao101 t433 co101 ∧ some k_ ≠ (.slice (some ⟨go89, 0, none⟩) t436.length co102 : Value).ownBlock) (.slice Ao100 t430.length co100) t430) := ⟨lo2_ (Kd.R_far (p := ⟨go89, (t451 : Int).toNat, none⟩) (Kd.R_mono HO432.out (fun k_ hk => (⟨hk, fun e_ => hk.1.2 (by rw [e_]; rfl)⟩ : _ ∧ k_ ≠ go89))) (fun _ hk => hk.2) (.int .i64 (wrap64 ((rd t436 t451) + (wrap64 (t455 - 1))))))⟩; have n2_ : Aside0 (Kd.R (Kd.int .i64) 3 (w107.setCell ⟨go89, (t451 : Int).toNat, none⟩ (.int .i64 (wrap64 ((rd t436 t451) + (wrap64 (t455 - 1)))))) w.heap.size (fun k_ => ns_ k_ Ao93 x401001_3 co93 ∧ ns_ k_ Ao100 t430 co100 ∧ some k_ ≠ (.slice (some ⟨go89, 0, none⟩) t436.length co102 : Value).ownBlock) (.slice Ao101 t433.length co101) t433) := ⟨lo2_ (Kd.R_far (p := ⟨go89, (t451 : Int).toNat, none⟩) (Kd.R_mono HO435.out (fun k_ hk => (⟨hk, fun e_ => hk.1.2 (by rw [e_]; rfl)⟩ : _ ∧ k_ ≠ go89))) (fun _ hk => hk.2) (.int .i64 (wrap64 ((rd t436 t451) + (wrap64 (t455 - 1))))))⟩; have n3_ : Aside0 (Kd.R (Kd.int .i64) 3 (w107.setCell ⟨go89, (t451 : Int).toNat, none⟩ (.int .i64 (wrap64 ((rd t436 t451) + (wrap64 (t455 - 1)))))) w.heap.size (fun k_ => ns_ k_ Ao93 x401001_3 co93 ∧ ns_ k_ Ao100 t430 co100 ∧ ns_ k_ Ao101 t433 co101) (.slice (some ⟨go89, 0, none⟩) t436.length co102) y458) := ⟨lo_ HQ108⟩; have n4_ : Aside0 ((w107.setCell ⟨go89, (t451 : Int).toNat, none⟩ (.int .i64 (wrap64 ((rd t436 t451) + (wrap64 (t455 - 1)))))).heap[gb393]? = some (.cells #[.int .i64 0, .slice none 0 0, .slice none 0 0, .slice none 0 0] 48 (0, 0))) := ⟨by (with_reducible repeat (first | refine blk_drewN ?_ _ | refine blk_drew ?_ | refine blk_alloc ?_ _)); refine blk_far ?_ (by have h_ := Kd.R_ne HO438.out BK393.out (by decide); intro e_; exact h_ (by rw [e_]; rfl)) _; (with_reducible repeat (first | refine blk_drewN ?_ _ | refine blk_drew ?_ | refine blk_alloc ?_ _)); exact BK393.out⟩; have n5_ : Aside0 ((w107.setCell ⟨go89, (t451 : Int).toNat, none⟩ (.int .i64 (wrap64 ((rd t436 t451) + (wrap64 (t455 - 1)))))).heap[gb400]? = some (.cells #[.int .i64 x401000_3, .slice Ao93 x401001_3.length co93] 26 (0, 0))) := ⟨by (with_reducible repeat (first | refine blk_drewN ?_ _ | refine blk_drew ?_ | refine blk_alloc ?_ _)); refine blk_far ?_ (by have h_ := Kd.R_ne HO438.out BK400.out (by decide); intro e_; exact h_ (by rw [e_]; rfl)) _; (with_reducible repeat (first | refine blk_drewN ?_ _ | refine blk_drew ?_ | refine blk_alloc ?_ _)); exact BK400.out⟩; have n6_ : Aside0 ((w107.setCell ⟨go89, (t451 : Int).toNat, none⟩ (.int .i64 (wrap64 ((rd t436 t451) + (wrap64 (t455 - 1)))))).heap[gb439]? = some (.cells #[.int .i64 t429, .slice Ao100 t430.length co100, .slice Ao101 t433.length co101, .slice (some ⟨go89, 0, none⟩) t436.length co102] 48 (0, 0))) := ⟨by (with_reducible repeat (first | refine blk_drewN ?_ _ | refine blk_drew ?_ | refine blk_alloc ?_ _)); refine blk_far ?_ (by have h_ := Kd.R_ne HO438.out BK439.out (by decide); intro e_; exact h_ (by rw [e_]; rfl)) _; (with_reducible repeat (first | refine blk_drewN ?_ _ | refine blk_drew ?_ | refine blk_alloc ?_ _)); exact BK439.out⟩; have n7_ : Aside0 (IsS109 w0 (w107.setCell ⟨go89, (t451 : Int).toNat, none⟩ (.int .i64 (wrap64 ((rd t436 t451) + (wrap64 (t455 - 1)))))) g s0_0 t456 t457) := ⟨ls109_ HI0⟩; have n8_ : Aside0 (KeepBut w (w107.setCell ⟨go89, (t451 : Int).toNat, none⟩ (.int .i64 (wrap64 ((rd t436 t451) + (wrap64 (t455 - 1)))))) g none) := ⟨lk_ HK⟩; have n9_ : Aside0 (Below w0.heap.size w0 (w107.setCell ⟨go89, (t451 : Int).toNat, none⟩ (.int .i64 (wrap64 ((rd t436 t451) + (wrap64 (t455 - 1))))))) := ⟨by repeat (first | (with_reducible first | exact HB.out | apply below_alloc | apply pw_below_drewN | apply below_drew1 | refine below_set ?_ (Nat.le_trans HL.out GB89.out) | refine below_set ?_ (IsS109.ge HI0.out) | refine below_set ?_ GE393.out | refine below_set ?_ GE400.out | refine below_set ?_ GE439.out) | exact HB.out)⟩
        (try clear HO_401001)
        (try clear HO432)
        (try clear HO435)
        (try clear HO438)
        (try clear BK393)
        (try clear BK400)
        (try clear BK439)
        (try clear HI0)
        (try clear HK)
        (try clear HB)
        generalize (w107.setCell ⟨go89, (t451 : Int).toNat, none⟩ (.int .i64 (wrap64 ((rd t436 t451) + (wrap64 (t455 - 1)))))) = w109 at n0_ n1_ n2_ n3_ n4_ n5_ n6_ n7_ n8_ n9_ ⊢
        have HO_401001 := n0_
        have HO432 := n1_
        have HO435 := n2_
        have HO438 := n3_
        have BK393 := n4_
        have BK400 := n5_
        have BK439 := n6_
        have HI0 := n7_
        have HK := n8_
        have HB := n9_
        clear n0_ n1_ n2_ n3_ n4_ n5_ n6_ n7_ n8_ n9_
        obtain ⟨hcz110_0, hcz110_1, hcz110_2, hcz110_3, hfz110_0, hfz110_1, hfz110_2, hfz110_3⟩ := bx4_ BK439.out
        have hnb111 := NB393_0.out
        have hnc111 := NB0_393.out
        obtain ⟨hcz112_0, hcz112_1, hcz112_2, hcz112_3, hfz112_0, hfz112_1, hfz112_2, hfz112_3⟩ := bx4_ BK393.out
        try go_wp2
        refine bodyPost_ret (results_cell_row rfl _ _ gb393 48 #[.int .i64 t429, .slice Ao100 t430.length co100, .slice Ao101 t433.length co101, .slice (some ⟨go89, 0, none⟩) t436.length co102] (0, 0) _ rfl (lq_ BK393) Try.underlying48 rfl (by kernel_rfl)) rfl ?_
        exact ⟨_, _, _, er_, lo2_ (fr4_ HO432.out BK393.out (.int .i64 t429) (.slice Ao100 t430.length co100) (.slice Ao101 t433.length co101) (.slice (some ⟨go89, 0, none⟩) t436.length co102)), lo2_ (fr4_ HO435.out BK393.out (.int .i64 t429) (.slice Ao100 t430.length co100) (.slice Ao101 t433.length co101) (.slice (some ⟨go89, 0, none⟩) t436.length co102)), lo2_ (fr4_ HO438.out BK393.out (.int .i64 t429) (.slice Ao100 t430.length co100) (.slice Ao101 t433.length co101) (.slice (some ⟨go89, 0, none⟩) t436.length co102)), ls109_ HI0, lv109_ HB, lk_ HK⟩
       ·rw [if_neg c87] at H
        exact absurd H (by simp)
      ·rw [if_neg c86] at H
       exact absurd H (by simp)
     ·rw [if_neg c84] at H
      have c84b0 : decide (0 < (t436.length : Int)) = false := decide_eq_false c84
      have c84b1 : decide (0 < t436.length) = false := decide_eq_false (by omega)
      clear c84
      simp only [Option.some.injEq, Prod.mk.injEq] at H
      obtain ⟨rfl, rfl, rfl, rfl, rfl, rfl⟩ := H
      have hnb113 := NB400_393.out
      have hnc113 := NB393_400.out
      have hnb114 := NB400_0.out
      have hnc114 := NB0_400.out
      obtain ⟨hcz115_0, hcz115_1, hfz115_0, hfz115_1⟩ := bx2_ BK400.out
      obtain ⟨Ao116, co116, eo116⟩ := Kd.R_slice HO_401001.out
      subst eo116
      go_wp2_with (first | ((with_reducible refine gate_callee (f := 95) rfl ?_); refine goesL_ (some 18) rfl rfl Try.func95 (by kernel_rfl) rfl #[.agg #[.int .i64 x401000_3, .slice Ao116 x401001_3.length co116]] rfl lm_ ?_; (with_reducible refine (spec_raOf.calls kj3 x401000_3 _ _ x401001_3 t429 t430 t433 t436 _ ?side1 ?side2 A34.out).mono ?_); (case side1 => exact lc_ (Kd.R_reads' HO_401001.out).2.2); (case side2 => exact (Kd.R_reads' HO_401001.out).2.1); rintro e w117 ⟨v431, v434, v437, rfl, ho0, ho1, ho2, hb⟩; refine ⟨_, rfl, ?_⟩; have HO432 := am_ (Kd.R_lower (nw_ ho0 HO_401001) (keep_size (w := w) (g := g) (row := none) (lk_ HK))); have HO435 := am_ (Kd.R_lower (nw_ ho1 HO_401001) (keep_size (w := w) (g := g) (row := none) (lk_ HK))); have HO438 := am_ (Kd.R_lower (nw_ ho2 HO_401001) (keep_size (w := w) (g := g) (row := none) (lk_ HK))); replace HO_401001 := am_ (m1_ (td_ (td_ (td_ (Kd.R_old (lf_ HO_401001) hb) ho0) ho1) ho2)); replace BK393 := am_ (blk_below (g := gb393) (lb_ BK393) hb); replace BK400 := am_ (blk_below (g := gb400) (lb_ BK400) hb); replace HI0 := am_ (IsS109.below (ls109_ HI0) hb); replace HK := am_ (KeepBut.trans (lk_ HK) (KeepBut.of_below hb g none) (.inl rfl)); replace HB := am_ (below_step (lv109_ HB) hb); (try clear hb); (try clear hb2); (try clear hk); (try clear hi); (try clear ho0); (try clear ho1); (try clear ho2)) | ((with_reducible refine gate_dst (N := 4) rfl ?_); refine bev_ 4 #[.int .i64 0, .slice none 0 0, .slice none 0 0, .slice none 0 0] 48 rfl rfl ?_; intro gb439 hg w118 hbox hb; have BK439 := am_ (hbox); have GW439 := am_ ((by rw [hg]; exact (keep_size (w := w) (g := g) (row := none) (lk_ HK)) : w.heap.size ≤ gb439)); have GE439 := am_ ((Nat.le_trans HW0.out (by rw [hg]; exact (keep_size (w := w) (g := g) (row := none) (lk_ HK)) : w.heap.size ≤ gb439) : w0.heap.size ≤ gb439)); have NB393_439 := am_ ((by rw [hg]; exact Nat.ne_of_lt (blk_lt (g := gb393) (lb_ BK393)) : gb393 ≠ gb439)); have NB439_393 := am_ ((by rw [hg]; exact Nat.ne_of_gt (blk_lt (g := gb393) (lb_ BK393)) : gb439 ≠ gb393)); have NB400_439 := am_ ((by rw [hg]; exact Nat.ne_of_lt (blk_lt (g := gb400) (lb_ BK400)) : gb400 ≠ gb439)); have NB439_400 := am_ ((by rw [hg]; exact Nat.ne_of_gt (blk_lt (g := gb400) (lb_ BK400)) : gb439 ≠ gb400)); have NB0_439 := am_ ((by rw [hg]; exact Nat.ne_of_lt (IsS109.lt (show IsS109 w0 _ g s0_0 x1001_3 x1002_3 from ls109_ HI0)) : g ≠ gb439)); have NB439_0 := am_ ((by rw [hg]; exact Nat.ne_of_gt (IsS109.lt (show IsS109 w0 _ g s0_0 x1001_3 x1002_3 from ls109_ HI0)) : gb439 ≠ g)); replace HO_401001 := am_ (Kd.R_below (lf_ HO_401001) hb); replace HO432 := am_ (Kd.R_below (lf_ HO432) hb); replace HO435 := am_ (Kd.R_below (lf_ HO435) hb); replace HO438 := am_ (Kd.R_below (lf_ HO438) hb); replace BK393 := am_ (blk_below (g := gb393) (lb_ BK393) hb); replace BK400 := am_ (blk_below (g := gb400) (lb_ BK400) hb); replace HI0 := am_ (IsS109.below (ls109_ HI0) hb); replace HK := am_ (KeepBut.trans (lk_ HK) (KeepBut.of_below hb g none) (.inl rfl)); replace HB := am_ (below_step (lv109_ HB) hb); clear hb hbox hg; have hnb119 := NB439_393.out; have hnc119 := NB393_439.out; have hnb120 := NB439_400.out; have hnc120 := NB400_439.out; have hnb121 := NB439_0.out; have hnc121 := NB0_439.out; obtain ⟨hcz122_0, hcz122_1, hcz122_2, hcz122_3, hfz122_0, hfz122_1, hfz122_2, hfz122_3⟩ := bx4_ BK439.out; obtain ⟨Ao123, co123, eo123⟩ := Kd.R_slice HO432.out; subst eo123; obtain ⟨Ao124, co124, eo124⟩ := Kd.R_slice HO435.out; subst eo124; obtain ⟨Ao125, co125, eo125⟩ := Kd.R_slice HO438.out; subst eo125) | ((with_reducible refine gate_callee (f := 107) rfl ?_); refine goesL_ (some 20) rfl rfl Try.func107 (by kernel_rfl) rfl #[.pointer (some ⟨g, 0, none⟩), .int .i64 14] rfl lm_ ?_; (with_reducible refine (spec_l1Cur_pick.calls g s0_0 x1001_3 x1002_3 14 t440 t441 t442 w0 _ ?side1 ?side2 A35.out).mono ?_); (case side1 => exact ls109_ HI0); (case side2 => exact lv109_ HB); rintro e w126 ⟨rfl, hi, hb, hk⟩; refine ⟨_, rfl, ?_⟩; replace HO_401001 := am_ (m1_ (Kd.R_keep (IsS109.apart (show IsS109 w0 _ g s0_0 x1001_3 x1002_3 from ls109_ HI0) (lt_ ((m1_ (fr4_ HO_401001.out BK439.out (.int .i64 t429) (.slice Ao123 t430.length co123) (.slice Ao124 t433.length co124) (.slice Ao125 t436.length co125))))) (by decide)) hk (fun _ h => h.2))); replace BK393 := am_ (KeepBut.blk hk (g' := gb393) (lg_ BK393) NB393_0.out (by simp)); replace BK400 := am_ (KeepBut.blk hk (g' := gb400) (lg_ BK400) NB400_0.out (by simp)); replace HO432 := am_ (m1_ (Kd.R_keep (IsS109.apart (show IsS109 w0 _ g s0_0 x1001_3 x1002_3 from ls109_ HI0) (lt_ ((m1_ (fr4_ HO432.out BK439.out (.int .i64 t429) (.slice Ao123 t430.length co123) (.slice Ao124 t433.length co124) (.slice Ao125 t436.length co125))))) (by decide)) hk (fun _ h => h.2))); replace HO435 := am_ (m1_ (Kd.R_keep (IsS109.apart (show IsS109 w0 _ g s0_0 x1001_3 x1002_3 from ls109_ HI0) (lt_ ((m1_ (fr4_ HO435.out BK439.out (.int .i64 t429) (.slice Ao123 t430.length co123) (.slice Ao124 t433.length co124) (.slice Ao125 t436.length co125))))) (by decide)) hk (fun _ h => h.2))); replace HO438 := am_ (m1_ (Kd.R_keep (IsS109.apart (show IsS109 w0 _ g s0_0 x1001_3 x1002_3 from ls109_ HI0) (lt_ ((m1_ (fr4_ HO438.out BK439.out (.int .i64 t429) (.slice Ao123 t430.length co123) (.slice Ao124 t433.length co124) (.slice Ao125 t436.length co125))))) (by decide)) hk (fun _ h => h.2))); replace BK439 := am_ (KeepBut.blk hk (g' := gb439) (o := .cells #[.int .i64 t429, .slice Ao123 t430.length co123, .slice Ao124 t433.length co124, .slice Ao125 t436.length co125] 48 (0, 0)) (lq_ BK439) NB439_0.out (by simp)); replace HK := am_ (KeepBut.trans (lk_ HK) hk (.inl rfl)); replace HB := am_ (hb); replace HI0 := am_ (hi); (try clear hb); (try clear hb2); (try clear hk); (try clear hi); obtain ⟨hcz127_0, hcz127_1, hcz127_2, hcz127_3, hfz127_0, hfz127_1, hfz127_2, hfz127_3⟩ := bx4_ BK439.out; have hnb128 := NB393_0.out; have hnc128 := NB0_393.out; obtain ⟨hcz129_0, hcz129_1, hcz129_2, hcz129_3, hfz129_0, hfz129_1, hfz129_2, hfz129_3⟩ := bx4_ BK393.out))
      refine bodyPost_ret (results_cell_row rfl _ _ gb393 48 #[.int .i64 t429, .slice Ao123 t430.length co123, .slice Ao124 t433.length co124, .slice Ao125 t436.length co125] (0, 0) _ rfl (lq_ BK393) Try.underlying48 rfl (by kernel_rfl)) rfl ?_
      exact ⟨_, _, _, er_, lo2_ (fr4_ HO432.out BK393.out (.int .i64 t429) (.slice Ao123 t430.length co123) (.slice Ao124 t433.length co124) (.slice Ao125 t436.length co125)), lo2_ (fr4_ HO435.out BK393.out (.int .i64 t429) (.slice Ao123 t430.length co123) (.slice Ao124 t433.length co124) (.slice Ao125 t436.length co125)), lo2_ (fr4_ HO438.out BK393.out (.int .i64 t429) (.slice Ao123 t430.length co123) (.slice Ao124 t433.length co124) (.slice Ao125 t436.length co125)), ls109_ HI0, lv109_ HB, lk_ HK⟩
    ·rw [if_neg c83] at H
     have c83b0 : (t440 == 1) = false := beq_eq_false_iff_ne.mpr c83
     have c83b1 : (t440 != 1) = true := bne_iff_ne.mpr c83
     by_cases c130 : t440 = 2
     ·rw [if_pos c130] at H
      have c130b0 : (t440 == 2) = true := beq_iff_eq.mpr c130
      have c130b1 : (t440 != 2) = false := bne_eq_false_iff_eq.mpr c130
      clear c130
      by_cases c131 : t436.length < 17592186044416
      ·rw [if_pos c131] at H
       have LMc131 := am_ c131
       clear c131
       obtain ⟨y459, hy459⟩ : ∃ y_ : List Int, y_ = (t436 ++ [0]) := ⟨_, rfl⟩
       replace H : (some (t429, t430, t433, y459, t441, t442)) = some (r1, r2, r3, r4, r5, r6) := by first | (rw [hy459]; with_reducible exact H) | (have H2_ := (Option.bind_some _ _).symm.trans H; rw [hy459]; with_reducible exact H2_) | (have H2_ := (Option.bind_some _ _).symm.trans H; with_reducible exact H2_) | with_reducible exact H | (rw [hy459]; exact H) | exact H
       have Ny459 := am_ hy459
       clear hy459
       simp only [Option.some.injEq, Prod.mk.injEq] at H
       obtain ⟨rfl, rfl, rfl, rfl, rfl, rfl⟩ := H
       have hnb132 := NB400_393.out
       have hnc132 := NB393_400.out
       have hnb133 := NB400_0.out
       have hnc133 := NB0_400.out
       obtain ⟨hcz134_0, hcz134_1, hfz134_0, hfz134_1⟩ := bx2_ BK400.out
       obtain ⟨Ao135, co135, eo135⟩ := Kd.R_slice HO_401001.out
       subst eo135
       go_wp2_with (first | ((with_reducible refine gate_callee (f := 95) rfl ?_); refine goesL_ (some 18) rfl rfl Try.func95 (by kernel_rfl) rfl #[.agg #[.int .i64 x401000_3, .slice Ao135 x401001_3.length co135]] rfl lm_ ?_; (with_reducible refine (spec_raOf.calls kj3 x401000_3 _ _ x401001_3 t429 t430 t433 t436 _ ?side1 ?side2 A34.out).mono ?_); (case side1 => exact lc_ (Kd.R_reads' HO_401001.out).2.2); (case side2 => exact (Kd.R_reads' HO_401001.out).2.1); rintro e w136 ⟨v431, v434, v437, rfl, ho0, ho1, ho2, hb⟩; refine ⟨_, rfl, ?_⟩; have HO432 := am_ (Kd.R_lower (nw_ ho0 HO_401001) (keep_size (w := w) (g := g) (row := none) (lk_ HK))); have HO435 := am_ (Kd.R_lower (nw_ ho1 HO_401001) (keep_size (w := w) (g := g) (row := none) (lk_ HK))); have HO438 := am_ (Kd.R_lower (nw_ ho2 HO_401001) (keep_size (w := w) (g := g) (row := none) (lk_ HK))); replace HO_401001 := am_ (m1_ (td_ (td_ (td_ (Kd.R_old (lf_ HO_401001) hb) ho0) ho1) ho2)); replace BK393 := am_ (blk_below (g := gb393) (lb_ BK393) hb); replace BK400 := am_ (blk_below (g := gb400) (lb_ BK400) hb); replace HI0 := am_ (IsS109.below (ls109_ HI0) hb); replace HK := am_ (KeepBut.trans (lk_ HK) (KeepBut.of_below hb g none) (.inl rfl)); replace HB := am_ (below_step (lv109_ HB) hb); (try clear hb); (try clear hb2); (try clear hk); (try clear hi); (try clear ho0); (try clear ho1); (try clear ho2)) | ((with_reducible refine gate_dst (N := 4) rfl ?_); refine bev_ 4 #[.int .i64 0, .slice none 0 0, .slice none 0 0, .slice none 0 0] 48 rfl rfl ?_; intro gb439 hg w137 hbox hb; have BK439 := am_ (hbox); have GW439 := am_ ((by rw [hg]; exact (keep_size (w := w) (g := g) (row := none) (lk_ HK)) : w.heap.size ≤ gb439)); have GE439 := am_ ((Nat.le_trans HW0.out (by rw [hg]; exact (keep_size (w := w) (g := g) (row := none) (lk_ HK)) : w.heap.size ≤ gb439) : w0.heap.size ≤ gb439)); have NB393_439 := am_ ((by rw [hg]; exact Nat.ne_of_lt (blk_lt (g := gb393) (lb_ BK393)) : gb393 ≠ gb439)); have NB439_393 := am_ ((by rw [hg]; exact Nat.ne_of_gt (blk_lt (g := gb393) (lb_ BK393)) : gb439 ≠ gb393)); have NB400_439 := am_ ((by rw [hg]; exact Nat.ne_of_lt (blk_lt (g := gb400) (lb_ BK400)) : gb400 ≠ gb439)); have NB439_400 := am_ ((by rw [hg]; exact Nat.ne_of_gt (blk_lt (g := gb400) (lb_ BK400)) : gb439 ≠ gb400)); have NB0_439 := am_ ((by rw [hg]; exact Nat.ne_of_lt (IsS109.lt (show IsS109 w0 _ g s0_0 x1001_3 x1002_3 from ls109_ HI0)) : g ≠ gb439)); have NB439_0 := am_ ((by rw [hg]; exact Nat.ne_of_gt (IsS109.lt (show IsS109 w0 _ g s0_0 x1001_3 x1002_3 from ls109_ HI0)) : gb439 ≠ g)); replace HO_401001 := am_ (Kd.R_below (lf_ HO_401001) hb); replace HO432 := am_ (Kd.R_below (lf_ HO432) hb); replace HO435 := am_ (Kd.R_below (lf_ HO435) hb); replace HO438 := am_ (Kd.R_below (lf_ HO438) hb); replace BK393 := am_ (blk_below (g := gb393) (lb_ BK393) hb); replace BK400 := am_ (blk_below (g := gb400) (lb_ BK400) hb); replace HI0 := am_ (IsS109.below (ls109_ HI0) hb); replace HK := am_ (KeepBut.trans (lk_ HK) (KeepBut.of_below hb g none) (.inl rfl)); replace HB := am_ (below_step (lv109_ HB) hb); clear hb hbox hg; have hnb138 := NB439_393.out; have hnc138 := NB393_439.out; have hnb139 := NB439_400.out; have hnc139 := NB400_439.out; have hnb140 := NB439_0.out; have hnc140 := NB0_439.out; obtain ⟨hcz141_0, hcz141_1, hcz141_2, hcz141_3, hfz141_0, hfz141_1, hfz141_2, hfz141_3⟩ := bx4_ BK439.out; obtain ⟨Ao142, co142, eo142⟩ := Kd.R_slice HO432.out; subst eo142; obtain ⟨Ao143, co143, eo143⟩ := Kd.R_slice HO435.out; subst eo143; obtain ⟨Ao144, co144, eo144⟩ := Kd.R_slice HO438.out; subst eo144) | ((with_reducible refine gate_callee (f := 107) rfl ?_); refine goesL_ (some 20) rfl rfl Try.func107 (by kernel_rfl) rfl #[.pointer (some ⟨g, 0, none⟩), .int .i64 14] rfl lm_ ?_; (with_reducible refine (spec_l1Cur_pick.calls g s0_0 x1001_3 x1002_3 14 t440 t441 t442 w0 _ ?side1 ?side2 A35.out).mono ?_); (case side1 => exact ls109_ HI0); (case side2 => exact lv109_ HB); rintro e w145 ⟨rfl, hi, hb, hk⟩; refine ⟨_, rfl, ?_⟩; replace HO_401001 := am_ (m1_ (Kd.R_keep (IsS109.apart (show IsS109 w0 _ g s0_0 x1001_3 x1002_3 from ls109_ HI0) (lt_ ((m1_ (fr4_ HO_401001.out BK439.out (.int .i64 t429) (.slice Ao142 t430.length co142) (.slice Ao143 t433.length co143) (.slice Ao144 t436.length co144))))) (by decide)) hk (fun _ h => h.2))); replace BK393 := am_ (KeepBut.blk hk (g' := gb393) (lg_ BK393) NB393_0.out (by simp)); replace BK400 := am_ (KeepBut.blk hk (g' := gb400) (lg_ BK400) NB400_0.out (by simp)); replace HO432 := am_ (m1_ (Kd.R_keep (IsS109.apart (show IsS109 w0 _ g s0_0 x1001_3 x1002_3 from ls109_ HI0) (lt_ ((m1_ (fr4_ HO432.out BK439.out (.int .i64 t429) (.slice Ao142 t430.length co142) (.slice Ao143 t433.length co143) (.slice Ao144 t436.length co144))))) (by decide)) hk (fun _ h => h.2))); replace HO435 := am_ (m1_ (Kd.R_keep (IsS109.apart (show IsS109 w0 _ g s0_0 x1001_3 x1002_3 from ls109_ HI0) (lt_ ((m1_ (fr4_ HO435.out BK439.out (.int .i64 t429) (.slice Ao142 t430.length co142) (.slice Ao143 t433.length co143) (.slice Ao144 t436.length co144))))) (by decide)) hk (fun _ h => h.2))); replace HO438 := am_ (m1_ (Kd.R_keep (IsS109.apart (show IsS109 w0 _ g s0_0 x1001_3 x1002_3 from ls109_ HI0) (lt_ ((m1_ (fr4_ HO438.out BK439.out (.int .i64 t429) (.slice Ao142 t430.length co142) (.slice Ao143 t433.length co143) (.slice Ao144 t436.length co144))))) (by decide)) hk (fun _ h => h.2))); replace BK439 := am_ (KeepBut.blk hk (g' := gb439) (o := .cells #[.int .i64 t429, .slice Ao142 t430.length co142, .slice Ao143 t433.length co143, .slice Ao144 t436.length co144] 48 (0, 0)) (lq_ BK439) NB439_0.out (by simp)); replace HK := am_ (KeepBut.trans (lk_ HK) hk (.inl rfl)); replace HB := am_ (hb); replace HI0 := am_ (hi); (try clear hb); (try clear hb2); (try clear hk); (try clear hi); obtain ⟨hcz146_0, hcz146_1, hcz146_2, hcz146_3, hfz146_0, hfz146_1, hfz146_2, hfz146_3⟩ := bx4_ BK439.out) | ((with_reducible refine gate_builtin (b := .append) (xs := #[.tmp 64, .tmp 65]) rfl ?_); at_builtin; refine Kd.R_append (Kd.int .i64) w.heap.size rfl (.tmp 64) (.tmp 65) 22 3 (.int .i64 0) 8 rfl Try.underlying22 info3 rfl (by decide) (by omega) (.slice Ao144 t436.length co144) t436 0 [.int .i64 0] (fun k_ => ns_ k_ Ao135 x401001_3 co135 ∧ ns_ k_ Ao142 t430 co142 ∧ ns_ k_ Ao143 t433 co143) (fun _ => False) rfl rfl ?aP (fun _ hk => hk.elim) ?aF ?aO (Below.refl _ _) ?aS ?aL ?_; (case aP => exact rfl); (case aF => exact (fun k_ hk => ⟨Kd.fresh' (Kd.R_lt (lf_ HO_401001)) k_ hk, Kd.fresh' (Kd.R_lt (lf_ HO432)) k_ hk, Kd.fresh' (Kd.R_lt (lf_ HO435)) k_ hk⟩)); (case aO => exact (lo_ HO438)); (case aS => exact (keep_size (w := w) (g := g) (row := none) (lk_ HK))); (case aL => have := LMc131.out; omega); intro v460 w147 ho hb hg hat; rw [← Ny459.out] at ho; have HO461 := am_ (ho); replace HO_401001 := am_ (Kd.R_after (ok := (fun k_ => ns_ k_ Ao142 t430 co142 ∧ ns_ k_ Ao143 t433 co143)) (lo_ HO_401001) hg hat); replace BK393 := am_ (blk_grown (g := gb393) (lb_ BK393) hg (Kd.R_ne HO438.out BK393.out (by decide))); replace BK400 := am_ (blk_grown (g := gb400) (lb_ BK400) hg (Kd.R_ne HO438.out BK400.out (by decide))); replace HI0 := am_ (IsS109.grown (ls109_ HI0) hg (IsS109.own_ne HI0.out HO438.out (by decide))); replace HO432 := am_ (Kd.R_after (ok := (fun k_ => ns_ k_ Ao135 x401001_3 co135 ∧ ns_ k_ Ao143 t433 co143)) (lo_ HO432) hg hat); replace HO435 := am_ (Kd.R_after (ok := (fun k_ => ns_ k_ Ao135 x401001_3 co135 ∧ ns_ k_ Ao142 t430 co142)) (lo_ HO435) hg hat); replace BK439 := am_ (blk_grown (g := gb439) (lb_ BK439) hg (Kd.R_ne HO438.out BK439.out (by decide))); replace HB := am_ (below_weaken (lv109_ HB) HL.out hb); replace HK := am_ (KeepBut.trans (lk_ HK) (KeepBut.of_grown hg g) (Kd.R_base2 HO438.out)); clear HO438; clear ho hb hg hat; obtain ⟨Ao148, co148, eo148⟩ := Kd.R_slice HO461.out; subst eo148; obtain ⟨hcz149_0, hcz149_1, hcz149_2, hcz149_3, hfz149_0, hfz149_1, hfz149_2, hfz149_3⟩ := bx4_ BK439.out; have hnb150 := NB393_0.out; have hnc150 := NB0_393.out; obtain ⟨hcz151_0, hcz151_1, hcz151_2, hcz151_3, hfz151_0, hfz151_1, hfz151_2, hfz151_3⟩ := bx4_ BK393.out))
       refine bodyPost_ret (results_cell_row rfl _ _ gb393 48 #[.int .i64 t429, .slice Ao142 t430.length co142, .slice Ao143 t433.length co143, .slice Ao148 y459.length co148] (0, 0) _ rfl (lq_ BK393) Try.underlying48 rfl (by kernel_rfl)) rfl ?_
       exact ⟨_, _, _, er_, lo2_ (Kd.R_far (p := ⟨gb393, 3, none⟩) (Kd.R_far (p := ⟨gb393, 2, none⟩) (Kd.R_far (p := ⟨gb393, 1, none⟩) (Kd.R_far (p := ⟨gb393, 0, none⟩) (Kd.R_far (p := ⟨gb439, 3, none⟩) (Kd.R_types (Kd.R_types HO432.out BK439.out (by decide)) BK393.out (by decide)) (fun _ hk => hk.1.2) (.slice Ao148 y459.length co148)) (fun _ hk => hk.2) (.int .i64 t429)) (fun _ hk => hk.2) (.slice Ao142 t430.length co142)) (fun _ hk => hk.2) (.slice Ao143 t433.length co143)) (fun _ hk => hk.2) (.slice Ao148 y459.length co148)), lo2_ (Kd.R_far (p := ⟨gb393, 3, none⟩) (Kd.R_far (p := ⟨gb393, 2, none⟩) (Kd.R_far (p := ⟨gb393, 1, none⟩) (Kd.R_far (p := ⟨gb393, 0, none⟩) (Kd.R_far (p := ⟨gb439, 3, none⟩) (Kd.R_types (Kd.R_types HO435.out BK439.out (by decide)) BK393.out (by decide)) (fun _ hk => hk.1.2) (.slice Ao148 y459.length co148)) (fun _ hk => hk.2) (.int .i64 t429)) (fun _ hk => hk.2) (.slice Ao142 t430.length co142)) (fun _ hk => hk.2) (.slice Ao143 t433.length co143)) (fun _ hk => hk.2) (.slice Ao148 y459.length co148)), lo2_ (Kd.R_far (p := ⟨gb393, 3, none⟩) (Kd.R_far (p := ⟨gb393, 2, none⟩) (Kd.R_far (p := ⟨gb393, 1, none⟩) (Kd.R_far (p := ⟨gb393, 0, none⟩) (Kd.R_far (p := ⟨gb439, 3, none⟩) (Kd.R_types (Kd.R_types HO461.out BK439.out (by decide)) BK393.out (by decide)) (fun _ hk => hk.1.2) (.slice Ao148 y459.length co148)) (fun _ hk => hk.2) (.int .i64 t429)) (fun _ hk => hk.2) (.slice Ao142 t430.length co142)) (fun _ hk => hk.2) (.slice Ao143 t433.length co143)) (fun _ hk => hk.2) (.slice Ao148 y459.length co148)), ls109_ HI0, lv109_ HB, lk_ HK⟩
      ·rw [if_neg c131] at H
       exact absurd H (by simp)
     ·rw [if_neg c130] at H
      have c130b0 : (t440 == 2) = false := beq_eq_false_iff_ne.mpr c130
      have c130b1 : (t440 != 2) = true := bne_iff_ne.mpr c130
      by_cases c152 : t440 = 3
      ·rw [if_pos c152] at H
       have c152b0 : (t440 == 3) = true := beq_iff_eq.mpr c152
       have c152b1 : (t440 != 3) = false := bne_eq_false_iff_eq.mpr c152
       clear c152
       replace H := Option.bind_eq_some_iff.mp H
       obtain ⟨⟨t462, t463, t466, t467⟩, A1530, H⟩ := H
       replace H : (some (t462, t463, t433, t436, t466, t467)) = some (r1, r2, r3, r4, r5, r6) := H
       have A153 := am_ A1530
       clear A1530
       simp only [Option.some.injEq, Prod.mk.injEq] at H
       obtain ⟨rfl, rfl, rfl, rfl, rfl, rfl⟩ := H
       have hnb154 := NB400_393.out
       have hnc154 := NB393_400.out
       have hnb155 := NB400_0.out
       have hnc155 := NB0_400.out
       obtain ⟨hcz156_0, hcz156_1, hfz156_0, hfz156_1⟩ := bx2_ BK400.out
       obtain ⟨Ao157, co157, eo157⟩ := Kd.R_slice HO_401001.out
       subst eo157
       go_wp2_with (first | ((with_reducible refine gate_callee (f := 95) rfl ?_); refine goesL_ (some 18) rfl rfl Try.func95 (by kernel_rfl) rfl #[.agg #[.int .i64 x401000_3, .slice Ao157 x401001_3.length co157]] rfl lm_ ?_; (with_reducible refine (spec_raOf.calls kj3 x401000_3 _ _ x401001_3 t429 t430 t433 t436 _ ?side1 ?side2 A34.out).mono ?_); (case side1 => exact lc_ (Kd.R_reads' HO_401001.out).2.2); (case side2 => exact (Kd.R_reads' HO_401001.out).2.1); rintro e w158 ⟨v431, v434, v437, rfl, ho0, ho1, ho2, hb⟩; refine ⟨_, rfl, ?_⟩; have HO432 := am_ (Kd.R_lower (nw_ ho0 HO_401001) (keep_size (w := w) (g := g) (row := none) (lk_ HK))); have HO435 := am_ (Kd.R_lower (nw_ ho1 HO_401001) (keep_size (w := w) (g := g) (row := none) (lk_ HK))); have HO438 := am_ (Kd.R_lower (nw_ ho2 HO_401001) (keep_size (w := w) (g := g) (row := none) (lk_ HK))); replace HO_401001 := am_ (m1_ (td_ (td_ (td_ (Kd.R_old (lf_ HO_401001) hb) ho0) ho1) ho2)); replace BK393 := am_ (blk_below (g := gb393) (lb_ BK393) hb); replace BK400 := am_ (blk_below (g := gb400) (lb_ BK400) hb); replace HI0 := am_ (IsS109.below (ls109_ HI0) hb); replace HK := am_ (KeepBut.trans (lk_ HK) (KeepBut.of_below hb g none) (.inl rfl)); replace HB := am_ (below_step (lv109_ HB) hb); (try clear hb); (try clear hb2); (try clear hk); (try clear hi); (try clear ho0); (try clear ho1); (try clear ho2)) | ((with_reducible refine gate_dst (N := 4) rfl ?_); refine bev_ 4 #[.int .i64 0, .slice none 0 0, .slice none 0 0, .slice none 0 0] 48 rfl rfl ?_; intro gb439 hg w159 hbox hb; have BK439 := am_ (hbox); have GW439 := am_ ((by rw [hg]; exact (keep_size (w := w) (g := g) (row := none) (lk_ HK)) : w.heap.size ≤ gb439)); have GE439 := am_ ((Nat.le_trans HW0.out (by rw [hg]; exact (keep_size (w := w) (g := g) (row := none) (lk_ HK)) : w.heap.size ≤ gb439) : w0.heap.size ≤ gb439)); have NB393_439 := am_ ((by rw [hg]; exact Nat.ne_of_lt (blk_lt (g := gb393) (lb_ BK393)) : gb393 ≠ gb439)); have NB439_393 := am_ ((by rw [hg]; exact Nat.ne_of_gt (blk_lt (g := gb393) (lb_ BK393)) : gb439 ≠ gb393)); have NB400_439 := am_ ((by rw [hg]; exact Nat.ne_of_lt (blk_lt (g := gb400) (lb_ BK400)) : gb400 ≠ gb439)); have NB439_400 := am_ ((by rw [hg]; exact Nat.ne_of_gt (blk_lt (g := gb400) (lb_ BK400)) : gb439 ≠ gb400)); have NB0_439 := am_ ((by rw [hg]; exact Nat.ne_of_lt (IsS109.lt (show IsS109 w0 _ g s0_0 x1001_3 x1002_3 from ls109_ HI0)) : g ≠ gb439)); have NB439_0 := am_ ((by rw [hg]; exact Nat.ne_of_gt (IsS109.lt (show IsS109 w0 _ g s0_0 x1001_3 x1002_3 from ls109_ HI0)) : gb439 ≠ g)); replace HO_401001 := am_ (Kd.R_below (lf_ HO_401001) hb); replace HO432 := am_ (Kd.R_below (lf_ HO432) hb); replace HO435 := am_ (Kd.R_below (lf_ HO435) hb); replace HO438 := am_ (Kd.R_below (lf_ HO438) hb); replace BK393 := am_ (blk_below (g := gb393) (lb_ BK393) hb); replace BK400 := am_ (blk_below (g := gb400) (lb_ BK400) hb); replace HI0 := am_ (IsS109.below (ls109_ HI0) hb); replace HK := am_ (KeepBut.trans (lk_ HK) (KeepBut.of_below hb g none) (.inl rfl)); replace HB := am_ (below_step (lv109_ HB) hb); clear hb hbox hg; have hnb160 := NB439_393.out; have hnc160 := NB393_439.out; have hnb161 := NB439_400.out; have hnc161 := NB400_439.out; have hnb162 := NB439_0.out; have hnc162 := NB0_439.out; obtain ⟨hcz163_0, hcz163_1, hcz163_2, hcz163_3, hfz163_0, hfz163_1, hfz163_2, hfz163_3⟩ := bx4_ BK439.out; obtain ⟨Ao164, co164, eo164⟩ := Kd.R_slice HO432.out; subst eo164; obtain ⟨Ao165, co165, eo165⟩ := Kd.R_slice HO435.out; subst eo165; obtain ⟨Ao166, co166, eo166⟩ := Kd.R_slice HO438.out; subst eo166) | ((with_reducible refine gate_callee (f := 107) rfl ?_); refine goesL_ (some 20) rfl rfl Try.func107 (by kernel_rfl) rfl #[.pointer (some ⟨g, 0, none⟩), .int .i64 14] rfl lm_ ?_; (with_reducible refine (spec_l1Cur_pick.calls g s0_0 x1001_3 x1002_3 14 t440 t441 t442 w0 _ ?side1 ?side2 A35.out).mono ?_); (case side1 => exact ls109_ HI0); (case side2 => exact lv109_ HB); rintro e w167 ⟨rfl, hi, hb, hk⟩; refine ⟨_, rfl, ?_⟩; replace HO_401001 := am_ (m1_ (Kd.R_keep (IsS109.apart (show IsS109 w0 _ g s0_0 x1001_3 x1002_3 from ls109_ HI0) (lt_ ((m1_ (fr4_ HO_401001.out BK439.out (.int .i64 t429) (.slice Ao164 t430.length co164) (.slice Ao165 t433.length co165) (.slice Ao166 t436.length co166))))) (by decide)) hk (fun _ h => h.2))); replace BK393 := am_ (KeepBut.blk hk (g' := gb393) (lg_ BK393) NB393_0.out (by simp)); replace BK400 := am_ (KeepBut.blk hk (g' := gb400) (lg_ BK400) NB400_0.out (by simp)); replace HO432 := am_ (m1_ (Kd.R_keep (IsS109.apart (show IsS109 w0 _ g s0_0 x1001_3 x1002_3 from ls109_ HI0) (lt_ ((m1_ (fr4_ HO432.out BK439.out (.int .i64 t429) (.slice Ao164 t430.length co164) (.slice Ao165 t433.length co165) (.slice Ao166 t436.length co166))))) (by decide)) hk (fun _ h => h.2))); replace HO435 := am_ (m1_ (Kd.R_keep (IsS109.apart (show IsS109 w0 _ g s0_0 x1001_3 x1002_3 from ls109_ HI0) (lt_ ((m1_ (fr4_ HO435.out BK439.out (.int .i64 t429) (.slice Ao164 t430.length co164) (.slice Ao165 t433.length co165) (.slice Ao166 t436.length co166))))) (by decide)) hk (fun _ h => h.2))); replace HO438 := am_ (m1_ (Kd.R_keep (IsS109.apart (show IsS109 w0 _ g s0_0 x1001_3 x1002_3 from ls109_ HI0) (lt_ ((m1_ (fr4_ HO438.out BK439.out (.int .i64 t429) (.slice Ao164 t430.length co164) (.slice Ao165 t433.length co165) (.slice Ao166 t436.length co166))))) (by decide)) hk (fun _ h => h.2))); replace BK439 := am_ (KeepBut.blk hk (g' := gb439) (o := .cells #[.int .i64 t429, .slice Ao164 t430.length co164, .slice Ao165 t433.length co165, .slice Ao166 t436.length co166] 48 (0, 0)) (lq_ BK439) NB439_0.out (by simp)); replace HK := am_ (KeepBut.trans (lk_ HK) hk (.inl rfl)); replace HB := am_ (hb); replace HI0 := am_ (hi); (try clear hb); (try clear hb2); (try clear hk); (try clear hi)) | ((with_reducible refine gate_callee (f := 103) rfl ?_); refine goesL_ (some 71) rfl rfl Try.func103 (by kernel_rfl) rfl #[.pointer (some ⟨g, 0, none⟩)] rfl lm_ ?_; (with_reducible refine (spec_l1Cur_anyBits.calls kj3 g s0_0 t441 t442 t462 t463 t466 t467 w0 _ ?side1 ?side2 A153.out).mono ?_); (case side1 => exact ls109_ HI0); (case side2 => exact lv109_ HB); rintro e w168 ⟨v464, rfl, ho0, hi, hb, hk⟩; refine ⟨_, rfl, ?_⟩; have HO465 := am_ (Kd.R_lower (nw_ (nw_ (nw_ (nw_ ho0 HO_401001) HO432) HO435) HO438) (keep_size (w := w) (g := g) (row := none) (lk_ HK))); replace HO_401001 := am_ (m1_ (td_ (Kd.R_oldK (IsS109.apart (show IsS109 w0 _ g s0_0 t441 t442 from ls109_ HI0) (lf_ HO_401001) (by decide)) hk) ho0)); replace BK393 := am_ (KeepBut.blk hk (g' := gb393) (lb_ BK393) NB393_0.out (by simp)); replace BK400 := am_ (KeepBut.blk hk (g' := gb400) (lb_ BK400) NB400_0.out (by simp)); replace HO432 := am_ (m1_ (td_ (Kd.R_oldK (IsS109.apart (show IsS109 w0 _ g s0_0 t441 t442 from ls109_ HI0) (lf_ HO432) (by decide)) hk) ho0)); replace HO435 := am_ (m1_ (td_ (Kd.R_oldK (IsS109.apart (show IsS109 w0 _ g s0_0 t441 t442 from ls109_ HI0) (lf_ HO435) (by decide)) hk) ho0)); replace HO438 := am_ (m1_ (td_ (Kd.R_oldK (IsS109.apart (show IsS109 w0 _ g s0_0 t441 t442 from ls109_ HI0) (lf_ HO438) (by decide)) hk) ho0)); replace BK439 := am_ (KeepBut.blk hk (g' := gb439) (lb_ BK439) NB439_0.out (by simp)); replace HK := am_ (KeepBut.trans (lk_ HK) hk (.inl rfl)); replace HB := am_ (hb); replace HI0 := am_ (hi); (try clear hb); (try clear hb2); (try clear hk); (try clear hi); (try clear ho0); obtain ⟨hcz169_0, hcz169_1, hcz169_2, hcz169_3, hfz169_0, hfz169_1, hfz169_2, hfz169_3⟩ := bx4_ BK439.out; obtain ⟨Ao170, co170, eo170⟩ := Kd.R_slice HO465.out; subst eo170; have hnb171 := NB393_0.out; have hnc171 := NB0_393.out; obtain ⟨hcz172_0, hcz172_1, hcz172_2, hcz172_3, hfz172_0, hfz172_1, hfz172_2, hfz172_3⟩ := bx4_ BK393.out))
       refine bodyPost_ret (results_cell_row rfl _ _ gb393 48 #[.int .i64 t462, .slice Ao170 t463.length co170, .slice Ao165 t433.length co165, .slice Ao166 t436.length co166] (0, 0) _ rfl (lq_ BK393) Try.underlying48 rfl (by kernel_rfl)) rfl ?_
       exact ⟨_, _, _, er_, lo2_ (Kd.R_far (p := ⟨gb393, 3, none⟩) (Kd.R_far (p := ⟨gb393, 2, none⟩) (Kd.R_far (p := ⟨gb393, 1, none⟩) (Kd.R_far (p := ⟨gb393, 0, none⟩) (Kd.R_far (p := ⟨gb439, 1, none⟩) (Kd.R_far (p := ⟨gb439, 0, none⟩) (Kd.R_types (Kd.R_types HO465.out BK439.out (by decide)) BK393.out (by decide)) (fun _ hk => hk.1.2) (.int .i64 t462)) (fun _ hk => hk.1.2) (.slice Ao170 t463.length co170)) (fun _ hk => hk.2) (.int .i64 t462)) (fun _ hk => hk.2) (.slice Ao170 t463.length co170)) (fun _ hk => hk.2) (.slice Ao165 t433.length co165)) (fun _ hk => hk.2) (.slice Ao166 t436.length co166)), lo2_ (Kd.R_far (p := ⟨gb393, 3, none⟩) (Kd.R_far (p := ⟨gb393, 2, none⟩) (Kd.R_far (p := ⟨gb393, 1, none⟩) (Kd.R_far (p := ⟨gb393, 0, none⟩) (Kd.R_far (p := ⟨gb439, 1, none⟩) (Kd.R_far (p := ⟨gb439, 0, none⟩) (Kd.R_types (Kd.R_types HO435.out BK439.out (by decide)) BK393.out (by decide)) (fun _ hk => hk.1.2) (.int .i64 t462)) (fun _ hk => hk.1.2) (.slice Ao170 t463.length co170)) (fun _ hk => hk.2) (.int .i64 t462)) (fun _ hk => hk.2) (.slice Ao170 t463.length co170)) (fun _ hk => hk.2) (.slice Ao165 t433.length co165)) (fun _ hk => hk.2) (.slice Ao166 t436.length co166)), lo2_ (Kd.R_far (p := ⟨gb393, 3, none⟩) (Kd.R_far (p := ⟨gb393, 2, none⟩) (Kd.R_far (p := ⟨gb393, 1, none⟩) (Kd.R_far (p := ⟨gb393, 0, none⟩) (Kd.R_far (p := ⟨gb439, 1, none⟩) (Kd.R_far (p := ⟨gb439, 0, none⟩) (Kd.R_types (Kd.R_types HO438.out BK439.out (by decide)) BK393.out (by decide)) (fun _ hk => hk.1.2) (.int .i64 t462)) (fun _ hk => hk.1.2) (.slice Ao170 t463.length co170)) (fun _ hk => hk.2) (.int .i64 t462)) (fun _ hk => hk.2) (.slice Ao170 t463.length co170)) (fun _ hk => hk.2) (.slice Ao165 t433.length co165)) (fun _ hk => hk.2) (.slice Ao166 t436.length co166)), ls109_ HI0, lv109_ HB, lk_ HK⟩
      ·rw [if_neg c152] at H
       have c152b0 : (t440 == 3) = false := beq_eq_false_iff_ne.mpr c152
       have c152b1 : (t440 != 3) = true := bne_iff_ne.mpr c152
       simp only [Option.some.injEq, Prod.mk.injEq] at H
       obtain ⟨rfl, rfl, rfl, rfl, rfl, rfl⟩ := H
       have hnb173 := NB400_393.out
       have hnc173 := NB393_400.out
       have hnb174 := NB400_0.out
       have hnc174 := NB0_400.out
       obtain ⟨hcz175_0, hcz175_1, hfz175_0, hfz175_1⟩ := bx2_ BK400.out
       obtain ⟨Ao176, co176, eo176⟩ := Kd.R_slice HO_401001.out
       subst eo176
       go_wp2_with (first | ((with_reducible refine gate_callee (f := 95) rfl ?_); refine goesL_ (some 18) rfl rfl Try.func95 (by kernel_rfl) rfl #[.agg #[.int .i64 x401000_3, .slice Ao176 x401001_3.length co176]] rfl lm_ ?_; (with_reducible refine (spec_raOf.calls kj3 x401000_3 _ _ x401001_3 t429 t430 t433 t436 _ ?side1 ?side2 A34.out).mono ?_); (case side1 => exact lc_ (Kd.R_reads' HO_401001.out).2.2); (case side2 => exact (Kd.R_reads' HO_401001.out).2.1); rintro e w177 ⟨v431, v434, v437, rfl, ho0, ho1, ho2, hb⟩; refine ⟨_, rfl, ?_⟩; have HO432 := am_ (Kd.R_lower (nw_ ho0 HO_401001) (keep_size (w := w) (g := g) (row := none) (lk_ HK))); have HO435 := am_ (Kd.R_lower (nw_ ho1 HO_401001) (keep_size (w := w) (g := g) (row := none) (lk_ HK))); have HO438 := am_ (Kd.R_lower (nw_ ho2 HO_401001) (keep_size (w := w) (g := g) (row := none) (lk_ HK))); replace HO_401001 := am_ (m1_ (td_ (td_ (td_ (Kd.R_old (lf_ HO_401001) hb) ho0) ho1) ho2)); replace BK393 := am_ (blk_below (g := gb393) (lb_ BK393) hb); replace BK400 := am_ (blk_below (g := gb400) (lb_ BK400) hb); replace HI0 := am_ (IsS109.below (ls109_ HI0) hb); replace HK := am_ (KeepBut.trans (lk_ HK) (KeepBut.of_below hb g none) (.inl rfl)); replace HB := am_ (below_step (lv109_ HB) hb); (try clear hb); (try clear hb2); (try clear hk); (try clear hi); (try clear ho0); (try clear ho1); (try clear ho2)) | ((with_reducible refine gate_dst (N := 4) rfl ?_); refine bev_ 4 #[.int .i64 0, .slice none 0 0, .slice none 0 0, .slice none 0 0] 48 rfl rfl ?_; intro gb439 hg w178 hbox hb; have BK439 := am_ (hbox); have GW439 := am_ ((by rw [hg]; exact (keep_size (w := w) (g := g) (row := none) (lk_ HK)) : w.heap.size ≤ gb439)); have GE439 := am_ ((Nat.le_trans HW0.out (by rw [hg]; exact (keep_size (w := w) (g := g) (row := none) (lk_ HK)) : w.heap.size ≤ gb439) : w0.heap.size ≤ gb439)); have NB393_439 := am_ ((by rw [hg]; exact Nat.ne_of_lt (blk_lt (g := gb393) (lb_ BK393)) : gb393 ≠ gb439)); have NB439_393 := am_ ((by rw [hg]; exact Nat.ne_of_gt (blk_lt (g := gb393) (lb_ BK393)) : gb439 ≠ gb393)); have NB400_439 := am_ ((by rw [hg]; exact Nat.ne_of_lt (blk_lt (g := gb400) (lb_ BK400)) : gb400 ≠ gb439)); have NB439_400 := am_ ((by rw [hg]; exact Nat.ne_of_gt (blk_lt (g := gb400) (lb_ BK400)) : gb439 ≠ gb400)); have NB0_439 := am_ ((by rw [hg]; exact Nat.ne_of_lt (IsS109.lt (show IsS109 w0 _ g s0_0 x1001_3 x1002_3 from ls109_ HI0)) : g ≠ gb439)); have NB439_0 := am_ ((by rw [hg]; exact Nat.ne_of_gt (IsS109.lt (show IsS109 w0 _ g s0_0 x1001_3 x1002_3 from ls109_ HI0)) : gb439 ≠ g)); replace HO_401001 := am_ (Kd.R_below (lf_ HO_401001) hb); replace HO432 := am_ (Kd.R_below (lf_ HO432) hb); replace HO435 := am_ (Kd.R_below (lf_ HO435) hb); replace HO438 := am_ (Kd.R_below (lf_ HO438) hb); replace BK393 := am_ (blk_below (g := gb393) (lb_ BK393) hb); replace BK400 := am_ (blk_below (g := gb400) (lb_ BK400) hb); replace HI0 := am_ (IsS109.below (ls109_ HI0) hb); replace HK := am_ (KeepBut.trans (lk_ HK) (KeepBut.of_below hb g none) (.inl rfl)); replace HB := am_ (below_step (lv109_ HB) hb); clear hb hbox hg; have hnb179 := NB439_393.out; have hnc179 := NB393_439.out; have hnb180 := NB439_400.out; have hnc180 := NB400_439.out; have hnb181 := NB439_0.out; have hnc181 := NB0_439.out; obtain ⟨hcz182_0, hcz182_1, hcz182_2, hcz182_3, hfz182_0, hfz182_1, hfz182_2, hfz182_3⟩ := bx4_ BK439.out; obtain ⟨Ao183, co183, eo183⟩ := Kd.R_slice HO432.out; subst eo183; obtain ⟨Ao184, co184, eo184⟩ := Kd.R_slice HO435.out; subst eo184; obtain ⟨Ao185, co185, eo185⟩ := Kd.R_slice HO438.out; subst eo185) | ((with_reducible refine gate_callee (f := 107) rfl ?_); refine goesL_ (some 20) rfl rfl Try.func107 (by kernel_rfl) rfl #[.pointer (some ⟨g, 0, none⟩), .int .i64 14] rfl lm_ ?_; (with_reducible refine (spec_l1Cur_pick.calls g s0_0 x1001_3 x1002_3 14 t440 t441 t442 w0 _ ?side1 ?side2 A35.out).mono ?_); (case side1 => exact ls109_ HI0); (case side2 => exact lv109_ HB); rintro e w186 ⟨rfl, hi, hb, hk⟩; refine ⟨_, rfl, ?_⟩; replace HO_401001 := am_ (m1_ (Kd.R_keep (IsS109.apart (show IsS109 w0 _ g s0_0 x1001_3 x1002_3 from ls109_ HI0) (lt_ ((m1_ (fr4_ HO_401001.out BK439.out (.int .i64 t429) (.slice Ao183 t430.length co183) (.slice Ao184 t433.length co184) (.slice Ao185 t436.length co185))))) (by decide)) hk (fun _ h => h.2))); replace BK393 := am_ (KeepBut.blk hk (g' := gb393) (lg_ BK393) NB393_0.out (by simp)); replace BK400 := am_ (KeepBut.blk hk (g' := gb400) (lg_ BK400) NB400_0.out (by simp)); replace HO432 := am_ (m1_ (Kd.R_keep (IsS109.apart (show IsS109 w0 _ g s0_0 x1001_3 x1002_3 from ls109_ HI0) (lt_ ((m1_ (fr4_ HO432.out BK439.out (.int .i64 t429) (.slice Ao183 t430.length co183) (.slice Ao184 t433.length co184) (.slice Ao185 t436.length co185))))) (by decide)) hk (fun _ h => h.2))); replace HO435 := am_ (m1_ (Kd.R_keep (IsS109.apart (show IsS109 w0 _ g s0_0 x1001_3 x1002_3 from ls109_ HI0) (lt_ ((m1_ (fr4_ HO435.out BK439.out (.int .i64 t429) (.slice Ao183 t430.length co183) (.slice Ao184 t433.length co184) (.slice Ao185 t436.length co185))))) (by decide)) hk (fun _ h => h.2))); replace HO438 := am_ (m1_ (Kd.R_keep (IsS109.apart (show IsS109 w0 _ g s0_0 x1001_3 x1002_3 from ls109_ HI0) (lt_ ((m1_ (fr4_ HO438.out BK439.out (.int .i64 t429) (.slice Ao183 t430.length co183) (.slice Ao184 t433.length co184) (.slice Ao185 t436.length co185))))) (by decide)) hk (fun _ h => h.2))); replace BK439 := am_ (KeepBut.blk hk (g' := gb439) (o := .cells #[.int .i64 t429, .slice Ao183 t430.length co183, .slice Ao184 t433.length co184, .slice Ao185 t436.length co185] 48 (0, 0)) (lq_ BK439) NB439_0.out (by simp)); replace HK := am_ (KeepBut.trans (lk_ HK) hk (.inl rfl)); replace HB := am_ (hb); replace HI0 := am_ (hi); (try clear hb); (try clear hb2); (try clear hk); (try clear hi); obtain ⟨hcz187_0, hcz187_1, hcz187_2, hcz187_3, hfz187_0, hfz187_1, hfz187_2, hfz187_3⟩ := bx4_ BK439.out; have hnb188 := NB393_0.out; have hnc188 := NB0_393.out; obtain ⟨hcz189_0, hcz189_1, hcz189_2, hcz189_3, hfz189_0, hfz189_1, hfz189_2, hfz189_3⟩ := bx4_ BK393.out))
       refine bodyPost_ret (results_cell_row rfl _ _ gb393 48 #[.int .i64 t429, .slice Ao183 t430.length co183, .slice Ao184 t433.length co184, .slice Ao185 t436.length co185] (0, 0) _ rfl (lq_ BK393) Try.underlying48 rfl (by kernel_rfl)) rfl ?_
       exact ⟨_, _, _, er_, lo2_ (fr4_ HO432.out BK393.out (.int .i64 t429) (.slice Ao183 t430.length co183) (.slice Ao184 t433.length co184) (.slice Ao185 t436.length co185)), lo2_ (fr4_ HO435.out BK393.out (.int .i64 t429) (.slice Ao183 t430.length co183) (.slice Ao184 t433.length co184) (.slice Ao185 t436.length co185)), lo2_ (fr4_ HO438.out BK393.out (.int .i64 t429) (.slice Ao183 t430.length co183) (.slice Ao184 t433.length co184) (.slice Ao185 t436.length co185)), ls109_ HI0, lv109_ HB, lk_ HK⟩

end Go.Proofs.Ytkmhjgejficclaa.PFnDirectoriesArePacked
