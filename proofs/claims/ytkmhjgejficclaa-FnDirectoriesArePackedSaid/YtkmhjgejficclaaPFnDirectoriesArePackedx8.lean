-- Laid by a program of this session: the print of the kit with additions of ours (wip/tools/patchprint.py). Nothing of it is trusted: Lean checks it.
import Derived.Test.YtkmhjgejficclaaPFnDirectoriesArePackedx0
import Derived.Test.YtkmhjgejficclaaPFnDirectoriesArePackedx7
namespace Go.Proofs.Ytkmhjgejficclaa.PFnDirectoriesArePacked
open Go.RowKit Go.Proofs.YtkmhjgejficclaaW.PrintWords Go.Proofs.YtkmhjgejficclaaW.PrintLast Go.Proofs.YtkmhjgejficclaaW.PrintMore
attribute [local go_sem] max2_int min2_int max_two min_two max_three min_three max_four min_four   -- for this text's walks alone
set_option linter.unusedVariables false
set_option linter.unusedSimpArgs false

/-! ### impl_directory: function 98 -/
def impl_directory.f (k : Nat) (a0_0 : Int) (l0_1 : List Int) (l0_2 : List Int) (l0_3 : List Int) : Option (Int × List Int) := (impl_fields.f k l0_2 13).bind fun bt273 => ((impl_fields.f k l0_3 6).bind fun bt277 => ((impl_joinBits.f k bt273.1 bt273.2 bt277.1 bt277.2).bind fun bt281 => (some (bt281.1, bt281.2))))
theorem impl_directory.mono : ∀ a0 a1 a2 a3 k, LeO (impl_directory.f k a0 a1 a2 a3) (impl_directory.f (k + 1) a0 a1 a2 a3) := by
 intro a0 a1 a2 a3 k
 unfold impl_directory.f
 repeat' first
   | (with_reducible exact impl_fields.mono _ _ _)
   | (with_reducible exact impl_joinBits.mono _ _ _ _ _)
   | (with_reducible exact LeO.refl _)
   | (with_reducible exact LeO.none _)
   | (with_reducible refine LeO.ite ?_ ?_)
   | (with_reducible refine LeO.bind ?_ (fun _ => ?_))
   | exact impl_fields.mono _ _ _
   | exact impl_joinBits.mono _ _ _ _ _
   | exact LeO.none _
   | refine LeO.ite ?_ ?_
   | refine LeO.bind ?_ (fun _ => ?_)
def impl_directory.T1 : Bool × List (List Nat × List Nat) := (true, [([], []), ([0], [0]), ([1], [1]), ([], []), ([3], [3]), ([4, 2], [4]), ([2, 5, 5], [2, 5]), ([6, 6, 0, 1, 2, 3, 4, 5, 6], [6])])
def impl_directory.B1 : List Nat := [0, 1, 3, 0, 8, 31, 63, 127]
theorem impl_directory.tab1 : rtab .any (opsOf Try.f98 1) = impl_directory.T1 := by kernel_rfl
theorem impl_directory.bits1 : waitsOk impl_directory.T1.2 impl_directory.B1 = true := by kernel_rfl
set_option maxHeartbeats 8000000 in
set_option maxRecDepth 100000 in
theorem impl_directory.calls (k : Nat) (a0_0 : Int) (A0_1 : Option Addr) (c0_1 : Nat) (l0_1 : List Int) (A0_2 : Option Addr) (c0_2 : Nat) (l0_2 : List Int) (A0_3 : Option Addr) (c0_3 : Nat) (l0_3 : List Int) (r1 : Int) (r2 : List Int) (w : World) (hr0_1 : Kd.C (Kd.int .i64) w A0_1 l0_1.length l0_1) (hc0_1 : l0_1.length ≤ c0_1) (hr0_2 : Kd.C (Kd.int .i64) w A0_2 l0_2.length l0_2) (hc0_2 : l0_2.length ≤ c0_2) (hr0_3 : Kd.C (Kd.int .i64) w A0_3 l0_3.length l0_3) (hc0_3 : l0_3.length ≤ c0_3) (h : impl_directory.f k a0_0 l0_1 l0_2 l0_3 = some (r1, r2)) :
  Calls Try.prog 98 #[.agg #[.int .i64 a0_0, .slice A0_1 l0_1.length c0_1, .slice A0_2 l0_2.length c0_2, .slice A0_3 l0_3.length c0_3]] w fun e w' => ∃ v1_ : Value, e = .returned (.agg #[.int .i64 r1, v1_]) ∧ Kd.R (Kd.int .i64) 3 w' w.heap.size (fun _ => True) v1_ r2 ∧ Below w.heap.size w w' := by
 have hu48 := Try.underlying48
 have hu26 := Try.underlying26
 have HR0_1 := am_ hr0_1
 have HC0_1 := am_ hc0_1
 clear hr0_1 hc0_1
 have HR0_2 := am_ hr0_2
 have HC0_2 := am_ hc0_2
 clear hr0_2 hc0_2
 have HR0_3 := am_ hr0_3
 have HC0_3 := am_ hc0_3
 clear hr0_3 hc0_3
 have HB := am_ (Below.refl w.heap.size w)
 have H : ((impl_fields.f k l0_2 13).bind fun bt273 => ((impl_fields.f k l0_3 6).bind fun bt277 => ((impl_joinBits.f k bt273.1 bt273.2 bt277.1 bt277.2).bind fun bt281 => (some (bt281.1, bt281.2))))) = some (r1, r2) := h
 clear h
 replace H := Option.bind_eq_some_iff.mp H
 obtain ⟨⟨t273, t274⟩, A20, H⟩ := H
 replace H : ((impl_fields.f k l0_3 6).bind fun bt277 => ((impl_joinBits.f k t273 t274 bt277.1 bt277.2).bind fun bt281 => (some (bt281.1, bt281.2)))) = some (r1, r2) := H
 have A2 := am_ A20
 clear A20
 replace H := Option.bind_eq_some_iff.mp H
 obtain ⟨⟨t277, t278⟩, A30, H⟩ := H
 replace H : ((impl_joinBits.f k t273 t274 t277 t278).bind fun bt281 => (some (bt281.1, bt281.2))) = some (r1, r2) := H
 have A3 := am_ A30
 clear A30
 replace H := Option.bind_eq_some_iff.mp H
 obtain ⟨⟨t281, t282⟩, A40, H⟩ := H
 replace H : (some (t281, t282)) = some (r1, r2) := H
 have A4 := am_ A40
 clear A40
 simp only [Option.some.injEq, Prod.mk.injEq] at H
 obtain ⟨rfl, rfl⟩ := H
 go_enter Try.func98, Try.ntmps98
 try go_wp2_with (first | ((with_reducible refine gate_dst (N := 1) rfl ?_); refine bev_ 1 #[.int .i64 a0_0, .slice A0_1 l0_1.length c0_1, .slice A0_2 l0_2.length c0_2, .slice A0_3 l0_3.length c0_3] 48 rfl rfl ?_; intro gb271 hg w5 hbox hb; have BK271 := am_ (hbox); have GW271 := am_ ((by rw [hg]; exact (below_size (lw_ HB)) : w.heap.size ≤ gb271)); have GE271 := am_ ((by rw [hg]; exact (below_size (lw_ HB)) : w.heap.size ≤ gb271)); replace HB := am_ (below_step (lw_ HB) hb); clear hb hbox hg) | ((with_reducible refine gate_dst (N := 2) rfl ?_); refine bev_ 2 #[.int .i64 0, .slice none 0 0] 26 rfl rfl ?_; intro gb272 hg w6 hbox hb; have BK272 := am_ (hbox); have GW272 := am_ ((by rw [hg]; exact (below_size (lw_ HB)) : w.heap.size ≤ gb272)); have GE272 := am_ ((by rw [hg]; exact (below_size (lw_ HB)) : w.heap.size ≤ gb272)); have NB271_272 := am_ ((by rw [hg]; exact Nat.ne_of_lt (blk_lt (g := gb271) (lb_ BK271)) : gb271 ≠ gb272)); have NB272_271 := am_ ((by rw [hg]; exact Nat.ne_of_gt (blk_lt (g := gb271) (lb_ BK271)) : gb272 ≠ gb271)); replace BK271 := am_ (blk_below (g := gb271) (lb_ BK271) hb); replace HB := am_ (below_step (lw_ HB) hb); clear hb hbox hg))
 replace BK271 := am_ (blk_drew BK271.out); replace BK272 := am_ (blk_drew BK272.out); replace HB := am_ (below_drew1 HB.out)
 refine start_ (n := 8) (S := fun w' => w'.cell? ⟨gb271, 0, none⟩ = some (.int .i64 a0_0) ∧ w'.cell? ⟨gb271, 1, none⟩ = some (.slice A0_1 l0_1.length c0_1) ∧ w'.cell? ⟨gb271, 2, none⟩ = some (.slice A0_2 l0_2.length c0_2) ∧ w'.cell? ⟨gb271, 3, none⟩ = some (.slice A0_3 l0_3.length c0_3)) (ds := []) #[false, false, false, false, false, false, false, false] (by kernel_rfl) rfl rfl ⟨(blk_cell BK271.out 0).trans rfl, (blk_cell BK271.out 1).trans rfl, (blk_cell BK271.out 2).trans rfl, (blk_cell BK271.out 3).trans rfl⟩ (fun hHeld => ?_); refine with_tabW impl_directory.tab1 impl_directory.bits1 (fun HT_ HW_ => ?_)
 generalize w6.drew = w7 at BK271 BK272 HB hHeld ⊢
 refine pure_ (i := 0) (N := some 3) (v := ?_) (a' := ?_) #[true, false, false, false, false, false, false, false] rfl rfl (any_of HT_.out (by kernel_rfl)) (fun _ _ _ h => h) (Or.inl ⟨by rfl, ?_⟩) ?_ ?_
 rotate_left
 ·intro w'
  go_simp
  with_reducible rfl
 rotate_left
 ·simp only [Act.put, List.setIfInBounds_toArray, List.set_cons_zero, List.set_cons_succ, i64_w, i32_w]
  rfl
 refine pure_ (i := 3) (N := some 6) (v := ?_) (a' := ?_) #[true, false, false, true, false, false, false, false] rfl rfl (any_of HT_.out (by kernel_rfl)) (fun _ _ _ h => h) (Or.inl ⟨by rfl, ?_⟩) ?_ ?_
 rotate_left
 ·intro w'
  go_simp
  with_reducible rfl
 rotate_left
 ·simp only [Act.put, List.setIfInBounds_toArray, List.set_cons_zero, List.set_cons_succ, i64_w, i32_w]
  rfl
 refine take_ (i := 1) (N := some 4) (v := ?_) (a' := ?_) #[true, true, false, true, false, false, false, false] rfl rfl (take_ofW HT_.out HW_.out (by kernel_rfl)) (fun _ _ _ h => h) (Or.inl ⟨by rfl, ?_⟩) hHeld ?_ ?_
 rotate_left
 ·rintro w' ⟨s0, s1, s2, s3⟩
  go_simp
  with_reducible rfl
 rotate_left
 ·simp only [Act.put, List.setIfInBounds_toArray, List.set_cons_zero, List.set_cons_succ, i64_w, i32_w]
  rfl
 refine take_ (i := 4) (N := some 7) (v := ?_) (a' := ?_) #[true, true, false, true, true, false, false, false] rfl rfl (take_ofW HT_.out HW_.out (by kernel_rfl)) (fun _ _ _ h => h) (Or.inl ⟨by rfl, ?_⟩) hHeld ?_ ?_
 rotate_left
 ·rintro w' ⟨s0, s1, s2, s3⟩
  go_simp
  with_reducible rfl
 rotate_left
 ·simp only [Act.put, List.setIfInBounds_toArray, List.set_cons_zero, List.set_cons_succ, i64_w, i32_w]
  rfl
 refine one_ (i := 2) (N := some 5) #[true, true, true, true, true, false, false, false] rfl rfl (one_of HT_.out (by kernel_rfl)) (by decide) (fun K hK => ?_)
 refine goes_ Try.func131 (by kernel_rfl) rfl #[.slice A0_2 l0_2.length c0_2, .int .i64 13] (by rfl) rfl rfl lm_ ?_
 with_reducible refine (impl_fields.calls k _ _ l0_2 13 t273 t274 _ ?side1 ?side2 A2.out).mono ?_
 (case side1 => exact lc_ (Kd.C_below HR0_2.out HB.out))
 (case side2 => exact HC0_2.out)
 rintro e w8 ⟨v275, rfl, ho0, hb⟩
 refine ⟨_, rfl, ?_⟩
 have HO276 := am_ (Kd.R_lower ho0 (below_size (lw_ HB))); replace BK271 := am_ (blk_below (g := gb271) (lb_ BK271) hb); replace BK272 := am_ (blk_below (g := gb272) (lb_ BK272) hb); replace HB := am_ (below_step (lw_ HB) hb)
 (try clear hb)
 (try clear hb2)
 (try clear hk)
 (try clear hi)
 (try clear ho0)
 refine hK.out _ _ ⟨(blk_cell BK271.out 0).trans rfl, (blk_cell BK271.out 1).trans rfl, (blk_cell BK271.out 2).trans rfl, (blk_cell BK271.out 3).trans rfl⟩ (fun hHeld => ?_)
 clear hK K
 refine norm_ (a' := ?_) ?_ ?_
 rotate_left
 ·show Act.put _ (some 5) _ = _
  simp only [Act.put, List.setIfInBounds_toArray, List.set_cons_zero, List.set_cons_succ, i64_w, i32_w]
  rfl
 refine one_ (i := 5) (N := some 8) #[true, true, true, true, true, true, false, false] rfl rfl (one_of HT_.out (by kernel_rfl)) (by decide) (fun K hK => ?_)
 refine goes_ Try.func131 (by kernel_rfl) rfl #[.slice A0_3 l0_3.length c0_3, .int .i64 6] (by rfl) rfl rfl lm_ ?_
 with_reducible refine (impl_fields.calls k _ _ l0_3 6 t277 t278 _ ?side1 ?side2 A3.out).mono ?_
 (case side1 => exact lc_ (Kd.C_below HR0_3.out HB.out))
 (case side2 => exact HC0_3.out)
 rintro e w9 ⟨v279, rfl, ho0, hb⟩
 refine ⟨_, rfl, ?_⟩
 have HO280 := am_ (Kd.R_lower (nw_ ho0 HO276) (below_size (lw_ HB))); replace HO276 := am_ (Kd.R_elder' (lf_ HO276) (Kd.R_base ho0) hb); replace BK271 := am_ (blk_below (g := gb271) (lb_ BK271) hb); replace BK272 := am_ (blk_below (g := gb272) (lb_ BK272) hb); replace HB := am_ (below_step (lw_ HB) hb)
 (try clear hb)
 (try clear hb2)
 (try clear hk)
 (try clear hi)
 (try clear ho0)
 obtain ⟨Ao10, co10, eo10⟩ := Kd.R_slice HO276.out
 (first | subst eo10 | (injection eo10 with f1_ f2_ f3_; have f4_ := f1_.symm; have f5_ := f3_.symm; clear f1_ f2_ f3_; subst f4_; subst f5_))
 obtain ⟨Ao11, co11, eo11⟩ := Kd.R_slice HO280.out
 (first | subst eo11 | (injection eo11 with f1_ f2_ f3_; have f4_ := f1_.symm; have f5_ := f3_.symm; clear f1_ f2_ f3_; subst f4_; subst f5_))
 refine hK.out _ _ ⟨(blk_cell BK271.out 0).trans rfl, (blk_cell BK271.out 1).trans rfl, (blk_cell BK271.out 2).trans rfl, (blk_cell BK271.out 3).trans rfl⟩ (fun hHeld => ?_)
 clear hK K
 refine norm_ (a' := ?_) ?_ ?_
 rotate_left
 ·show Act.put _ (some 8) _ = _
  simp only [Act.put, List.setIfInBounds_toArray, List.set_cons_zero, List.set_cons_succ, i64_w, i32_w]
  rfl
 refine one_ (i := 6) (N := some 9) #[true, true, true, true, true, true, true, false] rfl rfl (one_of HT_.out (by kernel_rfl)) (by decide) (fun K hK => ?_)
 refine goes_ Try.func84 (by kernel_rfl) rfl #[.agg #[.int .i64 t273, .slice Ao10 t274.length co10], .agg #[.int .i64 t277, .slice Ao11 t278.length co11]] (by rfl) rfl rfl lm_ ?_
 with_reducible refine (impl_joinBits.calls k t273 _ _ t274 t277 _ _ t278 t281 t282 _ ?side1 ?side2 ?side3 ?side4 A4.out).mono ?_
 (case side1 => exact lc_ (Kd.R_reads' HO276.out).2.2)
 (case side2 => exact (Kd.R_reads' HO276.out).2.1)
 (case side3 => exact lc_ (Kd.R_reads' HO280.out).2.2)
 (case side4 => exact (Kd.R_reads' HO280.out).2.1)
 rintro e w12 ⟨v283, rfl, ho0, hb⟩
 refine ⟨_, rfl, ?_⟩
 have HO284 := am_ (Kd.R_lower (nw_ (nw_ ho0 HO276) HO280) (below_size (lw_ HB))); replace HO276 := am_ (Kd.R_elder' (lf_ HO276) (Kd.R_base ho0) hb); replace HO280 := am_ (Kd.R_elder' (lf_ HO280) (Kd.R_base ho0) hb); replace BK271 := am_ (blk_below (g := gb271) (lb_ BK271) hb); replace BK272 := am_ (blk_below (g := gb272) (lb_ BK272) hb); replace HB := am_ (below_step (lw_ HB) hb)
 (try clear hb)
 (try clear hb2)
 (try clear hk)
 (try clear hi)
 (try clear ho0)
 obtain ⟨Ao14, co14, eo14⟩ := Kd.R_slice HO284.out
 (first | subst eo14 | (injection eo14 with f1_ f2_ f3_; have f4_ := f1_.symm; have f5_ := f3_.symm; clear f1_ f2_ f3_; subst f4_; subst f5_))
 refine hK.out _ _ ⟨(blk_cell BK271.out 0).trans rfl, (blk_cell BK271.out 1).trans rfl, (blk_cell BK271.out 2).trans rfl, (blk_cell BK271.out 3).trans rfl⟩ (fun hHeld => ?_)
 clear hK K
 refine norm_ (a' := ?_) ?_ ?_
 rotate_left
 ·show Act.put _ (some 9) _ = _
  simp only [Act.put, List.setIfInBounds_toArray, List.set_cons_zero, List.set_cons_succ, i64_w, i32_w]
  rfl
 refine one_ (i := 7) (N := none) #[true, true, true, true, true, true, true, true] rfl rfl (one_of HT_.out (by kernel_rfl)) (by decide) (fun K hK => ?_)
 have hs13 : w12.cell? ⟨gb272, 0, none⟩ = some (.int .i64 0) := (blk_cell BK272.out 0).trans rfl
 have hfs13 := blk_frozen BK272.out 0
 have hns13_0 := NB271_272.out
 have hms13_0 := NB272_271.out
 have hs15 : w12.cell? ⟨gb272, 1, none⟩ = some (.slice none 0 0) := (blk_cell BK272.out 1).trans rfl
 have hfs15 := blk_frozen BK272.out 1
 have hns15_0 := NB271_272.out
 have hms15_0 := NB272_271.out
 refine skip_ (w1 := ?_) (by rfl) rfl ?_ ?_
 rotate_left
 ·go_simp
  rfl
 refine hK.out _ _ ⟨((cell_far (p := ⟨gb272, _, none⟩) NB271_272.out _).trans (((cell_far (p := ⟨gb272, _, none⟩) NB271_272.out _).trans (hHeld.1)))), ((cell_far (p := ⟨gb272, _, none⟩) NB271_272.out _).trans (((cell_far (p := ⟨gb272, _, none⟩) NB271_272.out _).trans (hHeld.2.1)))), ((cell_far (p := ⟨gb272, _, none⟩) NB271_272.out _).trans (((cell_far (p := ⟨gb272, _, none⟩) NB271_272.out _).trans (hHeld.2.2.1)))), ((cell_far (p := ⟨gb272, _, none⟩) NB271_272.out _).trans (((cell_far (p := ⟨gb272, _, none⟩) NB271_272.out _).trans (hHeld.2.2.2))))⟩ (fun hHeld => ?_)
 clear hK K
 refine done_ (done_of HT_.out (by kernel_rfl)) ?_
 try go_wp2
 refine bodyPost_ret (results_cell_row rfl _ _ gb272 26 #[.int .i64 t281, .slice Ao14 t282.length co14] (0, 0) _ rfl (lq_ BK272) Try.underlying26 rfl (by kernel_rfl)) rfl ?_
 exact ⟨_, er_, lt_ (mt_ (fr2_ HO284.out BK272.out (.int .i64 t281) (.slice Ao14 t282.length co14))), lw_ HB⟩

/-! ### impl_PackDirectory: function 42 -/
def impl_PackDirectory.f (k : Nat) (a0_0 : Int) (l0_1 : List Int) (l0_2 : List Int) (l0_3 : List Int) : Option (Int × List Int × Bool) := (impl_IsRanked.f k a0_0 l0_1 l0_2 l0_3).bind fun t287 => (if t287 = true then ((impl_directory.f k a0_0 l0_1 l0_2 l0_3).bind fun bt288 => (some (bt288.1, bt288.2, true))) else (some (0, ([] : List Int), false)))
theorem impl_PackDirectory.mono : ∀ a0 a1 a2 a3 k, LeO (impl_PackDirectory.f k a0 a1 a2 a3) (impl_PackDirectory.f (k + 1) a0 a1 a2 a3) := by
 intro a0 a1 a2 a3 k
 unfold impl_PackDirectory.f
 repeat' first
   | (with_reducible exact impl_IsRanked.mono _ _ _ _ _)
   | (with_reducible exact impl_directory.mono _ _ _ _ _)
   | (with_reducible exact LeO.refl _)
   | (with_reducible exact LeO.none _)
   | (with_reducible refine LeO.ite ?_ ?_)
   | (with_reducible refine LeO.bind ?_ (fun _ => ?_))
   | exact impl_IsRanked.mono _ _ _ _ _
   | exact impl_directory.mono _ _ _ _ _
   | exact LeO.none _
   | refine LeO.ite ?_ ?_
   | refine LeO.bind ?_ (fun _ => ?_)
set_option maxHeartbeats 8000000 in
set_option maxRecDepth 100000 in
theorem impl_PackDirectory.calls (k : Nat) (a0_0 : Int) (A0_1 : Option Addr) (c0_1 : Nat) (l0_1 : List Int) (A0_2 : Option Addr) (c0_2 : Nat) (l0_2 : List Int) (A0_3 : Option Addr) (c0_3 : Nat) (l0_3 : List Int) (r1 : Int) (r2 : List Int) (r3 : Bool) (w : World) (hr0_1 : Kd.C (Kd.int .i64) w A0_1 l0_1.length l0_1) (hc0_1 : l0_1.length ≤ c0_1) (hr0_2 : Kd.C (Kd.int .i64) w A0_2 l0_2.length l0_2) (hc0_2 : l0_2.length ≤ c0_2) (hr0_3 : Kd.C (Kd.int .i64) w A0_3 l0_3.length l0_3) (hc0_3 : l0_3.length ≤ c0_3) (h : impl_PackDirectory.f k a0_0 l0_1 l0_2 l0_3 = some (r1, r2, r3)) :
  Calls Try.prog 42 #[.agg #[.int .i64 a0_0, .slice A0_1 l0_1.length c0_1, .slice A0_2 l0_2.length c0_2, .slice A0_3 l0_3.length c0_3]] w fun e w' => ∃ v1_ : Value, e = .returned (.tuple #[.agg #[.int .i64 r1, v1_], .bool r3]) ∧ Kd.R (Kd.int .i64) 3 w' w.heap.size (fun _ => True) v1_ r2 ∧ Below w.heap.size w w' := by
 have hu48 := Try.underlying48
 have hu26 := Try.underlying26
 have HR0_1 := am_ hr0_1
 have HC0_1 := am_ hc0_1
 clear hr0_1 hc0_1
 have HR0_2 := am_ hr0_2
 have HC0_2 := am_ hc0_2
 clear hr0_2 hc0_2
 have HR0_3 := am_ hr0_3
 have HC0_3 := am_ hc0_3
 clear hr0_3 hc0_3
 have HB := am_ (Below.refl w.heap.size w)
 have H : ((impl_IsRanked.f k a0_0 l0_1 l0_2 l0_3).bind fun t287 => (if t287 = true then ((impl_directory.f k a0_0 l0_1 l0_2 l0_3).bind fun bt288 => (some (bt288.1, bt288.2, true))) else (some (0, ([] : List Int), false)))) = some (r1, r2, r3) := h
 clear h
 replace H := Option.bind_eq_some_iff.mp H
 obtain ⟨t287, A20, H⟩ := H
 replace H : (if t287 = true then ((impl_directory.f k a0_0 l0_1 l0_2 l0_3).bind fun bt288 => (some (bt288.1, bt288.2, true))) else (some (0, ([] : List Int), false))) = some (r1, r2, r3) := H
 have A2 := am_ A20
 clear A20
 by_cases c3 : t287 = true
 ·subst c3
  have H1 : ((impl_directory.f k a0_0 l0_1 l0_2 l0_3).bind fun bt288 => (some (bt288.1, bt288.2, true))) = some (r1, r2, r3) := by rw [if_pos rfl] at H; exact H
  clear H
  have H := H1
  clear H1
  replace H := Option.bind_eq_some_iff.mp H
  obtain ⟨⟨t288, t289⟩, A40, H⟩ := H
  replace H : (some (t288, t289, true)) = some (r1, r2, r3) := H
  have A4 := am_ A40
  clear A40
  simp only [Option.some.injEq, Prod.mk.injEq] at H
  obtain ⟨rfl, rfl, rfl⟩ := H
  go_enter Try.func42, Try.ntmps42
  go_wp2_with (first | ((with_reducible refine gate_dst (N := 1) rfl ?_); refine bev_ 1 #[.int .i64 a0_0, .slice A0_1 l0_1.length c0_1, .slice A0_2 l0_2.length c0_2, .slice A0_3 l0_3.length c0_3] 48 rfl rfl ?_; intro gb285 hg w5 hbox hb; have BK285 := am_ (hbox); have GW285 := am_ ((by rw [hg]; exact (below_size (lw_ HB)) : w.heap.size ≤ gb285)); have GE285 := am_ ((by rw [hg]; exact (below_size (lw_ HB)) : w.heap.size ≤ gb285)); replace HB := am_ (below_step (lw_ HB) hb); clear hb hbox hg) | ((with_reducible refine gate_dst (N := 2) rfl ?_); refine bev_ 2 #[.int .i64 0, .slice none 0 0] 26 rfl rfl ?_; intro gb286 hg w6 hbox hb; have BK286 := am_ (hbox); have GW286 := am_ ((by rw [hg]; exact (below_size (lw_ HB)) : w.heap.size ≤ gb286)); have GE286 := am_ ((by rw [hg]; exact (below_size (lw_ HB)) : w.heap.size ≤ gb286)); have NB285_286 := am_ ((by rw [hg]; exact Nat.ne_of_lt (blk_lt (g := gb285) (lb_ BK285)) : gb285 ≠ gb286)); have NB286_285 := am_ ((by rw [hg]; exact Nat.ne_of_gt (blk_lt (g := gb285) (lb_ BK285)) : gb286 ≠ gb285)); replace BK285 := am_ (blk_below (g := gb285) (lb_ BK285) hb); replace HB := am_ (below_step (lw_ HB) hb); clear hb hbox hg; have hnb7 := NB285_286.out; have hnc7 := NB286_285.out; obtain ⟨hcz8_0, hcz8_1, hcz8_2, hcz8_3, hfz8_0, hfz8_1, hfz8_2, hfz8_3⟩ := bx4_ BK285.out) | ((with_reducible refine gate_callee (f := 55) rfl ?_); refine goesL_ (some 5) rfl rfl Try.func55 (by kernel_rfl) rfl #[.agg #[.int .i64 a0_0, .slice A0_1 l0_1.length c0_1, .slice A0_2 l0_2.length c0_2, .slice A0_3 l0_3.length c0_3]] rfl lm_ ?_; (with_reducible refine (impl_IsRanked.calls k a0_0 _ _ l0_1 _ _ l0_2 _ _ l0_3 true _ ?side1 ?side2 ?side3 ?side4 ?side5 ?side6 A2.out).mono ?_); (case side1 => exact lc_ (Kd.C_below HR0_1.out HB.out)); (case side2 => exact HC0_1.out); (case side3 => exact lc_ (Kd.C_below HR0_2.out HB.out)); (case side4 => exact HC0_2.out); (case side5 => exact lc_ (Kd.C_below HR0_3.out HB.out)); (case side6 => exact HC0_3.out); rintro e w9 ⟨rfl, hb⟩; refine ⟨_, rfl, ?_⟩; replace BK285 := am_ (blk_below (g := gb285) (lb_ BK285) hb); replace BK286 := am_ (blk_below (g := gb286) (lb_ BK286) hb); replace HB := am_ (below_step (lw_ HB) hb); (try clear hb); (try clear hb2); (try clear hk); (try clear hi); obtain ⟨hcz10_0, hcz10_1, hcz10_2, hcz10_3, hfz10_0, hfz10_1, hfz10_2, hfz10_3⟩ := bx4_ BK285.out) | ((with_reducible refine gate_callee (f := 98) rfl ?_); refine goesL_ (some 9) rfl rfl Try.func98 (by kernel_rfl) rfl #[.agg #[.int .i64 a0_0, .slice A0_1 l0_1.length c0_1, .slice A0_2 l0_2.length c0_2, .slice A0_3 l0_3.length c0_3]] rfl lm_ ?_; (with_reducible refine (impl_directory.calls k a0_0 _ _ l0_1 _ _ l0_2 _ _ l0_3 t288 t289 _ ?side1 ?side2 ?side3 ?side4 ?side5 ?side6 A4.out).mono ?_); (case side1 => exact lc_ (Kd.C_below HR0_1.out HB.out)); (case side2 => exact HC0_1.out); (case side3 => exact lc_ (Kd.C_below HR0_2.out HB.out)); (case side4 => exact HC0_2.out); (case side5 => exact lc_ (Kd.C_below HR0_3.out HB.out)); (case side6 => exact HC0_3.out); rintro e w11 ⟨v290, rfl, ho0, hb⟩; refine ⟨_, rfl, ?_⟩; have HO291 := am_ (Kd.R_lower ho0 (below_size (lw_ HB))); replace BK285 := am_ (blk_below (g := gb285) (lb_ BK285) hb); replace BK286 := am_ (blk_below (g := gb286) (lb_ BK286) hb); replace HB := am_ (below_step (lw_ HB) hb); (try clear hb); (try clear hb2); (try clear hk); (try clear hi); (try clear ho0); obtain ⟨hcz12_0, hcz12_1, hfz12_0, hfz12_1⟩ := bx2_ BK286.out; obtain ⟨Ao13, co13, eo13⟩ := Kd.R_slice HO291.out; subst eo13))
  refine bodyPost_ret (results_ct rfl _ _ gb286 26 #[.int .i64 t288, .slice Ao13 t289.length co13] (0, 0) _ rfl (lq_ BK286) Try.underlying26 rfl (by kernel_rfl)) rfl ?_
  exact ⟨_, er_, lt_ (mt_ (fr2_ HO291.out BK286.out (.int .i64 t288) (.slice Ao13 t289.length co13))), lw_ HB⟩
 ·replace c3 := Bool.eq_false_iff.mpr c3
  subst c3
  have H1 : (some (0, ([] : List Int), false)) = some (r1, r2, r3) := by rw [if_neg (show ¬ (false = true) by decide)] at H; exact H
  clear H
  have H := H1
  clear H1
  simp only [Option.some.injEq, Prod.mk.injEq] at H
  obtain ⟨rfl, rfl, rfl⟩ := H
  go_enter Try.func42, Try.ntmps42
  go_wp2_with (first | ((with_reducible refine gate_dst (N := 1) rfl ?_); refine bev_ 1 #[.int .i64 a0_0, .slice A0_1 l0_1.length c0_1, .slice A0_2 l0_2.length c0_2, .slice A0_3 l0_3.length c0_3] 48 rfl rfl ?_; intro gb285 hg w14 hbox hb; have BK285 := am_ (hbox); have GW285 := am_ ((by rw [hg]; exact (below_size (lw_ HB)) : w.heap.size ≤ gb285)); have GE285 := am_ ((by rw [hg]; exact (below_size (lw_ HB)) : w.heap.size ≤ gb285)); replace HB := am_ (below_step (lw_ HB) hb); clear hb hbox hg) | ((with_reducible refine gate_dst (N := 2) rfl ?_); refine bev_ 2 #[.int .i64 0, .slice none 0 0] 26 rfl rfl ?_; intro gb286 hg w15 hbox hb; have BK286 := am_ (hbox); have GW286 := am_ ((by rw [hg]; exact (below_size (lw_ HB)) : w.heap.size ≤ gb286)); have GE286 := am_ ((by rw [hg]; exact (below_size (lw_ HB)) : w.heap.size ≤ gb286)); have NB285_286 := am_ ((by rw [hg]; exact Nat.ne_of_lt (blk_lt (g := gb285) (lb_ BK285)) : gb285 ≠ gb286)); have NB286_285 := am_ ((by rw [hg]; exact Nat.ne_of_gt (blk_lt (g := gb285) (lb_ BK285)) : gb286 ≠ gb285)); replace BK285 := am_ (blk_below (g := gb285) (lb_ BK285) hb); replace HB := am_ (below_step (lw_ HB) hb); clear hb hbox hg; have hnb16 := NB285_286.out; have hnc16 := NB286_285.out; obtain ⟨hcz17_0, hcz17_1, hcz17_2, hcz17_3, hfz17_0, hfz17_1, hfz17_2, hfz17_3⟩ := bx4_ BK285.out) | ((with_reducible refine gate_callee (f := 55) rfl ?_); refine goesL_ (some 5) rfl rfl Try.func55 (by kernel_rfl) rfl #[.agg #[.int .i64 a0_0, .slice A0_1 l0_1.length c0_1, .slice A0_2 l0_2.length c0_2, .slice A0_3 l0_3.length c0_3]] rfl lm_ ?_; (with_reducible refine (impl_IsRanked.calls k a0_0 _ _ l0_1 _ _ l0_2 _ _ l0_3 false _ ?side1 ?side2 ?side3 ?side4 ?side5 ?side6 A2.out).mono ?_); (case side1 => exact lc_ (Kd.C_below HR0_1.out HB.out)); (case side2 => exact HC0_1.out); (case side3 => exact lc_ (Kd.C_below HR0_2.out HB.out)); (case side4 => exact HC0_2.out); (case side5 => exact lc_ (Kd.C_below HR0_3.out HB.out)); (case side6 => exact HC0_3.out); rintro e w18 ⟨rfl, hb⟩; refine ⟨_, rfl, ?_⟩; replace BK285 := am_ (blk_below (g := gb285) (lb_ BK285) hb); replace BK286 := am_ (blk_below (g := gb286) (lb_ BK286) hb); replace HB := am_ (below_step (lw_ HB) hb); (try clear hb); (try clear hb2); (try clear hk); (try clear hi); obtain ⟨hcz19_0, hcz19_1, hfz19_0, hfz19_1⟩ := bx2_ BK286.out))
  refine bodyPost_ret (results_ct rfl _ _ gb286 26 #[.int .i64 0, .slice none 0 0] (0, 0) _ rfl (lq_ BK286) Try.underlying26 rfl (by kernel_rfl)) rfl ?_
  exact ⟨_, er_, by first | exact Kd.R_nil _ _ _ _ _ | exact Kd.N_nil _ _ _ _ _ | exact Kd.V_nil _ _ _ _ _ | exact Kd.Q_nil _ _ _ _ _ | exact Kd.S_nil _ _ _ _ _, lw_ HB⟩

/-! ### impl_sameBits: function 100 -/
def impl_sameBits.f (k : Nat) (a0_0 : Int) (l0_1 : List Int) (a1_0 : Int) (l1_1 : List Int) : Option (Bool) := if a0_0 = a1_0 then ((slices_Equal_int_int.f k l0_1 l1_1).bind fun t294 => (some t294)) else (some false)
theorem impl_sameBits.mono : ∀ a0 a1 a2 a3 k, LeO (impl_sameBits.f k a0 a1 a2 a3) (impl_sameBits.f (k + 1) a0 a1 a2 a3) := by
 intro a0 a1 a2 a3 k
 unfold impl_sameBits.f
 repeat' first
   | (with_reducible exact slices_Equal_int_int.mono _ _ _)
   | (with_reducible exact LeO.refl _)
   | (with_reducible exact LeO.none _)
   | (with_reducible refine LeO.ite ?_ ?_)
   | (with_reducible refine LeO.bind ?_ (fun _ => ?_))
   | exact slices_Equal_int_int.mono _ _ _
   | exact LeO.none _
   | refine LeO.ite ?_ ?_
   | refine LeO.bind ?_ (fun _ => ?_)
set_option maxHeartbeats 8000000 in
set_option maxRecDepth 100000 in
theorem impl_sameBits.calls (k : Nat) (a0_0 : Int) (A0_1 : Option Addr) (c0_1 : Nat) (l0_1 : List Int) (a1_0 : Int) (A1_1 : Option Addr) (c1_1 : Nat) (l1_1 : List Int) (r : Bool) (w : World) (hr0_1 : Kd.C (Kd.int .i64) w A0_1 l0_1.length l0_1) (hc0_1 : l0_1.length ≤ c0_1) (hr1_1 : Kd.C (Kd.int .i64) w A1_1 l1_1.length l1_1) (hc1_1 : l1_1.length ≤ c1_1) (h : impl_sameBits.f k a0_0 l0_1 a1_0 l1_1 = some r) :
  Calls Try.prog 100 #[.agg #[.int .i64 a0_0, .slice A0_1 l0_1.length c0_1], .agg #[.int .i64 a1_0, .slice A1_1 l1_1.length c1_1]] w fun e w' => e = .returned (.bool r) ∧ Below w.heap.size w w' := by
 have hu26 := Try.underlying26
 have HR0_1 := am_ hr0_1
 have HC0_1 := am_ hc0_1
 clear hr0_1 hc0_1
 have HR1_1 := am_ hr1_1
 have HC1_1 := am_ hc1_1
 clear hr1_1 hc1_1
 have HB := am_ (Below.refl w.heap.size w)
 have H : (if a0_0 = a1_0 then ((slices_Equal_int_int.f k l0_1 l1_1).bind fun t294 => (some t294)) else (some false)) = some r := h
 clear h
 by_cases c3 : a0_0 = a1_0
 ·rw [if_pos c3] at H
  have c3b0 : (a0_0 == a1_0) = true := beq_iff_eq.mpr c3
  have c3b1 : (a0_0 != a1_0) = false := bne_eq_false_iff_eq.mpr c3
  clear c3
  replace H := Option.bind_eq_some_iff.mp H
  obtain ⟨t294, A40, H⟩ := H
  replace H : (some t294) = some r := H
  have A4 := am_ A40
  clear A40
  obtain rfl := Option.some.inj H
  go_enter Try.func100, Try.ntmps100
  go_wp2_with (first | ((with_reducible refine gate_dst (N := 2) rfl ?_); refine bev_ 2 #[.int .i64 a0_0, .slice A0_1 l0_1.length c0_1] 26 rfl rfl ?_; intro gb292 hg w5 hbox hb; have BK292 := am_ (hbox); have GW292 := am_ ((by rw [hg]; exact (below_size (lw_ HB)) : w.heap.size ≤ gb292)); have GE292 := am_ ((by rw [hg]; exact (below_size (lw_ HB)) : w.heap.size ≤ gb292)); replace HB := am_ (below_step (lw_ HB) hb); clear hb hbox hg) | ((with_reducible refine gate_dst (N := 3) rfl ?_); refine bev_ 3 #[.int .i64 a1_0, .slice A1_1 l1_1.length c1_1] 26 rfl rfl ?_; intro gb293 hg w6 hbox hb; have BK293 := am_ (hbox); have GW293 := am_ ((by rw [hg]; exact (below_size (lw_ HB)) : w.heap.size ≤ gb293)); have GE293 := am_ ((by rw [hg]; exact (below_size (lw_ HB)) : w.heap.size ≤ gb293)); have NB292_293 := am_ ((by rw [hg]; exact Nat.ne_of_lt (blk_lt (g := gb292) (lb_ BK292)) : gb292 ≠ gb293)); have NB293_292 := am_ ((by rw [hg]; exact Nat.ne_of_gt (blk_lt (g := gb292) (lb_ BK292)) : gb293 ≠ gb292)); replace BK292 := am_ (blk_below (g := gb292) (lb_ BK292) hb); replace HB := am_ (below_step (lw_ HB) hb); clear hb hbox hg; have hnb7 := NB292_293.out; have hnc7 := NB293_292.out; obtain ⟨hcz8_0, hcz8_1, hfz8_0, hfz8_1⟩ := bx2_ BK292.out; obtain ⟨hcz9_0, hcz9_1, hfz9_0, hfz9_1⟩ := bx2_ BK293.out) | (go_at_call 109; (with_reducible refine (slices_Equal_int_int.calls k _ _ l0_1 _ _ l1_1 t294 _ ?side1 ?side2 ?side3 ?side4 A4.out).mono ?_); (case side1 => exact lc_ (Kd.C_below HR0_1.out HB.out)); (case side2 => exact HC0_1.out); (case side3 => exact lc_ (Kd.C_below HR1_1.out HB.out)); (case side4 => exact HC1_1.out); rintro e w' ⟨rfl, ⟨nd, rfl⟩⟩))
  go_ret
  exact ⟨er_, lw_ HB⟩
 ·rw [if_neg c3] at H
  have c3b0 : (a0_0 == a1_0) = false := beq_eq_false_iff_ne.mpr c3
  have c3b1 : (a0_0 != a1_0) = true := bne_iff_ne.mpr c3
  obtain rfl := Option.some.inj H
  go_enter Try.func100, Try.ntmps100
  go_wp2_with (first | ((with_reducible refine gate_dst (N := 2) rfl ?_); refine bev_ 2 #[.int .i64 a0_0, .slice A0_1 l0_1.length c0_1] 26 rfl rfl ?_; intro gb292 hg w10 hbox hb; have BK292 := am_ (hbox); have GW292 := am_ ((by rw [hg]; exact (below_size (lw_ HB)) : w.heap.size ≤ gb292)); have GE292 := am_ ((by rw [hg]; exact (below_size (lw_ HB)) : w.heap.size ≤ gb292)); replace HB := am_ (below_step (lw_ HB) hb); clear hb hbox hg) | ((with_reducible refine gate_dst (N := 3) rfl ?_); refine bev_ 3 #[.int .i64 a1_0, .slice A1_1 l1_1.length c1_1] 26 rfl rfl ?_; intro gb293 hg w11 hbox hb; have BK293 := am_ (hbox); have GW293 := am_ ((by rw [hg]; exact (below_size (lw_ HB)) : w.heap.size ≤ gb293)); have GE293 := am_ ((by rw [hg]; exact (below_size (lw_ HB)) : w.heap.size ≤ gb293)); have NB292_293 := am_ ((by rw [hg]; exact Nat.ne_of_lt (blk_lt (g := gb292) (lb_ BK292)) : gb292 ≠ gb293)); have NB293_292 := am_ ((by rw [hg]; exact Nat.ne_of_gt (blk_lt (g := gb292) (lb_ BK292)) : gb293 ≠ gb292)); replace BK292 := am_ (blk_below (g := gb292) (lb_ BK292) hb); replace HB := am_ (below_step (lw_ HB) hb); clear hb hbox hg; have hnb12 := NB292_293.out; have hnc12 := NB293_292.out; obtain ⟨hcz13_0, hcz13_1, hfz13_0, hfz13_1⟩ := bx2_ BK292.out; obtain ⟨hcz14_0, hcz14_1, hfz14_0, hfz14_1⟩ := bx2_ BK293.out))
  go_ret
  exact ⟨er_, lw_ HB⟩

end Go.Proofs.Ytkmhjgejficclaa.PFnDirectoriesArePacked
