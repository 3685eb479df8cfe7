-- Laid by a program of this session: the print of the kit with additions of ours (wip/tools/patchprint.py). Nothing of it is trusted: Lean checks it.
import Derived.Test.YtkmhjgejficclaaPFnExactJoinRankedx0
import Derived.Test.YtkmhjgejficclaaPFnExactJoinRankedx2
namespace Go.Proofs.Ytkmhjgejficclaa.PFnExactJoinRanked
open Go.RowKit Go.Proofs.YtkmhjgejficclaaW.PrintWords Go.Proofs.YtkmhjgejficclaaW.PrintLast Go.Proofs.YtkmhjgejficclaaW.PrintMore
attribute [local go_sem] max2_int min2_int max_two min_two max_three min_three max_four min_four   -- for this text's walks alone
set_option linter.unusedVariables false
set_option linter.unusedSimpArgs false

/-! ### spec_raOf: function 95 -/
def spec_raOf.l0 : Nat → Int → Int → List Int → Int → List Int → List Int → List Int → Option (Int × List Int × List Int × List Int)
 | 0, _, _, _, _, _, _, _ => none
 | k + 1, x4, x149000, x149001, x155000, x155001, x155002, x155003 => if x4 < x149000 then (if (Int.tmod x4 64) = 0 then ((spec_biCount.f k x149000 x149001 0 x4).bind fun t155 => (if x155002.length < 17592186044416 then ((spec_biCount.f k x149000 x149001 (wrap64 ((wrap64 (Int.tdiv x4 64)) * 64)) x4).bind fun t159 => (if x155003.length < 17592186044416 then (spec_raOf.l0 k (wrap64 (x4 + 16)) x149000 x149001 x155000 x155001 (x155002 ++ [t155]) (x155003 ++ [t159])) else (none))) else (none))) else ((spec_biCount.f k x149000 x149001 (wrap64 ((wrap64 (Int.tdiv x4 64)) * 64)) x4).bind fun t163 => (if x155003.length < 17592186044416 then (spec_raOf.l0 k (wrap64 (x4 + 16)) x149000 x149001 x155000 x155001 x155002 (x155003 ++ [t163])) else (none)))) else (some (x155000, x155001, x155002, x155003))
def spec_raOf.f (k : Nat) (a0_0 : Int) (l0_1 : List Int) : Option (Int × List Int × List Int × List Int) := (spec_biOwn.f a0_0 l0_1).bind fun bt150 => (spec_raOf.l0 k 0 a0_0 l0_1 bt150.1 bt150.2 ([] : List Int) ([] : List Int))
theorem spec_raOf.mono_l : ∀ k, (∀ y0 y1 y2 y3 y4 y5 y6, LeO (spec_raOf.l0 k y0 y1 y2 y3 y4 y5 y6) (spec_raOf.l0 (k + 1) y0 y1 y2 y3 y4 y5 y6))
 | 0 => fun _ _ _ _ _ _ _ r h => by simp [spec_raOf.l0] at h
 | k + 1 => by
  have ih0 := spec_raOf.mono_l k
  ·intro y0 y1 y2 y3 y4 y5 y6
   unfold spec_raOf.l0
   repeat' first
   | (with_reducible exact ih0 _ _ _ _ _ _ _)
   | (with_reducible exact spec_biCount.mono _ _ _ _ _)
   | (with_reducible exact LeO.refl _)
   | (with_reducible exact LeO.none _)
   | (with_reducible refine LeO.ite ?_ ?_)
   | (with_reducible refine LeO.bind ?_ (fun _ => ?_))
   | exact ih0 _ _ _ _ _ _ _
   | exact spec_biCount.mono _ _ _ _ _
   | exact LeO.none _
   | refine LeO.ite ?_ ?_
   | refine LeO.bind ?_ (fun _ => ?_)
theorem spec_raOf.mono : ∀ a0 a1 k, LeO (spec_raOf.f k a0 a1) (spec_raOf.f (k + 1) a0 a1) := by
 intro a0 a1 k
 have ih0 := spec_raOf.mono_l k
 unfold spec_raOf.f
 repeat' first
   | (with_reducible exact ih0 _ _ _ _ _ _ _)
   | (with_reducible exact spec_biCount.mono _ _ _ _ _)
   | (with_reducible exact LeO.refl _)
   | (with_reducible exact LeO.none _)
   | (with_reducible refine LeO.ite ?_ ?_)
   | (with_reducible refine LeO.bind ?_ (fun _ => ?_))
   | exact ih0 _ _ _ _ _ _ _
   | exact spec_biCount.mono _ _ _ _ _
   | exact LeO.none _
   | refine LeO.ite ?_ ?_
   | refine LeO.bind ?_ (fun _ => ?_)
def spec_raOf.T6 : Bool × List (List Nat × List Nat) := (true, [([], []), ([0], [0]), ([], []), ([], []), ([2, 3], [2, 3]), ([4], [4]), ([1, 5, 4], [1, 5]), ([0, 1, 2, 3, 4, 5, 6], []), ([7, 6, 6, 0, 1, 2, 3, 4, 5, 6], [6, 7])])
def spec_raOf.B6 : List Nat := [0, 1, 0, 0, 12, 28, 63, 127, 255]
theorem spec_raOf.tab6 : rtab .any (opsOf Try.f95 6) = spec_raOf.T6 := by kernel_rfl
theorem spec_raOf.bits6 : waitsOk spec_raOf.T6.2 spec_raOf.B6 = true := by kernel_rfl
def spec_raOf.T7 : Bool × List (List Nat × List Nat) := (true, [([], []), ([0], [0]), ([], []), ([], []), ([3], [3]), ([4], [4]), ([], []), ([2, 5, 6], [2, 5, 6]), ([7], [7]), ([1, 8, 7], [1, 8]), ([0, 1, 2, 3, 4, 5, 6, 7, 8, 9], []), ([10, 9, 9, 0, 1, 2, 3, 4, 5, 6, 7, 8, 9], [9, 10])])
def spec_raOf.B7 : List Nat := [0, 1, 0, 0, 8, 24, 0, 124, 252, 511, 1023, 2047]
theorem spec_raOf.tab7 : rtab .any (opsOf Try.f95 7) = spec_raOf.T7 := by kernel_rfl
theorem spec_raOf.bits7 : waitsOk spec_raOf.T7.2 spec_raOf.B7 = true := by kernel_rfl
set_option maxHeartbeats 8000000 in
set_option maxRecDepth 100000 in
theorem spec_raOf.calls (k : Nat) (a0_0 : Int) (A0_1 : Option Addr) (c0_1 : Nat) (l0_1 : List Int) (r1 : Int) (r2 : List Int) (r3 : List Int) (r4 : List Int) (w : World) (hr0_1 : Kd.C (Kd.int .i64) w A0_1 l0_1.length l0_1) (hc0_1 : l0_1.length ≤ c0_1) (h : spec_raOf.f k a0_0 l0_1 = some (r1, r2, r3, r4)) :
  Calls Try.prog 95 #[.agg #[.int .i64 a0_0, .slice A0_1 l0_1.length c0_1]] w fun e w' => ∃ v1_ v2_ v3_ : Value, e = .returned (.agg #[.int .i64 r1, v1_, v2_, v3_]) ∧ Kd.R (Kd.int .i64) 3 w' w.heap.size (fun k_ => nb_ k_ v2_ ∧ nb_ k_ v3_) v1_ r2 ∧ Kd.R (Kd.int .i64) 3 w' w.heap.size (fun k_ => nb_ k_ v1_ ∧ nb_ k_ v3_) v2_ r3 ∧ Kd.R (Kd.int .i64) 3 w' w.heap.size (fun k_ => nb_ k_ v1_ ∧ nb_ k_ v2_) v3_ r4 ∧ Below w.heap.size w w' := by
 have hu26 := Try.underlying26
 have hu48 := Try.underlying48
 have HR0_1 := am_ hr0_1
 have HC0_1 := am_ hc0_1
 clear hr0_1 hc0_1
 have HB := am_ (Below.refl w.heap.size w)
 have H : ((spec_biOwn.f a0_0 l0_1).bind fun bt150 => (spec_raOf.l0 k 0 a0_0 l0_1 bt150.1 bt150.2 ([] : List Int) ([] : List Int))) = some (r1, r2, r3, r4) := h
 clear h
 replace H := Option.bind_eq_some_iff.mp H
 obtain ⟨⟨t150, t151⟩, A20, H⟩ := H
 replace H : (spec_raOf.l0 k 0 a0_0 l0_1 t150 t151 ([] : List Int) ([] : List Int)) = some (r1, r2, r3, r4) := H
 have A2 := am_ A20
 clear A20
 have H' := am_ H
 clear H
 go_enter Try.func95, Try.ntmps95
 go_wp2_with (first | ((with_reducible refine gate_dst (N := 1) rfl ?_); refine bev_ 1 #[.int .i64 a0_0, .slice A0_1 l0_1.length c0_1] 26 rfl rfl ?_; intro gb148 hg w3 hbox hb; have BK148 := am_ (hbox); have GW148 := am_ ((by rw [hg]; exact (below_size (lw_ HB)) : w.heap.size ≤ gb148)); have GE148 := am_ ((by rw [hg]; exact (below_size (lw_ HB)) : w.heap.size ≤ gb148)); replace HB := am_ (below_step (lw_ HB) hb); clear hb hbox hg) | ((with_reducible refine gate_dst (N := 2) rfl ?_); refine bev_ 2 #[.int .i64 0, .slice none 0 0, .slice none 0 0, .slice none 0 0] 48 rfl rfl ?_; intro gb149 hg w4 hbox hb; have BK149 := am_ (hbox); have GW149 := am_ ((by rw [hg]; exact (below_size (lw_ HB)) : w.heap.size ≤ gb149)); have GE149 := am_ ((by rw [hg]; exact (below_size (lw_ HB)) : w.heap.size ≤ gb149)); have NB148_149 := am_ ((by rw [hg]; exact Nat.ne_of_lt (blk_lt (g := gb148) (lb_ BK148)) : gb148 ≠ gb149)); have NB149_148 := am_ ((by rw [hg]; exact Nat.ne_of_gt (blk_lt (g := gb148) (lb_ BK148)) : gb149 ≠ gb148)); replace BK148 := am_ (blk_below (g := gb148) (lb_ BK148) hb); replace HB := am_ (below_step (lw_ HB) hb); clear hb hbox hg; have hnb5 := NB148_149.out; have hnc5 := NB149_148.out; obtain ⟨hcz6_0, hcz6_1, hfz6_0, hfz6_1⟩ := bx2_ BK148.out) | ((with_reducible refine gate_callee (f := 128) rfl ?_); refine goesL_ (some 6) rfl rfl Try.func128 (by kernel_rfl) rfl #[.agg #[.int .i64 a0_0, .slice A0_1 l0_1.length c0_1]] rfl lm_ ?_; (with_reducible refine (spec_biOwn.calls a0_0 _ _ l0_1 t150 t151 _ ?side1 ?side2 A2.out).mono ?_); (case side1 => exact lc_ (Kd.C_below HR0_1.out HB.out)); (case side2 => exact HC0_1.out); rintro e w7 ⟨v152, rfl, ho0, hb⟩; refine ⟨_, rfl, ?_⟩; have HO153 := am_ (Kd.R_lower ho0 (below_size (lw_ HB))); replace BK148 := am_ (blk_below (g := gb148) (lb_ BK148) hb); replace BK149 := am_ (blk_below (g := gb149) (lb_ BK149) hb); replace HB := am_ (below_step (lw_ HB) hb); (try clear hb); (try clear hb2); (try clear hk); (try clear hi); (try clear ho0); obtain ⟨Ao8, co8, eo8⟩ := Kd.R_slice HO153.out; subst eo8) | ((with_reducible refine gate_dst (N := 3) rfl ?_); refine bev_ 3 #[.int .i64 0, .slice none 0 0, .slice none 0 0, .slice none 0 0] 48 rfl rfl ?_; intro gb154 hg w9 hbox hb; have BK154 := am_ (hbox); have GW154 := am_ ((by rw [hg]; exact (below_size (lw_ HB)) : w.heap.size ≤ gb154)); have GE154 := am_ ((by rw [hg]; exact (below_size (lw_ HB)) : w.heap.size ≤ gb154)); have NB148_154 := am_ ((by rw [hg]; exact Nat.ne_of_lt (blk_lt (g := gb148) (lb_ BK148)) : gb148 ≠ gb154)); have NB154_148 := am_ ((by rw [hg]; exact Nat.ne_of_gt (blk_lt (g := gb148) (lb_ BK148)) : gb154 ≠ gb148)); have NB149_154 := am_ ((by rw [hg]; exact Nat.ne_of_lt (blk_lt (g := gb149) (lb_ BK149)) : gb149 ≠ gb154)); have NB154_149 := am_ ((by rw [hg]; exact Nat.ne_of_gt (blk_lt (g := gb149) (lb_ BK149)) : gb154 ≠ gb149)); replace HO153 := am_ (Kd.R_below (lf_ HO153) hb); replace BK148 := am_ (blk_below (g := gb148) (lb_ BK148) hb); replace BK149 := am_ (blk_below (g := gb149) (lb_ BK149) hb); replace HB := am_ (below_step (lw_ HB) hb); clear hb hbox hg; have hnb10 := NB154_148.out; have hnc10 := NB148_154.out; have hnb11 := NB154_149.out; have hnc11 := NB149_154.out; obtain ⟨hcz12_0, hcz12_1, hcz12_2, hcz12_3, hfz12_0, hfz12_1, hfz12_2, hfz12_3⟩ := bx4_ BK154.out))
 go_loopg [4] k (fun kq v4 w' => ∃ (x4_1 : Int) (x155002_1 : List Int) (x155003_1 : List Int) (u155002 : Value) (u155003 : Value), v4 = .int .i64 x4_1 ∧ Aside0 (spec_raOf.l0 kq x4_1 a0_0 l0_1 t150 t151 x155002_1 x155003_1 = some (r1, r2, r3, r4)) ∧ Aside0 (kq ≤ k) ∧ Aside0 (Kd.R (Kd.int .i64) 3 w' w.heap.size (fun k_ => nb_ k_ u155002 ∧ nb_ k_ u155003) (.slice Ao8 t151.length co8) t151) ∧ Aside0 (Kd.R (Kd.int .i64) 3 w' w.heap.size (fun k_ => ns_ k_ Ao8 t151 co8 ∧ nb_ k_ u155003) u155002 x155002_1) ∧ Aside0 (Kd.R (Kd.int .i64) 3 w' w.heap.size (fun k_ => ns_ k_ Ao8 t151 co8 ∧ nb_ k_ u155002) u155003 x155003_1) ∧ Aside0 (w'.heap[gb148]? = some (.cells #[.int .i64 a0_0, (.slice A0_1 l0_1.length c0_1)] 26 (0, 0))) ∧ Aside0 (w'.heap[gb149]? = some (.cells #[.int .i64 0, (.slice none 0 0), (.slice none 0 0), (.slice none 0 0)] 48 (0, 0))) ∧ Aside0 (w'.heap[gb154]? = some (.cells #[.int .i64 t150, (.slice Ao8 t151.length co8), u155002, u155003] 48 (0, 0))) ∧ Aside0 (Below w.heap.size w w'))
 case atStart => exact ⟨(0), (([] : List Int)), (([] : List Int)), (.slice none 0 0), (.slice none 0 0), sr_, H', ⟨Nat.le_refl _⟩, ⟨lt_ (Kd.R_mono (fr4_ HO153.out BK154.out (.int .i64 t150) (.slice Ao8 t151.length co8) (.slice none 0 0) (.slice none 0 0)) (fun _ hk => ⟨(by simp [Value.ownBlock]), (by simp [Value.ownBlock])⟩))⟩, ⟨by first | exact Kd.R_nil _ _ _ _ _ | exact Kd.N_nil _ _ _ _ _ | exact Kd.V_nil _ _ _ _ _ | exact Kd.Q_nil _ _ _ _ _ | exact Kd.S_nil _ _ _ _ _⟩, ⟨by first | exact Kd.R_nil _ _ _ _ _ | exact Kd.N_nil _ _ _ _ _ | exact Kd.V_nil _ _ _ _ _ | exact Kd.Q_nil _ _ _ _ _ | exact Kd.S_nil _ _ _ _ _⟩, ⟨lg_ BK148⟩, ⟨lg_ BK149⟩, ⟨lq_ BK154⟩, ⟨lw_ HB⟩⟩
 case round =>
  clear H'
  try clear c1
  try clear p2
  try clear c5
  try clear c9
  try clear c10
  try clear c11
  try clear c12
  try clear hcz12_0
  try clear hcz12_1
  try clear hcz12_2
  try clear hcz12_3
  try clear hcz6_0
  try clear hcz6_1
  try clear hfz12_0
  try clear hfz12_1
  try clear hfz12_2
  try clear hfz12_3
  try clear hfz6_0
  try clear hfz6_1
  obtain ⟨x4_1, x155002_1, x155003_1, u155002, u155003, rfl, HA, HK1, HO_155001, HO_155002, HO_155003, BK148, BK149, BK154, HB⟩ := hrel
  cases gk with
  | zero => exact absurd HA.out (by simp [spec_raOf.l0])
  | succ k1 =>
   have H := HA.out
   clear HA
   simp only [spec_raOf.l0] at H
   by_cases c13 : x4_1 < a0_0
   ·rw [if_pos c13] at H
    have c13b0 : decide (x4_1 < a0_0) = true := decide_eq_true c13
    clear c13
    by_cases c14 : (Int.tmod x4_1 64) = 0
    ·rw [if_pos c14] at H
     have c14b0 : ((Int.tmod x4_1 64) == 0) = true := beq_iff_eq.mpr c14
     have c14b1 : ((Int.tmod x4_1 64) != 0) = false := bne_eq_false_iff_eq.mpr c14
     clear c14
     replace H := Option.bind_eq_some_iff.mp H
     obtain ⟨t155, A150, H⟩ := H
     replace H : (if x155002_1.length < 17592186044416 then ((spec_biCount.f k1 a0_0 l0_1 (wrap64 ((wrap64 (Int.tdiv x4_1 64)) * 64)) x4_1).bind fun t159 => (if x155003_1.length < 17592186044416 then (spec_raOf.l0 k1 (wrap64 (x4_1 + 16)) a0_0 l0_1 t150 t151 (x155002_1 ++ [t155]) (x155003_1 ++ [t159])) else (none))) else (none)) = some (r1, r2, r3, r4) := H
     have A15 := am_ A150
     clear A150
     by_cases c16 : x155002_1.length < 17592186044416
     ·rw [if_pos c16] at H
      have LMc16 := am_ c16
      clear c16
      obtain ⟨y156, hy156⟩ : ∃ y_ : List Int, y_ = (x155002_1 ++ [t155]) := ⟨_, rfl⟩
      replace H : ((spec_biCount.f k1 a0_0 l0_1 (wrap64 ((wrap64 (Int.tdiv x4_1 64)) * 64)) x4_1).bind fun t159 => (if x155003_1.length < 17592186044416 then (spec_raOf.l0 k1 (wrap64 (x4_1 + 16)) a0_0 l0_1 t150 t151 y156 (x155003_1 ++ [t159])) else (none))) = some (r1, r2, r3, r4) := by first | (rw [hy156]; with_reducible exact H) | (have H2_ := (Option.bind_some _ _).symm.trans H; rw [hy156]; with_reducible exact H2_) | (have H2_ := (Option.bind_some _ _).symm.trans H; with_reducible exact H2_) | with_reducible exact H | (rw [hy156]; exact H) | exact H
      have Ny156 := am_ hy156
      clear hy156
      replace H := Option.bind_eq_some_iff.mp H
      obtain ⟨t159, A170, H⟩ := H
      replace H : (if x155003_1.length < 17592186044416 then (spec_raOf.l0 k1 (wrap64 (x4_1 + 16)) a0_0 l0_1 t150 t151 y156 (x155003_1 ++ [t159])) else (none)) = some (r1, r2, r3, r4) := H
      have A17 := am_ A170
      clear A170
      by_cases c18 : x155003_1.length < 17592186044416
      ·rw [if_pos c18] at H
       have LMc18 := am_ c18
       clear c18
       obtain ⟨y160, hy160⟩ : ∃ y_ : List Int, y_ = (x155003_1 ++ [t159]) := ⟨_, rfl⟩
       replace H : (spec_raOf.l0 k1 (wrap64 (x4_1 + 16)) a0_0 l0_1 t150 t151 y156 y160) = some (r1, r2, r3, r4) := by first | (rw [hy160]; with_reducible exact H) | (have H2_ := (Option.bind_some _ _).symm.trans H; rw [hy160]; with_reducible exact H2_) | (have H2_ := (Option.bind_some _ _).symm.trans H; with_reducible exact H2_) | with_reducible exact H | (rw [hy160]; exact H) | exact H
       have Ny160 := am_ hy160
       clear hy160
       have H' := am_ H
       clear H
       have hnb19 := NB148_149.out
       have hnc19 := NB149_148.out
       have hnb20 := NB148_154.out
       have hnc20 := NB154_148.out
       obtain ⟨hcz21_0, hcz21_1, hfz21_0, hfz21_1⟩ := bx2_ BK148.out
       try go_wp2
       replace HO_155001 := am_ (Kd.R_drew HO_155001.out); replace HO_155002 := am_ (Kd.R_drew HO_155002.out); replace HO_155003 := am_ (Kd.R_drew HO_155003.out); replace BK148 := am_ (blk_drew BK148.out); replace BK149 := am_ (blk_drew BK149.out); replace BK154 := am_ (blk_drew BK154.out); replace HB := am_ (below_drew1 HB.out)
       refine start_ (n := 9) (S := fun w' => w'.cell? ⟨gb154, 0, none⟩ = some (.int .i64 t150) ∧ w'.cell? ⟨gb154, 1, none⟩ = some (.slice Ao8 t151.length co8) ∧ w'.cell? ⟨gb154, 2, none⟩ = some (u155002) ∧ w'.cell? ⟨gb154, 3, none⟩ = some (u155003) ∧ w'.cell? ⟨gb148, 0, none⟩ = some (.int .i64 a0_0) ∧ w'.cell? ⟨gb148, 1, none⟩ = some (.slice A0_1 l0_1.length c0_1)) (ds := [8]) #[false, false, false, false, false, false, false, false, false] (by kernel_rfl) rfl rfl ⟨(blk_cell BK154.out 0).trans rfl, (blk_cell BK154.out 1).trans rfl, (blk_cell BK154.out 2).trans rfl, (blk_cell BK154.out 3).trans rfl, (blk_cell BK148.out 0).trans rfl, (blk_cell BK148.out 1).trans rfl⟩ (fun hHeld => ?_); refine with_tabW spec_raOf.tab6 spec_raOf.bits6 (fun HT_ HW_ => ?_)
       generalize wr.drew = w22 at HO_155001 HO_155002 HO_155003 BK148 BK149 BK154 HB hHeld ⊢
       refine pure_ (i := 0) (N := some 17) (v := ?_) (a' := ?_) #[true, false, false, false, false, false, false, false, false] rfl rfl (any_of HT_.out (by kernel_rfl)) (fun _ _ _ h => h) (Or.inl ⟨by rfl, ?_⟩) ?_ ?_
       rotate_left
       ·intro w'
        go_simp
        with_reducible rfl
       rotate_left
       ·simp only [Act.put, List.setIfInBounds_toArray, List.set_cons_zero, List.set_cons_succ, i64_w, i32_w]
        rfl
       refine pure_ (i := 3) (N := some 20) (v := ?_) (a' := ?_) #[true, false, false, true, false, false, false, false, false] rfl rfl (any_of HT_.out (by kernel_rfl)) (fun _ _ _ h => h) (Or.inl ⟨by rfl, ?_⟩) ?_ ?_
       rotate_left
       ·intro w'
        go_simp
        with_reducible rfl
       rotate_left
       ·simp only [Act.put, List.setIfInBounds_toArray, List.set_cons_zero, List.set_cons_succ, i64_w, i32_w]
        rfl
       refine take_ (i := 1) (N := some 18) (v := ?_) (a' := ?_) #[true, true, false, true, false, false, false, false, false] rfl rfl (take_ofW HT_.out HW_.out (by kernel_rfl)) (fun _ _ _ h => h) (Or.inl ⟨by rfl, ?_⟩) hHeld ?_ ?_
       rotate_left
       ·rintro w' ⟨s0, s1, s2, s3, s4, s5⟩
        go_simp
        with_reducible rfl
       rotate_left
       ·simp only [Act.put, List.setIfInBounds_toArray, List.set_cons_zero, List.set_cons_succ, i64_w, i32_w]
        rfl
       refine take_ (i := 2) (N := some 19) (v := ?_) (a' := ?_) #[true, true, true, true, false, false, false, false, false] rfl rfl (take_ofW HT_.out HW_.out (by kernel_rfl)) (fun _ _ _ h => h) (Or.inl ⟨by rfl, ?_⟩) hHeld ?_ ?_
       rotate_left
       ·rintro w' ⟨s0, s1, s2, s3, s4, s5⟩
        go_simp
        with_reducible rfl
       rotate_left
       ·simp only [Act.put, List.setIfInBounds_toArray, List.set_cons_zero, List.set_cons_succ, i64_w, i32_w]
        rfl
       refine one_ (i := 4) (N := some 21) #[true, true, true, true, true, false, false, false, false] rfl rfl (one_of HT_.out (by kernel_rfl)) (by decide) (fun K hK => ?_)
       refine goes_ Try.func129 (by kernel_rfl) rfl #[.agg #[.int .i64 a0_0, .slice A0_1 l0_1.length c0_1], .int .i64 0, .int .i64 x4_1] (by rfl) rfl rfl lm_ ?_
       with_reducible refine (spec_biCount.calls k1 a0_0 _ _ l0_1 0 x4_1 t155 _ ?side1 ?side2 A15.out).mono ?_
       (case side1 => exact lc_ (Kd.C_below HR0_1.out HB.out))
       (case side2 => exact HC0_1.out)
       rintro e w23 ⟨rfl, hb⟩
       refine ⟨_, rfl, ?_⟩
       replace HO_155001 := am_ (Kd.R_below (lf_ HO_155001) hb); replace HO_155002 := am_ (Kd.R_below (lf_ HO_155002) hb); replace HO_155003 := am_ (Kd.R_below (lf_ HO_155003) hb); replace BK148 := am_ (blk_below (g := gb148) (lb_ BK148) hb); replace BK149 := am_ (blk_below (g := gb149) (lb_ BK149) hb); replace BK154 := am_ (blk_below (g := gb154) (lb_ BK154) hb); replace HB := am_ (below_step (lw_ HB) hb)
       (try clear hb)
       (try clear hb2)
       (try clear hk)
       (try clear hi)
       refine hK.out _ _ ⟨(blk_cell BK154.out 0).trans rfl, (blk_cell BK154.out 1).trans rfl, (blk_cell BK154.out 2).trans rfl, (blk_cell BK154.out 3).trans rfl, (blk_cell BK148.out 0).trans rfl, (blk_cell BK148.out 1).trans rfl⟩ (fun hHeld => ?_)
       clear hK K
       refine norm_ (a' := ?_) ?_ ?_
       rotate_left
       ·show Act.put _ (some 21) _ = _
        simp only [Act.put, List.setIfInBounds_toArray, List.set_cons_zero, List.set_cons_succ, i64_w, i32_w]
        rfl
       refine one_ (i := 5) (N := some 22) #[true, true, true, true, true, true, false, false, false] rfl rfl (one_of HT_.out (by kernel_rfl)) (by decide) (fun K hK => ?_)
       refine value_ (w1 := ?_) (v := ?_) (by rfl) rfl ?_ ?_
       rotate_left 2
       ·go_simp
        constructor
        ·rfl
        ·rfl
       refine hK.out _ _ ⟨(blk_cell (blk_alloc BK154.out _) 0).trans rfl, (blk_cell (blk_alloc BK154.out _) 1).trans rfl, (blk_cell (blk_alloc BK154.out _) 2).trans rfl, (blk_cell (blk_alloc BK154.out _) 3).trans rfl, (blk_cell (blk_alloc BK148.out _) 0).trans rfl, (blk_cell (blk_alloc BK148.out _) 1).trans rfl⟩ (fun hHeld => ?_)
       clear hK K
       refine norm_ (a' := ?_) ?_ ?_
       rotate_left
       ·show Act.put _ (some 22) _ = _
        simp only [Act.put, List.setIfInBounds_toArray, List.set_cons_zero, List.set_cons_succ, i64_w, i32_w]
        rfl
       refine one_ (i := 6) (N := some 23) #[true, true, true, true, true, true, true, false, false] rfl rfl (one_of HT_.out (by kernel_rfl)) (by decide) (fun K hK => ?_)
       refine Kd.R_append_step (Kd.int .i64) (w0 := w) w.heap.size (by rfl) (.tmp 18) (.tmp 22) 22 3 (.int .i64 0) 8 rfl Try.underlying22 info3 rfl (by decide) (by omega) u155002 x155002_1 t155 [.int .i64 t155] (fun k_ => ns_ k_ Ao8 t151 co8 ∧ nb_ k_ u155003) (fun _ => False) rfl rfl ?aP (fun _ hk => hk.elim) ?aF ?aO ?aB ?aS ?aL ?_
       (case aP => exact rfl)
       (case aB => exact (lw_ HB))
       (case aF => exact (fun k_ hk => ⟨Kd.fresh' (Kd.R_lt (lf_ HO_155001)) k_ hk, Kd.fresh' (Kd.R_lt (lf_ HO_155003)) k_ hk⟩))
       (case aO => exact (lf_ HO_155002))
       (case aS => exact (below_size (lw_ HB)))
       (case aL => have := LMc16.out; omega)
       intro v157 w24 ho hb hg hat
       rw [← Ny156.out] at ho
       have HO158 := am_ (ho); replace HO_155001 := am_ (Kd.R_after (ok := (fun k_ => nb_ k_ u155003)) (lo_ HO_155001) hg hat); replace HO_155003 := am_ (Kd.R_after (ok := (fun k_ => ns_ k_ Ao8 t151 co8)) (lf_ HO_155003) hg hat); replace BK148 := am_ (blk_grown (g := gb148) (lb_ BK148) hg (Kd.R_ne HO_155002.out BK148.out (by decide))); replace BK149 := am_ (blk_grown (g := gb149) (lb_ BK149) hg (Kd.R_ne HO_155002.out BK149.out (by decide))); replace BK154 := am_ (blk_grown (g := gb154) (lb_ BK154) hg (Kd.R_ne HO_155002.out BK154.out (by decide))); replace HB := am_ (hb); clear HO_155002
       clear ho hb hg hat
       obtain ⟨Ao25, co25, eo25⟩ := Kd.R_slice HO158.out
       (first | subst eo25 | (injection eo25 with f1_ f2_ f3_; have f4_ := f1_.symm; have f5_ := f3_.symm; clear f1_ f2_ f3_; subst f4_; subst f5_))
       refine hK.out _ _ ⟨(blk_cell BK154.out 0).trans rfl, (blk_cell BK154.out 1).trans rfl, (blk_cell BK154.out 2).trans rfl, (blk_cell BK154.out 3).trans rfl, (blk_cell BK148.out 0).trans rfl, (blk_cell BK148.out 1).trans rfl⟩ (fun hHeld => ?_)
       clear hK K
       refine norm_ (a' := ?_) ?_ ?_
       rotate_left
       ·show Act.put _ (some 23) _ = _
        simp only [Act.put, List.setIfInBounds_toArray, List.set_cons_zero, List.set_cons_succ, i64_w, i32_w]
        rfl
       refine pure_ (i := 7) (N := some 24) (v := ?_) (a' := ?_) #[true, true, true, true, true, true, true, true, false] rfl rfl (any_of HT_.out (by kernel_rfl)) (fun _ _ _ h => h) (Or.inl ⟨by rfl, ?_⟩) ?_ ?_
       rotate_left
       ·intro w'
        go_simp
        with_reducible rfl
       rotate_left
       ·simp only [Act.put, List.setIfInBounds_toArray, List.set_cons_zero, List.set_cons_succ, i64_w, i32_w]
        rfl
       refine last_ (i := 8) (N := none) #[true, true, true, true, true, true, true, true, true] rfl rfl (one_of HT_.out (by kernel_rfl)) (by decide) (fun K hK => ?_)
       have hs26 : w24.cell? ⟨gb154, 2, none⟩ = some (u155002) := (blk_cell BK154.out 2).trans rfl
       have hfs26 := blk_frozen BK154.out 2
       have hns26_0 := NB148_154.out
       have hns26_1 := NB149_154.out
       have hms26_0 := NB154_148.out
       have hms26_1 := NB154_149.out
       refine skip_ (w1 := ?_) (by rfl) rfl ?_ ?_
       rotate_left
       ·go_simp
        rfl
       refine hK.out _ _ ?_
       clear hK K
       refine done_ (done_of HT_.out (by kernel_rfl)) ?_
       try go_wp2
       have n0_ : Aside0 (Kd.R (Kd.int .i64) 3 (w24.setCell ⟨gb154, 2, none⟩ (.slice Ao25 y156.length co25)) w.heap.size (fun k_ => nb_ k_ u155003 ∧ ns_ k_ Ao25 y156 co25) (.slice Ao8 t151.length co8) t151) := ⟨lo2_ (Kd.R_far (p := ⟨gb154, 2, none⟩) (Kd.R_types HO_155001.out BK154.out (by decide)) (fun _ hk => hk.2) (.slice Ao25 y156.length co25))⟩; have n1_ : Aside0 (Kd.R (Kd.int .i64) 3 (w24.setCell ⟨gb154, 2, none⟩ (.slice Ao25 y156.length co25)) w.heap.size (fun k_ => ns_ k_ Ao8 t151 co8 ∧ ns_ k_ Ao25 y156 co25) u155003 x155003_1) := ⟨lo2_ (Kd.R_far (p := ⟨gb154, 2, none⟩) (Kd.R_types HO_155003.out BK154.out (by decide)) (fun _ hk => hk.2) (.slice Ao25 y156.length co25))⟩; have n2_ : Aside0 (Kd.R (Kd.int .i64) 3 (w24.setCell ⟨gb154, 2, none⟩ (.slice Ao25 y156.length co25)) w.heap.size (fun k_ => ns_ k_ Ao8 t151 co8 ∧ nb_ k_ u155003) (.slice Ao25 y156.length co25) y156) := ⟨lo2_ (Kd.R_far (p := ⟨gb154, 2, none⟩) (Kd.R_types HO158.out BK154.out (by decide)) (fun _ hk => hk.2) (.slice Ao25 y156.length co25))⟩; have n3_ : Aside0 ((w24.setCell ⟨gb154, 2, none⟩ (.slice Ao25 y156.length co25)).heap[gb148]? = some (.cells #[.int .i64 a0_0, .slice A0_1 l0_1.length c0_1] 26 (0, 0))) := ⟨lg_ BK148⟩; have n4_ : Aside0 ((w24.setCell ⟨gb154, 2, none⟩ (.slice Ao25 y156.length co25)).heap[gb149]? = some (.cells #[.int .i64 0, .slice none 0 0, .slice none 0 0, .slice none 0 0] 48 (0, 0))) := ⟨lg_ BK149⟩; have n5_ : Aside0 ((w24.setCell ⟨gb154, 2, none⟩ (.slice Ao25 y156.length co25)).heap[gb154]? = some (.cells #[.int .i64 t150, .slice Ao8 t151.length co8, .slice Ao25 y156.length co25, u155003] 48 (0, 0))) := ⟨lq_ BK154⟩; have n6_ : Aside0 (Below w.heap.size w (w24.setCell ⟨gb154, 2, none⟩ (.slice Ao25 y156.length co25))) := ⟨lw_ HB⟩
       (try clear HO_155001)
       (try clear HO_155003)
       (try clear HO158)
       (try clear BK148)
       (try clear BK149)
       (try clear BK154)
       (try clear HB)
       generalize (w24.setCell ⟨gb154, 2, none⟩ (.slice Ao25 y156.length co25)) = w27 at n0_ n1_ n2_ n3_ n4_ n5_ n6_ ⊢
       have HO_155001 := n0_
       have HO_155003 := n1_
       have HO158 := n2_
       have BK148 := n3_
       have BK149 := n4_
       have BK154 := n5_
       have HB := n6_
       clear n0_ n1_ n2_ n3_ n4_ n5_ n6_
       replace HO_155001 := am_ (Kd.R_drew HO_155001.out); replace HO_155003 := am_ (Kd.R_drew HO_155003.out); replace HO158 := am_ (Kd.R_drew HO158.out); replace BK148 := am_ (blk_drew BK148.out); replace BK149 := am_ (blk_drew BK149.out); replace BK154 := am_ (blk_drew BK154.out); replace HB := am_ (below_drew1 HB.out)
       refine start_ (n := 12) (S := fun w' => w'.cell? ⟨gb154, 0, none⟩ = some (.int .i64 t150) ∧ w'.cell? ⟨gb154, 1, none⟩ = some (.slice Ao8 t151.length co8) ∧ w'.cell? ⟨gb154, 2, none⟩ = some (.slice Ao25 y156.length co25) ∧ w'.cell? ⟨gb154, 3, none⟩ = some (u155003) ∧ w'.cell? ⟨gb148, 0, none⟩ = some (.int .i64 a0_0) ∧ w'.cell? ⟨gb148, 1, none⟩ = some (.slice A0_1 l0_1.length c0_1)) (ds := [11]) #[false, false, false, false, false, false, false, false, false, false, false, false] (by kernel_rfl) rfl rfl ⟨(blk_cell BK154.out 0).trans rfl, (blk_cell BK154.out 1).trans rfl, (blk_cell BK154.out 2).trans rfl, (blk_cell BK154.out 3).trans rfl, (blk_cell BK148.out 0).trans rfl, (blk_cell BK148.out 1).trans rfl⟩ (fun hHeld => ?_); refine with_tabW spec_raOf.tab7 spec_raOf.bits7 (fun HT_ HW_ => ?_)
       generalize w27.drew = w28 at HO_155001 HO_155003 HO158 BK148 BK149 BK154 HB hHeld ⊢
       refine pure_ (i := 0) (N := some 25) (v := ?_) (a' := ?_) #[true, false, false, false, false, false, false, false, false, false, false, false] rfl rfl (any_of HT_.out (by kernel_rfl)) (fun _ _ _ h => h) (Or.inl ⟨by rfl, ?_⟩) ?_ ?_
       rotate_left
       ·intro w'
        go_simp
        with_reducible rfl
       rotate_left
       ·simp only [Act.put, List.setIfInBounds_toArray, List.set_cons_zero, List.set_cons_succ, i64_w, i32_w]
        rfl
       refine pure_ (i := 3) (N := some 28) (v := ?_) (a' := ?_) #[true, false, false, true, false, false, false, false, false, false, false, false] rfl rfl (any_of HT_.out (by kernel_rfl)) (fun _ _ _ h => h) (Or.inl ⟨by rfl, ?_⟩) ?_ ?_
       rotate_left
       ·intro w'
        go_simp
        with_reducible rfl
       rotate_left
       ·simp only [Act.put, List.setIfInBounds_toArray, List.set_cons_zero, List.set_cons_succ, i64_w, i32_w]
        rfl
       refine pure_ (i := 4) (N := some 29) (v := ?_) (a' := ?_) #[true, false, false, true, true, false, false, false, false, false, false, false] rfl rfl (any_of HT_.out (by kernel_rfl)) (fun _ _ _ h => h) (Or.inl ⟨by rfl, ?_⟩) ?_ ?_
       rotate_left
       ·intro w'
        go_simp
        with_reducible rfl
       rotate_left
       ·simp only [Act.put, List.setIfInBounds_toArray, List.set_cons_zero, List.set_cons_succ, i64_w, i32_w]
        rfl
       refine pure_ (i := 5) (N := some 30) (v := ?_) (a' := ?_) #[true, false, false, true, true, true, false, false, false, false, false, false] rfl rfl (any_of HT_.out (by kernel_rfl)) (fun _ _ _ h => h) (Or.inl ⟨by rfl, ?_⟩) ?_ ?_
       rotate_left
       ·intro w'
        go_simp
        with_reducible rfl
       rotate_left
       ·simp only [Act.put, List.setIfInBounds_toArray, List.set_cons_zero, List.set_cons_succ, i64_w, i32_w]
        rfl
       refine pure_ (i := 6) (N := some 31) (v := ?_) (a' := ?_) #[true, false, false, true, true, true, true, false, false, false, false, false] rfl rfl (any_of HT_.out (by kernel_rfl)) (fun _ _ _ h => h) (Or.inl ⟨by rfl, ?_⟩) ?_ ?_
       rotate_left
       ·intro w'
        go_simp
        with_reducible rfl
       rotate_left
       ·simp only [Act.put, List.setIfInBounds_toArray, List.set_cons_zero, List.set_cons_succ, i64_w, i32_w]
        rfl
       refine take_ (i := 1) (N := some 26) (v := ?_) (a' := ?_) #[true, true, false, true, true, true, true, false, false, false, false, false] rfl rfl (take_ofW HT_.out HW_.out (by kernel_rfl)) (fun _ _ _ h => h) (Or.inl ⟨by rfl, ?_⟩) hHeld ?_ ?_
       rotate_left
       ·rintro w' ⟨s0, s1, s2, s3, s4, s5⟩
        go_simp
        with_reducible rfl
       rotate_left
       ·simp only [Act.put, List.setIfInBounds_toArray, List.set_cons_zero, List.set_cons_succ, i64_w, i32_w]
        rfl
       refine take_ (i := 2) (N := some 27) (v := ?_) (a' := ?_) #[true, true, true, true, true, true, true, false, false, false, false, false] rfl rfl (take_ofW HT_.out HW_.out (by kernel_rfl)) (fun _ _ _ h => h) (Or.inl ⟨by rfl, ?_⟩) hHeld ?_ ?_
       rotate_left
       ·rintro w' ⟨s0, s1, s2, s3, s4, s5⟩
        go_simp
        with_reducible rfl
       rotate_left
       ·simp only [Act.put, List.setIfInBounds_toArray, List.set_cons_zero, List.set_cons_succ, i64_w, i32_w]
        rfl
       refine one_ (i := 7) (N := some 32) #[true, true, true, true, true, true, true, true, false, false, false, false] rfl rfl (one_of HT_.out (by kernel_rfl)) (by decide) (fun K hK => ?_)
       refine goes_ Try.func129 (by kernel_rfl) rfl #[.agg #[.int .i64 a0_0, .slice A0_1 l0_1.length c0_1], .int .i64 (wrap64 ((wrap64 (Int.tdiv x4_1 64)) * 64)), .int .i64 x4_1] (by rfl) rfl rfl lm_ ?_
       with_reducible refine (spec_biCount.calls k1 a0_0 _ _ l0_1 (wrap64 ((wrap64 (Int.tdiv x4_1 64)) * 64)) x4_1 t159 _ ?side1 ?side2 A17.out).mono ?_
       (case side1 => exact lc_ (Kd.C_below HR0_1.out HB.out))
       (case side2 => exact HC0_1.out)
       rintro e w29 ⟨rfl, hb⟩
       refine ⟨_, rfl, ?_⟩
       replace HO_155001 := am_ (Kd.R_below (lf_ HO_155001) hb); replace HO_155003 := am_ (Kd.R_below (lf_ HO_155003) hb); replace HO158 := am_ (Kd.R_below (lf_ HO158) hb); replace BK148 := am_ (blk_below (g := gb148) (lb_ BK148) hb); replace BK149 := am_ (blk_below (g := gb149) (lb_ BK149) hb); replace BK154 := am_ (blk_below (g := gb154) (lb_ BK154) hb); replace HB := am_ (below_step (lw_ HB) hb)
       (try clear hb)
       (try clear hb2)
       (try clear hk)
       (try clear hi)
       refine hK.out _ _ ⟨(blk_cell BK154.out 0).trans rfl, (blk_cell BK154.out 1).trans rfl, (blk_cell BK154.out 2).trans rfl, (blk_cell BK154.out 3).trans rfl, (blk_cell BK148.out 0).trans rfl, (blk_cell BK148.out 1).trans rfl⟩ (fun hHeld => ?_)
       clear hK K
       refine norm_ (a' := ?_) ?_ ?_
       rotate_left
       ·show Act.put _ (some 32) _ = _
        simp only [Act.put, List.setIfInBounds_toArray, List.set_cons_zero, List.set_cons_succ, i64_w, i32_w]
        rfl
       refine one_ (i := 8) (N := some 33) #[true, true, true, true, true, true, true, true, true, false, false, false] rfl rfl (one_of HT_.out (by kernel_rfl)) (by decide) (fun K hK => ?_)
       refine value_ (w1 := ?_) (v := ?_) (by rfl) rfl ?_ ?_
       rotate_left 2
       ·go_simp
        constructor
        ·rfl
        ·rfl
       refine hK.out _ _ ⟨(blk_cell (blk_alloc BK154.out _) 0).trans rfl, (blk_cell (blk_alloc BK154.out _) 1).trans rfl, (blk_cell (blk_alloc BK154.out _) 2).trans rfl, (blk_cell (blk_alloc BK154.out _) 3).trans rfl, (blk_cell (blk_alloc BK148.out _) 0).trans rfl, (blk_cell (blk_alloc BK148.out _) 1).trans rfl⟩ (fun hHeld => ?_)
       clear hK K
       refine norm_ (a' := ?_) ?_ ?_
       rotate_left
       ·show Act.put _ (some 33) _ = _
        simp only [Act.put, List.setIfInBounds_toArray, List.set_cons_zero, List.set_cons_succ, i64_w, i32_w]
        rfl
       refine one_ (i := 9) (N := some 34) #[true, true, true, true, true, true, true, true, true, true, false, false] rfl rfl (one_of HT_.out (by kernel_rfl)) (by decide) (fun K hK => ?_)
       refine Kd.R_append_step (Kd.int .i64) (w0 := w) w.heap.size (by rfl) (.tmp 26) (.tmp 33) 22 3 (.int .i64 0) 8 rfl Try.underlying22 info3 rfl (by decide) (by omega) u155003 x155003_1 t159 [.int .i64 t159] (fun k_ => ns_ k_ Ao8 t151 co8 ∧ ns_ k_ Ao25 y156 co25) (fun _ => False) rfl rfl ?aP (fun _ hk => hk.elim) ?aF ?aO ?aB ?aS ?aL ?_
       (case aP => exact rfl)
       (case aB => exact (lw_ HB))
       (case aF => exact (fun k_ hk => ⟨Kd.fresh' (Kd.R_lt (lf_ HO_155001)) k_ hk, Kd.fresh' (Kd.R_lt (lf_ HO158)) k_ hk⟩))
       (case aO => exact (lf_ HO_155003))
       (case aS => exact (below_size (lw_ HB)))
       (case aL => have := LMc18.out; omega)
       intro v161 w30 ho hb hg hat
       rw [← Ny160.out] at ho
       have HO162 := am_ (ho); replace HO_155001 := am_ (Kd.R_after (ok := (fun k_ => ns_ k_ Ao25 y156 co25)) (lo_ HO_155001) hg hat); replace BK148 := am_ (blk_grown (g := gb148) (lb_ BK148) hg (Kd.R_ne HO_155003.out BK148.out (by decide))); replace BK149 := am_ (blk_grown (g := gb149) (lb_ BK149) hg (Kd.R_ne HO_155003.out BK149.out (by decide))); replace BK154 := am_ (blk_grown (g := gb154) (lb_ BK154) hg (Kd.R_ne HO_155003.out BK154.out (by decide))); replace HO158 := am_ (Kd.R_after (ok := (fun k_ => ns_ k_ Ao8 t151 co8)) (lf_ HO158) hg hat); replace HB := am_ (hb); clear HO_155003
       clear ho hb hg hat
       obtain ⟨Ao31, co31, eo31⟩ := Kd.R_slice HO162.out
       (first | subst eo31 | (injection eo31 with f1_ f2_ f3_; have f4_ := f1_.symm; have f5_ := f3_.symm; clear f1_ f2_ f3_; subst f4_; subst f5_))
       refine hK.out _ _ ⟨(blk_cell BK154.out 0).trans rfl, (blk_cell BK154.out 1).trans rfl, (blk_cell BK154.out 2).trans rfl, (blk_cell BK154.out 3).trans rfl, (blk_cell BK148.out 0).trans rfl, (blk_cell BK148.out 1).trans rfl⟩ (fun hHeld => ?_)
       clear hK K
       refine norm_ (a' := ?_) ?_ ?_
       rotate_left
       ·show Act.put _ (some 34) _ = _
        simp only [Act.put, List.setIfInBounds_toArray, List.set_cons_zero, List.set_cons_succ, i64_w, i32_w]
        rfl
       refine pure_ (i := 10) (N := some 35) (v := ?_) (a' := ?_) #[true, true, true, true, true, true, true, true, true, true, true, false] rfl rfl (any_of HT_.out (by kernel_rfl)) (fun _ _ _ h => h) (Or.inl ⟨by rfl, ?_⟩) ?_ ?_
       rotate_left
       ·intro w'
        go_simp
        with_reducible rfl
       rotate_left
       ·simp only [Act.put, List.setIfInBounds_toArray, List.set_cons_zero, List.set_cons_succ, i64_w, i32_w]
        rfl
       refine last_ (i := 11) (N := none) #[true, true, true, true, true, true, true, true, true, true, true, true] rfl rfl (one_of HT_.out (by kernel_rfl)) (by decide) (fun K hK => ?_)
       have hs32 : w30.cell? ⟨gb154, 3, none⟩ = some (u155003) := (blk_cell BK154.out 3).trans rfl
       have hfs32 := blk_frozen BK154.out 3
       have hns32_0 := NB148_154.out
       have hns32_1 := NB149_154.out
       have hms32_0 := NB154_148.out
       have hms32_1 := NB154_149.out
       refine skip_ (w1 := ?_) (by rfl) rfl ?_ ?_
       rotate_left
       ·go_simp
        rfl
       refine hK.out _ _ ?_
       clear hK K
       refine done_ (done_of HT_.out (by kernel_rfl)) ?_
       try go_wp2
       go_roundg k1
       case measure => have := HK1.out; omega
       case rel => exact ⟨(wrap64 (x4_1 + 16)), (y156), (y160), (.slice Ao25 y156.length co25), (.slice Ao31 y160.length co31), sr_, H', ⟨by have := HK1.out; omega⟩, ⟨lo2_ (Kd.R_far (p := ⟨gb154, 3, none⟩) (Kd.R_types HO_155001.out BK154.out (by decide)) (fun _ hk => hk.2) (.slice Ao31 y160.length co31))⟩, ⟨lo2_ (Kd.R_far (p := ⟨gb154, 3, none⟩) (Kd.R_types HO158.out BK154.out (by decide)) (fun _ hk => hk.2) (.slice Ao31 y160.length co31))⟩, ⟨lo2_ (Kd.R_far (p := ⟨gb154, 3, none⟩) (Kd.R_types HO162.out BK154.out (by decide)) (fun _ hk => hk.2) (.slice Ao31 y160.length co31))⟩, ⟨lg_ BK148⟩, ⟨lg_ BK149⟩, ⟨lq_ BK154⟩, ⟨lw_ HB⟩⟩
      ·rw [if_neg c18] at H
       exact absurd H (by simp)
     ·rw [if_neg c16] at H
      exact absurd H (by simp)
    ·rw [if_neg c14] at H
     have c14b0 : ((Int.tmod x4_1 64) == 0) = false := beq_eq_false_iff_ne.mpr c14
     have c14b1 : ((Int.tmod x4_1 64) != 0) = true := bne_iff_ne.mpr c14
     replace H := Option.bind_eq_some_iff.mp H
     obtain ⟨t163, A330, H⟩ := H
     replace H : (if x155003_1.length < 17592186044416 then (spec_raOf.l0 k1 (wrap64 (x4_1 + 16)) a0_0 l0_1 t150 t151 x155002_1 (x155003_1 ++ [t163])) else (none)) = some (r1, r2, r3, r4) := H
     have A33 := am_ A330
     clear A330
     by_cases c34 : x155003_1.length < 17592186044416
     ·rw [if_pos c34] at H
      have LMc34 := am_ c34
      clear c34
      obtain ⟨y164, hy164⟩ : ∃ y_ : List Int, y_ = (x155003_1 ++ [t163]) := ⟨_, rfl⟩
      replace H : (spec_raOf.l0 k1 (wrap64 (x4_1 + 16)) a0_0 l0_1 t150 t151 x155002_1 y164) = some (r1, r2, r3, r4) := by first | (rw [hy164]; with_reducible exact H) | (have H2_ := (Option.bind_some _ _).symm.trans H; rw [hy164]; with_reducible exact H2_) | (have H2_ := (Option.bind_some _ _).symm.trans H; with_reducible exact H2_) | with_reducible exact H | (rw [hy164]; exact H) | exact H
      have Ny164 := am_ hy164
      clear hy164
      have H' := am_ H
      clear H
      have hnb35 := NB148_149.out
      have hnc35 := NB149_148.out
      have hnb36 := NB148_154.out
      have hnc36 := NB154_148.out
      obtain ⟨hcz37_0, hcz37_1, hfz37_0, hfz37_1⟩ := bx2_ BK148.out
      try go_wp2
      replace HO_155001 := am_ (Kd.R_drew HO_155001.out); replace HO_155002 := am_ (Kd.R_drew HO_155002.out); replace HO_155003 := am_ (Kd.R_drew HO_155003.out); replace BK148 := am_ (blk_drew BK148.out); replace BK149 := am_ (blk_drew BK149.out); replace BK154 := am_ (blk_drew BK154.out); replace HB := am_ (below_drew1 HB.out)
      refine start_ (n := 12) (S := fun w' => w'.cell? ⟨gb154, 0, none⟩ = some (.int .i64 t150) ∧ w'.cell? ⟨gb154, 1, none⟩ = some (.slice Ao8 t151.length co8) ∧ w'.cell? ⟨gb154, 2, none⟩ = some (u155002) ∧ w'.cell? ⟨gb154, 3, none⟩ = some (u155003) ∧ w'.cell? ⟨gb148, 0, none⟩ = some (.int .i64 a0_0) ∧ w'.cell? ⟨gb148, 1, none⟩ = some (.slice A0_1 l0_1.length c0_1)) (ds := [11]) #[false, false, false, false, false, false, false, false, false, false, false, false] (by kernel_rfl) rfl rfl ⟨(blk_cell BK154.out 0).trans rfl, (blk_cell BK154.out 1).trans rfl, (blk_cell BK154.out 2).trans rfl, (blk_cell BK154.out 3).trans rfl, (blk_cell BK148.out 0).trans rfl, (blk_cell BK148.out 1).trans rfl⟩ (fun hHeld => ?_); refine with_tabW spec_raOf.tab7 spec_raOf.bits7 (fun HT_ HW_ => ?_)
      generalize wr.drew = w38 at HO_155001 HO_155002 HO_155003 BK148 BK149 BK154 HB hHeld ⊢
      refine pure_ (i := 0) (N := some 25) (v := ?_) (a' := ?_) #[true, false, false, false, false, false, false, false, false, false, false, false] rfl rfl (any_of HT_.out (by kernel_rfl)) (fun _ _ _ h => h) (Or.inl ⟨by rfl, ?_⟩) ?_ ?_
      rotate_left
      ·intro w'
       go_simp
       with_reducible rfl
      rotate_left
      ·simp only [Act.put, List.setIfInBounds_toArray, List.set_cons_zero, List.set_cons_succ, i64_w, i32_w]
       rfl
      refine pure_ (i := 3) (N := some 28) (v := ?_) (a' := ?_) #[true, false, false, true, false, false, false, false, false, false, false, false] rfl rfl (any_of HT_.out (by kernel_rfl)) (fun _ _ _ h => h) (Or.inl ⟨by rfl, ?_⟩) ?_ ?_
      rotate_left
      ·intro w'
       go_simp
       with_reducible rfl
      rotate_left
      ·simp only [Act.put, List.setIfInBounds_toArray, List.set_cons_zero, List.set_cons_succ, i64_w, i32_w]
       rfl
      refine pure_ (i := 4) (N := some 29) (v := ?_) (a' := ?_) #[true, false, false, true, true, false, false, false, false, false, false, false] rfl rfl (any_of HT_.out (by kernel_rfl)) (fun _ _ _ h => h) (Or.inl ⟨by rfl, ?_⟩) ?_ ?_
      rotate_left
      ·intro w'
       go_simp
       with_reducible rfl
      rotate_left
      ·simp only [Act.put, List.setIfInBounds_toArray, List.set_cons_zero, List.set_cons_succ, i64_w, i32_w]
       rfl
      refine pure_ (i := 5) (N := some 30) (v := ?_) (a' := ?_) #[true, false, false, true, true, true, false, false, false, false, false, false] rfl rfl (any_of HT_.out (by kernel_rfl)) (fun _ _ _ h => h) (Or.inl ⟨by rfl, ?_⟩) ?_ ?_
      rotate_left
      ·intro w'
       go_simp
       with_reducible rfl
      rotate_left
      ·simp only [Act.put, List.setIfInBounds_toArray, List.set_cons_zero, List.set_cons_succ, i64_w, i32_w]
       rfl
      refine pure_ (i := 6) (N := some 31) (v := ?_) (a' := ?_) #[true, false, false, true, true, true, true, false, false, false, false, false] rfl rfl (any_of HT_.out (by kernel_rfl)) (fun _ _ _ h => h) (Or.inl ⟨by rfl, ?_⟩) ?_ ?_
      rotate_left
      ·intro w'
       go_simp
       with_reducible rfl
      rotate_left
      ·simp only [Act.put, List.setIfInBounds_toArray, List.set_cons_zero, List.set_cons_succ, i64_w, i32_w]
       rfl
      refine take_ (i := 1) (N := some 26) (v := ?_) (a' := ?_) #[true, true, false, true, true, true, true, false, false, false, false, false] rfl rfl (take_ofW HT_.out HW_.out (by kernel_rfl)) (fun _ _ _ h => h) (Or.inl ⟨by rfl, ?_⟩) hHeld ?_ ?_
      rotate_left
      ·rintro w' ⟨s0, s1, s2, s3, s4, s5⟩
       go_simp
       with_reducible rfl
      rotate_left
      ·simp only [Act.put, List.setIfInBounds_toArray, List.set_cons_zero, List.set_cons_succ, i64_w, i32_w]
       rfl
      refine take_ (i := 2) (N := some 27) (v := ?_) (a' := ?_) #[true, true, true, true, true, true, true, false, false, false, false, false] rfl rfl (take_ofW HT_.out HW_.out (by kernel_rfl)) (fun _ _ _ h => h) (Or.inl ⟨by rfl, ?_⟩) hHeld ?_ ?_
      rotate_left
      ·rintro w' ⟨s0, s1, s2, s3, s4, s5⟩
       go_simp
       with_reducible rfl
      rotate_left
      ·simp only [Act.put, List.setIfInBounds_toArray, List.set_cons_zero, List.set_cons_succ, i64_w, i32_w]
       rfl
      refine one_ (i := 7) (N := some 32) #[true, true, true, true, true, true, true, true, false, false, false, false] rfl rfl (one_of HT_.out (by kernel_rfl)) (by decide) (fun K hK => ?_)
      refine goes_ Try.func129 (by kernel_rfl) rfl #[.agg #[.int .i64 a0_0, .slice A0_1 l0_1.length c0_1], .int .i64 (wrap64 ((wrap64 (Int.tdiv x4_1 64)) * 64)), .int .i64 x4_1] (by rfl) rfl rfl lm_ ?_
      with_reducible refine (spec_biCount.calls k1 a0_0 _ _ l0_1 (wrap64 ((wrap64 (Int.tdiv x4_1 64)) * 64)) x4_1 t163 _ ?side1 ?side2 A33.out).mono ?_
      (case side1 => exact lc_ (Kd.C_below HR0_1.out HB.out))
      (case side2 => exact HC0_1.out)
      rintro e w39 ⟨rfl, hb⟩
      refine ⟨_, rfl, ?_⟩
      replace HO_155001 := am_ (Kd.R_below (lf_ HO_155001) hb); replace HO_155002 := am_ (Kd.R_below (lf_ HO_155002) hb); replace HO_155003 := am_ (Kd.R_below (lf_ HO_155003) hb); replace BK148 := am_ (blk_below (g := gb148) (lb_ BK148) hb); replace BK149 := am_ (blk_below (g := gb149) (lb_ BK149) hb); replace BK154 := am_ (blk_below (g := gb154) (lb_ BK154) hb); replace HB := am_ (below_step (lw_ HB) hb)
      (try clear hb)
      (try clear hb2)
      (try clear hk)
      (try clear hi)
      refine hK.out _ _ ⟨(blk_cell BK154.out 0).trans rfl, (blk_cell BK154.out 1).trans rfl, (blk_cell BK154.out 2).trans rfl, (blk_cell BK154.out 3).trans rfl, (blk_cell BK148.out 0).trans rfl, (blk_cell BK148.out 1).trans rfl⟩ (fun hHeld => ?_)
      clear hK K
      refine norm_ (a' := ?_) ?_ ?_
      rotate_left
      ·show Act.put _ (some 32) _ = _
       simp only [Act.put, List.setIfInBounds_toArray, List.set_cons_zero, List.set_cons_succ, i64_w, i32_w]
       rfl
      refine one_ (i := 8) (N := some 33) #[true, true, true, true, true, true, true, true, true, false, false, false] rfl rfl (one_of HT_.out (by kernel_rfl)) (by decide) (fun K hK => ?_)
      refine value_ (w1 := ?_) (v := ?_) (by rfl) rfl ?_ ?_
      rotate_left 2
      ·go_simp
       constructor
       ·rfl
       ·rfl
      refine hK.out _ _ ⟨(blk_cell (blk_alloc BK154.out _) 0).trans rfl, (blk_cell (blk_alloc BK154.out _) 1).trans rfl, (blk_cell (blk_alloc BK154.out _) 2).trans rfl, (blk_cell (blk_alloc BK154.out _) 3).trans rfl, (blk_cell (blk_alloc BK148.out _) 0).trans rfl, (blk_cell (blk_alloc BK148.out _) 1).trans rfl⟩ (fun hHeld => ?_)
      clear hK K
      refine norm_ (a' := ?_) ?_ ?_
      rotate_left
      ·show Act.put _ (some 33) _ = _
       simp only [Act.put, List.setIfInBounds_toArray, List.set_cons_zero, List.set_cons_succ, i64_w, i32_w]
       rfl
      refine one_ (i := 9) (N := some 34) #[true, true, true, true, true, true, true, true, true, true, false, false] rfl rfl (one_of HT_.out (by kernel_rfl)) (by decide) (fun K hK => ?_)
      refine Kd.R_append_step (Kd.int .i64) (w0 := w) w.heap.size (by rfl) (.tmp 26) (.tmp 33) 22 3 (.int .i64 0) 8 rfl Try.underlying22 info3 rfl (by decide) (by omega) u155003 x155003_1 t163 [.int .i64 t163] (fun k_ => ns_ k_ Ao8 t151 co8 ∧ nb_ k_ u155002) (fun _ => False) rfl rfl ?aP (fun _ hk => hk.elim) ?aF ?aO ?aB ?aS ?aL ?_
      (case aP => exact rfl)
      (case aB => exact (lw_ HB))
      (case aF => exact (fun k_ hk => ⟨Kd.fresh' (Kd.R_lt (lf_ HO_155001)) k_ hk, Kd.fresh' (Kd.R_lt (lf_ HO_155002)) k_ hk⟩))
      (case aO => exact (lf_ HO_155003))
      (case aS => exact (below_size (lw_ HB)))
      (case aL => have := LMc34.out; omega)
      intro v165 w40 ho hb hg hat
      rw [← Ny164.out] at ho
      have HO166 := am_ (ho); replace HO_155001 := am_ (Kd.R_after (ok := (fun k_ => nb_ k_ u155002)) (lf_ HO_155001) hg hat); replace HO_155002 := am_ (Kd.R_after (ok := (fun k_ => ns_ k_ Ao8 t151 co8)) (lf_ HO_155002) hg hat); replace BK148 := am_ (blk_grown (g := gb148) (lb_ BK148) hg (Kd.R_ne HO_155003.out BK148.out (by decide))); replace BK149 := am_ (blk_grown (g := gb149) (lb_ BK149) hg (Kd.R_ne HO_155003.out BK149.out (by decide))); replace BK154 := am_ (blk_grown (g := gb154) (lb_ BK154) hg (Kd.R_ne HO_155003.out BK154.out (by decide))); replace HB := am_ (hb); clear HO_155003
      clear ho hb hg hat
      obtain ⟨Ao41, co41, eo41⟩ := Kd.R_slice HO166.out
      (first | subst eo41 | (injection eo41 with f1_ f2_ f3_; have f4_ := f1_.symm; have f5_ := f3_.symm; clear f1_ f2_ f3_; subst f4_; subst f5_))
      refine hK.out _ _ ⟨(blk_cell BK154.out 0).trans rfl, (blk_cell BK154.out 1).trans rfl, (blk_cell BK154.out 2).trans rfl, (blk_cell BK154.out 3).trans rfl, (blk_cell BK148.out 0).trans rfl, (blk_cell BK148.out 1).trans rfl⟩ (fun hHeld => ?_)
      clear hK K
      refine norm_ (a' := ?_) ?_ ?_
      rotate_left
      ·show Act.put _ (some 34) _ = _
       simp only [Act.put, List.setIfInBounds_toArray, List.set_cons_zero, List.set_cons_succ, i64_w, i32_w]
       rfl
      refine pure_ (i := 10) (N := some 35) (v := ?_) (a' := ?_) #[true, true, true, true, true, true, true, true, true, true, true, false] rfl rfl (any_of HT_.out (by kernel_rfl)) (fun _ _ _ h => h) (Or.inl ⟨by rfl, ?_⟩) ?_ ?_
      rotate_left
      ·intro w'
       go_simp
       with_reducible rfl
      rotate_left
      ·simp only [Act.put, List.setIfInBounds_toArray, List.set_cons_zero, List.set_cons_succ, i64_w, i32_w]
       rfl
      refine last_ (i := 11) (N := none) #[true, true, true, true, true, true, true, true, true, true, true, true] rfl rfl (one_of HT_.out (by kernel_rfl)) (by decide) (fun K hK => ?_)
      have hs42 : w40.cell? ⟨gb154, 3, none⟩ = some (u155003) := (blk_cell BK154.out 3).trans rfl
      have hfs42 := blk_frozen BK154.out 3
      have hns42_0 := NB148_154.out
      have hns42_1 := NB149_154.out
      have hms42_0 := NB154_148.out
      have hms42_1 := NB154_149.out
      refine skip_ (w1 := ?_) (by rfl) rfl ?_ ?_
      rotate_left
      ·go_simp
       rfl
      refine hK.out _ _ ?_
      clear hK K
      refine done_ (done_of HT_.out (by kernel_rfl)) ?_
      try go_wp2
      go_roundg k1
      case measure => have := HK1.out; omega
      case rel => exact ⟨(wrap64 (x4_1 + 16)), (x155002_1), (y164), (u155002), (.slice Ao41 y164.length co41), sr_, H', ⟨by have := HK1.out; omega⟩, ⟨lo2_ (Kd.R_far (p := ⟨gb154, 3, none⟩) (Kd.R_types HO_155001.out BK154.out (by decide)) (fun _ hk => hk.2) (.slice Ao41 y164.length co41))⟩, ⟨lo2_ (Kd.R_far (p := ⟨gb154, 3, none⟩) (Kd.R_types HO_155002.out BK154.out (by decide)) (fun _ hk => hk.2) (.slice Ao41 y164.length co41))⟩, ⟨lo2_ (Kd.R_far (p := ⟨gb154, 3, none⟩) (Kd.R_types HO166.out BK154.out (by decide)) (fun _ hk => hk.2) (.slice Ao41 y164.length co41))⟩, ⟨lg_ BK148⟩, ⟨lg_ BK149⟩, ⟨lq_ BK154⟩, ⟨lw_ HB⟩⟩
     ·rw [if_neg c34] at H
      exact absurd H (by simp)
   ·rw [if_neg c13] at H
    have c13b0 : decide (x4_1 < a0_0) = false := decide_eq_false c13
    clear c13
    simp only [Option.some.injEq, Prod.mk.injEq] at H
    obtain ⟨rfl, rfl, rfl, rfl⟩ := H
    have hnb43 := NB148_149.out
    have hnc43 := NB149_148.out
    have hnb44 := NB148_154.out
    have hnc44 := NB154_148.out
    obtain ⟨hcz45_0, hcz45_1, hfz45_0, hfz45_1⟩ := bx2_ BK148.out
    have hnb46 := NB154_149.out
    have hnc46 := NB149_154.out
    obtain ⟨hcz47_0, hcz47_1, hcz47_2, hcz47_3, hfz47_0, hfz47_1, hfz47_2, hfz47_3⟩ := bx4_ BK154.out
    obtain ⟨hcz48_0, hcz48_1, hcz48_2, hcz48_3, hfz48_0, hfz48_1, hfz48_2, hfz48_3⟩ := bx4_ BK149.out
    obtain ⟨Ao49, co49, eo49⟩ := Kd.R_slice HO_155002.out
    subst eo49
    obtain ⟨Ao50, co50, eo50⟩ := Kd.R_slice HO_155003.out
    subst eo50
    go_wp2
    refine bodyPost_ret (results_cell_row rfl _ _ gb149 48 #[.int .i64 t150, .slice Ao8 t151.length co8, .slice Ao49 x155002_1.length co49, .slice Ao50 x155003_1.length co50] (0, 0) _ rfl (lq_ BK149) Try.underlying48 rfl (by kernel_rfl)) rfl ?_
    exact ⟨_, _, _, er_, lo2_ (fr4_ HO_155001.out BK149.out (.int .i64 t150) (.slice Ao8 t151.length co8) (.slice Ao49 x155002_1.length co49) (.slice Ao50 x155003_1.length co50)), lo2_ (fr4_ HO_155002.out BK149.out (.int .i64 t150) (.slice Ao8 t151.length co8) (.slice Ao49 x155002_1.length co49) (.slice Ao50 x155003_1.length co50)), lo2_ (fr4_ HO_155003.out BK149.out (.int .i64 t150) (.slice Ao8 t151.length co8) (.slice Ao49 x155002_1.length co49) (.slice Ao50 x155003_1.length co50)), lw_ HB⟩

end Go.Proofs.Ytkmhjgejficclaa.PFnExactJoinRanked
