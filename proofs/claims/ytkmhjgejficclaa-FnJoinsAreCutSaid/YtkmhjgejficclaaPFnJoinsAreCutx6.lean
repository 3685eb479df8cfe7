-- Laid by a program of this session: the print of the kit with additions of ours (wip/tools/patchprint.py). Nothing of it is trusted: Lean checks it.
import Derived.Test.YtkmhjgejficclaaPFnJoinsAreCutx0
import Derived.Test.YtkmhjgejficclaaPFnJoinsAreCutx3
import Derived.Test.YtkmhjgejficclaaPFnJoinsAreCutx5
namespace Go.Proofs.Ytkmhjgejficclaa.PFnJoinsAreCut
open Go.RowKit Go.Proofs.YtkmhjgejficclaaW.PrintWords Go.Proofs.YtkmhjgejficclaaW.PrintLast Go.Proofs.YtkmhjgejficclaaW.PrintMore
attribute [local go_sem] max2_int min2_int max_two min_two max_three min_three max_four min_four   -- for this text's walks alone
set_option linter.unusedVariables false
set_option linter.unusedSimpArgs false

theorem am13_ {p : Prop} (h : p) : Aside0 p := ⟨h⟩
theorem lm13_ {P : Prop} (h : P := by (try simp only [List.map_toArray, List.map_cons, List.map_nil]); first | done | rfl | (simp only [List.length_drop, List.length_take]; rfl)) : P := h
theorem lc13_ {P Q : Prop} (h : P) (f : P → Q := by intro h_; repeat (first | exact h_ | (with_reducible refine Kd.C_alloc ?_ _) | (with_reducible refine Kd.C_drewN ?_ _) | (with_reducible refine Kd.C_drew ?_))) : Q := f h
theorem lt13_ {P Q : Prop} (h : P) (f : P → Q := by intro h_; (with_reducible repeat (first | apply Kd.R_alloc | apply Kd.R_drewN | apply Kd.R_drew)); exact h_) : Q := f h
theorem lf13_ {P Q : Prop} (h : Aside0 P) (f : P → Q := by intro h_; (with_reducible repeat (first | apply Kd.R_alloc | apply Kd.R_drewN | apply Kd.R_drew)); exact h_) : Q := f h.out
theorem lb13_ {P Q : Prop} (h : Aside0 P) (f : P → Q := by intro h_; (with_reducible repeat (first | refine blk_drewN ?_ _ | refine blk_drew ?_ | refine blk_alloc ?_ _)); exact h_) : Q := f h.out
theorem lw13_ {P Q : Prop} (h : Aside0 P) (f : P → Q := by intro h_; repeat (first | (with_reducible first | exact h_ | apply below_alloc | apply pw_below_drewN | apply below_drew1 | refine below_set ?_ (Aside0.out (by assumption))) | exact h_)) : Q := f h.out
/-! ### spec_l1Cur_anyBits: function 103 -/
def spec_l1Cur_anyBits.f (k : Nat) (s0_0 : List Int) (s0_1 : Int) (s0_2 : Int) : Option (Int × List Int × Int × Int) := (spec_l1Cur_bits.f k s0_0 s0_1 s0_2 40).bind fun bt207 => ((spec_l1Cur_pick.f s0_0 bt207.2.2.1 bt207.2.2.2 16).bind fun bt214 => (if bt214.1 = 0 then ((spec_l1Cur_pick.f s0_0 bt214.2.1 bt214.2.2 2).bind fun bt217 => (if bt207.2.1.length < 17592186044416 then (some (bt207.1, (bt207.2.1 ++ [bt217.1]), bt217.2.1, bt217.2.2)) else (none))) else (if bt214.1 = 1 then ((spec_l1Cur_pick.f s0_0 bt214.2.1 bt214.2.2 3).bind fun bt223 => (some (wrap64 (bt207.1 + (wrap64 (bt223.1 - 1))), bt207.2.1, bt223.2.1, bt223.2.2))) else (if bt214.1 = 2 then (if (bt207.2.1.length : Int) > 0 then ((spec_l1Cur_pick.f s0_0 bt214.2.1 bt214.2.2 (bt207.2.1.length : Int)).bind fun bt226 => ((spec_l1Cur_among.f s0_0 bt226.2.1 bt226.2.2 (([(-1), 65535, 65536, 40000] : List Int))).bind fun bt232 => (if 0 ≤ bt226.1 then (if bt226.1 < (bt207.2.1.length : Int) then (some (bt207.1, (bt207.2.1.set (bt226.1 : Int).toNat bt232.1), bt232.2.1, bt232.2.2)) else (none)) else (none)))) else (some (bt207.1, bt207.2.1, bt214.2.1, bt214.2.2))) else (if bt214.1 = 3 then ((spec_l1Cur_pick.f s0_0 bt214.2.1 bt214.2.2 2).bind fun bt236 => ((spec_biNew.f (wrap64 (4096 - bt236.1))).bind fun bt239 => (some (bt239.1, bt239.2, bt236.2.1, bt236.2.2)))) else (if bt214.1 = 4 then ((spec_l1Cur_pick.f s0_0 bt214.2.1 bt214.2.2 5).bind fun bt243 => ((spec_biNew.f (wrap64 (16 * bt243.1))).bind fun bt246 => (some (bt246.1, bt246.2, bt243.2.1, bt243.2.2)))) else (some (bt207.1, bt207.2.1, bt214.2.1, bt214.2.2))))))))
theorem spec_l1Cur_anyBits.mono : ∀ a0 a1 a2 k, LeO (spec_l1Cur_anyBits.f k a0 a1 a2) (spec_l1Cur_anyBits.f (k + 1) a0 a1 a2) := by
 intro a0 a1 a2 k
 unfold spec_l1Cur_anyBits.f
 repeat' first
   | (with_reducible exact spec_l1Cur_bits.mono _ _ _ _ _)
   | (with_reducible exact LeO.refl _)
   | (with_reducible exact LeO.none _)
   | (with_reducible refine LeO.ite ?_ ?_)
   | (with_reducible refine LeO.bind ?_ (fun _ => ?_))
   | exact spec_l1Cur_bits.mono _ _ _ _ _
   | exact LeO.none _
   | refine LeO.ite ?_ ?_
   | refine LeO.bind ?_ (fun _ => ?_)
def spec_l1Cur_anyBits.T4 : Bool × List (List Nat × List Nat) := (true, [([], []), ([0], [0]), ([], []), ([2], [2]), ([3], [3]), ([1, 4, 3], [1, 4]), ([0, 1, 2, 3, 4, 5], []), ([6, 5, 5, 0, 1, 2, 3, 4, 5], [5, 6])])
def spec_l1Cur_anyBits.B4 : List Nat := [0, 1, 0, 4, 12, 31, 63, 127]
theorem spec_l1Cur_anyBits.tab4 : rtab .any (opsOf Try.f103 4) = spec_l1Cur_anyBits.T4 := by kernel_rfl
theorem spec_l1Cur_anyBits.bits4 : waitsOk spec_l1Cur_anyBits.T4.2 spec_l1Cur_anyBits.B4 = true := by kernel_rfl
def spec_l1Cur_anyBits.T6 : Bool × List (List Nat × List Nat) := (true, [([], []), ([0], [0]), ([], []), ([2], [2]), ([3], [3]), ([1, 4], [1, 4]), ([0, 1, 2, 3, 4, 5], []), ([6, 5, 3, 0, 1, 2, 3, 4, 5], [5, 6])])
def spec_l1Cur_anyBits.B6 : List Nat := [0, 1, 0, 4, 12, 31, 63, 127]
theorem spec_l1Cur_anyBits.tab6 : rtab .any (opsOf Try.f103 6) = spec_l1Cur_anyBits.T6 := by kernel_rfl
theorem spec_l1Cur_anyBits.bits6 : waitsOk spec_l1Cur_anyBits.T6.2 spec_l1Cur_anyBits.B6 = true := by kernel_rfl
def spec_l1Cur_anyBits.T9 : Bool × List (List Nat × List Nat) := (true, [([], []), ([0], [0]), ([], []), ([], []), ([3], [3]), ([4], [4]), ([2, 5], [2, 5]), ([], []), ([], []), ([7, 8, 6], [7, 8]), ([1, 6, 0, 1, 2, 3, 4, 5, 6, 7, 8, 9], [1, 6]), ([10, 9, 9, 0, 1, 2, 3, 4, 5, 6, 7, 8, 9], [9, 10])])
def spec_l1Cur_anyBits.B9 : List Nat := [0, 1, 0, 0, 8, 24, 60, 0, 0, 508, 1023, 2047]
theorem spec_l1Cur_anyBits.tab9 : rtab .any (opsOf Try.f103 9) = spec_l1Cur_anyBits.T9 := by kernel_rfl
theorem spec_l1Cur_anyBits.bits9 : waitsOk spec_l1Cur_anyBits.T9.2 spec_l1Cur_anyBits.B9 = true := by kernel_rfl
set_option maxHeartbeats 8000000 in
set_option maxRecDepth 100000 in
theorem spec_l1Cur_anyBits.calls (k : Nat) (g : Nat) (s0_0 : List Int) (s0_1 : Int) (s0_2 : Int) (r1 : Int) (r2 : List Int) (r3 : Int) (r4 : Int) (w0 w : World) (hI : IsS109 w0 w g s0_0 s0_1 s0_2) (hB : Below w0.heap.size w0 w) (h : spec_l1Cur_anyBits.f k s0_0 s0_1 s0_2 = some (r1, r2, r3, r4)) :
  Calls Try.prog 103 #[.pointer (some ⟨g, 0, none⟩)] w fun e w' => ∃ v1_ : Value, e = .returned (.agg #[.int .i64 r1, v1_]) ∧ Kd.R (Kd.int .i64) 3 w' w.heap.size (fun _ => True) v1_ r2 ∧ IsS109 w0 w' g s0_0 r3 r4 ∧ Below w0.heap.size w0 w' ∧ KeepBut w w' g none := by
 have hu26 := Try.underlying26
 have HI0 := am13_ hI
 have HK := am13_ (KeepBut.refl w g none)
 have HL := am13_ hB.size
 clear hI
 have HW0 := am13_ hB.size
 have HB := am13_ hB
 clear hB
 have H : ((spec_l1Cur_bits.f k s0_0 s0_1 s0_2 40).bind fun bt207 => ((spec_l1Cur_pick.f s0_0 bt207.2.2.1 bt207.2.2.2 16).bind fun bt214 => (if bt214.1 = 0 then ((spec_l1Cur_pick.f s0_0 bt214.2.1 bt214.2.2 2).bind fun bt217 => (if bt207.2.1.length < 17592186044416 then (some (bt207.1, (bt207.2.1 ++ [bt217.1]), bt217.2.1, bt217.2.2)) else (none))) else (if bt214.1 = 1 then ((spec_l1Cur_pick.f s0_0 bt214.2.1 bt214.2.2 3).bind fun bt223 => (some (wrap64 (bt207.1 + (wrap64 (bt223.1 - 1))), bt207.2.1, bt223.2.1, bt223.2.2))) else (if bt214.1 = 2 then (if (bt207.2.1.length : Int) > 0 then ((spec_l1Cur_pick.f s0_0 bt214.2.1 bt214.2.2 (bt207.2.1.length : Int)).bind fun bt226 => ((spec_l1Cur_among.f s0_0 bt226.2.1 bt226.2.2 (([(-1), 65535, 65536, 40000] : List Int))).bind fun bt232 => (if 0 ≤ bt226.1 then (if bt226.1 < (bt207.2.1.length : Int) then (some (bt207.1, (bt207.2.1.set (bt226.1 : Int).toNat bt232.1), bt232.2.1, bt232.2.2)) else (none)) else (none)))) else (some (bt207.1, bt207.2.1, bt214.2.1, bt214.2.2))) else (if bt214.1 = 3 then ((spec_l1Cur_pick.f s0_0 bt214.2.1 bt214.2.2 2).bind fun bt236 => ((spec_biNew.f (wrap64 (4096 - bt236.1))).bind fun bt239 => (some (bt239.1, bt239.2, bt236.2.1, bt236.2.2)))) else (if bt214.1 = 4 then ((spec_l1Cur_pick.f s0_0 bt214.2.1 bt214.2.2 5).bind fun bt243 => ((spec_biNew.f (wrap64 (16 * bt243.1))).bind fun bt246 => (some (bt246.1, bt246.2, bt243.2.1, bt243.2.2)))) else (some (bt207.1, bt207.2.1, bt214.2.1, bt214.2.2))))))))) = some (r1, r2, r3, r4) := h
 clear h
 replace H := Option.bind_eq_some_iff.mp H
 obtain ⟨⟨t207, t208, t211, t212⟩, A20, H⟩ := H
 replace H : ((spec_l1Cur_pick.f s0_0 t211 t212 16).bind fun bt214 => (if bt214.1 = 0 then ((spec_l1Cur_pick.f s0_0 bt214.2.1 bt214.2.2 2).bind fun bt217 => (if t208.length < 17592186044416 then (some (t207, (t208 ++ [bt217.1]), bt217.2.1, bt217.2.2)) else (none))) else (if bt214.1 = 1 then ((spec_l1Cur_pick.f s0_0 bt214.2.1 bt214.2.2 3).bind fun bt223 => (some (wrap64 (t207 + (wrap64 (bt223.1 - 1))), t208, bt223.2.1, bt223.2.2))) else (if bt214.1 = 2 then (if (t208.length : Int) > 0 then ((spec_l1Cur_pick.f s0_0 bt214.2.1 bt214.2.2 (t208.length : Int)).bind fun bt226 => ((spec_l1Cur_among.f s0_0 bt226.2.1 bt226.2.2 (([(-1), 65535, 65536, 40000] : List Int))).bind fun bt232 => (if 0 ≤ bt226.1 then (if bt226.1 < (t208.length : Int) then (some (t207, (t208.set (bt226.1 : Int).toNat bt232.1), bt232.2.1, bt232.2.2)) else (none)) else (none)))) else (some (t207, t208, bt214.2.1, bt214.2.2))) else (if bt214.1 = 3 then ((spec_l1Cur_pick.f s0_0 bt214.2.1 bt214.2.2 2).bind fun bt236 => ((spec_biNew.f (wrap64 (4096 - bt236.1))).bind fun bt239 => (some (bt239.1, bt239.2, bt236.2.1, bt236.2.2)))) else (if bt214.1 = 4 then ((spec_l1Cur_pick.f s0_0 bt214.2.1 bt214.2.2 5).bind fun bt243 => ((spec_biNew.f (wrap64 (16 * bt243.1))).bind fun bt246 => (some (bt246.1, bt246.2, bt243.2.1, bt243.2.2)))) else (some (t207, t208, bt214.2.1, bt214.2.2)))))))) = some (r1, r2, r3, r4) := H
 have A2 := am13_ A20
 clear A20
 replace H := Option.bind_eq_some_iff.mp H
 obtain ⟨⟨t214, t215, t216⟩, A30, H⟩ := H
 replace H : (if t214 = 0 then ((spec_l1Cur_pick.f s0_0 t215 t216 2).bind fun bt217 => (if t208.length < 17592186044416 then (some (t207, (t208 ++ [bt217.1]), bt217.2.1, bt217.2.2)) else (none))) else (if t214 = 1 then ((spec_l1Cur_pick.f s0_0 t215 t216 3).bind fun bt223 => (some (wrap64 (t207 + (wrap64 (bt223.1 - 1))), t208, bt223.2.1, bt223.2.2))) else (if t214 = 2 then (if (t208.length : Int) > 0 then ((spec_l1Cur_pick.f s0_0 t215 t216 (t208.length : Int)).bind fun bt226 => ((spec_l1Cur_among.f s0_0 bt226.2.1 bt226.2.2 (([(-1), 65535, 65536, 40000] : List Int))).bind fun bt232 => (if 0 ≤ bt226.1 then (if bt226.1 < (t208.length : Int) then (some (t207, (t208.set (bt226.1 : Int).toNat bt232.1), bt232.2.1, bt232.2.2)) else (none)) else (none)))) else (some (t207, t208, t215, t216))) else (if t214 = 3 then ((spec_l1Cur_pick.f s0_0 t215 t216 2).bind fun bt236 => ((spec_biNew.f (wrap64 (4096 - bt236.1))).bind fun bt239 => (some (bt239.1, bt239.2, bt236.2.1, bt236.2.2)))) else (if t214 = 4 then ((spec_l1Cur_pick.f s0_0 t215 t216 5).bind fun bt243 => ((spec_biNew.f (wrap64 (16 * bt243.1))).bind fun bt246 => (some (bt246.1, bt246.2, bt243.2.1, bt243.2.2)))) else (some (t207, t208, t215, t216))))))) = some (r1, r2, r3, r4) := H
 have A3 := am13_ A30
 clear A30
 by_cases c4 : t214 = 0
 ·rw [if_pos c4] at H
  have c4b0 : (t214 == 0) = true := beq_iff_eq.mpr c4
  have c4b1 : (t214 != 0) = false := bne_eq_false_iff_eq.mpr c4
  clear c4
  replace H := Option.bind_eq_some_iff.mp H
  obtain ⟨⟨t217, t218, t219⟩, A50, H⟩ := H
  replace H : (if t208.length < 17592186044416 then (some (t207, (t208 ++ [t217]), t218, t219)) else (none)) = some (r1, r2, r3, r4) := H
  have A5 := am13_ A50
  clear A50
  by_cases c6 : t208.length < 17592186044416
  ·rw [if_pos c6] at H
   have LMc6 := am13_ c6
   clear c6
   obtain ⟨y220, hy220⟩ : ∃ y_ : List Int, y_ = (t208 ++ [t217]) := ⟨_, rfl⟩
   replace H : (some (t207, y220, t218, t219)) = some (r1, r2, r3, r4) := by first | (rw [hy220]; with_reducible exact H) | (have H2_ := (Option.bind_some _ _).symm.trans H; rw [hy220]; with_reducible exact H2_) | (have H2_ := (Option.bind_some _ _).symm.trans H; with_reducible exact H2_) | with_reducible exact H | (rw [hy220]; exact H) | exact H
   have Ny220 := am13_ hy220
   clear hy220
   simp only [Option.some.injEq, Prod.mk.injEq] at H
   obtain ⟨rfl, rfl, rfl, rfl⟩ := H
   go_enter Try.func103, Try.ntmps103
   try go_wp2_with (first | ((with_reducible refine gate_dst (N := 2) rfl ?_); refine box_event ?hg (N := 2) ?hd (cs := #[.int .i64 0, .slice none 0 0]) (t := 26) ?hr ?_; (case hd => rfl); (case hg => rfl); (case hr => first | (go_simp; done) | (go_simp; rfl)); intro gb206 hg w7 hbox hb; have n0_ := am13_ (IsS109.below (by repeat (first | (with_reducible first | exact HI0.out | apply IsS109.alloc | apply IsS109.drewN | apply IsS109.drew | apply IsS109.set_1 | apply IsS109.set_2) | exact HI0.out)) hb); have n1_ := am13_ (KeepBut.trans (by repeat (first | (with_reducible first | exact HK.out | apply KeepBut.set_ | apply keep_drewN | apply keep_drew | apply keep_alloc) | exact HK.out)) (KeepBut.of_below hb g none) (.inl rfl)); have n2_ := am13_ (below_step (by repeat (first | (with_reducible first | exact HB.out | apply below_alloc | apply pw_below_drewN | apply below_drew1 | refine below_set ?_ (IsS109.ge HI0.out)) | exact HB.out)) hb); have n3_ := am13_ (hbox); have n4_ := am13_ ((by rw [hg]; exact (keep_size (w := w) (g := g) (row := none) (by repeat (first | (with_reducible first | exact HK.out | apply KeepBut.set_ | apply keep_drewN | apply keep_drew | apply keep_alloc) | exact HK.out))) : w.heap.size ≤ gb206)); have n5_ := am13_ ((Nat.le_trans HW0.out (by rw [hg]; exact (keep_size (w := w) (g := g) (row := none) (by repeat (first | (with_reducible first | exact HK.out | apply KeepBut.set_ | apply keep_drewN | apply keep_drew | apply keep_alloc) | exact HK.out))) : w.heap.size ≤ gb206) : w0.heap.size ≤ gb206)); have n6_ := am13_ ((by rw [hg]; exact Nat.ne_of_lt (IsS109.lt (show IsS109 w0 _ g s0_0 s0_1 s0_2 from by repeat (first | (with_reducible first | exact HI0.out | apply IsS109.alloc | apply IsS109.drewN | apply IsS109.drew | apply IsS109.set_1 | apply IsS109.set_2) | exact HI0.out))) : g ≠ gb206)); have n7_ := am13_ ((by rw [hg]; exact Nat.ne_of_gt (IsS109.lt (show IsS109 w0 _ g s0_0 s0_1 s0_2 from by repeat (first | (with_reducible first | exact HI0.out | apply IsS109.alloc | apply IsS109.drewN | apply IsS109.drew | apply IsS109.set_1 | apply IsS109.set_2) | exact HI0.out))) : gb206 ≠ g)); clear HI0; clear HK; clear HB; have HI0 := n0_; have HK := n1_; have HB := n2_; have BK206 := n3_; have GW206 := n4_; have GE206 := n5_; have NB0_206 := n6_; have NB206_0 := n7_; clear n0_ n1_ n2_ n3_ n4_ n5_ n6_ n7_; clear hb hbox hg) | ((with_reducible refine gate_callee (f := 108) rfl ?_); refine goesL_ (some 5) rfl rfl Try.func108 (by kernel_rfl) rfl #[.pointer (some ⟨g, 0, none⟩), .int .i64 40] rfl lm13_ ?_; (with_reducible refine (spec_l1Cur_bits.calls k g s0_0 s0_1 s0_2 40 t207 t208 t211 t212 w0 _ ?side1 ?side2 A2.out).mono ?_); (case side1 => repeat (first | (with_reducible first | exact HI0.out | apply IsS109.alloc | apply IsS109.drewN | apply IsS109.drew | apply IsS109.set_1 | apply IsS109.set_2 | refine IsS109.far ?_ NB0_206.out _) | exact HI0.out)); (case side2 => repeat (first | (with_reducible first | exact HB.out | apply below_alloc | apply pw_below_drewN | apply below_drew1 | refine below_set ?_ (IsS109.ge HI0.out) | refine below_set ?_ GE206.out) | exact HB.out)); rintro e w8 ⟨v209, rfl, ho0, hi, hb, hk⟩; refine ⟨_, rfl, ?_⟩; have n0_ := am13_ (KeepBut.blk hk (g' := gb206) (o := .cells #[.int .i64 0, .slice none 0 0] 26 (0, 0)) (lb13_ BK206) NB206_0.out (by simp)); have n1_ := am13_ (Kd.R_lower ho0 (keep_size (w := w) (g := g) (row := none) (by repeat (first | (with_reducible first | exact HK.out | apply KeepBut.set_ | apply keep_drewN | apply keep_drew | apply keep_alloc | refine keep_far ?_ GW206.out _) | exact HK.out)))); have n2_ := am13_ (KeepBut.trans (by repeat (first | (with_reducible first | exact HK.out | apply KeepBut.set_ | apply keep_drewN | apply keep_drew | apply keep_alloc | refine keep_far ?_ GW206.out _) | exact HK.out)) hk (.inl rfl)); have n3_ := am13_ (hb); have n4_ := am13_ (hi); clear BK206; clear HK; clear HB; clear HI0; have BK206 := n0_; have HO210 := n1_; have HK := n2_; have HB := n3_; have HI0 := n4_; clear n0_ n1_ n2_ n3_ n4_; (try clear hb); (try clear hb2); (try clear hk); (try clear hi); (try clear ho0)) | ((with_reducible refine gate_dst (N := 3) rfl ?_); refine box_event ?hg (N := 3) ?hd (cs := #[.int .i64 0, .slice none 0 0]) (t := 26) ?hr ?_; (case hd => rfl); (case hg => rfl); (case hr => first | (go_simp; done) | (go_simp; rfl)); intro gb213 hg w9 hbox hb; have n0_ := am13_ (Kd.R_below (lf13_ HO210) hb); have n1_ := am13_ (IsS109.below (by repeat (first | (with_reducible first | exact HI0.out | apply IsS109.alloc | apply IsS109.drewN | apply IsS109.drew | apply IsS109.set_1 | apply IsS109.set_2 | refine IsS109.far ?_ NB0_206.out _) | exact HI0.out)) hb); have n2_ := am13_ (blk_below (g := gb206) (o := .cells #[.int .i64 0, .slice none 0 0] 26 (0, 0)) (lb13_ BK206) hb); have n3_ := am13_ (KeepBut.trans (by repeat (first | (with_reducible first | exact HK.out | apply KeepBut.set_ | apply keep_drewN | apply keep_drew | apply keep_alloc | refine keep_far ?_ GW206.out _) | exact HK.out)) (KeepBut.of_below hb g none) (.inl rfl)); have n4_ := am13_ (below_step (by repeat (first | (with_reducible first | exact HB.out | apply below_alloc | apply pw_below_drewN | apply below_drew1 | refine below_set ?_ (IsS109.ge HI0.out) | refine below_set ?_ GE206.out) | exact HB.out)) hb); have n5_ := am13_ (hbox); have n6_ := am13_ ((by rw [hg]; exact (keep_size (w := w) (g := g) (row := none) (by repeat (first | (with_reducible first | exact HK.out | apply KeepBut.set_ | apply keep_drewN | apply keep_drew | apply keep_alloc | refine keep_far ?_ GW206.out _) | exact HK.out))) : w.heap.size ≤ gb213)); have n7_ := am13_ ((Nat.le_trans HW0.out (by rw [hg]; exact (keep_size (w := w) (g := g) (row := none) (by repeat (first | (with_reducible first | exact HK.out | apply KeepBut.set_ | apply keep_drewN | apply keep_drew | apply keep_alloc | refine keep_far ?_ GW206.out _) | exact HK.out))) : w.heap.size ≤ gb213) : w0.heap.size ≤ gb213)); have n8_ := am13_ ((by rw [hg]; exact Nat.ne_of_lt (blk_lt (g := gb206) (lb13_ BK206)) : gb206 ≠ gb213)); have n9_ := am13_ ((by rw [hg]; exact Nat.ne_of_gt (blk_lt (g := gb206) (lb13_ BK206)) : gb213 ≠ gb206)); have n10_ := am13_ ((by rw [hg]; exact Nat.ne_of_lt (IsS109.lt (show IsS109 w0 _ g s0_0 t211 t212 from by repeat (first | (with_reducible first | exact HI0.out | apply IsS109.alloc | apply IsS109.drewN | apply IsS109.drew | apply IsS109.set_1 | apply IsS109.set_2 | refine IsS109.far ?_ NB0_206.out _) | exact HI0.out))) : g ≠ gb213)); have n11_ := am13_ ((by rw [hg]; exact Nat.ne_of_gt (IsS109.lt (show IsS109 w0 _ g s0_0 t211 t212 from by repeat (first | (with_reducible first | exact HI0.out | apply IsS109.alloc | apply IsS109.drewN | apply IsS109.drew | apply IsS109.set_1 | apply IsS109.set_2 | refine IsS109.far ?_ NB0_206.out _) | exact HI0.out))) : gb213 ≠ g)); clear HO210; clear HI0; clear BK206; clear HK; clear HB; have HO210 := n0_; have HI0 := n1_; have BK206 := n2_; have HK := n3_; have HB := n4_; have BK213 := n5_; have GW213 := n6_; have GE213 := n7_; have NB206_213 := n8_; have NB213_206 := n9_; have NB0_213 := n10_; have NB213_0 := n11_; clear n0_ n1_ n2_ n3_ n4_ n5_ n6_ n7_ n8_ n9_ n10_ n11_; clear hb hbox hg; have hnb10 := NB213_206.out; have hnc10 := NB206_213.out; have hnb11 := NB213_0.out; have hnc11 := NB0_213.out; have hcz12_0 : w9.cell? ⟨gb213, 0, none⟩ = some (.int .i64 0) := (blk_cell BK213.out 0).trans rfl; have hcz12_1 : w9.cell? ⟨gb213, 1, none⟩ = some (.slice none 0 0) := (blk_cell BK213.out 1).trans rfl; have hfz12_0 := blk_frozen BK213.out 0; have hfz12_1 := blk_frozen BK213.out 1; obtain ⟨Ao13, co13, eo13⟩ := Kd.R_slice HO210.out; subst eo13) | ((with_reducible refine gate_callee (f := 107) rfl ?_); refine goesL_ (some 7) rfl rfl Try.func107 (by kernel_rfl) rfl #[.pointer (some ⟨g, 0, none⟩), .int .i64 16] rfl lm13_ ?_; (with_reducible refine (spec_l1Cur_pick.calls g s0_0 t211 t212 16 t214 t215 t216 w0 _ ?side1 ?side2 A3.out).mono ?_); (case side1 => repeat (first | (with_reducible first | exact HI0.out | apply IsS109.alloc | apply IsS109.drewN | apply IsS109.drew | apply IsS109.set_1 | apply IsS109.set_2 | refine IsS109.far ?_ NB0_206.out _ | refine IsS109.far ?_ NB0_213.out _) | exact HI0.out)); (case side2 => repeat (first | (with_reducible first | exact HB.out | apply below_alloc | apply pw_below_drewN | apply below_drew1 | refine below_set ?_ (IsS109.ge HI0.out) | refine below_set ?_ GE206.out | refine below_set ?_ GE213.out) | exact HB.out)); rintro e w14 ⟨rfl, hi, hb, hk⟩; refine ⟨_, rfl, ?_⟩; have n0_ := am13_ (KeepBut.blk hk (g' := gb206) (o := .cells #[.int .i64 0, .slice none 0 0] 26 (0, 0)) (by (with_reducible repeat (first | refine blk_drewN ?_ _ | refine blk_drew ?_ | refine blk_alloc ?_ _)); refine blk_far ?_ NB206_213.out _; (with_reducible repeat (first | refine blk_drewN ?_ _ | refine blk_drew ?_ | refine blk_alloc ?_ _)); refine blk_far ?_ NB206_213.out _; (with_reducible repeat (first | refine blk_drewN ?_ _ | refine blk_drew ?_ | refine blk_alloc ?_ _)); exact BK206.out) NB206_0.out (by simp)); have n1_ := am13_ (Kd.R_mono (Kd.R_keep (IsS109.apart (show IsS109 w0 _ g s0_0 t211 t212 from by repeat (first | (with_reducible first | exact HI0.out | apply IsS109.alloc | apply IsS109.drewN | apply IsS109.drew | apply IsS109.set_1 | apply IsS109.set_2 | refine IsS109.far ?_ NB0_206.out _ | refine IsS109.far ?_ NB0_213.out _) | exact HI0.out)) (lt13_ (Kd.R_mono (Kd.R_far (p := ⟨gb213, 1, none⟩) (Kd.R_far (p := ⟨gb213, 0, none⟩) (Kd.R_types HO210.out BK213.out (by decide)) (fun _ hk => hk.2) (.int .i64 t207)) (fun _ hk => hk.2) (.slice Ao13 t208.length co13)) (fun _ h_ => h_.1))) (by decide)) hk (fun _ h => h.2)) (fun _ h => h.1)); have n2_ := am13_ (KeepBut.blk hk (g' := gb213) (o := .cells #[.int .i64 t207, .slice Ao13 t208.length co13] 26 (0, 0)) (by (with_reducible repeat (first | refine blk_drewN ?_ _ | refine blk_drew ?_ | refine blk_alloc ?_ _)); refine blk_put (cs := #[.int .i64 t207, .slice none 0 0]) ?_ 1 _ rfl; (with_reducible repeat (first | refine blk_drewN ?_ _ | refine blk_drew ?_ | refine blk_alloc ?_ _)); refine blk_put (cs := #[.int .i64 0, .slice none 0 0]) ?_ 0 _ rfl; (with_reducible repeat (first | refine blk_drewN ?_ _ | refine blk_drew ?_ | refine blk_alloc ?_ _)); exact BK213.out) NB213_0.out (by simp)); have n3_ := am13_ (KeepBut.trans (by repeat (first | (with_reducible first | exact HK.out | apply KeepBut.set_ | apply keep_drewN | apply keep_drew | apply keep_alloc | refine keep_far ?_ GW206.out _ | refine keep_far ?_ GW213.out _) | exact HK.out)) hk (.inl rfl)); have n4_ := am13_ (hb); have n5_ := am13_ (hi); clear BK206; clear HO210; clear BK213; clear HK; clear HB; clear HI0; have BK206 := n0_; have HO210 := n1_; have BK213 := n2_; have HK := n3_; have HB := n4_; have HI0 := n5_; clear n0_ n1_ n2_ n3_ n4_ n5_; (try clear hb); (try clear hb2); (try clear hk); (try clear hi)))
   have n0_ := am13_ (Kd.R_drew HO210.out)
   have n1_ := am13_ (blk_drew BK206.out)
   have n2_ := am13_ (blk_drew BK213.out)
   have n3_ := am13_ (IsS109.drew HI0.out)
   have n4_ := am13_ (keep_drew HK.out)
   have n5_ := am13_ (below_drew1 HB.out)
   clear HO210
   clear BK206
   clear BK213
   clear HI0
   clear HK
   clear HB
   have HO210 := n0_
   have BK206 := n1_
   have BK213 := n2_
   have HI0 := n3_
   have HK := n4_
   have HB := n5_
   clear n0_ n1_ n2_ n3_ n4_ n5_
   refine start_ (n := 8) (S := fun w' => w'.cell? ⟨gb213, 0, none⟩ = some (.int .i64 t207) ∧ w'.cell? ⟨gb213, 1, none⟩ = some (.slice Ao13 t208.length co13)) (ds := [7]) #[false, false, false, false, false, false, false, false] (by kernel_rfl) rfl rfl ⟨(blk_cell BK213.out 0).trans rfl, (blk_cell BK213.out 1).trans rfl⟩ (fun hHeld => ?_); refine with_tabW spec_l1Cur_anyBits.tab4 spec_l1Cur_anyBits.bits4 (fun HT_ HW_ => ?_)
   generalize w14.drew = w15 at HO210 BK206 BK213 HI0 HK HB hHeld ⊢
   refine pure_ (i := 0) (N := some 10) (v := ?_) (a' := ?_) #[true, false, false, false, false, false, false, false] rfl rfl (any_of HT_.out (by kernel_rfl)) (fun _ _ _ h => h) (Or.inl ⟨by rfl, ?_⟩) ?_ ?_
   rotate_left
   ·intro w'
    go_simp
    with_reducible rfl
   rotate_left
   ·simp only [Act.put, List.setIfInBounds_toArray, List.set_cons_zero, List.set_cons_succ, i64_w, i32_w]
    rfl
   refine pure_ (i := 2) (N := some 12) (v := ?_) (a' := ?_) #[true, false, true, false, false, false, false, false] rfl rfl (any_of HT_.out (by kernel_rfl)) (fun _ _ _ h => h) (Or.inl ⟨by rfl, ?_⟩) ?_ ?_
   rotate_left
   ·intro w'
    go_simp
    with_reducible rfl
   rotate_left
   ·simp only [Act.put, List.setIfInBounds_toArray, List.set_cons_zero, List.set_cons_succ, i64_w, i32_w]
    rfl
   refine take_ (i := 1) (N := some 11) (v := ?_) (a' := ?_) #[true, true, true, false, false, false, false, false] rfl rfl (take_ofW HT_.out HW_.out (by kernel_rfl)) (fun _ _ _ h => h) (Or.inl ⟨by rfl, ?_⟩) hHeld ?_ ?_
   rotate_left
   ·rintro w' ⟨s0, s1⟩
    go_simp
    with_reducible rfl
   rotate_left
   ·simp only [Act.put, List.setIfInBounds_toArray, List.set_cons_zero, List.set_cons_succ, i64_w, i32_w]
    rfl
   refine one_ (i := 3) (N := some 13) #[true, true, true, true, false, false, false, false] rfl rfl (one_of HT_.out (by kernel_rfl)) (by decide) (fun K hK => ?_)
   refine goes_ Try.func107 (by kernel_rfl) rfl #[.pointer (some ⟨g, 0, none⟩), .int .i64 2] (by rfl) rfl rfl lm13_ ?_
   with_reducible refine (spec_l1Cur_pick.calls g s0_0 t215 t216 2 t217 t218 t219 w0 _ ?side1 ?side2 A5.out).mono ?_
   (case side1 => repeat (first | (with_reducible first | exact HI0.out | apply IsS109.alloc | apply IsS109.drewN | apply IsS109.drew | apply IsS109.set_1 | apply IsS109.set_2 | refine IsS109.far ?_ NB0_206.out _ | refine IsS109.far ?_ NB0_213.out _) | exact HI0.out))
   (case side2 => repeat (first | (with_reducible first | exact HB.out | apply below_alloc | apply pw_below_drewN | apply below_drew1 | refine below_set ?_ (IsS109.ge HI0.out) | refine below_set ?_ GE206.out | refine below_set ?_ GE213.out) | exact HB.out))
   rintro e w16 ⟨rfl, hi, hb, hk⟩
   refine ⟨_, rfl, ?_⟩
   have n0_ := am13_ (KeepBut.blk hk (g' := gb206) (o := .cells #[.int .i64 0, .slice none 0 0] 26 (0, 0)) (lb13_ BK206) NB206_0.out (by simp))
   have n1_ := am13_ (Kd.R_mono (Kd.R_keep (IsS109.apart (show IsS109 w0 _ g s0_0 t215 t216 from by repeat (first | (with_reducible first | exact HI0.out | apply IsS109.alloc | apply IsS109.drewN | apply IsS109.drew | apply IsS109.set_1 | apply IsS109.set_2 | refine IsS109.far ?_ NB0_206.out _ | refine IsS109.far ?_ NB0_213.out _) | exact HI0.out)) (lf13_ HO210) (by decide)) hk (fun _ h => h.2)) (fun _ h => h.1))
   have n2_ := am13_ (KeepBut.blk hk (g' := gb213) (o := .cells #[.int .i64 t207, .slice Ao13 t208.length co13] 26 (0, 0)) (lb13_ BK213) NB213_0.out (by simp))
   have n3_ := am13_ (KeepBut.trans (by repeat (first | (with_reducible first | exact HK.out | apply KeepBut.set_ | apply keep_drewN | apply keep_drew | apply keep_alloc | refine keep_far ?_ GW206.out _ | refine keep_far ?_ GW213.out _) | exact HK.out)) hk (.inl rfl))
   have n4_ := am13_ (hb)
   have n5_ := am13_ (hi)
   clear BK206
   clear HO210
   clear BK213
   clear HK
   clear HB
   clear HI0
   have BK206 := n0_
   have HO210 := n1_
   have BK213 := n2_
   have HK := n3_
   have HB := n4_
   have HI0 := n5_
   clear n0_ n1_ n2_ n3_ n4_ n5_
   (try clear hb)
   (try clear hb2)
   (try clear hk)
   (try clear hi)
   refine hK.out _ _ ⟨(blk_cell BK213.out 0).trans rfl, (blk_cell BK213.out 1).trans rfl⟩ (fun hHeld => ?_)
   clear hK K
   refine norm_ (a' := ?_) ?_ ?_
   rotate_left
   ·show Act.put _ (some 13) _ = _
    simp only [Act.put, List.setIfInBounds_toArray, List.set_cons_zero, List.set_cons_succ, i64_w, i32_w]
    rfl
   refine one_ (i := 4) (N := some 14) #[true, true, true, true, true, false, false, false] rfl rfl (one_of HT_.out (by kernel_rfl)) (by decide) (fun K hK => ?_)
   refine value_ (w1 := ?_) (v := ?_) (by rfl) rfl ?_ ?_
   rotate_left 2
   ·go_simp
    constructor
    ·rfl
    ·rfl
   refine hK.out _ _ ⟨(blk_cell (blk_alloc BK213.out _) 0).trans rfl, (blk_cell (blk_alloc BK213.out _) 1).trans rfl⟩ (fun hHeld => ?_)
   clear hK K
   refine norm_ (a' := ?_) ?_ ?_
   rotate_left
   ·show Act.put _ (some 14) _ = _
    simp only [Act.put, List.setIfInBounds_toArray, List.set_cons_zero, List.set_cons_succ, i64_w, i32_w]
    rfl
   refine one_ (i := 5) (N := some 15) #[true, true, true, true, true, true, false, false] rfl rfl (one_of HT_.out (by kernel_rfl)) (by decide) (fun K hK => ?_)
   refine Kd.R_append_step (Kd.int .i64) w.heap.size (by rfl) (.tmp 11) (.tmp 14) 22 3 (.int .i64 0) 8 rfl Try.underlying22 info3 rfl (by decide) (by omega) (.slice Ao13 t208.length co13) t208 t217 [.int .i64 t217] (fun _ => True) (fun _ => False) rfl rfl ?aP (fun _ hk => hk.elim) ?aF ?aO (Below.refl _ _) ?aS ?aL ?_
   (case aP => exact rfl)
   (case aF => exact (fun _ _ => trivial))
   (case aO => exact (lf13_ HO210))
   (case aS => exact (keep_size (w := w) (g := g) (row := none) (by repeat (first | (with_reducible first | exact HK.out | apply KeepBut.set_ | apply keep_drewN | apply keep_drew | apply keep_alloc | refine keep_far ?_ GW206.out _ | refine keep_far ?_ GW213.out _) | exact HK.out))))
   (case aL => have := LMc6.out; omega)
   intro v221 w17 ho hb hg hat
   rw [← Ny220.out] at ho
   have n0_ := am13_ (IsS109.grown (by repeat (first | (with_reducible first | exact HI0.out | apply IsS109.alloc | apply IsS109.drewN | apply IsS109.drew | apply IsS109.set_1 | apply IsS109.set_2 | refine IsS109.far ?_ NB0_206.out _ | refine IsS109.far ?_ NB0_213.out _) | exact HI0.out)) hg (IsS109.own_ne HI0.out HO210.out (by decide)))
   have n1_ := am13_ (blk_grown (g := gb206) (o := .cells #[.int .i64 0, .slice none 0 0] 26 (0, 0)) (lb13_ BK206) hg (Kd.R_ne HO210.out BK206.out (by decide)))
   have n2_ := am13_ (blk_grown (g := gb213) (o := .cells #[.int .i64 t207, .slice Ao13 t208.length co13] 26 (0, 0)) (lb13_ BK213) hg (Kd.R_ne HO210.out BK213.out (by decide)))
   have n3_ := am13_ (below_weaken (by repeat (first | (with_reducible first | exact HB.out | apply below_alloc | apply pw_below_drewN | apply below_drew1 | refine below_set ?_ (IsS109.ge HI0.out) | refine below_set ?_ GE206.out | refine below_set ?_ GE213.out) | exact HB.out)) HL.out hb)
   have n4_ := am13_ (KeepBut.trans (by repeat (first | (with_reducible first | exact HK.out | apply KeepBut.set_ | apply keep_drewN | apply keep_drew | apply keep_alloc | refine keep_far ?_ GW206.out _ | refine keep_far ?_ GW213.out _) | exact HK.out)) (KeepBut.of_grown hg g) (Kd.R_base2 HO210.out))
   have n5_ := am13_ (ho)
   clear HI0
   clear BK206
   clear BK213
   clear HB
   clear HK
   clear HO210
   have HI0 := n0_
   have BK206 := n1_
   have BK213 := n2_
   have HB := n3_
   have HK := n4_
   have HO222 := n5_
   clear n0_ n1_ n2_ n3_ n4_ n5_
   clear ho hb hg hat
   obtain ⟨Ao18, co18, eo18⟩ := Kd.R_slice HO222.out
   (first | subst eo18 | (injection eo18 with f1_ f2_ f3_; have f4_ := f1_.symm; have f5_ := f3_.symm; clear f1_ f2_ f3_; subst f4_; subst f5_))
   refine hK.out _ _ ⟨(blk_cell BK213.out 0).trans rfl, (blk_cell BK213.out 1).trans rfl⟩ (fun hHeld => ?_)
   clear hK K
   refine norm_ (a' := ?_) ?_ ?_
   rotate_left
   ·show Act.put _ (some 15) _ = _
    simp only [Act.put, List.setIfInBounds_toArray, List.set_cons_zero, List.set_cons_succ, i64_w, i32_w]
    rfl
   refine pure_ (i := 6) (N := some 16) (v := ?_) (a' := ?_) #[true, true, true, true, true, true, true, false] rfl rfl (any_of HT_.out (by kernel_rfl)) (fun _ _ _ h => h) (Or.inl ⟨by rfl, ?_⟩) ?_ ?_
   rotate_left
   ·intro w'
    go_simp
    with_reducible rfl
   rotate_left
   ·simp only [Act.put, List.setIfInBounds_toArray, List.set_cons_zero, List.set_cons_succ, i64_w, i32_w]
    rfl
   refine last_ (i := 7) (N := none) #[true, true, true, true, true, true, true, true] rfl rfl (one_of HT_.out (by kernel_rfl)) (by decide) (fun K hK => ?_)
   have hs19 : w17.cell? ⟨gb213, 1, none⟩ = some (.slice Ao13 t208.length co13) := (blk_cell BK213.out 1).trans rfl
   have hfs19 := blk_frozen BK213.out 1
   have hns19_0 := NB206_213.out
   have hms19_0 := NB213_206.out
   refine skip_ (w1 := ?_) (by rfl) rfl ?_ ?_
   rotate_left
   ·go_simp
    rfl
   refine hK.out _ _ ?_
   clear hK K
   refine done_ (done_of HT_.out (by kernel_rfl)) ?_
   have hcz20_0 : w17.cell? ⟨gb213, 0, none⟩ = some (.int .i64 t207) := (blk_cell BK213.out 0).trans rfl
   have hcz20_1 : w17.cell? ⟨gb213, 1, none⟩ = some (.slice Ao13 t208.length co13) := (blk_cell BK213.out 1).trans rfl
   have hfz20_0 := blk_frozen BK213.out 0
   have hfz20_1 := blk_frozen BK213.out 1
   have hnb21 := NB206_0.out
   have hnc21 := NB0_206.out
   have hcz22_0 : w17.cell? ⟨gb206, 0, none⟩ = some (.int .i64 0) := (blk_cell BK206.out 0).trans rfl
   have hcz22_1 : w17.cell? ⟨gb206, 1, none⟩ = some (.slice none 0 0) := (blk_cell BK206.out 1).trans rfl
   have hfz22_0 := blk_frozen BK206.out 0
   have hfz22_1 := blk_frozen BK206.out 1
   try go_wp2
   refine bodyPost_ret (results_cell_row rfl _ _ gb206 26 #[.int .i64 t207, .slice Ao18 y220.length co18] (0, 0) _ rfl (by (with_reducible repeat (first | refine blk_drewN ?_ _ | refine blk_drew ?_ | refine blk_alloc ?_ _)); refine blk_put (cs := #[.int .i64 t207, .slice none 0 0]) ?_ 1 _ rfl; (with_reducible repeat (first | refine blk_drewN ?_ _ | refine blk_drew ?_ | refine blk_alloc ?_ _)); refine blk_put (cs := #[.int .i64 0, .slice none 0 0]) ?_ 0 _ rfl; (with_reducible repeat (first | refine blk_drewN ?_ _ | refine blk_drew ?_ | refine blk_alloc ?_ _)); refine blk_far ?_ NB206_213.out _; (with_reducible repeat (first | refine blk_drewN ?_ _ | refine blk_drew ?_ | refine blk_alloc ?_ _)); exact BK206.out) Try.underlying26 rfl (by kernel_rfl)) rfl ?_
   exact ⟨_, by first | rfl | (simp [errW_none, errW_some] <;> rfl) | (simp [*, errW_none, errW_some] <;> rfl), by (with_reducible repeat (first | apply Kd.R_alloc | apply Kd.R_drewN | apply Kd.R_drew)); exact Kd.R_mono (Kd.R_far (p := ⟨gb206, 1, none⟩) (Kd.R_far (p := ⟨gb206, 0, none⟩) (Kd.R_far (p := ⟨gb213, 1, none⟩) (Kd.R_types (Kd.R_types HO222.out BK213.out (by decide)) BK206.out (by decide)) (fun _ hk => hk.1.2) (.slice Ao18 y220.length co18)) (fun _ hk => hk.2) (.int .i64 t207)) (fun _ hk => hk.2) (.slice Ao18 y220.length co18)) (fun _ hk => trivial), by repeat (first | (with_reducible first | exact HI0.out | apply IsS109.alloc | apply IsS109.drewN | apply IsS109.drew | apply IsS109.set_1 | apply IsS109.set_2 | refine IsS109.far ?_ NB0_206.out _ | refine IsS109.far ?_ NB0_213.out _) | exact HI0.out), by repeat (first | (with_reducible first | exact HB.out | apply below_alloc | apply pw_below_drewN | apply below_drew1 | refine below_set ?_ (IsS109.ge HI0.out) | refine below_set ?_ GE206.out | refine below_set ?_ GE213.out) | exact HB.out), by repeat (first | (with_reducible first | exact HK.out | apply KeepBut.set_ | apply keep_drewN | apply keep_drew | apply keep_alloc | refine keep_far ?_ GW206.out _ | refine keep_far ?_ GW213.out _) | exact HK.out)⟩
  ·rw [if_neg c6] at H
   exact absurd H (by simp)
 ·rw [if_neg c4] at H
  have c4b0 : (t214 == 0) = false := beq_eq_false_iff_ne.mpr c4
  have c4b1 : (t214 != 0) = true := bne_iff_ne.mpr c4
  by_cases c23 : t214 = 1
  ·rw [if_pos c23] at H
   have c23b0 : (t214 == 1) = true := beq_iff_eq.mpr c23
   have c23b1 : (t214 != 1) = false := bne_eq_false_iff_eq.mpr c23
   clear c23
   replace H := Option.bind_eq_some_iff.mp H
   obtain ⟨⟨t223, t224, t225⟩, A240, H⟩ := H
   replace H : (some (wrap64 (t207 + (wrap64 (t223 - 1))), t208, t224, t225)) = some (r1, r2, r3, r4) := H
   have A24 := am13_ A240
   clear A240
   simp only [Option.some.injEq, Prod.mk.injEq] at H
   obtain ⟨rfl, rfl, rfl, rfl⟩ := H
   go_enter Try.func103, Try.ntmps103
   try go_wp2_with (first | ((with_reducible refine gate_dst (N := 2) rfl ?_); refine box_event ?hg (N := 2) ?hd (cs := #[.int .i64 0, .slice none 0 0]) (t := 26) ?hr ?_; (case hd => rfl); (case hg => rfl); (case hr => first | (go_simp; done) | (go_simp; rfl)); intro gb206 hg w25 hbox hb; have n0_ := am13_ (IsS109.below (by repeat (first | (with_reducible first | exact HI0.out | apply IsS109.alloc | apply IsS109.drewN | apply IsS109.drew | apply IsS109.set_1 | apply IsS109.set_2) | exact HI0.out)) hb); have n1_ := am13_ (KeepBut.trans (by repeat (first | (with_reducible first | exact HK.out | apply KeepBut.set_ | apply keep_drewN | apply keep_drew | apply keep_alloc) | exact HK.out)) (KeepBut.of_below hb g none) (.inl rfl)); have n2_ := am13_ (below_step (by repeat (first | (with_reducible first | exact HB.out | apply below_alloc | apply pw_below_drewN | apply below_drew1 | refine below_set ?_ (IsS109.ge HI0.out)) | exact HB.out)) hb); have n3_ := am13_ (hbox); have n4_ := am13_ ((by rw [hg]; exact (keep_size (w := w) (g := g) (row := none) (by repeat (first | (with_reducible first | exact HK.out | apply KeepBut.set_ | apply keep_drewN | apply keep_drew | apply keep_alloc) | exact HK.out))) : w.heap.size ≤ gb206)); have n5_ := am13_ ((Nat.le_trans HW0.out (by rw [hg]; exact (keep_size (w := w) (g := g) (row := none) (by repeat (first | (with_reducible first | exact HK.out | apply KeepBut.set_ | apply keep_drewN | apply keep_drew | apply keep_alloc) | exact HK.out))) : w.heap.size ≤ gb206) : w0.heap.size ≤ gb206)); have n6_ := am13_ ((by rw [hg]; exact Nat.ne_of_lt (IsS109.lt (show IsS109 w0 _ g s0_0 s0_1 s0_2 from by repeat (first | (with_reducible first | exact HI0.out | apply IsS109.alloc | apply IsS109.drewN | apply IsS109.drew | apply IsS109.set_1 | apply IsS109.set_2) | exact HI0.out))) : g ≠ gb206)); have n7_ := am13_ ((by rw [hg]; exact Nat.ne_of_gt (IsS109.lt (show IsS109 w0 _ g s0_0 s0_1 s0_2 from by repeat (first | (with_reducible first | exact HI0.out | apply IsS109.alloc | apply IsS109.drewN | apply IsS109.drew | apply IsS109.set_1 | apply IsS109.set_2) | exact HI0.out))) : gb206 ≠ g)); clear HI0; clear HK; clear HB; have HI0 := n0_; have HK := n1_; have HB := n2_; have BK206 := n3_; have GW206 := n4_; have GE206 := n5_; have NB0_206 := n6_; have NB206_0 := n7_; clear n0_ n1_ n2_ n3_ n4_ n5_ n6_ n7_; clear hb hbox hg) | ((with_reducible refine gate_callee (f := 108) rfl ?_); refine goesL_ (some 5) rfl rfl Try.func108 (by kernel_rfl) rfl #[.pointer (some ⟨g, 0, none⟩), .int .i64 40] rfl lm13_ ?_; (with_reducible refine (spec_l1Cur_bits.calls k g s0_0 s0_1 s0_2 40 t207 t208 t211 t212 w0 _ ?side1 ?side2 A2.out).mono ?_); (case side1 => repeat (first | (with_reducible first | exact HI0.out | apply IsS109.alloc | apply IsS109.drewN | apply IsS109.drew | apply IsS109.set_1 | apply IsS109.set_2 | refine IsS109.far ?_ NB0_206.out _) | exact HI0.out)); (case side2 => repeat (first | (with_reducible first | exact HB.out | apply below_alloc | apply pw_below_drewN | apply below_drew1 | refine below_set ?_ (IsS109.ge HI0.out) | refine below_set ?_ GE206.out) | exact HB.out)); rintro e w26 ⟨v209, rfl, ho0, hi, hb, hk⟩; refine ⟨_, rfl, ?_⟩; have n0_ := am13_ (KeepBut.blk hk (g' := gb206) (o := .cells #[.int .i64 0, .slice none 0 0] 26 (0, 0)) (lb13_ BK206) NB206_0.out (by simp)); have n1_ := am13_ (Kd.R_lower ho0 (keep_size (w := w) (g := g) (row := none) (by repeat (first | (with_reducible first | exact HK.out | apply KeepBut.set_ | apply keep_drewN | apply keep_drew | apply keep_alloc | refine keep_far ?_ GW206.out _) | exact HK.out)))); have n2_ := am13_ (KeepBut.trans (by repeat (first | (with_reducible first | exact HK.out | apply KeepBut.set_ | apply keep_drewN | apply keep_drew | apply keep_alloc | refine keep_far ?_ GW206.out _) | exact HK.out)) hk (.inl rfl)); have n3_ := am13_ (hb); have n4_ := am13_ (hi); clear BK206; clear HK; clear HB; clear HI0; have BK206 := n0_; have HO210 := n1_; have HK := n2_; have HB := n3_; have HI0 := n4_; clear n0_ n1_ n2_ n3_ n4_; (try clear hb); (try clear hb2); (try clear hk); (try clear hi); (try clear ho0)) | ((with_reducible refine gate_dst (N := 3) rfl ?_); refine box_event ?hg (N := 3) ?hd (cs := #[.int .i64 0, .slice none 0 0]) (t := 26) ?hr ?_; (case hd => rfl); (case hg => rfl); (case hr => first | (go_simp; done) | (go_simp; rfl)); intro gb213 hg w27 hbox hb; have n0_ := am13_ (Kd.R_below (lf13_ HO210) hb); have n1_ := am13_ (IsS109.below (by repeat (first | (with_reducible first | exact HI0.out | apply IsS109.alloc | apply IsS109.drewN | apply IsS109.drew | apply IsS109.set_1 | apply IsS109.set_2 | refine IsS109.far ?_ NB0_206.out _) | exact HI0.out)) hb); have n2_ := am13_ (blk_below (g := gb206) (o := .cells #[.int .i64 0, .slice none 0 0] 26 (0, 0)) (lb13_ BK206) hb); have n3_ := am13_ (KeepBut.trans (by repeat (first | (with_reducible first | exact HK.out | apply KeepBut.set_ | apply keep_drewN | apply keep_drew | apply keep_alloc | refine keep_far ?_ GW206.out _) | exact HK.out)) (KeepBut.of_below hb g none) (.inl rfl)); have n4_ := am13_ (below_step (by repeat (first | (with_reducible first | exact HB.out | apply below_alloc | apply pw_below_drewN | apply below_drew1 | refine below_set ?_ (IsS109.ge HI0.out) | refine below_set ?_ GE206.out) | exact HB.out)) hb); have n5_ := am13_ (hbox); have n6_ := am13_ ((by rw [hg]; exact (keep_size (w := w) (g := g) (row := none) (by repeat (first | (with_reducible first | exact HK.out | apply KeepBut.set_ | apply keep_drewN | apply keep_drew | apply keep_alloc | refine keep_far ?_ GW206.out _) | exact HK.out))) : w.heap.size ≤ gb213)); have n7_ := am13_ ((Nat.le_trans HW0.out (by rw [hg]; exact (keep_size (w := w) (g := g) (row := none) (by repeat (first | (with_reducible first | exact HK.out | apply KeepBut.set_ | apply keep_drewN | apply keep_drew | apply keep_alloc | refine keep_far ?_ GW206.out _) | exact HK.out))) : w.heap.size ≤ gb213) : w0.heap.size ≤ gb213)); have n8_ := am13_ ((by rw [hg]; exact Nat.ne_of_lt (blk_lt (g := gb206) (lb13_ BK206)) : gb206 ≠ gb213)); have n9_ := am13_ ((by rw [hg]; exact Nat.ne_of_gt (blk_lt (g := gb206) (lb13_ BK206)) : gb213 ≠ gb206)); have n10_ := am13_ ((by rw [hg]; exact Nat.ne_of_lt (IsS109.lt (show IsS109 w0 _ g s0_0 t211 t212 from by repeat (first | (with_reducible first | exact HI0.out | apply IsS109.alloc | apply IsS109.drewN | apply IsS109.drew | apply IsS109.set_1 | apply IsS109.set_2 | refine IsS109.far ?_ NB0_206.out _) | exact HI0.out))) : g ≠ gb213)); have n11_ := am13_ ((by rw [hg]; exact Nat.ne_of_gt (IsS109.lt (show IsS109 w0 _ g s0_0 t211 t212 from by repeat (first | (with_reducible first | exact HI0.out | apply IsS109.alloc | apply IsS109.drewN | apply IsS109.drew | apply IsS109.set_1 | apply IsS109.set_2 | refine IsS109.far ?_ NB0_206.out _) | exact HI0.out))) : gb213 ≠ g)); clear HO210; clear HI0; clear BK206; clear HK; clear HB; have HO210 := n0_; have HI0 := n1_; have BK206 := n2_; have HK := n3_; have HB := n4_; have BK213 := n5_; have GW213 := n6_; have GE213 := n7_; have NB206_213 := n8_; have NB213_206 := n9_; have NB0_213 := n10_; have NB213_0 := n11_; clear n0_ n1_ n2_ n3_ n4_ n5_ n6_ n7_ n8_ n9_ n10_ n11_; clear hb hbox hg; have hnb28 := NB213_206.out; have hnc28 := NB206_213.out; have hnb29 := NB213_0.out; have hnc29 := NB0_213.out; have hcz30_0 : w27.cell? ⟨gb213, 0, none⟩ = some (.int .i64 0) := (blk_cell BK213.out 0).trans rfl; have hcz30_1 : w27.cell? ⟨gb213, 1, none⟩ = some (.slice none 0 0) := (blk_cell BK213.out 1).trans rfl; have hfz30_0 := blk_frozen BK213.out 0; have hfz30_1 := blk_frozen BK213.out 1; obtain ⟨Ao31, co31, eo31⟩ := Kd.R_slice HO210.out; subst eo31) | ((with_reducible refine gate_callee (f := 107) rfl ?_); refine goesL_ (some 7) rfl rfl Try.func107 (by kernel_rfl) rfl #[.pointer (some ⟨g, 0, none⟩), .int .i64 16] rfl lm13_ ?_; (with_reducible refine (spec_l1Cur_pick.calls g s0_0 t211 t212 16 t214 t215 t216 w0 _ ?side1 ?side2 A3.out).mono ?_); (case side1 => repeat (first | (with_reducible first | exact HI0.out | apply IsS109.alloc | apply IsS109.drewN | apply IsS109.drew | apply IsS109.set_1 | apply IsS109.set_2 | refine IsS109.far ?_ NB0_206.out _ | refine IsS109.far ?_ NB0_213.out _) | exact HI0.out)); (case side2 => repeat (first | (with_reducible first | exact HB.out | apply below_alloc | apply pw_below_drewN | apply below_drew1 | refine below_set ?_ (IsS109.ge HI0.out) | refine below_set ?_ GE206.out | refine below_set ?_ GE213.out) | exact HB.out)); rintro e w32 ⟨rfl, hi, hb, hk⟩; refine ⟨_, rfl, ?_⟩; have n0_ := am13_ (KeepBut.blk hk (g' := gb206) (o := .cells #[.int .i64 0, .slice none 0 0] 26 (0, 0)) (by (with_reducible repeat (first | refine blk_drewN ?_ _ | refine blk_drew ?_ | refine blk_alloc ?_ _)); refine blk_far ?_ NB206_213.out _; (with_reducible repeat (first | refine blk_drewN ?_ _ | refine blk_drew ?_ | refine blk_alloc ?_ _)); refine blk_far ?_ NB206_213.out _; (with_reducible repeat (first | refine blk_drewN ?_ _ | refine blk_drew ?_ | refine blk_alloc ?_ _)); exact BK206.out) NB206_0.out (by simp)); have n1_ := am13_ (Kd.R_mono (Kd.R_keep (IsS109.apart (show IsS109 w0 _ g s0_0 t211 t212 from by repeat (first | (with_reducible first | exact HI0.out | apply IsS109.alloc | apply IsS109.drewN | apply IsS109.drew | apply IsS109.set_1 | apply IsS109.set_2 | refine IsS109.far ?_ NB0_206.out _ | refine IsS109.far ?_ NB0_213.out _) | exact HI0.out)) (lt13_ (Kd.R_mono (Kd.R_far (p := ⟨gb213, 1, none⟩) (Kd.R_far (p := ⟨gb213, 0, none⟩) (Kd.R_types HO210.out BK213.out (by decide)) (fun _ hk => hk.2) (.int .i64 t207)) (fun _ hk => hk.2) (.slice Ao31 t208.length co31)) (fun _ h_ => h_.1))) (by decide)) hk (fun _ h => h.2)) (fun _ h => h.1)); have n2_ := am13_ (KeepBut.blk hk (g' := gb213) (o := .cells #[.int .i64 t207, .slice Ao31 t208.length co31] 26 (0, 0)) (by (with_reducible repeat (first | refine blk_drewN ?_ _ | refine blk_drew ?_ | refine blk_alloc ?_ _)); refine blk_put (cs := #[.int .i64 t207, .slice none 0 0]) ?_ 1 _ rfl; (with_reducible repeat (first | refine blk_drewN ?_ _ | refine blk_drew ?_ | refine blk_alloc ?_ _)); refine blk_put (cs := #[.int .i64 0, .slice none 0 0]) ?_ 0 _ rfl; (with_reducible repeat (first | refine blk_drewN ?_ _ | refine blk_drew ?_ | refine blk_alloc ?_ _)); exact BK213.out) NB213_0.out (by simp)); have n3_ := am13_ (KeepBut.trans (by repeat (first | (with_reducible first | exact HK.out | apply KeepBut.set_ | apply keep_drewN | apply keep_drew | apply keep_alloc | refine keep_far ?_ GW206.out _ | refine keep_far ?_ GW213.out _) | exact HK.out)) hk (.inl rfl)); have n4_ := am13_ (hb); have n5_ := am13_ (hi); clear BK206; clear HO210; clear BK213; clear HK; clear HB; clear HI0; have BK206 := n0_; have HO210 := n1_; have BK213 := n2_; have HK := n3_; have HB := n4_; have HI0 := n5_; clear n0_ n1_ n2_ n3_ n4_ n5_; (try clear hb); (try clear hb2); (try clear hk); (try clear hi)))
   have n0_ := am13_ (Kd.R_drew HO210.out)
   have n1_ := am13_ (blk_drew BK206.out)
   have n2_ := am13_ (blk_drew BK213.out)
   have n3_ := am13_ (IsS109.drew HI0.out)
   have n4_ := am13_ (keep_drew HK.out)
   have n5_ := am13_ (below_drew1 HB.out)
   clear HO210
   clear BK206
   clear BK213
   clear HI0
   clear HK
   clear HB
   have HO210 := n0_
   have BK206 := n1_
   have BK213 := n2_
   have HI0 := n3_
   have HK := n4_
   have HB := n5_
   clear n0_ n1_ n2_ n3_ n4_ n5_
   refine start_ (n := 8) (S := fun w' => w'.cell? ⟨gb213, 0, none⟩ = some (.int .i64 t207) ∧ w'.cell? ⟨gb213, 1, none⟩ = some (.slice Ao31 t208.length co31)) (ds := [7]) #[false, false, false, false, false, false, false, false] (by kernel_rfl) rfl rfl ⟨(blk_cell BK213.out 0).trans rfl, (blk_cell BK213.out 1).trans rfl⟩ (fun hHeld => ?_); refine with_tabW spec_l1Cur_anyBits.tab6 spec_l1Cur_anyBits.bits6 (fun HT_ HW_ => ?_)
   generalize w32.drew = w33 at HO210 BK206 BK213 HI0 HK HB hHeld ⊢
   refine pure_ (i := 0) (N := some 19) (v := ?_) (a' := ?_) #[true, false, false, false, false, false, false, false] rfl rfl (any_of HT_.out (by kernel_rfl)) (fun _ _ _ h => h) (Or.inl ⟨by rfl, ?_⟩) ?_ ?_
   rotate_left
   ·intro w'
    go_simp
    with_reducible rfl
   rotate_left
   ·simp only [Act.put, List.setIfInBounds_toArray, List.set_cons_zero, List.set_cons_succ, i64_w, i32_w]
    rfl
   refine pure_ (i := 2) (N := some 21) (v := ?_) (a' := ?_) #[true, false, true, false, false, false, false, false] rfl rfl (any_of HT_.out (by kernel_rfl)) (fun _ _ _ h => h) (Or.inl ⟨by rfl, ?_⟩) ?_ ?_
   rotate_left
   ·intro w'
    go_simp
    with_reducible rfl
   rotate_left
   ·simp only [Act.put, List.setIfInBounds_toArray, List.set_cons_zero, List.set_cons_succ, i64_w, i32_w]
    rfl
   refine take_ (i := 1) (N := some 20) (v := ?_) (a' := ?_) #[true, true, true, false, false, false, false, false] rfl rfl (take_ofW HT_.out HW_.out (by kernel_rfl)) (fun _ _ _ h => h) (Or.inl ⟨by rfl, ?_⟩) hHeld ?_ ?_
   rotate_left
   ·rintro w' ⟨s0, s1⟩
    go_simp
    with_reducible rfl
   rotate_left
   ·simp only [Act.put, List.setIfInBounds_toArray, List.set_cons_zero, List.set_cons_succ, i64_w, i32_w]
    rfl
   refine one_ (i := 3) (N := some 22) #[true, true, true, true, false, false, false, false] rfl rfl (one_of HT_.out (by kernel_rfl)) (by decide) (fun K hK => ?_)
   refine goes_ Try.func107 (by kernel_rfl) rfl #[.pointer (some ⟨g, 0, none⟩), .int .i64 3] (by rfl) rfl rfl lm13_ ?_
   with_reducible refine (spec_l1Cur_pick.calls g s0_0 t215 t216 3 t223 t224 t225 w0 _ ?side1 ?side2 A24.out).mono ?_
   (case side1 => repeat (first | (with_reducible first | exact HI0.out | apply IsS109.alloc | apply IsS109.drewN | apply IsS109.drew | apply IsS109.set_1 | apply IsS109.set_2 | refine IsS109.far ?_ NB0_206.out _ | refine IsS109.far ?_ NB0_213.out _) | exact HI0.out))
   (case side2 => repeat (first | (with_reducible first | exact HB.out | apply below_alloc | apply pw_below_drewN | apply below_drew1 | refine below_set ?_ (IsS109.ge HI0.out) | refine below_set ?_ GE206.out | refine below_set ?_ GE213.out) | exact HB.out))
   rintro e w34 ⟨rfl, hi, hb, hk⟩
   refine ⟨_, rfl, ?_⟩
   have n0_ := am13_ (KeepBut.blk hk (g' := gb206) (o := .cells #[.int .i64 0, .slice none 0 0] 26 (0, 0)) (lb13_ BK206) NB206_0.out (by simp))
   have n1_ := am13_ (Kd.R_mono (Kd.R_keep (IsS109.apart (show IsS109 w0 _ g s0_0 t215 t216 from by repeat (first | (with_reducible first | exact HI0.out | apply IsS109.alloc | apply IsS109.drewN | apply IsS109.drew | apply IsS109.set_1 | apply IsS109.set_2 | refine IsS109.far ?_ NB0_206.out _ | refine IsS109.far ?_ NB0_213.out _) | exact HI0.out)) (lf13_ HO210) (by decide)) hk (fun _ h => h.2)) (fun _ h => h.1))
   have n2_ := am13_ (KeepBut.blk hk (g' := gb213) (o := .cells #[.int .i64 t207, .slice Ao31 t208.length co31] 26 (0, 0)) (lb13_ BK213) NB213_0.out (by simp))
   have n3_ := am13_ (KeepBut.trans (by repeat (first | (with_reducible first | exact HK.out | apply KeepBut.set_ | apply keep_drewN | apply keep_drew | apply keep_alloc | refine keep_far ?_ GW206.out _ | refine keep_far ?_ GW213.out _) | exact HK.out)) hk (.inl rfl))
   have n4_ := am13_ (hb)
   have n5_ := am13_ (hi)
   clear BK206
   clear HO210
   clear BK213
   clear HK
   clear HB
   clear HI0
   have BK206 := n0_
   have HO210 := n1_
   have BK213 := n2_
   have HK := n3_
   have HB := n4_
   have HI0 := n5_
   clear n0_ n1_ n2_ n3_ n4_ n5_
   (try clear hb)
   (try clear hb2)
   (try clear hk)
   (try clear hi)
   refine hK.out _ _ ⟨(blk_cell BK213.out 0).trans rfl, (blk_cell BK213.out 1).trans rfl⟩ (fun hHeld => ?_)
   clear hK K
   refine norm_ (a' := ?_) ?_ ?_
   rotate_left
   ·show Act.put _ (some 22) _ = _
    simp only [Act.put, List.setIfInBounds_toArray, List.set_cons_zero, List.set_cons_succ, i64_w, i32_w]
    rfl
   refine pure_ (i := 4) (N := some 23) (v := ?_) (a' := ?_) #[true, true, true, true, true, false, false, false] rfl rfl (any_of HT_.out (by kernel_rfl)) (fun _ _ _ h => h) (Or.inl ⟨by rfl, ?_⟩) ?_ ?_
   rotate_left
   ·intro w'
    go_simp
    with_reducible rfl
   rotate_left
   ·simp only [Act.put, List.setIfInBounds_toArray, List.set_cons_zero, List.set_cons_succ, i64_w, i32_w]
    rfl
   refine pure_ (i := 5) (N := some 24) (v := ?_) (a' := ?_) #[true, true, true, true, true, true, false, false] rfl rfl (any_of HT_.out (by kernel_rfl)) (fun _ _ _ h => h) (Or.inl ⟨by rfl, ?_⟩) ?_ ?_
   rotate_left
   ·intro w'
    go_simp
    with_reducible rfl
   rotate_left
   ·simp only [Act.put, List.setIfInBounds_toArray, List.set_cons_zero, List.set_cons_succ, i64_w, i32_w]
    rfl
   refine pure_ (i := 6) (N := some 25) (v := ?_) (a' := ?_) #[true, true, true, true, true, true, true, false] rfl rfl (any_of HT_.out (by kernel_rfl)) (fun _ _ _ h => h) (Or.inl ⟨by rfl, ?_⟩) ?_ ?_
   rotate_left
   ·intro w'
    go_simp
    with_reducible rfl
   rotate_left
   ·simp only [Act.put, List.setIfInBounds_toArray, List.set_cons_zero, List.set_cons_succ, i64_w, i32_w]
    rfl
   refine last_ (i := 7) (N := none) #[true, true, true, true, true, true, true, true] rfl rfl (one_of HT_.out (by kernel_rfl)) (by decide) (fun K hK => ?_)
   have hs35 : w34.cell? ⟨gb213, 0, none⟩ = some (.int .i64 t207) := (blk_cell BK213.out 0).trans rfl
   have hfs35 := blk_frozen BK213.out 0
   have hns35_0 := NB206_213.out
   have hms35_0 := NB213_206.out
   refine skip_ (w1 := ?_) (by rfl) rfl ?_ ?_
   rotate_left
   ·go_simp
    rfl
   refine hK.out _ _ ?_
   clear hK K
   refine done_ (done_of HT_.out (by kernel_rfl)) ?_
   have hcz36_0 : w34.cell? ⟨gb213, 0, none⟩ = some (.int .i64 t207) := (blk_cell BK213.out 0).trans rfl
   have hcz36_1 : w34.cell? ⟨gb213, 1, none⟩ = some (.slice Ao31 t208.length co31) := (blk_cell BK213.out 1).trans rfl
   have hfz36_0 := blk_frozen BK213.out 0
   have hfz36_1 := blk_frozen BK213.out 1
   have hnb37 := NB206_0.out
   have hnc37 := NB0_206.out
   have hcz38_0 : w34.cell? ⟨gb206, 0, none⟩ = some (.int .i64 0) := (blk_cell BK206.out 0).trans rfl
   have hcz38_1 : w34.cell? ⟨gb206, 1, none⟩ = some (.slice none 0 0) := (blk_cell BK206.out 1).trans rfl
   have hfz38_0 := blk_frozen BK206.out 0
   have hfz38_1 := blk_frozen BK206.out 1
   try go_wp2
   refine bodyPost_ret (results_cell_row rfl _ _ gb206 26 #[.int .i64 (wrap64 (t207 + (wrap64 (t223 - 1)))), .slice Ao31 t208.length co31] (0, 0) _ rfl (by (with_reducible repeat (first | refine blk_drewN ?_ _ | refine blk_drew ?_ | refine blk_alloc ?_ _)); refine blk_put (cs := #[.int .i64 (wrap64 (t207 + (wrap64 (t223 - 1)))), .slice none 0 0]) ?_ 1 _ rfl; (with_reducible repeat (first | refine blk_drewN ?_ _ | refine blk_drew ?_ | refine blk_alloc ?_ _)); refine blk_put (cs := #[.int .i64 0, .slice none 0 0]) ?_ 0 _ rfl; (with_reducible repeat (first | refine blk_drewN ?_ _ | refine blk_drew ?_ | refine blk_alloc ?_ _)); refine blk_far ?_ NB206_213.out _; (with_reducible repeat (first | refine blk_drewN ?_ _ | refine blk_drew ?_ | refine blk_alloc ?_ _)); exact BK206.out) Try.underlying26 rfl (by kernel_rfl)) rfl ?_
   exact ⟨_, by first | rfl | (simp [errW_none, errW_some] <;> rfl) | (simp [*, errW_none, errW_some] <;> rfl), by (with_reducible repeat (first | apply Kd.R_alloc | apply Kd.R_drewN | apply Kd.R_drew)); exact Kd.R_mono (Kd.R_far (p := ⟨gb206, 1, none⟩) (Kd.R_far (p := ⟨gb206, 0, none⟩) (Kd.R_far (p := ⟨gb213, 0, none⟩) (Kd.R_types (Kd.R_types HO210.out BK213.out (by decide)) BK206.out (by decide)) (fun _ hk => hk.1.2) (.int .i64 (wrap64 (t207 + (wrap64 (t223 - 1)))))) (fun _ hk => hk.2) (.int .i64 (wrap64 (t207 + (wrap64 (t223 - 1)))))) (fun _ hk => hk.2) (.slice Ao31 t208.length co31)) (fun _ hk => trivial), by repeat (first | (with_reducible first | exact HI0.out | apply IsS109.alloc | apply IsS109.drewN | apply IsS109.drew | apply IsS109.set_1 | apply IsS109.set_2 | refine IsS109.far ?_ NB0_206.out _ | refine IsS109.far ?_ NB0_213.out _) | exact HI0.out), by repeat (first | (with_reducible first | exact HB.out | apply below_alloc | apply pw_below_drewN | apply below_drew1 | refine below_set ?_ (IsS109.ge HI0.out) | refine below_set ?_ GE206.out | refine below_set ?_ GE213.out) | exact HB.out), by repeat (first | (with_reducible first | exact HK.out | apply KeepBut.set_ | apply keep_drewN | apply keep_drew | apply keep_alloc | refine keep_far ?_ GW206.out _ | refine keep_far ?_ GW213.out _) | exact HK.out)⟩
  ·rw [if_neg c23] at H
   have c23b0 : (t214 == 1) = false := beq_eq_false_iff_ne.mpr c23
   have c23b1 : (t214 != 1) = true := bne_iff_ne.mpr c23
   by_cases c39 : t214 = 2
   ·rw [if_pos c39] at H
    have c39b0 : (t214 == 2) = true := beq_iff_eq.mpr c39
    have c39b1 : (t214 != 2) = false := bne_eq_false_iff_eq.mpr c39
    clear c39
    by_cases c40 : (t208.length : Int) > 0
    ·rw [if_pos c40] at H
     have c40b0 : decide (0 < (t208.length : Int)) = true := decide_eq_true c40
     have c40b1 : decide (0 < t208.length) = true := decide_eq_true (by omega)
     clear c40
     replace H := Option.bind_eq_some_iff.mp H
     obtain ⟨⟨t226, t227, t228⟩, A410, H⟩ := H
     replace H : ((spec_l1Cur_among.f s0_0 t227 t228 (([(-1), 65535, 65536, 40000] : List Int))).bind fun bt232 => (if 0 ≤ t226 then (if t226 < (t208.length : Int) then (some (t207, (t208.set (t226 : Int).toNat bt232.1), bt232.2.1, bt232.2.2)) else (none)) else (none))) = some (r1, r2, r3, r4) := H
     have A41 := am13_ A410
     clear A410
     obtain ⟨y229, hy229⟩ : ∃ y_ : List Int, y_ = (([(-1), 65535, 65536, 40000] : List Int)) := ⟨_, rfl⟩
     replace H : ((spec_l1Cur_among.f s0_0 t227 t228 y229).bind fun bt232 => (if 0 ≤ t226 then (if t226 < (t208.length : Int) then (some (t207, (t208.set (t226 : Int).toNat bt232.1), bt232.2.1, bt232.2.2)) else (none)) else (none))) = some (r1, r2, r3, r4) := by first | (rw [hy229]; with_reducible exact H) | (have H2_ := (Option.bind_some _ _).symm.trans H; rw [hy229]; with_reducible exact H2_) | (have H2_ := (Option.bind_some _ _).symm.trans H; with_reducible exact H2_) | with_reducible exact H | (rw [hy229]; exact H) | exact H
     have Ny229 := am13_ hy229
     clear hy229
     replace H := Option.bind_eq_some_iff.mp H
     obtain ⟨⟨t232, t233, t234⟩, A420, H⟩ := H
     replace H : (if 0 ≤ t226 then (if t226 < (t208.length : Int) then (some (t207, (t208.set (t226 : Int).toNat t232), t233, t234)) else (none)) else (none)) = some (r1, r2, r3, r4) := H
     have A42 := am13_ A420
     clear A420
     by_cases c43 : 0 ≤ t226
     ·rw [if_pos c43] at H
      have c43b0 : decide (0 ≤ t226) = true := decide_eq_true c43
      clear c43
      by_cases c44 : t226 < (t208.length : Int)
      ·rw [if_pos c44] at H
       have c44b0 : decide (t226 < (t208.length : Int)) = true := decide_eq_true c44
       clear c44
       obtain ⟨y235, hy235⟩ : ∃ y_ : List Int, y_ = (t208.set (t226 : Int).toNat t232) := ⟨_, rfl⟩
       replace H : (some (t207, y235, t233, t234)) = some (r1, r2, r3, r4) := by first | (rw [hy235]; with_reducible exact H) | (have H2_ := (Option.bind_some _ _).symm.trans H; rw [hy235]; with_reducible exact H2_) | (have H2_ := (Option.bind_some _ _).symm.trans H; with_reducible exact H2_) | with_reducible exact H | (rw [hy235]; exact H) | exact H
       have Ny235 := am13_ hy235
       clear hy235
       simp only [Option.some.injEq, Prod.mk.injEq] at H
       obtain ⟨rfl, rfl, rfl, rfl⟩ := H
       go_enter Try.func103, Try.ntmps103
       try go_wp2_with (first | ((with_reducible refine gate_dst (N := 2) rfl ?_); refine box_event ?hg (N := 2) ?hd (cs := #[.int .i64 0, .slice none 0 0]) (t := 26) ?hr ?_; (case hd => rfl); (case hg => rfl); (case hr => first | (go_simp; done) | (go_simp; rfl)); intro gb206 hg w46 hbox hb; have n0_ := am13_ (IsS109.below (by repeat (first | (with_reducible first | exact HI0.out | apply IsS109.alloc | apply IsS109.drewN | apply IsS109.drew | apply IsS109.set_1 | apply IsS109.set_2) | exact HI0.out)) hb); have n1_ := am13_ (KeepBut.trans (by repeat (first | (with_reducible first | exact HK.out | apply KeepBut.set_ | apply keep_drewN | apply keep_drew | apply keep_alloc) | exact HK.out)) (KeepBut.of_below hb g none) (.inl rfl)); have n2_ := am13_ (below_step (by repeat (first | (with_reducible first | exact HB.out | apply below_alloc | apply pw_below_drewN | apply below_drew1 | refine below_set ?_ (IsS109.ge HI0.out)) | exact HB.out)) hb); have n3_ := am13_ (hbox); have n4_ := am13_ ((by rw [hg]; exact (keep_size (w := w) (g := g) (row := none) (by repeat (first | (with_reducible first | exact HK.out | apply KeepBut.set_ | apply keep_drewN | apply keep_drew | apply keep_alloc) | exact HK.out))) : w.heap.size ≤ gb206)); have n5_ := am13_ ((Nat.le_trans HW0.out (by rw [hg]; exact (keep_size (w := w) (g := g) (row := none) (by repeat (first | (with_reducible first | exact HK.out | apply KeepBut.set_ | apply keep_drewN | apply keep_drew | apply keep_alloc) | exact HK.out))) : w.heap.size ≤ gb206) : w0.heap.size ≤ gb206)); have n6_ := am13_ ((by rw [hg]; exact Nat.ne_of_lt (IsS109.lt (show IsS109 w0 _ g s0_0 s0_1 s0_2 from by repeat (first | (with_reducible first | exact HI0.out | apply IsS109.alloc | apply IsS109.drewN | apply IsS109.drew | apply IsS109.set_1 | apply IsS109.set_2) | exact HI0.out))) : g ≠ gb206)); have n7_ := am13_ ((by rw [hg]; exact Nat.ne_of_gt (IsS109.lt (show IsS109 w0 _ g s0_0 s0_1 s0_2 from by repeat (first | (with_reducible first | exact HI0.out | apply IsS109.alloc | apply IsS109.drewN | apply IsS109.drew | apply IsS109.set_1 | apply IsS109.set_2) | exact HI0.out))) : gb206 ≠ g)); clear HI0; clear HK; clear HB; have HI0 := n0_; have HK := n1_; have HB := n2_; have BK206 := n3_; have GW206 := n4_; have GE206 := n5_; have NB0_206 := n6_; have NB206_0 := n7_; clear n0_ n1_ n2_ n3_ n4_ n5_ n6_ n7_; clear hb hbox hg) | ((with_reducible refine gate_callee (f := 108) rfl ?_); refine goesL_ (some 5) rfl rfl Try.func108 (by kernel_rfl) rfl #[.pointer (some ⟨g, 0, none⟩), .int .i64 40] rfl lm13_ ?_; (with_reducible refine (spec_l1Cur_bits.calls k g s0_0 s0_1 s0_2 40 t207 t208 t211 t212 w0 _ ?side1 ?side2 A2.out).mono ?_); (case side1 => repeat (first | (with_reducible first | exact HI0.out | apply IsS109.alloc | apply IsS109.drewN | apply IsS109.drew | apply IsS109.set_1 | apply IsS109.set_2 | refine IsS109.far ?_ NB0_206.out _) | exact HI0.out)); (case side2 => repeat (first | (with_reducible first | exact HB.out | apply below_alloc | apply pw_below_drewN | apply below_drew1 | refine below_set ?_ (IsS109.ge HI0.out) | refine below_set ?_ GE206.out) | exact HB.out)); rintro e w47 ⟨v209, rfl, ho0, hi, hb, hk⟩; refine ⟨_, rfl, ?_⟩; have n0_ := am13_ (KeepBut.blk hk (g' := gb206) (o := .cells #[.int .i64 0, .slice none 0 0] 26 (0, 0)) (lb13_ BK206) NB206_0.out (by simp)); have n1_ := am13_ (Kd.R_lower ho0 (keep_size (w := w) (g := g) (row := none) (by repeat (first | (with_reducible first | exact HK.out | apply KeepBut.set_ | apply keep_drewN | apply keep_drew | apply keep_alloc | refine keep_far ?_ GW206.out _) | exact HK.out)))); have n2_ := am13_ (KeepBut.trans (by repeat (first | (with_reducible first | exact HK.out | apply KeepBut.set_ | apply keep_drewN | apply keep_drew | apply keep_alloc | refine keep_far ?_ GW206.out _) | exact HK.out)) hk (.inl rfl)); have n3_ := am13_ (hb); have n4_ := am13_ (hi); clear BK206; clear HK; clear HB; clear HI0; have BK206 := n0_; have HO210 := n1_; have HK := n2_; have HB := n3_; have HI0 := n4_; clear n0_ n1_ n2_ n3_ n4_; (try clear hb); (try clear hb2); (try clear hk); (try clear hi); (try clear ho0)) | ((with_reducible refine gate_dst (N := 3) rfl ?_); refine box_event ?hg (N := 3) ?hd (cs := #[.int .i64 0, .slice none 0 0]) (t := 26) ?hr ?_; (case hd => rfl); (case hg => rfl); (case hr => first | (go_simp; done) | (go_simp; rfl)); intro gb213 hg w48 hbox hb; have n0_ := am13_ (Kd.R_below (lf13_ HO210) hb); have n1_ := am13_ (IsS109.below (by repeat (first | (with_reducible first | exact HI0.out | apply IsS109.alloc | apply IsS109.drewN | apply IsS109.drew | apply IsS109.set_1 | apply IsS109.set_2 | refine IsS109.far ?_ NB0_206.out _) | exact HI0.out)) hb); have n2_ := am13_ (blk_below (g := gb206) (o := .cells #[.int .i64 0, .slice none 0 0] 26 (0, 0)) (lb13_ BK206) hb); have n3_ := am13_ (KeepBut.trans (by repeat (first | (with_reducible first | exact HK.out | apply KeepBut.set_ | apply keep_drewN | apply keep_drew | apply keep_alloc | refine keep_far ?_ GW206.out _) | exact HK.out)) (KeepBut.of_below hb g none) (.inl rfl)); have n4_ := am13_ (below_step (by repeat (first | (with_reducible first | exact HB.out | apply below_alloc | apply pw_below_drewN | apply below_drew1 | refine below_set ?_ (IsS109.ge HI0.out) | refine below_set ?_ GE206.out) | exact HB.out)) hb); have n5_ := am13_ (hbox); have n6_ := am13_ ((by rw [hg]; exact (keep_size (w := w) (g := g) (row := none) (by repeat (first | (with_reducible first | exact HK.out | apply KeepBut.set_ | apply keep_drewN | apply keep_drew | apply keep_alloc | refine keep_far ?_ GW206.out _) | exact HK.out))) : w.heap.size ≤ gb213)); have n7_ := am13_ ((Nat.le_trans HW0.out (by rw [hg]; exact (keep_size (w := w) (g := g) (row := none) (by repeat (first | (with_reducible first | exact HK.out | apply KeepBut.set_ | apply keep_drewN | apply keep_drew | apply keep_alloc | refine keep_far ?_ GW206.out _) | exact HK.out))) : w.heap.size ≤ gb213) : w0.heap.size ≤ gb213)); have n8_ := am13_ ((by rw [hg]; exact Nat.ne_of_lt (blk_lt (g := gb206) (lb13_ BK206)) : gb206 ≠ gb213)); have n9_ := am13_ ((by rw [hg]; exact Nat.ne_of_gt (blk_lt (g := gb206) (lb13_ BK206)) : gb213 ≠ gb206)); have n10_ := am13_ ((by rw [hg]; exact Nat.ne_of_lt (IsS109.lt (show IsS109 w0 _ g s0_0 t211 t212 from by repeat (first | (with_reducible first | exact HI0.out | apply IsS109.alloc | apply IsS109.drewN | apply IsS109.drew | apply IsS109.set_1 | apply IsS109.set_2 | refine IsS109.far ?_ NB0_206.out _) | exact HI0.out))) : g ≠ gb213)); have n11_ := am13_ ((by rw [hg]; exact Nat.ne_of_gt (IsS109.lt (show IsS109 w0 _ g s0_0 t211 t212 from by repeat (first | (with_reducible first | exact HI0.out | apply IsS109.alloc | apply IsS109.drewN | apply IsS109.drew | apply IsS109.set_1 | apply IsS109.set_2 | refine IsS109.far ?_ NB0_206.out _) | exact HI0.out))) : gb213 ≠ g)); clear HO210; clear HI0; clear BK206; clear HK; clear HB; have HO210 := n0_; have HI0 := n1_; have BK206 := n2_; have HK := n3_; have HB := n4_; have BK213 := n5_; have GW213 := n6_; have GE213 := n7_; have NB206_213 := n8_; have NB213_206 := n9_; have NB0_213 := n10_; have NB213_0 := n11_; clear n0_ n1_ n2_ n3_ n4_ n5_ n6_ n7_ n8_ n9_ n10_ n11_; clear hb hbox hg; have hnb49 := NB213_206.out; have hnc49 := NB206_213.out; have hnb50 := NB213_0.out; have hnc50 := NB0_213.out; have hcz51_0 : w48.cell? ⟨gb213, 0, none⟩ = some (.int .i64 0) := (blk_cell BK213.out 0).trans rfl; have hcz51_1 : w48.cell? ⟨gb213, 1, none⟩ = some (.slice none 0 0) := (blk_cell BK213.out 1).trans rfl; have hfz51_0 := blk_frozen BK213.out 0; have hfz51_1 := blk_frozen BK213.out 1; obtain ⟨Ao52, co52, eo52⟩ := Kd.R_slice HO210.out; subst eo52) | ((with_reducible refine gate_callee (f := 107) rfl ?_); refine goesL_ (some 7) rfl rfl Try.func107 (by kernel_rfl) rfl #[.pointer (some ⟨g, 0, none⟩), .int .i64 16] rfl lm13_ ?_; (with_reducible refine (spec_l1Cur_pick.calls g s0_0 t211 t212 16 t214 t215 t216 w0 _ ?side1 ?side2 A3.out).mono ?_); (case side1 => repeat (first | (with_reducible first | exact HI0.out | apply IsS109.alloc | apply IsS109.drewN | apply IsS109.drew | apply IsS109.set_1 | apply IsS109.set_2 | refine IsS109.far ?_ NB0_206.out _ | refine IsS109.far ?_ NB0_213.out _) | exact HI0.out)); (case side2 => repeat (first | (with_reducible first | exact HB.out | apply below_alloc | apply pw_below_drewN | apply below_drew1 | refine below_set ?_ (IsS109.ge HI0.out) | refine below_set ?_ GE206.out | refine below_set ?_ GE213.out) | exact HB.out)); rintro e w53 ⟨rfl, hi, hb, hk⟩; refine ⟨_, rfl, ?_⟩; have n0_ := am13_ (KeepBut.blk hk (g' := gb206) (o := .cells #[.int .i64 0, .slice none 0 0] 26 (0, 0)) (by (with_reducible repeat (first | refine blk_drewN ?_ _ | refine blk_drew ?_ | refine blk_alloc ?_ _)); refine blk_far ?_ NB206_213.out _; (with_reducible repeat (first | refine blk_drewN ?_ _ | refine blk_drew ?_ | refine blk_alloc ?_ _)); refine blk_far ?_ NB206_213.out _; (with_reducible repeat (first | refine blk_drewN ?_ _ | refine blk_drew ?_ | refine blk_alloc ?_ _)); exact BK206.out) NB206_0.out (by simp)); have n1_ := am13_ (Kd.R_mono (Kd.R_keep (IsS109.apart (show IsS109 w0 _ g s0_0 t211 t212 from by repeat (first | (with_reducible first | exact HI0.out | apply IsS109.alloc | apply IsS109.drewN | apply IsS109.drew | apply IsS109.set_1 | apply IsS109.set_2 | refine IsS109.far ?_ NB0_206.out _ | refine IsS109.far ?_ NB0_213.out _) | exact HI0.out)) (lt13_ (Kd.R_mono (Kd.R_far (p := ⟨gb213, 1, none⟩) (Kd.R_far (p := ⟨gb213, 0, none⟩) (Kd.R_types HO210.out BK213.out (by decide)) (fun _ hk => hk.2) (.int .i64 t207)) (fun _ hk => hk.2) (.slice Ao52 t208.length co52)) (fun _ h_ => h_.1))) (by decide)) hk (fun _ h => h.2)) (fun _ h => h.1)); have n2_ := am13_ (KeepBut.blk hk (g' := gb213) (o := .cells #[.int .i64 t207, .slice Ao52 t208.length co52] 26 (0, 0)) (by (with_reducible repeat (first | refine blk_drewN ?_ _ | refine blk_drew ?_ | refine blk_alloc ?_ _)); refine blk_put (cs := #[.int .i64 t207, .slice none 0 0]) ?_ 1 _ rfl; (with_reducible repeat (first | refine blk_drewN ?_ _ | refine blk_drew ?_ | refine blk_alloc ?_ _)); refine blk_put (cs := #[.int .i64 0, .slice none 0 0]) ?_ 0 _ rfl; (with_reducible repeat (first | refine blk_drewN ?_ _ | refine blk_drew ?_ | refine blk_alloc ?_ _)); exact BK213.out) NB213_0.out (by simp)); have n3_ := am13_ (KeepBut.trans (by repeat (first | (with_reducible first | exact HK.out | apply KeepBut.set_ | apply keep_drewN | apply keep_drew | apply keep_alloc | refine keep_far ?_ GW206.out _ | refine keep_far ?_ GW213.out _) | exact HK.out)) hk (.inl rfl)); have n4_ := am13_ (hb); have n5_ := am13_ (hi); clear BK206; clear HO210; clear BK213; clear HK; clear HB; clear HI0; have BK206 := n0_; have HO210 := n1_; have BK213 := n2_; have HK := n3_; have HB := n4_; have HI0 := n5_; clear n0_ n1_ n2_ n3_ n4_ n5_; (try clear hb); (try clear hb2); (try clear hk); (try clear hi); have hcz54_0 : w53.cell? ⟨gb213, 0, none⟩ = some (.int .i64 t207) := (blk_cell BK213.out 0).trans rfl; have hcz54_1 : w53.cell? ⟨gb213, 1, none⟩ = some (.slice Ao52 t208.length co52) := (blk_cell BK213.out 1).trans rfl; have hfz54_0 := blk_frozen BK213.out 0; have hfz54_1 := blk_frozen BK213.out 1))
       have n0_ := am13_ (Kd.R_drew HO210.out)
       have n1_ := am13_ (blk_drew BK206.out)
       have n2_ := am13_ (blk_drew BK213.out)
       have n3_ := am13_ (IsS109.drew HI0.out)
       have n4_ := am13_ (keep_drew HK.out)
       have n5_ := am13_ (below_drew1 HB.out)
       clear HO210
       clear BK206
       clear BK213
       clear HI0
       clear HK
       clear HB
       have HO210 := n0_
       have BK206 := n1_
       have BK213 := n2_
       have HI0 := n3_
       have HK := n4_
       have HB := n5_
       clear n0_ n1_ n2_ n3_ n4_ n5_
       refine start_ (n := 12) (S := fun w' => w'.cell? ⟨gb213, 0, none⟩ = some (.int .i64 t207) ∧ w'.cell? ⟨gb213, 1, none⟩ = some (.slice Ao52 t208.length co52)) (ds := [11]) #[false, false, false, false, false, false, false, false, false, false, false, false] (by kernel_rfl) rfl rfl ⟨(blk_cell BK213.out 0).trans rfl, (blk_cell BK213.out 1).trans rfl⟩ (fun hHeld => ?_); refine with_tabW spec_l1Cur_anyBits.tab9 spec_l1Cur_anyBits.bits9 (fun HT_ HW_ => ?_)
       generalize w53.drew = w55 at HO210 BK206 BK213 HI0 HK HB hHeld ⊢
       refine pure_ (i := 0) (N := some 32) (v := ?_) (a' := ?_) #[true, false, false, false, false, false, false, false, false, false, false, false] rfl rfl (any_of HT_.out (by kernel_rfl)) (fun _ _ _ h => h) (Or.inl ⟨by rfl, ?_⟩) ?_ ?_
       rotate_left
       ·intro w'
        go_simp
        with_reducible rfl
       rotate_left
       ·simp only [Act.put, List.setIfInBounds_toArray, List.set_cons_zero, List.set_cons_succ, i64_w, i32_w]
        rfl
       refine pure_ (i := 2) (N := some 34) (v := ?_) (a' := ?_) #[true, false, true, false, false, false, false, false, false, false, false, false] rfl rfl (any_of HT_.out (by kernel_rfl)) (fun _ _ _ h => h) (Or.inl ⟨by rfl, ?_⟩) ?_ ?_
       rotate_left
       ·intro w'
        go_simp
        with_reducible rfl
       rotate_left
       ·simp only [Act.put, List.setIfInBounds_toArray, List.set_cons_zero, List.set_cons_succ, i64_w, i32_w]
        rfl
       refine pure_ (i := 3) (N := some 35) (v := ?_) (a' := ?_) #[true, false, true, true, false, false, false, false, false, false, false, false] rfl rfl (any_of HT_.out (by kernel_rfl)) (fun _ _ _ h => h) (Or.inl ⟨by rfl, ?_⟩) ?_ ?_
       rotate_left
       ·intro w'
        go_simp
        with_reducible rfl
       rotate_left
       ·simp only [Act.put, List.setIfInBounds_toArray, List.set_cons_zero, List.set_cons_succ, i64_w, i32_w]
        rfl
       refine pure_ (i := 7) (N := some 39) (v := ?_) (a' := ?_) #[true, false, true, true, false, false, false, true, false, false, false, false] rfl rfl (any_of HT_.out (by kernel_rfl)) (fun _ _ _ h => h) (Or.inl ⟨by rfl, ?_⟩) ?_ ?_
       rotate_left
       ·intro w'
        go_simp
        with_reducible rfl
       rotate_left
       ·simp only [Act.put, List.setIfInBounds_toArray, List.set_cons_zero, List.set_cons_succ, i64_w, i32_w]
        rfl
       refine take_ (i := 1) (N := some 33) (v := ?_) (a' := ?_) #[true, true, true, true, false, false, false, true, false, false, false, false] rfl rfl (take_ofW HT_.out HW_.out (by kernel_rfl)) (fun _ _ _ h => h) (Or.inl ⟨by rfl, ?_⟩) hHeld ?_ ?_
       rotate_left
       ·rintro w' ⟨s0, s1⟩
        go_simp
        with_reducible rfl
       rotate_left
       ·simp only [Act.put, List.setIfInBounds_toArray, List.set_cons_zero, List.set_cons_succ, i64_w, i32_w]
        rfl
       refine take_ (i := 4) (N := some 36) (v := ?_) (a' := ?_) #[true, true, true, true, true, false, false, true, false, false, false, false] rfl rfl (take_ofW HT_.out HW_.out (by kernel_rfl)) (fun _ _ _ h => h) (Or.inl ⟨by rfl, ?_⟩) hHeld ?_ ?_
       rotate_left
       ·rintro w' ⟨s0, s1⟩
        go_simp
        with_reducible rfl
       rotate_left
       ·simp only [Act.put, List.setIfInBounds_toArray, List.set_cons_zero, List.set_cons_succ, i64_w, i32_w]
        rfl
       refine pure_ (i := 5) (N := some 37) (v := ?_) (a' := ?_) #[true, true, true, true, true, true, false, true, false, false, false, false] rfl rfl (any_of HT_.out (by kernel_rfl)) (fun _ _ _ h => h) (Or.inl ⟨by rfl, ?_⟩) ?_ ?_
       rotate_left
       ·intro w'
        go_simp
        with_reducible rfl
       rotate_left
       ·simp only [Act.put, List.setIfInBounds_toArray, List.set_cons_zero, List.set_cons_succ, i64_w, i32_w]
        rfl
       refine join_ (σ := Value) 3 #[true, true, true, true, true, true, true, true, true, false, false, false] (fun s_ => [(38, .int .i64 t226), (40, s_)]) (fun s_ w' => (w'.cell? ⟨gb213, 0, none⟩ = some (.int .i64 t207) ∧ w'.cell? ⟨gb213, 1, none⟩ = some (.slice Ao52 t208.length co52)) ∧ (Kd.R (Kd.int .i64) 3 w' w.heap.size (fun k_ => some k_ ≠ (s_ : Value).ownBlock) (.slice Ao52 t208.length co52) t208) ∧ (Kd.R (Kd.int .i64) 3 w' w.heap.size (fun k_ => some k_ ≠ (.slice Ao52 t208.length co52 : Value).ownBlock) s_ y229) ∧ (w'.heap[gb206]? = some (.cells #[.int .i64 0, .slice none 0 0] 26 (0, 0))) ∧ (w'.heap[gb213]? = some (.cells #[.int .i64 t207, .slice Ao52 t208.length co52] 26 (0, 0))) ∧ (IsS109 w0 w' g s0_0 t227 t228) ∧ (KeepBut w w' g none) ∧ (Below w0.heap.size w0 w')) ?_ ?_
       rotate_left
       ·intro hCont
        refine two_ (i := 6) (j := 8) (Ni := some 38) (Nj := some 40) #[true, true, true, true, true, true, true, true, false, false, false, false] #[true, true, true, true, true, true, false, true, true, false, false, false] rfl rfl rfl rfl (two_of HT_.out (by kernel_rfl)) (by decide) (by decide) (fun K hK => ?_) (fun K hK => ?_)
        ·skip
         refine goes_ Try.func107 (by kernel_rfl) rfl #[.pointer (some ⟨g, 0, none⟩), .int .i64 (t208.length : Int)] (by rfl) rfl rfl lm13_ ?_
         with_reducible refine (spec_l1Cur_pick.calls g s0_0 t215 t216 (t208.length : Int) t226 t227 t228 w0 _ ?side1 ?side2 A41.out).mono ?_
         (case side1 => repeat (first | (with_reducible first | exact HI0.out | apply IsS109.alloc | apply IsS109.drewN | apply IsS109.drew | apply IsS109.set_1 | apply IsS109.set_2 | refine IsS109.far ?_ NB0_206.out _ | refine IsS109.far ?_ NB0_213.out _) | exact HI0.out))
         (case side2 => repeat (first | (with_reducible first | exact HB.out | apply below_alloc | apply pw_below_drewN | apply below_drew1 | refine below_set ?_ (IsS109.ge HI0.out) | refine below_set ?_ GE206.out | refine below_set ?_ GE213.out) | exact HB.out))
         rintro e w56 ⟨rfl, hi, hb, hk⟩
         refine ⟨_, rfl, ?_⟩
         have n0_ := am13_ (KeepBut.blk hk (g' := gb206) (o := .cells #[.int .i64 0, .slice none 0 0] 26 (0, 0)) (lb13_ BK206) NB206_0.out (by simp))
         have n1_ := am13_ (Kd.R_mono (Kd.R_keep (IsS109.apart (show IsS109 w0 _ g s0_0 t215 t216 from by repeat (first | (with_reducible first | exact HI0.out | apply IsS109.alloc | apply IsS109.drewN | apply IsS109.drew | apply IsS109.set_1 | apply IsS109.set_2 | refine IsS109.far ?_ NB0_206.out _ | refine IsS109.far ?_ NB0_213.out _) | exact HI0.out)) (lf13_ HO210) (by decide)) hk (fun _ h => h.2)) (fun _ h => h.1))
         have n2_ := am13_ (KeepBut.blk hk (g' := gb213) (o := .cells #[.int .i64 t207, .slice Ao52 t208.length co52] 26 (0, 0)) (lb13_ BK213) NB213_0.out (by simp))
         have n3_ := am13_ (KeepBut.trans (by repeat (first | (with_reducible first | exact HK.out | apply KeepBut.set_ | apply keep_drewN | apply keep_drew | apply keep_alloc | refine keep_far ?_ GW206.out _ | refine keep_far ?_ GW213.out _) | exact HK.out)) hk (.inl rfl))
         have n4_ := am13_ (hb)
         have n5_ := am13_ (hi)
         clear BK206
         clear HO210
         clear BK213
         clear HK
         clear HB
         clear HI0
         have BK206 := n0_
         have HO210 := n1_
         have BK213 := n2_
         have HK := n3_
         have HB := n4_
         have HI0 := n5_
         clear n0_ n1_ n2_ n3_ n4_ n5_
         (try clear hb)
         (try clear hb2)
         (try clear hk)
         (try clear hi)
         refine hK.out _ _ ⟨(blk_cell BK213.out 0).trans rfl, (blk_cell BK213.out 1).trans rfl⟩ (fun hHeld => ?_)
         clear hK K
         refine norm_ (a' := ?_) ?_ ?_
         rotate_left
         ·show Act.put _ (some 38) _ = _
          simp only [Act.put, List.setIfInBounds_toArray, List.set_cons_zero, List.set_cons_succ, i64_w, i32_w]
          rfl
         refine one_ (i := 8) (N := some 40) #[true, true, true, true, true, true, true, true, true, false, false, false] rfl rfl (one_of HT_.out (by kernel_rfl)) (by decide) (fun K hK => ?_)
         refine Kd.R_lit_step (Kd.int .i64) _ 3 ?hg (N := 40) ?hd (xs := ([(-1), 65535, 65536, 40000] : List Int)) (inner := [.int .i64 (-1), .int .i64 65535, .int .i64 65536, .int .i64 40000]) (ok := fun _ => True) (okp := fun _ => True) ?hr ?hp (fun _ hk => hk) trivial (Below.refl _ _) (Nat.le_refl _) (by simp) ?_; (case hd => rfl); (case hg => rfl); (case hr => first | (go_simp; done) | (go_simp; rfl)); (case hp => exact (Reps.one (show Kd.M (Kd.int .i64) _ _ _ (-1) [.int .i64 (-1)] from rfl) (Reps.one (show Kd.M (Kd.int .i64) _ _ _ 65535 [.int .i64 65535] from rfl) (Reps.one (show Kd.M (Kd.int .i64) _ _ _ 65536 [.int .i64 65536] from rfl) (Reps.one (show Kd.M (Kd.int .i64) _ _ _ 40000 [.int .i64 40000] from rfl) (Reps.none _ _))))))
         intro v230 w57 ho58 hb hg_ hnew_
         clear hg_ hnew_
         (first | rw [← Ny229.out] at ho58 | (simp only [Int.reduceToNat] at ho58; rw [← Ny229.out] at ho58))
         have n0_ := am13_ (Kd.R_elder' (lf13_ HO210) (Kd.R_base ho58) hb)
         have n1_ := am13_ (Kd.R_lower (Kd.R_new' ho58 (Kd.R_lt (lf13_ HO210))) (keep_size (w := w) (g := g) (row := none) (by repeat (first | (with_reducible first | exact HK.out | apply KeepBut.set_ | apply keep_drewN | apply keep_drew | apply keep_alloc | refine keep_far ?_ GW206.out _ | refine keep_far ?_ GW213.out _) | exact HK.out))))
         have n2_ := am13_ (IsS109.below (by repeat (first | (with_reducible first | exact HI0.out | apply IsS109.alloc | apply IsS109.drewN | apply IsS109.drew | apply IsS109.set_1 | apply IsS109.set_2 | refine IsS109.far ?_ NB0_206.out _ | refine IsS109.far ?_ NB0_213.out _) | exact HI0.out)) hb)
         have n3_ := am13_ (blk_below (g := gb206) (o := .cells #[.int .i64 0, .slice none 0 0] 26 (0, 0)) (lb13_ BK206) hb)
         have n4_ := am13_ (blk_below (g := gb213) (o := .cells #[.int .i64 t207, .slice Ao52 t208.length co52] 26 (0, 0)) (lb13_ BK213) hb)
         have n5_ := am13_ (KeepBut.trans (by repeat (first | (with_reducible first | exact HK.out | apply KeepBut.set_ | apply keep_drewN | apply keep_drew | apply keep_alloc | refine keep_far ?_ GW206.out _ | refine keep_far ?_ GW213.out _) | exact HK.out)) (KeepBut.of_below hb g none) (.inl rfl))
         have n6_ := am13_ (below_step (by repeat (first | (with_reducible first | exact HB.out | apply below_alloc | apply pw_below_drewN | apply below_drew1 | refine below_set ?_ (IsS109.ge HI0.out) | refine below_set ?_ GE206.out | refine below_set ?_ GE213.out) | exact HB.out)) hb)
         clear HO210
         clear HI0
         clear BK206
         clear BK213
         clear HK
         clear HB
         have HO210 := n0_
         have HO231 := n1_
         have HI0 := n2_
         have BK206 := n3_
         have BK213 := n4_
         have HK := n5_
         have HB := n6_
         clear n0_ n1_ n2_ n3_ n4_ n5_ n6_
         clear hb ho58
         refine hK.out _ _ ⟨(blk_cell BK213.out 0).trans rfl, (blk_cell BK213.out 1).trans rfl⟩ (fun hHeld => ?_)
         clear hK K
         refine norm_ (a' := ?_) ?_ ?_
         rotate_left
         ·show Act.put _ (some 40) _ = _
          simp only [Act.put, List.setIfInBounds_toArray, List.set_cons_zero, List.set_cons_succ, i64_w, i32_w]
          rfl
         exact norm_ (by simp only [putAll, Act.put, List.setIfInBounds_toArray, List.set_cons_zero, List.set_cons_succ]) (hCont (v230) _ ⟨hHeld, (by (with_reducible repeat (first | apply Kd.R_alloc | apply Kd.R_drewN | apply Kd.R_drew)); exact Kd.R_mono HO210.out (fun _ hk => hk.2)), (by (with_reducible repeat (first | apply Kd.R_alloc | apply Kd.R_drewN | apply Kd.R_drew)); exact Kd.R_mono HO231.out (fun _ hk => hk.2)), (lb13_ BK206), (lb13_ BK213), (by repeat (first | (with_reducible first | exact HI0.out | apply IsS109.alloc | apply IsS109.drewN | apply IsS109.drew | apply IsS109.set_1 | apply IsS109.set_2 | refine IsS109.far ?_ NB0_206.out _ | refine IsS109.far ?_ NB0_213.out _) | exact HI0.out)), (by repeat (first | (with_reducible first | exact HK.out | apply KeepBut.set_ | apply keep_drewN | apply keep_drew | apply keep_alloc | refine keep_far ?_ GW206.out _ | refine keep_far ?_ GW213.out _) | exact HK.out)), (by repeat (first | (with_reducible first | exact HB.out | apply below_alloc | apply pw_below_drewN | apply below_drew1 | refine below_set ?_ (IsS109.ge HI0.out) | refine below_set ?_ GE206.out | refine below_set ?_ GE213.out) | exact HB.out))⟩)
        ·skip
         refine Kd.R_lit_step (Kd.int .i64) _ 3 ?hg (N := 40) ?hd (xs := ([(-1), 65535, 65536, 40000] : List Int)) (inner := [.int .i64 (-1), .int .i64 65535, .int .i64 65536, .int .i64 40000]) (ok := fun _ => True) (okp := fun _ => True) ?hr ?hp (fun _ hk => hk) trivial (Below.refl _ _) (Nat.le_refl _) (by simp) ?_; (case hd => rfl); (case hg => rfl); (case hr => first | (go_simp; done) | (go_simp; rfl)); (case hp => exact (Reps.one (show Kd.M (Kd.int .i64) _ _ _ (-1) [.int .i64 (-1)] from rfl) (Reps.one (show Kd.M (Kd.int .i64) _ _ _ 65535 [.int .i64 65535] from rfl) (Reps.one (show Kd.M (Kd.int .i64) _ _ _ 65536 [.int .i64 65536] from rfl) (Reps.one (show Kd.M (Kd.int .i64) _ _ _ 40000 [.int .i64 40000] from rfl) (Reps.none _ _))))))
         intro v230 w56 ho57 hb hg_ hnew_
         clear hg_ hnew_
         (first | rw [← Ny229.out] at ho57 | (simp only [Int.reduceToNat] at ho57; rw [← Ny229.out] at ho57))
         have n0_ := am13_ (Kd.R_elder' (lf13_ HO210) (Kd.R_base ho57) hb)
         have n1_ := am13_ (Kd.R_lower (Kd.R_new' ho57 (Kd.R_lt (lf13_ HO210))) (keep_size (w := w) (g := g) (row := none) (by repeat (first | (with_reducible first | exact HK.out | apply KeepBut.set_ | apply keep_drewN | apply keep_drew | apply keep_alloc | refine keep_far ?_ GW206.out _ | refine keep_far ?_ GW213.out _) | exact HK.out))))
         have n2_ := am13_ (IsS109.below (by repeat (first | (with_reducible first | exact HI0.out | apply IsS109.alloc | apply IsS109.drewN | apply IsS109.drew | apply IsS109.set_1 | apply IsS109.set_2 | refine IsS109.far ?_ NB0_206.out _ | refine IsS109.far ?_ NB0_213.out _) | exact HI0.out)) hb)
         have n3_ := am13_ (blk_below (g := gb206) (o := .cells #[.int .i64 0, .slice none 0 0] 26 (0, 0)) (lb13_ BK206) hb)
         have n4_ := am13_ (blk_below (g := gb213) (o := .cells #[.int .i64 t207, .slice Ao52 t208.length co52] 26 (0, 0)) (lb13_ BK213) hb)
         have n5_ := am13_ (KeepBut.trans (by repeat (first | (with_reducible first | exact HK.out | apply KeepBut.set_ | apply keep_drewN | apply keep_drew | apply keep_alloc | refine keep_far ?_ GW206.out _ | refine keep_far ?_ GW213.out _) | exact HK.out)) (KeepBut.of_below hb g none) (.inl rfl))
         have n6_ := am13_ (below_step (by repeat (first | (with_reducible first | exact HB.out | apply below_alloc | apply pw_below_drewN | apply below_drew1 | refine below_set ?_ (IsS109.ge HI0.out) | refine below_set ?_ GE206.out | refine below_set ?_ GE213.out) | exact HB.out)) hb)
         clear HO210
         clear HI0
         clear BK206
         clear BK213
         clear HK
         clear HB
         have HO210 := n0_
         have HO231 := n1_
         have HI0 := n2_
         have BK206 := n3_
         have BK213 := n4_
         have HK := n5_
         have HB := n6_
         clear n0_ n1_ n2_ n3_ n4_ n5_ n6_
         clear hb ho57
         refine hK.out _ _ ⟨(blk_cell BK213.out 0).trans rfl, (blk_cell BK213.out 1).trans rfl⟩ (fun hHeld => ?_)
         clear hK K
         refine norm_ (a' := ?_) ?_ ?_
         rotate_left
         ·show Act.put _ (some 40) _ = _
          simp only [Act.put, List.setIfInBounds_toArray, List.set_cons_zero, List.set_cons_succ, i64_w, i32_w]
          rfl
         refine one_ (i := 6) (N := some 38) #[true, true, true, true, true, true, true, true, true, false, false, false] rfl rfl (one_of HT_.out (by kernel_rfl)) (by decide) (fun K hK => ?_)
         refine goes_ Try.func107 (by kernel_rfl) rfl #[.pointer (some ⟨g, 0, none⟩), .int .i64 (t208.length : Int)] (by rfl) rfl rfl lm13_ ?_
         with_reducible refine (spec_l1Cur_pick.calls g s0_0 t215 t216 (t208.length : Int) t226 t227 t228 w0 _ ?side1 ?side2 A41.out).mono ?_
         (case side1 => repeat (first | (with_reducible first | exact HI0.out | apply IsS109.alloc | apply IsS109.drewN | apply IsS109.drew | apply IsS109.set_1 | apply IsS109.set_2 | refine IsS109.far ?_ NB0_206.out _ | refine IsS109.far ?_ NB0_213.out _) | exact HI0.out))
         (case side2 => repeat (first | (with_reducible first | exact HB.out | apply below_alloc | apply pw_below_drewN | apply below_drew1 | refine below_set ?_ (IsS109.ge HI0.out) | refine below_set ?_ GE206.out | refine below_set ?_ GE213.out) | exact HB.out))
         rintro e w58 ⟨rfl, hi, hb, hk⟩
         refine ⟨_, rfl, ?_⟩
         have n0_ := am13_ (KeepBut.blk hk (g' := gb206) (o := .cells #[.int .i64 0, .slice none 0 0] 26 (0, 0)) (lb13_ BK206) NB206_0.out (by simp))
         have n1_ := am13_ (Kd.R_mono (Kd.R_keep (IsS109.apart (show IsS109 w0 _ g s0_0 t215 t216 from by repeat (first | (with_reducible first | exact HI0.out | apply IsS109.alloc | apply IsS109.drewN | apply IsS109.drew | apply IsS109.set_1 | apply IsS109.set_2 | refine IsS109.far ?_ NB0_206.out _ | refine IsS109.far ?_ NB0_213.out _) | exact HI0.out)) (lf13_ HO210) (by decide)) hk (fun _ h => h.2)) (fun _ h => h.1))
         have n2_ := am13_ (KeepBut.blk hk (g' := gb213) (o := .cells #[.int .i64 t207, .slice Ao52 t208.length co52] 26 (0, 0)) (lb13_ BK213) NB213_0.out (by simp))
         have n3_ := am13_ (Kd.R_mono (Kd.R_keep (IsS109.apart (show IsS109 w0 _ g s0_0 t215 t216 from by repeat (first | (with_reducible first | exact HI0.out | apply IsS109.alloc | apply IsS109.drewN | apply IsS109.drew | apply IsS109.set_1 | apply IsS109.set_2 | refine IsS109.far ?_ NB0_206.out _ | refine IsS109.far ?_ NB0_213.out _) | exact HI0.out)) (lf13_ HO231) (by decide)) hk (fun _ h => h.2)) (fun _ h => h.1))
         have n4_ := am13_ (KeepBut.trans (by repeat (first | (with_reducible first | exact HK.out | apply KeepBut.set_ | apply keep_drewN | apply keep_drew | apply keep_alloc | refine keep_far ?_ GW206.out _ | refine keep_far ?_ GW213.out _) | exact HK.out)) hk (.inl rfl))
         have n5_ := am13_ (hb)
         have n6_ := am13_ (hi)
         clear BK206
         clear HO210
         clear BK213
         clear HO231
         clear HK
         clear HB
         clear HI0
         have BK206 := n0_
         have HO210 := n1_
         have BK213 := n2_
         have HO231 := n3_
         have HK := n4_
         have HB := n5_
         have HI0 := n6_
         clear n0_ n1_ n2_ n3_ n4_ n5_ n6_
         (try clear hb)
         (try clear hb2)
         (try clear hk)
         (try clear hi)
         refine hK.out _ _ ⟨(blk_cell BK213.out 0).trans rfl, (blk_cell BK213.out 1).trans rfl⟩ (fun hHeld => ?_)
         clear hK K
         refine norm_ (a' := ?_) ?_ ?_
         rotate_left
         ·show Act.put _ (some 38) _ = _
          simp only [Act.put, List.setIfInBounds_toArray, List.set_cons_zero, List.set_cons_succ, i64_w, i32_w]
          rfl
         exact norm_ (by simp only [putAll, Act.put, List.setIfInBounds_toArray, List.set_cons_zero, List.set_cons_succ]) (hCont (v230) _ ⟨hHeld, (by (with_reducible repeat (first | apply Kd.R_alloc | apply Kd.R_drewN | apply Kd.R_drew)); exact Kd.R_mono HO210.out (fun _ hk => hk.2)), (by (with_reducible repeat (first | apply Kd.R_alloc | apply Kd.R_drewN | apply Kd.R_drew)); exact Kd.R_mono HO231.out (fun _ hk => hk.2)), (lb13_ BK206), (lb13_ BK213), (by repeat (first | (with_reducible first | exact HI0.out | apply IsS109.alloc | apply IsS109.drewN | apply IsS109.drew | apply IsS109.set_1 | apply IsS109.set_2 | refine IsS109.far ?_ NB0_206.out _ | refine IsS109.far ?_ NB0_213.out _) | exact HI0.out)), (by repeat (first | (with_reducible first | exact HK.out | apply KeepBut.set_ | apply keep_drewN | apply keep_drew | apply keep_alloc | refine keep_far ?_ GW206.out _ | refine keep_far ?_ GW213.out _) | exact HK.out)), (by repeat (first | (with_reducible first | exact HB.out | apply below_alloc | apply pw_below_drewN | apply below_drew1 | refine below_set ?_ (IsS109.ge HI0.out) | refine below_set ?_ GE206.out | refine below_set ?_ GE213.out) | exact HB.out))⟩)
       rintro v230 w59 ⟨hS_, h0_, h1_, h2_, h3_, h4_, h5_, h6_⟩
       have n0_ : Aside0 (Kd.R (Kd.int .i64) 3 w59 w.heap.size (fun k_ => some k_ ≠ (v230 : Value).ownBlock) (.slice Ao52 t208.length co52) t208) := ⟨h0_⟩
       have n1_ : Aside0 (Kd.R (Kd.int .i64) 3 w59 w.heap.size (fun k_ => some k_ ≠ (.slice Ao52 t208.length co52 : Value).ownBlock) v230 y229) := ⟨h1_⟩
       have n2_ : Aside0 (w59.heap[gb206]? = some (.cells #[.int .i64 0, .slice none 0 0] 26 (0, 0))) := ⟨h2_⟩
       have n3_ : Aside0 (w59.heap[gb213]? = some (.cells #[.int .i64 t207, .slice Ao52 t208.length co52] 26 (0, 0))) := ⟨h3_⟩
       have n4_ : Aside0 (IsS109 w0 w59 g s0_0 t227 t228) := ⟨h4_⟩
       have n5_ : Aside0 (KeepBut w w59 g none) := ⟨h5_⟩
       have n6_ : Aside0 (Below w0.heap.size w0 w59) := ⟨h6_⟩
       clear HO210
       clear BK206
       clear BK213
       clear HI0
       clear HK
       clear HB
       clear h0_ h1_ h2_ h3_ h4_ h5_ h6_
       have HO210 := n0_
       have HO231 := n1_
       have BK206 := n2_
       have BK213 := n3_
       have HI0 := n4_
       have HK := n5_
       have HB := n6_
       clear n0_ n1_ n2_ n3_ n4_ n5_ n6_
       have hHeld : w59.cell? ⟨gb213, 0, none⟩ = some (.int .i64 t207) ∧ w59.cell? ⟨gb213, 1, none⟩ = some (.slice Ao52 t208.length co52) := hS_
       obtain ⟨Ao60, co60, eo60⟩ := Kd.R_slice HO231.out
       (first | subst eo60 | (injection eo60 with f1_ f2_ f3_; have f4_ := f1_.symm; have f5_ := f3_.symm; clear f1_ f2_ f3_; subst f4_; subst f5_))
       refine norm_ (a' := ?_) ?_ ?_
       rotate_left
       ·simp only [putAll, Act.put, List.setIfInBounds_toArray, List.set_cons_zero, List.set_cons_succ]
        rfl
       refine one_ (i := 9) (N := some 41) #[true, true, true, true, true, true, true, true, true, true, false, false] rfl rfl (one_of HT_.out (by kernel_rfl)) (by decide) (fun K hK => ?_)
       refine goes_ Try.func114 (by kernel_rfl) rfl #[.pointer (some ⟨g, 0, none⟩), .slice Ao60 y229.length co60] (by rfl) rfl rfl lm13_ ?_
       with_reducible refine (spec_l1Cur_among.calls g s0_0 t227 t228 _ _ y229 t232 t233 t234 w0 _ ?side1 ?side2 ?side3 ?side4 ?side5 A42.out).mono ?_
       (case side1 => repeat (first | (with_reducible first | exact HI0.out | apply IsS109.alloc | apply IsS109.drewN | apply IsS109.drew | apply IsS109.set_1 | apply IsS109.set_2 | refine IsS109.far ?_ NB0_206.out _ | refine IsS109.far ?_ NB0_213.out _) | exact HI0.out))
       (case side2 => repeat (first | (with_reducible first | exact HB.out | apply below_alloc | apply pw_below_drewN | apply below_drew1 | refine below_set ?_ (IsS109.ge HI0.out) | refine below_set ?_ GE206.out | refine below_set ?_ GE213.out) | exact HB.out))
       (case side3 => exact lc13_ (Kd.R_reads' HO231.out).2.2)
       (case side4 => exact (Kd.R_reads' HO231.out).2.1)
       (case side5 => exact far_slice (IsS109.own_ne HI0.out HO231.out (by decide)))
       rintro e w61 ⟨rfl, hi, hb, hk⟩
       refine ⟨_, rfl, ?_⟩
       have n0_ := am13_ (KeepBut.blk hk (g' := gb206) (o := .cells #[.int .i64 0, .slice none 0 0] 26 (0, 0)) (lb13_ BK206) NB206_0.out (by simp))
       have n1_ := am13_ (Kd.R_mono (Kd.R_keep (IsS109.apart (show IsS109 w0 _ g s0_0 t227 t228 from by repeat (first | (with_reducible first | exact HI0.out | apply IsS109.alloc | apply IsS109.drewN | apply IsS109.drew | apply IsS109.set_1 | apply IsS109.set_2 | refine IsS109.far ?_ NB0_206.out _ | refine IsS109.far ?_ NB0_213.out _) | exact HI0.out)) (lf13_ HO210) (by decide)) hk (fun _ h => h.2)) (fun _ h => h.1))
       have n2_ := am13_ (KeepBut.blk hk (g' := gb213) (o := .cells #[.int .i64 t207, .slice Ao52 t208.length co52] 26 (0, 0)) (lb13_ BK213) NB213_0.out (by simp))
       have n3_ := am13_ (Kd.R_mono (Kd.R_keep (IsS109.apart (show IsS109 w0 _ g s0_0 t227 t228 from by repeat (first | (with_reducible first | exact HI0.out | apply IsS109.alloc | apply IsS109.drewN | apply IsS109.drew | apply IsS109.set_1 | apply IsS109.set_2 | refine IsS109.far ?_ NB0_206.out _ | refine IsS109.far ?_ NB0_213.out _) | exact HI0.out)) (lf13_ HO231) (by decide)) hk (fun _ h => h.2)) (fun _ h => h.1))
       have n4_ := am13_ (KeepBut.trans (by repeat (first | (with_reducible first | exact HK.out | apply KeepBut.set_ | apply keep_drewN | apply keep_drew | apply keep_alloc | refine keep_far ?_ GW206.out _ | refine keep_far ?_ GW213.out _) | exact HK.out)) hk (.inl rfl))
       have n5_ := am13_ (hb)
       have n6_ := am13_ (hi)
       clear BK206
       clear HO210
       clear BK213
       clear HO231
       clear HK
       clear HB
       clear HI0
       have BK206 := n0_
       have HO210 := n1_
       have BK213 := n2_
       have HO231 := n3_
       have HK := n4_
       have HB := n5_
       have HI0 := n6_
       clear n0_ n1_ n2_ n3_ n4_ n5_ n6_
       (try clear hb)
       (try clear hb2)
       (try clear hk)
       (try clear hi)
       have p45 : 0 ≤ (t226 : Int) := of_decide_eq_true (by first | (with_reducible assumption) | assumption)
       have q45 : (t226 : Int) < ((t208.length : Int) : Int) := of_decide_eq_true (by first | (with_reducible assumption) | assumption)
       obtain ⟨go45, co45, eo45, gb45, gl45, cl45, HG45⟩ := Kd.R_form HO210.out (by omega)
       (first | cases eo45 | (injection eo45 with ea_ en_ ec_; (first | subst ea_ | (injection ea_ with ea_; subst ea_)); subst ec_; clear en_))
       have GB45 := am13_ gb45
       have GG45 := am13_ HG45
       clear gb45 gl45 HG45
       obtain ⟨hx45_0, hf45_0⟩ := Kd.R_celln 0 HO210.out (t226 : Int) p45 q45
       replace p45 := eq_true p45
       replace q45 := eq_true q45
       have HN0_go45 := am13_ (show g ≠ go45 from by have h_ := IsS109.own_ne HI0.out HO210.out (by decide); intro e_; exact h_ (by rw [e_]; rfl))
       have HP62 := Kd.R_putn HO210.out (t226 : Int) t232
       rw [← Ny235.out] at HP62
       have HQ62 := am13_ HP62
       clear HP62
       refine hK.out _ _ ⟨(blk_cell BK213.out 0).trans rfl, (blk_cell BK213.out 1).trans rfl⟩ (fun hHeld => ?_)
       clear hK K
       refine norm_ (a' := ?_) ?_ ?_
       rotate_left
       ·show Act.put _ (some 41) _ = _
        simp only [Act.put, List.setIfInBounds_toArray, List.set_cons_zero, List.set_cons_succ, i64_w, i32_w]
        rfl
       refine pure_ (i := 10) (N := some 42) (v := ?_) (a' := ?_) #[true, true, true, true, true, true, true, true, true, true, true, false] rfl rfl (any_of HT_.out (by kernel_rfl)) (fun _ _ _ h => h) (Or.inl ⟨by rfl, ?_⟩) ?_ ?_
       rotate_left
       ·intro w'
        go_simp
        with_reducible rfl
       rotate_left
       ·simp only [Act.put, List.setIfInBounds_toArray, List.set_cons_zero, List.set_cons_succ, i64_w, i32_w]
        rfl
       refine last_ (i := 11) (N := none) #[true, true, true, true, true, true, true, true, true, true, true, true] rfl rfl (one_of HT_.out (by kernel_rfl)) (by decide) (fun K hK => ?_)
       refine skip_ (w1 := ?_) (by rfl) rfl ?_ ?_
       rotate_left
       ·go_simp
        rfl
       refine hK.out _ _ ?_
       clear hK K
       refine done_ (done_of HT_.out (by kernel_rfl)) ?_
       have n0_ : Aside0 (Kd.R (Kd.int .i64) 3 (w61.setCell ⟨go45, (t226 : Int).toNat, none⟩ (.int .i64 t232)) w.heap.size (fun k_ => some k_ ≠ (.slice Ao60 y229.length co60 : Value).ownBlock) (.slice (some ⟨go45, 0, none⟩) t208.length co52) y235) := ⟨lf13_ HQ62⟩
       have n1_ : Aside0 (Kd.R (Kd.int .i64) 3 (w61.setCell ⟨go45, (t226 : Int).toNat, none⟩ (.int .i64 t232)) w.heap.size (fun k_ => some k_ ≠ (.slice (some ⟨go45, 0, none⟩) t208.length co52 : Value).ownBlock) (.slice Ao60 y229.length co60) y229) := ⟨by (with_reducible repeat (first | apply Kd.R_alloc | apply Kd.R_drewN | apply Kd.R_drew)); exact Kd.R_mono (Kd.R_far (p := ⟨go45, (t226 : Int).toNat, none⟩) (Kd.R_mono HO231.out (fun k_ hk => (⟨hk, fun e_ => hk (by rw [e_]; rfl)⟩ : _ ∧ k_ ≠ go45))) (fun _ hk => hk.2) (.int .i64 t232)) (fun _ hk => hk.1)⟩
       have n2_ : Aside0 ((w61.setCell ⟨go45, (t226 : Int).toNat, none⟩ (.int .i64 t232)).heap[gb206]? = some (.cells #[.int .i64 0, .slice none 0 0] 26 (0, 0))) := ⟨by (with_reducible repeat (first | refine blk_drewN ?_ _ | refine blk_drew ?_ | refine blk_alloc ?_ _)); refine blk_far ?_ (by have h_ := Kd.R_ne HO210.out BK206.out (by decide); intro e_; exact h_ (by rw [e_]; rfl)) _; (with_reducible repeat (first | refine blk_drewN ?_ _ | refine blk_drew ?_ | refine blk_alloc ?_ _)); exact BK206.out⟩
       have n3_ : Aside0 ((w61.setCell ⟨go45, (t226 : Int).toNat, none⟩ (.int .i64 t232)).heap[gb213]? = some (.cells #[.int .i64 t207, .slice (some ⟨go45, 0, none⟩) t208.length co52] 26 (0, 0))) := ⟨by (with_reducible repeat (first | refine blk_drewN ?_ _ | refine blk_drew ?_ | refine blk_alloc ?_ _)); refine blk_far ?_ (by have h_ := Kd.R_ne HO210.out BK213.out (by decide); intro e_; exact h_ (by rw [e_]; rfl)) _; (with_reducible repeat (first | refine blk_drewN ?_ _ | refine blk_drew ?_ | refine blk_alloc ?_ _)); exact BK213.out⟩
       have n4_ : Aside0 (IsS109 w0 (w61.setCell ⟨go45, (t226 : Int).toNat, none⟩ (.int .i64 t232)) g s0_0 t233 t234) := ⟨by repeat (first | (with_reducible first | exact HI0.out | apply IsS109.alloc | apply IsS109.drewN | apply IsS109.drew | apply IsS109.set_1 | apply IsS109.set_2 | refine IsS109.far ?_ HN0_go45.out _ | refine IsS109.far ?_ NB0_206.out _ | refine IsS109.far ?_ NB0_213.out _) | exact HI0.out)⟩
       have n5_ : Aside0 (KeepBut w (w61.setCell ⟨go45, (t226 : Int).toNat, none⟩ (.int .i64 t232)) g none) := ⟨by repeat (first | (with_reducible first | exact HK.out | apply KeepBut.set_ | apply keep_drewN | apply keep_drew | apply keep_alloc | refine keep_far ?_ GB45.out _ | refine keep_far ?_ GW206.out _ | refine keep_far ?_ GW213.out _) | exact HK.out)⟩
       have n6_ : Aside0 (Below w0.heap.size w0 (w61.setCell ⟨go45, (t226 : Int).toNat, none⟩ (.int .i64 t232))) := ⟨by repeat (first | (with_reducible first | exact HB.out | apply below_alloc | apply pw_below_drewN | apply below_drew1 | refine below_set ?_ (Nat.le_trans HL.out GB45.out) | refine below_set ?_ (IsS109.ge HI0.out) | refine below_set ?_ GE206.out | refine below_set ?_ GE213.out) | exact HB.out)⟩
       (try clear HO210)
       (try clear HO231)
       (try clear BK206)
       (try clear BK213)
       (try clear HI0)
       (try clear HK)
       (try clear HB)
       generalize (w61.setCell ⟨go45, (t226 : Int).toNat, none⟩ (.int .i64 t232)) = w63 at n0_ n1_ n2_ n3_ n4_ n5_ n6_ ⊢
       have HO210 := n0_
       have HO231 := n1_
       have BK206 := n2_
       have BK213 := n3_
       have HI0 := n4_
       have HK := n5_
       have HB := n6_
       clear n0_ n1_ n2_ n3_ n4_ n5_ n6_
       have hcz64_0 : w63.cell? ⟨gb213, 0, none⟩ = some (.int .i64 t207) := (blk_cell BK213.out 0).trans rfl
       have hcz64_1 : w63.cell? ⟨gb213, 1, none⟩ = some (.slice (some ⟨go45, 0, none⟩) t208.length co52) := (blk_cell BK213.out 1).trans rfl
       have hfz64_0 := blk_frozen BK213.out 0
       have hfz64_1 := blk_frozen BK213.out 1
       have hnb65 := NB206_0.out
       have hnc65 := NB0_206.out
       have hcz66_0 : w63.cell? ⟨gb206, 0, none⟩ = some (.int .i64 0) := (blk_cell BK206.out 0).trans rfl
       have hcz66_1 : w63.cell? ⟨gb206, 1, none⟩ = some (.slice none 0 0) := (blk_cell BK206.out 1).trans rfl
       have hfz66_0 := blk_frozen BK206.out 0
       have hfz66_1 := blk_frozen BK206.out 1
       try go_wp2
       refine bodyPost_ret (results_cell_row rfl _ _ gb206 26 #[.int .i64 t207, .slice (some ⟨go45, 0, none⟩) t208.length co52] (0, 0) _ rfl (by (with_reducible repeat (first | refine blk_drewN ?_ _ | refine blk_drew ?_ | refine blk_alloc ?_ _)); refine blk_put (cs := #[.int .i64 t207, .slice none 0 0]) ?_ 1 _ rfl; (with_reducible repeat (first | refine blk_drewN ?_ _ | refine blk_drew ?_ | refine blk_alloc ?_ _)); refine blk_put (cs := #[.int .i64 0, .slice none 0 0]) ?_ 0 _ rfl; (with_reducible repeat (first | refine blk_drewN ?_ _ | refine blk_drew ?_ | refine blk_alloc ?_ _)); exact BK206.out) Try.underlying26 rfl (by kernel_rfl)) rfl ?_
       exact ⟨_, by first | rfl | (simp [errW_none, errW_some] <;> rfl) | (simp [*, errW_none, errW_some] <;> rfl), by (with_reducible repeat (first | apply Kd.R_alloc | apply Kd.R_drewN | apply Kd.R_drew)); exact Kd.R_mono (Kd.R_far (p := ⟨gb206, 1, none⟩) (Kd.R_far (p := ⟨gb206, 0, none⟩) (Kd.R_types HO210.out BK206.out (by decide)) (fun _ hk => hk.2) (.int .i64 t207)) (fun _ hk => hk.2) (.slice (some ⟨go45, 0, none⟩) t208.length co52)) (fun _ hk => trivial), by repeat (first | (with_reducible first | exact HI0.out | apply IsS109.alloc | apply IsS109.drewN | apply IsS109.drew | apply IsS109.set_1 | apply IsS109.set_2 | refine IsS109.far ?_ NB0_206.out _ | refine IsS109.far ?_ NB0_213.out _) | exact HI0.out), by repeat (first | (with_reducible first | exact HB.out | apply below_alloc | apply pw_below_drewN | apply below_drew1 | refine below_set ?_ (IsS109.ge HI0.out) | refine below_set ?_ GE206.out | refine below_set ?_ GE213.out) | exact HB.out), by repeat (first | (with_reducible first | exact HK.out | apply KeepBut.set_ | apply keep_drewN | apply keep_drew | apply keep_alloc | refine keep_far ?_ GW206.out _ | refine keep_far ?_ GW213.out _) | exact HK.out)⟩
      ·rw [if_neg c44] at H
       exact absurd H (by simp)
     ·rw [if_neg c43] at H
      exact absurd H (by simp)
    ·rw [if_neg c40] at H
     have c40b0 : decide (0 < (t208.length : Int)) = false := decide_eq_false c40
     have c40b1 : decide (0 < t208.length) = false := decide_eq_false (by omega)
     clear c40
     simp only [Option.some.injEq, Prod.mk.injEq] at H
     obtain ⟨rfl, rfl, rfl, rfl⟩ := H
     go_enter Try.func103, Try.ntmps103
     go_wp2_with (first | ((with_reducible refine gate_dst (N := 2) rfl ?_); refine box_event ?hg (N := 2) ?hd (cs := #[.int .i64 0, .slice none 0 0]) (t := 26) ?hr ?_; (case hd => rfl); (case hg => rfl); (case hr => first | (go_simp; done) | (go_simp; rfl)); intro gb206 hg w67 hbox hb; have n0_ := am13_ (IsS109.below (by repeat (first | (with_reducible first | exact HI0.out | apply IsS109.alloc | apply IsS109.drewN | apply IsS109.drew | apply IsS109.set_1 | apply IsS109.set_2) | exact HI0.out)) hb); have n1_ := am13_ (KeepBut.trans (by repeat (first | (with_reducible first | exact HK.out | apply KeepBut.set_ | apply keep_drewN | apply keep_drew | apply keep_alloc) | exact HK.out)) (KeepBut.of_below hb g none) (.inl rfl)); have n2_ := am13_ (below_step (by repeat (first | (with_reducible first | exact HB.out | apply below_alloc | apply pw_below_drewN | apply below_drew1 | refine below_set ?_ (IsS109.ge HI0.out)) | exact HB.out)) hb); have n3_ := am13_ (hbox); have n4_ := am13_ ((by rw [hg]; exact (keep_size (w := w) (g := g) (row := none) (by repeat (first | (with_reducible first | exact HK.out | apply KeepBut.set_ | apply keep_drewN | apply keep_drew | apply keep_alloc) | exact HK.out))) : w.heap.size ≤ gb206)); have n5_ := am13_ ((Nat.le_trans HW0.out (by rw [hg]; exact (keep_size (w := w) (g := g) (row := none) (by repeat (first | (with_reducible first | exact HK.out | apply KeepBut.set_ | apply keep_drewN | apply keep_drew | apply keep_alloc) | exact HK.out))) : w.heap.size ≤ gb206) : w0.heap.size ≤ gb206)); have n6_ := am13_ ((by rw [hg]; exact Nat.ne_of_lt (IsS109.lt (show IsS109 w0 _ g s0_0 s0_1 s0_2 from by repeat (first | (with_reducible first | exact HI0.out | apply IsS109.alloc | apply IsS109.drewN | apply IsS109.drew | apply IsS109.set_1 | apply IsS109.set_2) | exact HI0.out))) : g ≠ gb206)); have n7_ := am13_ ((by rw [hg]; exact Nat.ne_of_gt (IsS109.lt (show IsS109 w0 _ g s0_0 s0_1 s0_2 from by repeat (first | (with_reducible first | exact HI0.out | apply IsS109.alloc | apply IsS109.drewN | apply IsS109.drew | apply IsS109.set_1 | apply IsS109.set_2) | exact HI0.out))) : gb206 ≠ g)); clear HI0; clear HK; clear HB; have HI0 := n0_; have HK := n1_; have HB := n2_; have BK206 := n3_; have GW206 := n4_; have GE206 := n5_; have NB0_206 := n6_; have NB206_0 := n7_; clear n0_ n1_ n2_ n3_ n4_ n5_ n6_ n7_; clear hb hbox hg) | ((with_reducible refine gate_callee (f := 108) rfl ?_); refine goesL_ (some 5) rfl rfl Try.func108 (by kernel_rfl) rfl #[.pointer (some ⟨g, 0, none⟩), .int .i64 40] rfl lm13_ ?_; (with_reducible refine (spec_l1Cur_bits.calls k g s0_0 s0_1 s0_2 40 t207 t208 t211 t212 w0 _ ?side1 ?side2 A2.out).mono ?_); (case side1 => repeat (first | (with_reducible first | exact HI0.out | apply IsS109.alloc | apply IsS109.drewN | apply IsS109.drew | apply IsS109.set_1 | apply IsS109.set_2 | refine IsS109.far ?_ NB0_206.out _) | exact HI0.out)); (case side2 => repeat (first | (with_reducible first | exact HB.out | apply below_alloc | apply pw_below_drewN | apply below_drew1 | refine below_set ?_ (IsS109.ge HI0.out) | refine below_set ?_ GE206.out) | exact HB.out)); rintro e w68 ⟨v209, rfl, ho0, hi, hb, hk⟩; refine ⟨_, rfl, ?_⟩; have n0_ := am13_ (KeepBut.blk hk (g' := gb206) (o := .cells #[.int .i64 0, .slice none 0 0] 26 (0, 0)) (lb13_ BK206) NB206_0.out (by simp)); have n1_ := am13_ (Kd.R_lower ho0 (keep_size (w := w) (g := g) (row := none) (by repeat (first | (with_reducible first | exact HK.out | apply KeepBut.set_ | apply keep_drewN | apply keep_drew | apply keep_alloc | refine keep_far ?_ GW206.out _) | exact HK.out)))); have n2_ := am13_ (KeepBut.trans (by repeat (first | (with_reducible first | exact HK.out | apply KeepBut.set_ | apply keep_drewN | apply keep_drew | apply keep_alloc | refine keep_far ?_ GW206.out _) | exact HK.out)) hk (.inl rfl)); have n3_ := am13_ (hb); have n4_ := am13_ (hi); clear BK206; clear HK; clear HB; clear HI0; have BK206 := n0_; have HO210 := n1_; have HK := n2_; have HB := n3_; have HI0 := n4_; clear n0_ n1_ n2_ n3_ n4_; (try clear hb); (try clear hb2); (try clear hk); (try clear hi); (try clear ho0)) | ((with_reducible refine gate_dst (N := 3) rfl ?_); refine box_event ?hg (N := 3) ?hd (cs := #[.int .i64 0, .slice none 0 0]) (t := 26) ?hr ?_; (case hd => rfl); (case hg => rfl); (case hr => first | (go_simp; done) | (go_simp; rfl)); intro gb213 hg w69 hbox hb; have n0_ := am13_ (Kd.R_below (lf13_ HO210) hb); have n1_ := am13_ (IsS109.below (by repeat (first | (with_reducible first | exact HI0.out | apply IsS109.alloc | apply IsS109.drewN | apply IsS109.drew | apply IsS109.set_1 | apply IsS109.set_2 | refine IsS109.far ?_ NB0_206.out _) | exact HI0.out)) hb); have n2_ := am13_ (blk_below (g := gb206) (o := .cells #[.int .i64 0, .slice none 0 0] 26 (0, 0)) (lb13_ BK206) hb); have n3_ := am13_ (KeepBut.trans (by repeat (first | (with_reducible first | exact HK.out | apply KeepBut.set_ | apply keep_drewN | apply keep_drew | apply keep_alloc | refine keep_far ?_ GW206.out _) | exact HK.out)) (KeepBut.of_below hb g none) (.inl rfl)); have n4_ := am13_ (below_step (by repeat (first | (with_reducible first | exact HB.out | apply below_alloc | apply pw_below_drewN | apply below_drew1 | refine below_set ?_ (IsS109.ge HI0.out) | refine below_set ?_ GE206.out) | exact HB.out)) hb); have n5_ := am13_ (hbox); have n6_ := am13_ ((by rw [hg]; exact (keep_size (w := w) (g := g) (row := none) (by repeat (first | (with_reducible first | exact HK.out | apply KeepBut.set_ | apply keep_drewN | apply keep_drew | apply keep_alloc | refine keep_far ?_ GW206.out _) | exact HK.out))) : w.heap.size ≤ gb213)); have n7_ := am13_ ((Nat.le_trans HW0.out (by rw [hg]; exact (keep_size (w := w) (g := g) (row := none) (by repeat (first | (with_reducible first | exact HK.out | apply KeepBut.set_ | apply keep_drewN | apply keep_drew | apply keep_alloc | refine keep_far ?_ GW206.out _) | exact HK.out))) : w.heap.size ≤ gb213) : w0.heap.size ≤ gb213)); have n8_ := am13_ ((by rw [hg]; exact Nat.ne_of_lt (blk_lt (g := gb206) (lb13_ BK206)) : gb206 ≠ gb213)); have n9_ := am13_ ((by rw [hg]; exact Nat.ne_of_gt (blk_lt (g := gb206) (lb13_ BK206)) : gb213 ≠ gb206)); have n10_ := am13_ ((by rw [hg]; exact Nat.ne_of_lt (IsS109.lt (show IsS109 w0 _ g s0_0 t211 t212 from by repeat (first | (with_reducible first | exact HI0.out | apply IsS109.alloc | apply IsS109.drewN | apply IsS109.drew | apply IsS109.set_1 | apply IsS109.set_2 | refine IsS109.far ?_ NB0_206.out _) | exact HI0.out))) : g ≠ gb213)); have n11_ := am13_ ((by rw [hg]; exact Nat.ne_of_gt (IsS109.lt (show IsS109 w0 _ g s0_0 t211 t212 from by repeat (first | (with_reducible first | exact HI0.out | apply IsS109.alloc | apply IsS109.drewN | apply IsS109.drew | apply IsS109.set_1 | apply IsS109.set_2 | refine IsS109.far ?_ NB0_206.out _) | exact HI0.out))) : gb213 ≠ g)); clear HO210; clear HI0; clear BK206; clear HK; clear HB; have HO210 := n0_; have HI0 := n1_; have BK206 := n2_; have HK := n3_; have HB := n4_; have BK213 := n5_; have GW213 := n6_; have GE213 := n7_; have NB206_213 := n8_; have NB213_206 := n9_; have NB0_213 := n10_; have NB213_0 := n11_; clear n0_ n1_ n2_ n3_ n4_ n5_ n6_ n7_ n8_ n9_ n10_ n11_; clear hb hbox hg; have hnb70 := NB213_206.out; have hnc70 := NB206_213.out; have hnb71 := NB213_0.out; have hnc71 := NB0_213.out; have hcz72_0 : w69.cell? ⟨gb213, 0, none⟩ = some (.int .i64 0) := (blk_cell BK213.out 0).trans rfl; have hcz72_1 : w69.cell? ⟨gb213, 1, none⟩ = some (.slice none 0 0) := (blk_cell BK213.out 1).trans rfl; have hfz72_0 := blk_frozen BK213.out 0; have hfz72_1 := blk_frozen BK213.out 1; obtain ⟨Ao73, co73, eo73⟩ := Kd.R_slice HO210.out; subst eo73) | ((with_reducible refine gate_callee (f := 107) rfl ?_); refine goesL_ (some 7) rfl rfl Try.func107 (by kernel_rfl) rfl #[.pointer (some ⟨g, 0, none⟩), .int .i64 16] rfl lm13_ ?_; (with_reducible refine (spec_l1Cur_pick.calls g s0_0 t211 t212 16 t214 t215 t216 w0 _ ?side1 ?side2 A3.out).mono ?_); (case side1 => repeat (first | (with_reducible first | exact HI0.out | apply IsS109.alloc | apply IsS109.drewN | apply IsS109.drew | apply IsS109.set_1 | apply IsS109.set_2 | refine IsS109.far ?_ NB0_206.out _ | refine IsS109.far ?_ NB0_213.out _) | exact HI0.out)); (case side2 => repeat (first | (with_reducible first | exact HB.out | apply below_alloc | apply pw_below_drewN | apply below_drew1 | refine below_set ?_ (IsS109.ge HI0.out) | refine below_set ?_ GE206.out | refine below_set ?_ GE213.out) | exact HB.out)); rintro e w74 ⟨rfl, hi, hb, hk⟩; refine ⟨_, rfl, ?_⟩; have n0_ := am13_ (KeepBut.blk hk (g' := gb206) (o := .cells #[.int .i64 0, .slice none 0 0] 26 (0, 0)) (by (with_reducible repeat (first | refine blk_drewN ?_ _ | refine blk_drew ?_ | refine blk_alloc ?_ _)); refine blk_far ?_ NB206_213.out _; (with_reducible repeat (first | refine blk_drewN ?_ _ | refine blk_drew ?_ | refine blk_alloc ?_ _)); refine blk_far ?_ NB206_213.out _; (with_reducible repeat (first | refine blk_drewN ?_ _ | refine blk_drew ?_ | refine blk_alloc ?_ _)); exact BK206.out) NB206_0.out (by simp)); have n1_ := am13_ (Kd.R_mono (Kd.R_keep (IsS109.apart (show IsS109 w0 _ g s0_0 t211 t212 from by repeat (first | (with_reducible first | exact HI0.out | apply IsS109.alloc | apply IsS109.drewN | apply IsS109.drew | apply IsS109.set_1 | apply IsS109.set_2 | refine IsS109.far ?_ NB0_206.out _ | refine IsS109.far ?_ NB0_213.out _) | exact HI0.out)) (lt13_ (Kd.R_mono (Kd.R_far (p := ⟨gb213, 1, none⟩) (Kd.R_far (p := ⟨gb213, 0, none⟩) (Kd.R_types HO210.out BK213.out (by decide)) (fun _ hk => hk.2) (.int .i64 t207)) (fun _ hk => hk.2) (.slice Ao73 t208.length co73)) (fun _ h_ => h_.1))) (by decide)) hk (fun _ h => h.2)) (fun _ h => h.1)); have n2_ := am13_ (KeepBut.blk hk (g' := gb213) (o := .cells #[.int .i64 t207, .slice Ao73 t208.length co73] 26 (0, 0)) (by (with_reducible repeat (first | refine blk_drewN ?_ _ | refine blk_drew ?_ | refine blk_alloc ?_ _)); refine blk_put (cs := #[.int .i64 t207, .slice none 0 0]) ?_ 1 _ rfl; (with_reducible repeat (first | refine blk_drewN ?_ _ | refine blk_drew ?_ | refine blk_alloc ?_ _)); refine blk_put (cs := #[.int .i64 0, .slice none 0 0]) ?_ 0 _ rfl; (with_reducible repeat (first | refine blk_drewN ?_ _ | refine blk_drew ?_ | refine blk_alloc ?_ _)); exact BK213.out) NB213_0.out (by simp)); have n3_ := am13_ (KeepBut.trans (by repeat (first | (with_reducible first | exact HK.out | apply KeepBut.set_ | apply keep_drewN | apply keep_drew | apply keep_alloc | refine keep_far ?_ GW206.out _ | refine keep_far ?_ GW213.out _) | exact HK.out)) hk (.inl rfl)); have n4_ := am13_ (hb); have n5_ := am13_ (hi); clear BK206; clear HO210; clear BK213; clear HK; clear HB; clear HI0; have BK206 := n0_; have HO210 := n1_; have BK213 := n2_; have HK := n3_; have HB := n4_; have HI0 := n5_; clear n0_ n1_ n2_ n3_ n4_ n5_; (try clear hb); (try clear hb2); (try clear hk); (try clear hi); have hcz75_0 : w74.cell? ⟨gb213, 0, none⟩ = some (.int .i64 t207) := (blk_cell BK213.out 0).trans rfl; have hcz75_1 : w74.cell? ⟨gb213, 1, none⟩ = some (.slice Ao73 t208.length co73) := (blk_cell BK213.out 1).trans rfl; have hfz75_0 := blk_frozen BK213.out 0; have hfz75_1 := blk_frozen BK213.out 1; have hnb76 := NB206_0.out; have hnc76 := NB0_206.out; have hcz77_0 : w74.cell? ⟨gb206, 0, none⟩ = some (.int .i64 0) := (blk_cell BK206.out 0).trans rfl; have hcz77_1 : w74.cell? ⟨gb206, 1, none⟩ = some (.slice none 0 0) := (blk_cell BK206.out 1).trans rfl; have hfz77_0 := blk_frozen BK206.out 0; have hfz77_1 := blk_frozen BK206.out 1))
     refine bodyPost_ret (results_cell_row rfl _ _ gb206 26 #[.int .i64 t207, .slice Ao73 t208.length co73] (0, 0) _ rfl (by (with_reducible repeat (first | refine blk_drewN ?_ _ | refine blk_drew ?_ | refine blk_alloc ?_ _)); refine blk_put (cs := #[.int .i64 t207, .slice none 0 0]) ?_ 1 _ rfl; (with_reducible repeat (first | refine blk_drewN ?_ _ | refine blk_drew ?_ | refine blk_alloc ?_ _)); refine blk_put (cs := #[.int .i64 0, .slice none 0 0]) ?_ 0 _ rfl; (with_reducible repeat (first | refine blk_drewN ?_ _ | refine blk_drew ?_ | refine blk_alloc ?_ _)); exact BK206.out) Try.underlying26 rfl (by kernel_rfl)) rfl ?_
     exact ⟨_, by first | rfl | (simp [errW_none, errW_some] <;> rfl) | (simp [*, errW_none, errW_some] <;> rfl), by (with_reducible repeat (first | apply Kd.R_alloc | apply Kd.R_drewN | apply Kd.R_drew)); exact Kd.R_mono (Kd.R_far (p := ⟨gb206, 1, none⟩) (Kd.R_far (p := ⟨gb206, 0, none⟩) (Kd.R_types HO210.out BK206.out (by decide)) (fun _ hk => hk.2) (.int .i64 t207)) (fun _ hk => hk.2) (.slice Ao73 t208.length co73)) (fun _ hk => trivial), by repeat (first | (with_reducible first | exact HI0.out | apply IsS109.alloc | apply IsS109.drewN | apply IsS109.drew | apply IsS109.set_1 | apply IsS109.set_2 | refine IsS109.far ?_ NB0_206.out _ | refine IsS109.far ?_ NB0_213.out _) | exact HI0.out), by repeat (first | (with_reducible first | exact HB.out | apply below_alloc | apply pw_below_drewN | apply below_drew1 | refine below_set ?_ (IsS109.ge HI0.out) | refine below_set ?_ GE206.out | refine below_set ?_ GE213.out) | exact HB.out), by repeat (first | (with_reducible first | exact HK.out | apply KeepBut.set_ | apply keep_drewN | apply keep_drew | apply keep_alloc | refine keep_far ?_ GW206.out _ | refine keep_far ?_ GW213.out _) | exact HK.out)⟩
   ·rw [if_neg c39] at H
    have c39b0 : (t214 == 2) = false := beq_eq_false_iff_ne.mpr c39
    have c39b1 : (t214 != 2) = true := bne_iff_ne.mpr c39
    by_cases c78 : t214 = 3
    ·rw [if_pos c78] at H
     have c78b0 : (t214 == 3) = true := beq_iff_eq.mpr c78
     have c78b1 : (t214 != 3) = false := bne_eq_false_iff_eq.mpr c78
     clear c78
     replace H := Option.bind_eq_some_iff.mp H
     obtain ⟨⟨t236, t237, t238⟩, A790, H⟩ := H
     replace H : ((spec_biNew.f (wrap64 (4096 - t236))).bind fun bt239 => (some (bt239.1, bt239.2, t237, t238))) = some (r1, r2, r3, r4) := H
     have A79 := am13_ A790
     clear A790
     replace H := Option.bind_eq_some_iff.mp H
     obtain ⟨⟨t239, t240⟩, A800, H⟩ := H
     replace H : (some (t239, t240, t237, t238)) = some (r1, r2, r3, r4) := H
     have A80 := am13_ A800
     clear A800
     simp only [Option.some.injEq, Prod.mk.injEq] at H
     obtain ⟨rfl, rfl, rfl, rfl⟩ := H
     go_enter Try.func103, Try.ntmps103
     go_wp2_with (first | ((with_reducible refine gate_dst (N := 2) rfl ?_); refine box_event ?hg (N := 2) ?hd (cs := #[.int .i64 0, .slice none 0 0]) (t := 26) ?hr ?_; (case hd => rfl); (case hg => rfl); (case hr => first | (go_simp; done) | (go_simp; rfl)); intro gb206 hg w81 hbox hb; have n0_ := am13_ (IsS109.below (by repeat (first | (with_reducible first | exact HI0.out | apply IsS109.alloc | apply IsS109.drewN | apply IsS109.drew | apply IsS109.set_1 | apply IsS109.set_2) | exact HI0.out)) hb); have n1_ := am13_ (KeepBut.trans (by repeat (first | (with_reducible first | exact HK.out | apply KeepBut.set_ | apply keep_drewN | apply keep_drew | apply keep_alloc) | exact HK.out)) (KeepBut.of_below hb g none) (.inl rfl)); have n2_ := am13_ (below_step (by repeat (first | (with_reducible first | exact HB.out | apply below_alloc | apply pw_below_drewN | apply below_drew1 | refine below_set ?_ (IsS109.ge HI0.out)) | exact HB.out)) hb); have n3_ := am13_ (hbox); have n4_ := am13_ ((by rw [hg]; exact (keep_size (w := w) (g := g) (row := none) (by repeat (first | (with_reducible first | exact HK.out | apply KeepBut.set_ | apply keep_drewN | apply keep_drew | apply keep_alloc) | exact HK.out))) : w.heap.size ≤ gb206)); have n5_ := am13_ ((Nat.le_trans HW0.out (by rw [hg]; exact (keep_size (w := w) (g := g) (row := none) (by repeat (first | (with_reducible first | exact HK.out | apply KeepBut.set_ | apply keep_drewN | apply keep_drew | apply keep_alloc) | exact HK.out))) : w.heap.size ≤ gb206) : w0.heap.size ≤ gb206)); have n6_ := am13_ ((by rw [hg]; exact Nat.ne_of_lt (IsS109.lt (show IsS109 w0 _ g s0_0 s0_1 s0_2 from by repeat (first | (with_reducible first | exact HI0.out | apply IsS109.alloc | apply IsS109.drewN | apply IsS109.drew | apply IsS109.set_1 | apply IsS109.set_2) | exact HI0.out))) : g ≠ gb206)); have n7_ := am13_ ((by rw [hg]; exact Nat.ne_of_gt (IsS109.lt (show IsS109 w0 _ g s0_0 s0_1 s0_2 from by repeat (first | (with_reducible first | exact HI0.out | apply IsS109.alloc | apply IsS109.drewN | apply IsS109.drew | apply IsS109.set_1 | apply IsS109.set_2) | exact HI0.out))) : gb206 ≠ g)); clear HI0; clear HK; clear HB; have HI0 := n0_; have HK := n1_; have HB := n2_; have BK206 := n3_; have GW206 := n4_; have GE206 := n5_; have NB0_206 := n6_; have NB206_0 := n7_; clear n0_ n1_ n2_ n3_ n4_ n5_ n6_ n7_; clear hb hbox hg) | ((with_reducible refine gate_callee (f := 108) rfl ?_); refine goesL_ (some 5) rfl rfl Try.func108 (by kernel_rfl) rfl #[.pointer (some ⟨g, 0, none⟩), .int .i64 40] rfl lm13_ ?_; (with_reducible refine (spec_l1Cur_bits.calls k g s0_0 s0_1 s0_2 40 t207 t208 t211 t212 w0 _ ?side1 ?side2 A2.out).mono ?_); (case side1 => repeat (first | (with_reducible first | exact HI0.out | apply IsS109.alloc | apply IsS109.drewN | apply IsS109.drew | apply IsS109.set_1 | apply IsS109.set_2 | refine IsS109.far ?_ NB0_206.out _) | exact HI0.out)); (case side2 => repeat (first | (with_reducible first | exact HB.out | apply below_alloc | apply pw_below_drewN | apply below_drew1 | refine below_set ?_ (IsS109.ge HI0.out) | refine below_set ?_ GE206.out) | exact HB.out)); rintro e w82 ⟨v209, rfl, ho0, hi, hb, hk⟩; refine ⟨_, rfl, ?_⟩; have n0_ := am13_ (KeepBut.blk hk (g' := gb206) (o := .cells #[.int .i64 0, .slice none 0 0] 26 (0, 0)) (lb13_ BK206) NB206_0.out (by simp)); have n1_ := am13_ (Kd.R_lower ho0 (keep_size (w := w) (g := g) (row := none) (by repeat (first | (with_reducible first | exact HK.out | apply KeepBut.set_ | apply keep_drewN | apply keep_drew | apply keep_alloc | refine keep_far ?_ GW206.out _) | exact HK.out)))); have n2_ := am13_ (KeepBut.trans (by repeat (first | (with_reducible first | exact HK.out | apply KeepBut.set_ | apply keep_drewN | apply keep_drew | apply keep_alloc | refine keep_far ?_ GW206.out _) | exact HK.out)) hk (.inl rfl)); have n3_ := am13_ (hb); have n4_ := am13_ (hi); clear BK206; clear HK; clear HB; clear HI0; have BK206 := n0_; have HO210 := n1_; have HK := n2_; have HB := n3_; have HI0 := n4_; clear n0_ n1_ n2_ n3_ n4_; (try clear hb); (try clear hb2); (try clear hk); (try clear hi); (try clear ho0)) | ((with_reducible refine gate_dst (N := 3) rfl ?_); refine box_event ?hg (N := 3) ?hd (cs := #[.int .i64 0, .slice none 0 0]) (t := 26) ?hr ?_; (case hd => rfl); (case hg => rfl); (case hr => first | (go_simp; done) | (go_simp; rfl)); intro gb213 hg w83 hbox hb; have n0_ := am13_ (Kd.R_below (lf13_ HO210) hb); have n1_ := am13_ (IsS109.below (by repeat (first | (with_reducible first | exact HI0.out | apply IsS109.alloc | apply IsS109.drewN | apply IsS109.drew | apply IsS109.set_1 | apply IsS109.set_2 | refine IsS109.far ?_ NB0_206.out _) | exact HI0.out)) hb); have n2_ := am13_ (blk_below (g := gb206) (o := .cells #[.int .i64 0, .slice none 0 0] 26 (0, 0)) (lb13_ BK206) hb); have n3_ := am13_ (KeepBut.trans (by repeat (first | (with_reducible first | exact HK.out | apply KeepBut.set_ | apply keep_drewN | apply keep_drew | apply keep_alloc | refine keep_far ?_ GW206.out _) | exact HK.out)) (KeepBut.of_below hb g none) (.inl rfl)); have n4_ := am13_ (below_step (by repeat (first | (with_reducible first | exact HB.out | apply below_alloc | apply pw_below_drewN | apply below_drew1 | refine below_set ?_ (IsS109.ge HI0.out) | refine below_set ?_ GE206.out) | exact HB.out)) hb); have n5_ := am13_ (hbox); have n6_ := am13_ ((by rw [hg]; exact (keep_size (w := w) (g := g) (row := none) (by repeat (first | (with_reducible first | exact HK.out | apply KeepBut.set_ | apply keep_drewN | apply keep_drew | apply keep_alloc | refine keep_far ?_ GW206.out _) | exact HK.out))) : w.heap.size ≤ gb213)); have n7_ := am13_ ((Nat.le_trans HW0.out (by rw [hg]; exact (keep_size (w := w) (g := g) (row := none) (by repeat (first | (with_reducible first | exact HK.out | apply KeepBut.set_ | apply keep_drewN | apply keep_drew | apply keep_alloc | refine keep_far ?_ GW206.out _) | exact HK.out))) : w.heap.size ≤ gb213) : w0.heap.size ≤ gb213)); have n8_ := am13_ ((by rw [hg]; exact Nat.ne_of_lt (blk_lt (g := gb206) (lb13_ BK206)) : gb206 ≠ gb213)); have n9_ := am13_ ((by rw [hg]; exact Nat.ne_of_gt (blk_lt (g := gb206) (lb13_ BK206)) : gb213 ≠ gb206)); have n10_ := am13_ ((by rw [hg]; exact Nat.ne_of_lt (IsS109.lt (show IsS109 w0 _ g s0_0 t211 t212 from by repeat (first | (with_reducible first | exact HI0.out | apply IsS109.alloc | apply IsS109.drewN | apply IsS109.drew | apply IsS109.set_1 | apply IsS109.set_2 | refine IsS109.far ?_ NB0_206.out _) | exact HI0.out))) : g ≠ gb213)); have n11_ := am13_ ((by rw [hg]; exact Nat.ne_of_gt (IsS109.lt (show IsS109 w0 _ g s0_0 t211 t212 from by repeat (first | (with_reducible first | exact HI0.out | apply IsS109.alloc | apply IsS109.drewN | apply IsS109.drew | apply IsS109.set_1 | apply IsS109.set_2 | refine IsS109.far ?_ NB0_206.out _) | exact HI0.out))) : gb213 ≠ g)); clear HO210; clear HI0; clear BK206; clear HK; clear HB; have HO210 := n0_; have HI0 := n1_; have BK206 := n2_; have HK := n3_; have HB := n4_; have BK213 := n5_; have GW213 := n6_; have GE213 := n7_; have NB206_213 := n8_; have NB213_206 := n9_; have NB0_213 := n10_; have NB213_0 := n11_; clear n0_ n1_ n2_ n3_ n4_ n5_ n6_ n7_ n8_ n9_ n10_ n11_; clear hb hbox hg; have hnb84 := NB213_206.out; have hnc84 := NB206_213.out; have hnb85 := NB213_0.out; have hnc85 := NB0_213.out; have hcz86_0 : w83.cell? ⟨gb213, 0, none⟩ = some (.int .i64 0) := (blk_cell BK213.out 0).trans rfl; have hcz86_1 : w83.cell? ⟨gb213, 1, none⟩ = some (.slice none 0 0) := (blk_cell BK213.out 1).trans rfl; have hfz86_0 := blk_frozen BK213.out 0; have hfz86_1 := blk_frozen BK213.out 1; obtain ⟨Ao87, co87, eo87⟩ := Kd.R_slice HO210.out; subst eo87) | ((with_reducible refine gate_callee (f := 107) rfl ?_); refine goesL_ (some 7) rfl rfl Try.func107 (by kernel_rfl) rfl #[.pointer (some ⟨g, 0, none⟩), .int .i64 16] rfl lm13_ ?_; (with_reducible refine (spec_l1Cur_pick.calls g s0_0 t211 t212 16 t214 t215 t216 w0 _ ?side1 ?side2 A3.out).mono ?_); (case side1 => repeat (first | (with_reducible first | exact HI0.out | apply IsS109.alloc | apply IsS109.drewN | apply IsS109.drew | apply IsS109.set_1 | apply IsS109.set_2 | refine IsS109.far ?_ NB0_206.out _ | refine IsS109.far ?_ NB0_213.out _) | exact HI0.out)); (case side2 => repeat (first | (with_reducible first | exact HB.out | apply below_alloc | apply pw_below_drewN | apply below_drew1 | refine below_set ?_ (IsS109.ge HI0.out) | refine below_set ?_ GE206.out | refine below_set ?_ GE213.out) | exact HB.out)); rintro e w88 ⟨rfl, hi, hb, hk⟩; refine ⟨_, rfl, ?_⟩; have n0_ := am13_ (KeepBut.blk hk (g' := gb206) (o := .cells #[.int .i64 0, .slice none 0 0] 26 (0, 0)) (by (with_reducible repeat (first | refine blk_drewN ?_ _ | refine blk_drew ?_ | refine blk_alloc ?_ _)); refine blk_far ?_ NB206_213.out _; (with_reducible repeat (first | refine blk_drewN ?_ _ | refine blk_drew ?_ | refine blk_alloc ?_ _)); refine blk_far ?_ NB206_213.out _; (with_reducible repeat (first | refine blk_drewN ?_ _ | refine blk_drew ?_ | refine blk_alloc ?_ _)); exact BK206.out) NB206_0.out (by simp)); have n1_ := am13_ (Kd.R_mono (Kd.R_keep (IsS109.apart (show IsS109 w0 _ g s0_0 t211 t212 from by repeat (first | (with_reducible first | exact HI0.out | apply IsS109.alloc | apply IsS109.drewN | apply IsS109.drew | apply IsS109.set_1 | apply IsS109.set_2 | refine IsS109.far ?_ NB0_206.out _ | refine IsS109.far ?_ NB0_213.out _) | exact HI0.out)) (lt13_ (Kd.R_mono (Kd.R_far (p := ⟨gb213, 1, none⟩) (Kd.R_far (p := ⟨gb213, 0, none⟩) (Kd.R_types HO210.out BK213.out (by decide)) (fun _ hk => hk.2) (.int .i64 t207)) (fun _ hk => hk.2) (.slice Ao87 t208.length co87)) (fun _ h_ => h_.1))) (by decide)) hk (fun _ h => h.2)) (fun _ h => h.1)); have n2_ := am13_ (KeepBut.blk hk (g' := gb213) (o := .cells #[.int .i64 t207, .slice Ao87 t208.length co87] 26 (0, 0)) (by (with_reducible repeat (first | refine blk_drewN ?_ _ | refine blk_drew ?_ | refine blk_alloc ?_ _)); refine blk_put (cs := #[.int .i64 t207, .slice none 0 0]) ?_ 1 _ rfl; (with_reducible repeat (first | refine blk_drewN ?_ _ | refine blk_drew ?_ | refine blk_alloc ?_ _)); refine blk_put (cs := #[.int .i64 0, .slice none 0 0]) ?_ 0 _ rfl; (with_reducible repeat (first | refine blk_drewN ?_ _ | refine blk_drew ?_ | refine blk_alloc ?_ _)); exact BK213.out) NB213_0.out (by simp)); have n3_ := am13_ (KeepBut.trans (by repeat (first | (with_reducible first | exact HK.out | apply KeepBut.set_ | apply keep_drewN | apply keep_drew | apply keep_alloc | refine keep_far ?_ GW206.out _ | refine keep_far ?_ GW213.out _) | exact HK.out)) hk (.inl rfl)); have n4_ := am13_ (hb); have n5_ := am13_ (hi); clear BK206; clear HO210; clear BK213; clear HK; clear HB; clear HI0; have BK206 := n0_; have HO210 := n1_; have BK213 := n2_; have HK := n3_; have HB := n4_; have HI0 := n5_; clear n0_ n1_ n2_ n3_ n4_ n5_; (try clear hb); (try clear hb2); (try clear hk); (try clear hi)) | ((with_reducible refine gate_callee (f := 107) rfl ?_); refine goesL_ (some 46) rfl rfl Try.func107 (by kernel_rfl) rfl #[.pointer (some ⟨g, 0, none⟩), .int .i64 2] rfl lm13_ ?_; (with_reducible refine (spec_l1Cur_pick.calls g s0_0 t215 t216 2 t236 t237 t238 w0 _ ?side1 ?side2 A79.out).mono ?_); (case side1 => repeat (first | (with_reducible first | exact HI0.out | apply IsS109.alloc | apply IsS109.drewN | apply IsS109.drew | apply IsS109.set_1 | apply IsS109.set_2 | refine IsS109.far ?_ NB0_206.out _ | refine IsS109.far ?_ NB0_213.out _) | exact HI0.out)); (case side2 => repeat (first | (with_reducible first | exact HB.out | apply below_alloc | apply pw_below_drewN | apply below_drew1 | refine below_set ?_ (IsS109.ge HI0.out) | refine below_set ?_ GE206.out | refine below_set ?_ GE213.out) | exact HB.out)); rintro e w89 ⟨rfl, hi, hb, hk⟩; refine ⟨_, rfl, ?_⟩; have n0_ := am13_ (KeepBut.blk hk (g' := gb206) (o := .cells #[.int .i64 0, .slice none 0 0] 26 (0, 0)) (lb13_ BK206) NB206_0.out (by simp)); have n1_ := am13_ (Kd.R_mono (Kd.R_keep (IsS109.apart (show IsS109 w0 _ g s0_0 t215 t216 from by repeat (first | (with_reducible first | exact HI0.out | apply IsS109.alloc | apply IsS109.drewN | apply IsS109.drew | apply IsS109.set_1 | apply IsS109.set_2 | refine IsS109.far ?_ NB0_206.out _ | refine IsS109.far ?_ NB0_213.out _) | exact HI0.out)) (lf13_ HO210) (by decide)) hk (fun _ h => h.2)) (fun _ h => h.1)); have n2_ := am13_ (KeepBut.blk hk (g' := gb213) (o := .cells #[.int .i64 t207, .slice Ao87 t208.length co87] 26 (0, 0)) (lb13_ BK213) NB213_0.out (by simp)); have n3_ := am13_ (KeepBut.trans (by repeat (first | (with_reducible first | exact HK.out | apply KeepBut.set_ | apply keep_drewN | apply keep_drew | apply keep_alloc | refine keep_far ?_ GW206.out _ | refine keep_far ?_ GW213.out _) | exact HK.out)) hk (.inl rfl)); have n4_ := am13_ (hb); have n5_ := am13_ (hi); clear BK206; clear HO210; clear BK213; clear HK; clear HB; clear HI0; have BK206 := n0_; have HO210 := n1_; have BK213 := n2_; have HK := n3_; have HB := n4_; have HI0 := n5_; clear n0_ n1_ n2_ n3_ n4_ n5_; (try clear hb); (try clear hb2); (try clear hk); (try clear hi)) | ((with_reducible refine gate_callee (f := 106) rfl ?_); refine goesL_ (some 48) rfl rfl Try.func106 (by kernel_rfl) rfl #[.int .i64 (wrap64 (4096 - t236))] rfl lm13_ ?_; (with_reducible refine (spec_biNew.calls (wrap64 (4096 - t236)) t239 t240 _ A80.out).mono ?_); rintro e w90 ⟨v241, rfl, ho0, hb⟩; refine ⟨_, rfl, ?_⟩; have n0_ := am13_ (Kd.R_elder' (lf13_ HO210) (Kd.R_base ho0) hb); have n1_ := am13_ (Kd.R_lower (Kd.R_new' ho0 (Kd.R_lt (lf13_ HO210))) (keep_size (w := w) (g := g) (row := none) (by repeat (first | (with_reducible first | exact HK.out | apply KeepBut.set_ | apply keep_drewN | apply keep_drew | apply keep_alloc | refine keep_far ?_ GW206.out _ | refine keep_far ?_ GW213.out _) | exact HK.out)))); have n2_ := am13_ (IsS109.below (by repeat (first | (with_reducible first | exact HI0.out | apply IsS109.alloc | apply IsS109.drewN | apply IsS109.drew | apply IsS109.set_1 | apply IsS109.set_2 | refine IsS109.far ?_ NB0_206.out _ | refine IsS109.far ?_ NB0_213.out _) | exact HI0.out)) hb); have n3_ := am13_ (blk_below (g := gb206) (o := .cells #[.int .i64 0, .slice none 0 0] 26 (0, 0)) (lb13_ BK206) hb); have n4_ := am13_ (blk_below (g := gb213) (o := .cells #[.int .i64 t207, .slice Ao87 t208.length co87] 26 (0, 0)) (lb13_ BK213) hb); have n5_ := am13_ (KeepBut.trans (by repeat (first | (with_reducible first | exact HK.out | apply KeepBut.set_ | apply keep_drewN | apply keep_drew | apply keep_alloc | refine keep_far ?_ GW206.out _ | refine keep_far ?_ GW213.out _) | exact HK.out)) (KeepBut.of_below hb g none) (.inl rfl)); have n6_ := am13_ (below_step (by repeat (first | (with_reducible first | exact HB.out | apply below_alloc | apply pw_below_drewN | apply below_drew1 | refine below_set ?_ (IsS109.ge HI0.out) | refine below_set ?_ GE206.out | refine below_set ?_ GE213.out) | exact HB.out)) hb); clear HO210; clear HI0; clear BK206; clear BK213; clear HK; clear HB; have HO210 := n0_; have HO242 := n1_; have HI0 := n2_; have BK206 := n3_; have BK213 := n4_; have HK := n5_; have HB := n6_; clear n0_ n1_ n2_ n3_ n4_ n5_ n6_; (try clear hb); (try clear hb2); (try clear hk); (try clear hi); (try clear ho0); have hcz91_0 : w90.cell? ⟨gb213, 0, none⟩ = some (.int .i64 t207) := (blk_cell BK213.out 0).trans rfl; have hcz91_1 : w90.cell? ⟨gb213, 1, none⟩ = some (.slice Ao87 t208.length co87) := (blk_cell BK213.out 1).trans rfl; have hfz91_0 := blk_frozen BK213.out 0; have hfz91_1 := blk_frozen BK213.out 1; obtain ⟨Ao92, co92, eo92⟩ := Kd.R_slice HO242.out; subst eo92; have hnb93 := NB206_0.out; have hnc93 := NB0_206.out; have hcz94_0 : w90.cell? ⟨gb206, 0, none⟩ = some (.int .i64 0) := (blk_cell BK206.out 0).trans rfl; have hcz94_1 : w90.cell? ⟨gb206, 1, none⟩ = some (.slice none 0 0) := (blk_cell BK206.out 1).trans rfl; have hfz94_0 := blk_frozen BK206.out 0; have hfz94_1 := blk_frozen BK206.out 1))
     refine bodyPost_ret (results_cell_row rfl _ _ gb206 26 #[.int .i64 t239, .slice Ao92 t240.length co92] (0, 0) _ rfl (by (with_reducible repeat (first | refine blk_drewN ?_ _ | refine blk_drew ?_ | refine blk_alloc ?_ _)); refine blk_put (cs := #[.int .i64 t239, .slice none 0 0]) ?_ 1 _ rfl; (with_reducible repeat (first | refine blk_drewN ?_ _ | refine blk_drew ?_ | refine blk_alloc ?_ _)); refine blk_put (cs := #[.int .i64 0, .slice none 0 0]) ?_ 0 _ rfl; (with_reducible repeat (first | refine blk_drewN ?_ _ | refine blk_drew ?_ | refine blk_alloc ?_ _)); refine blk_far ?_ NB206_213.out _; (with_reducible repeat (first | refine blk_drewN ?_ _ | refine blk_drew ?_ | refine blk_alloc ?_ _)); refine blk_far ?_ NB206_213.out _; (with_reducible repeat (first | refine blk_drewN ?_ _ | refine blk_drew ?_ | refine blk_alloc ?_ _)); exact BK206.out) Try.underlying26 rfl (by kernel_rfl)) rfl ?_
     exact ⟨_, by first | rfl | (simp [errW_none, errW_some] <;> rfl) | (simp [*, errW_none, errW_some] <;> rfl), by (with_reducible repeat (first | apply Kd.R_alloc | apply Kd.R_drewN | apply Kd.R_drew)); exact Kd.R_mono (Kd.R_far (p := ⟨gb206, 1, none⟩) (Kd.R_far (p := ⟨gb206, 0, none⟩) (Kd.R_far (p := ⟨gb213, 1, none⟩) (Kd.R_far (p := ⟨gb213, 0, none⟩) (Kd.R_types (Kd.R_types HO242.out BK213.out (by decide)) BK206.out (by decide)) (fun _ hk => hk.1.2) (.int .i64 t239)) (fun _ hk => hk.1.2) (.slice Ao92 t240.length co92)) (fun _ hk => hk.2) (.int .i64 t239)) (fun _ hk => hk.2) (.slice Ao92 t240.length co92)) (fun _ hk => trivial), by repeat (first | (with_reducible first | exact HI0.out | apply IsS109.alloc | apply IsS109.drewN | apply IsS109.drew | apply IsS109.set_1 | apply IsS109.set_2 | refine IsS109.far ?_ NB0_206.out _ | refine IsS109.far ?_ NB0_213.out _) | exact HI0.out), by repeat (first | (with_reducible first | exact HB.out | apply below_alloc | apply pw_below_drewN | apply below_drew1 | refine below_set ?_ (IsS109.ge HI0.out) | refine below_set ?_ GE206.out | refine below_set ?_ GE213.out) | exact HB.out), by repeat (first | (with_reducible first | exact HK.out | apply KeepBut.set_ | apply keep_drewN | apply keep_drew | apply keep_alloc | refine keep_far ?_ GW206.out _ | refine keep_far ?_ GW213.out _) | exact HK.out)⟩
    ·rw [if_neg c78] at H
     have c78b0 : (t214 == 3) = false := beq_eq_false_iff_ne.mpr c78
     have c78b1 : (t214 != 3) = true := bne_iff_ne.mpr c78
     by_cases c95 : t214 = 4
     ·rw [if_pos c95] at H
      have c95b0 : (t214 == 4) = true := beq_iff_eq.mpr c95
      have c95b1 : (t214 != 4) = false := bne_eq_false_iff_eq.mpr c95
      clear c95
      replace H := Option.bind_eq_some_iff.mp H
      obtain ⟨⟨t243, t244, t245⟩, A960, H⟩ := H
      replace H : ((spec_biNew.f (wrap64 (16 * t243))).bind fun bt246 => (some (bt246.1, bt246.2, t244, t245))) = some (r1, r2, r3, r4) := H
      have A96 := am13_ A960
      clear A960
      replace H := Option.bind_eq_some_iff.mp H
      obtain ⟨⟨t246, t247⟩, A970, H⟩ := H
      replace H : (some (t246, t247, t244, t245)) = some (r1, r2, r3, r4) := H
      have A97 := am13_ A970
      clear A970
      simp only [Option.some.injEq, Prod.mk.injEq] at H
      obtain ⟨rfl, rfl, rfl, rfl⟩ := H
      go_enter Try.func103, Try.ntmps103
      go_wp2_with (first | ((with_reducible refine gate_dst (N := 2) rfl ?_); refine box_event ?hg (N := 2) ?hd (cs := #[.int .i64 0, .slice none 0 0]) (t := 26) ?hr ?_; (case hd => rfl); (case hg => rfl); (case hr => first | (go_simp; done) | (go_simp; rfl)); intro gb206 hg w98 hbox hb; have n0_ := am13_ (IsS109.below (by repeat (first | (with_reducible first | exact HI0.out | apply IsS109.alloc | apply IsS109.drewN | apply IsS109.drew | apply IsS109.set_1 | apply IsS109.set_2) | exact HI0.out)) hb); have n1_ := am13_ (KeepBut.trans (by repeat (first | (with_reducible first | exact HK.out | apply KeepBut.set_ | apply keep_drewN | apply keep_drew | apply keep_alloc) | exact HK.out)) (KeepBut.of_below hb g none) (.inl rfl)); have n2_ := am13_ (below_step (by repeat (first | (with_reducible first | exact HB.out | apply below_alloc | apply pw_below_drewN | apply below_drew1 | refine below_set ?_ (IsS109.ge HI0.out)) | exact HB.out)) hb); have n3_ := am13_ (hbox); have n4_ := am13_ ((by rw [hg]; exact (keep_size (w := w) (g := g) (row := none) (by repeat (first | (with_reducible first | exact HK.out | apply KeepBut.set_ | apply keep_drewN | apply keep_drew | apply keep_alloc) | exact HK.out))) : w.heap.size ≤ gb206)); have n5_ := am13_ ((Nat.le_trans HW0.out (by rw [hg]; exact (keep_size (w := w) (g := g) (row := none) (by repeat (first | (with_reducible first | exact HK.out | apply KeepBut.set_ | apply keep_drewN | apply keep_drew | apply keep_alloc) | exact HK.out))) : w.heap.size ≤ gb206) : w0.heap.size ≤ gb206)); have n6_ := am13_ ((by rw [hg]; exact Nat.ne_of_lt (IsS109.lt (show IsS109 w0 _ g s0_0 s0_1 s0_2 from by repeat (first | (with_reducible first | exact HI0.out | apply IsS109.alloc | apply IsS109.drewN | apply IsS109.drew | apply IsS109.set_1 | apply IsS109.set_2) | exact HI0.out))) : g ≠ gb206)); have n7_ := am13_ ((by rw [hg]; exact Nat.ne_of_gt (IsS109.lt (show IsS109 w0 _ g s0_0 s0_1 s0_2 from by repeat (first | (with_reducible first | exact HI0.out | apply IsS109.alloc | apply IsS109.drewN | apply IsS109.drew | apply IsS109.set_1 | apply IsS109.set_2) | exact HI0.out))) : gb206 ≠ g)); clear HI0; clear HK; clear HB; have HI0 := n0_; have HK := n1_; have HB := n2_; have BK206 := n3_; have GW206 := n4_; have GE206 := n5_; have NB0_206 := n6_; have NB206_0 := n7_; clear n0_ n1_ n2_ n3_ n4_ n5_ n6_ n7_; clear hb hbox hg) | ((with_reducible refine gate_callee (f := 108) rfl ?_); refine goesL_ (some 5) rfl rfl Try.func108 (by kernel_rfl) rfl #[.pointer (some ⟨g, 0, none⟩), .int .i64 40] rfl lm13_ ?_; (with_reducible refine (spec_l1Cur_bits.calls k g s0_0 s0_1 s0_2 40 t207 t208 t211 t212 w0 _ ?side1 ?side2 A2.out).mono ?_); (case side1 => repeat (first | (with_reducible first | exact HI0.out | apply IsS109.alloc | apply IsS109.drewN | apply IsS109.drew | apply IsS109.set_1 | apply IsS109.set_2 | refine IsS109.far ?_ NB0_206.out _) | exact HI0.out)); (case side2 => repeat (first | (with_reducible first | exact HB.out | apply below_alloc | apply pw_below_drewN | apply below_drew1 | refine below_set ?_ (IsS109.ge HI0.out) | refine below_set ?_ GE206.out) | exact HB.out)); rintro e w99 ⟨v209, rfl, ho0, hi, hb, hk⟩; refine ⟨_, rfl, ?_⟩; have n0_ := am13_ (KeepBut.blk hk (g' := gb206) (o := .cells #[.int .i64 0, .slice none 0 0] 26 (0, 0)) (lb13_ BK206) NB206_0.out (by simp)); have n1_ := am13_ (Kd.R_lower ho0 (keep_size (w := w) (g := g) (row := none) (by repeat (first | (with_reducible first | exact HK.out | apply KeepBut.set_ | apply keep_drewN | apply keep_drew | apply keep_alloc | refine keep_far ?_ GW206.out _) | exact HK.out)))); have n2_ := am13_ (KeepBut.trans (by repeat (first | (with_reducible first | exact HK.out | apply KeepBut.set_ | apply keep_drewN | apply keep_drew | apply keep_alloc | refine keep_far ?_ GW206.out _) | exact HK.out)) hk (.inl rfl)); have n3_ := am13_ (hb); have n4_ := am13_ (hi); clear BK206; clear HK; clear HB; clear HI0; have BK206 := n0_; have HO210 := n1_; have HK := n2_; have HB := n3_; have HI0 := n4_; clear n0_ n1_ n2_ n3_ n4_; (try clear hb); (try clear hb2); (try clear hk); (try clear hi); (try clear ho0)) | ((with_reducible refine gate_dst (N := 3) rfl ?_); refine box_event ?hg (N := 3) ?hd (cs := #[.int .i64 0, .slice none 0 0]) (t := 26) ?hr ?_; (case hd => rfl); (case hg => rfl); (case hr => first | (go_simp; done) | (go_simp; rfl)); intro gb213 hg w100 hbox hb; have n0_ := am13_ (Kd.R_below (lf13_ HO210) hb); have n1_ := am13_ (IsS109.below (by repeat (first | (with_reducible first | exact HI0.out | apply IsS109.alloc | apply IsS109.drewN | apply IsS109.drew | apply IsS109.set_1 | apply IsS109.set_2 | refine IsS109.far ?_ NB0_206.out _) | exact HI0.out)) hb); have n2_ := am13_ (blk_below (g := gb206) (o := .cells #[.int .i64 0, .slice none 0 0] 26 (0, 0)) (lb13_ BK206) hb); have n3_ := am13_ (KeepBut.trans (by repeat (first | (with_reducible first | exact HK.out | apply KeepBut.set_ | apply keep_drewN | apply keep_drew | apply keep_alloc | refine keep_far ?_ GW206.out _) | exact HK.out)) (KeepBut.of_below hb g none) (.inl rfl)); have n4_ := am13_ (below_step (by repeat (first | (with_reducible first | exact HB.out | apply below_alloc | apply pw_below_drewN | apply below_drew1 | refine below_set ?_ (IsS109.ge HI0.out) | refine below_set ?_ GE206.out) | exact HB.out)) hb); have n5_ := am13_ (hbox); have n6_ := am13_ ((by rw [hg]; exact (keep_size (w := w) (g := g) (row := none) (by repeat (first | (with_reducible first | exact HK.out | apply KeepBut.set_ | apply keep_drewN | apply keep_drew | apply keep_alloc | refine keep_far ?_ GW206.out _) | exact HK.out))) : w.heap.size ≤ gb213)); have n7_ := am13_ ((Nat.le_trans HW0.out (by rw [hg]; exact (keep_size (w := w) (g := g) (row := none) (by repeat (first | (with_reducible first | exact HK.out | apply KeepBut.set_ | apply keep_drewN | apply keep_drew | apply keep_alloc | refine keep_far ?_ GW206.out _) | exact HK.out))) : w.heap.size ≤ gb213) : w0.heap.size ≤ gb213)); have n8_ := am13_ ((by rw [hg]; exact Nat.ne_of_lt (blk_lt (g := gb206) (lb13_ BK206)) : gb206 ≠ gb213)); have n9_ := am13_ ((by rw [hg]; exact Nat.ne_of_gt (blk_lt (g := gb206) (lb13_ BK206)) : gb213 ≠ gb206)); have n10_ := am13_ ((by rw [hg]; exact Nat.ne_of_lt (IsS109.lt (show IsS109 w0 _ g s0_0 t211 t212 from by repeat (first | (with_reducible first | exact HI0.out | apply IsS109.alloc | apply IsS109.drewN | apply IsS109.drew | apply IsS109.set_1 | apply IsS109.set_2 | refine IsS109.far ?_ NB0_206.out _) | exact HI0.out))) : g ≠ gb213)); have n11_ := am13_ ((by rw [hg]; exact Nat.ne_of_gt (IsS109.lt (show IsS109 w0 _ g s0_0 t211 t212 from by repeat (first | (with_reducible first | exact HI0.out | apply IsS109.alloc | apply IsS109.drewN | apply IsS109.drew | apply IsS109.set_1 | apply IsS109.set_2 | refine IsS109.far ?_ NB0_206.out _) | exact HI0.out))) : gb213 ≠ g)); clear HO210; clear HI0; clear BK206; clear HK; clear HB; have HO210 := n0_; have HI0 := n1_; have BK206 := n2_; have HK := n3_; have HB := n4_; have BK213 := n5_; have GW213 := n6_; have GE213 := n7_; have NB206_213 := n8_; have NB213_206 := n9_; have NB0_213 := n10_; have NB213_0 := n11_; clear n0_ n1_ n2_ n3_ n4_ n5_ n6_ n7_ n8_ n9_ n10_ n11_; clear hb hbox hg; have hnb101 := NB213_206.out; have hnc101 := NB206_213.out; have hnb102 := NB213_0.out; have hnc102 := NB0_213.out; have hcz103_0 : w100.cell? ⟨gb213, 0, none⟩ = some (.int .i64 0) := (blk_cell BK213.out 0).trans rfl; have hcz103_1 : w100.cell? ⟨gb213, 1, none⟩ = some (.slice none 0 0) := (blk_cell BK213.out 1).trans rfl; have hfz103_0 := blk_frozen BK213.out 0; have hfz103_1 := blk_frozen BK213.out 1; obtain ⟨Ao104, co104, eo104⟩ := Kd.R_slice HO210.out; subst eo104) | ((with_reducible refine gate_callee (f := 107) rfl ?_); refine goesL_ (some 7) rfl rfl Try.func107 (by kernel_rfl) rfl #[.pointer (some ⟨g, 0, none⟩), .int .i64 16] rfl lm13_ ?_; (with_reducible refine (spec_l1Cur_pick.calls g s0_0 t211 t212 16 t214 t215 t216 w0 _ ?side1 ?side2 A3.out).mono ?_); (case side1 => repeat (first | (with_reducible first | exact HI0.out | apply IsS109.alloc | apply IsS109.drewN | apply IsS109.drew | apply IsS109.set_1 | apply IsS109.set_2 | refine IsS109.far ?_ NB0_206.out _ | refine IsS109.far ?_ NB0_213.out _) | exact HI0.out)); (case side2 => repeat (first | (with_reducible first | exact HB.out | apply below_alloc | apply pw_below_drewN | apply below_drew1 | refine below_set ?_ (IsS109.ge HI0.out) | refine below_set ?_ GE206.out | refine below_set ?_ GE213.out) | exact HB.out)); rintro e w105 ⟨rfl, hi, hb, hk⟩; refine ⟨_, rfl, ?_⟩; have n0_ := am13_ (KeepBut.blk hk (g' := gb206) (o := .cells #[.int .i64 0, .slice none 0 0] 26 (0, 0)) (by (with_reducible repeat (first | refine blk_drewN ?_ _ | refine blk_drew ?_ | refine blk_alloc ?_ _)); refine blk_far ?_ NB206_213.out _; (with_reducible repeat (first | refine blk_drewN ?_ _ | refine blk_drew ?_ | refine blk_alloc ?_ _)); refine blk_far ?_ NB206_213.out _; (with_reducible repeat (first | refine blk_drewN ?_ _ | refine blk_drew ?_ | refine blk_alloc ?_ _)); exact BK206.out) NB206_0.out (by simp)); have n1_ := am13_ (Kd.R_mono (Kd.R_keep (IsS109.apart (show IsS109 w0 _ g s0_0 t211 t212 from by repeat (first | (with_reducible first | exact HI0.out | apply IsS109.alloc | apply IsS109.drewN | apply IsS109.drew | apply IsS109.set_1 | apply IsS109.set_2 | refine IsS109.far ?_ NB0_206.out _ | refine IsS109.far ?_ NB0_213.out _) | exact HI0.out)) (lt13_ (Kd.R_mono (Kd.R_far (p := ⟨gb213, 1, none⟩) (Kd.R_far (p := ⟨gb213, 0, none⟩) (Kd.R_types HO210.out BK213.out (by decide)) (fun _ hk => hk.2) (.int .i64 t207)) (fun _ hk => hk.2) (.slice Ao104 t208.length co104)) (fun _ h_ => h_.1))) (by decide)) hk (fun _ h => h.2)) (fun _ h => h.1)); have n2_ := am13_ (KeepBut.blk hk (g' := gb213) (o := .cells #[.int .i64 t207, .slice Ao104 t208.length co104] 26 (0, 0)) (by (with_reducible repeat (first | refine blk_drewN ?_ _ | refine blk_drew ?_ | refine blk_alloc ?_ _)); refine blk_put (cs := #[.int .i64 t207, .slice none 0 0]) ?_ 1 _ rfl; (with_reducible repeat (first | refine blk_drewN ?_ _ | refine blk_drew ?_ | refine blk_alloc ?_ _)); refine blk_put (cs := #[.int .i64 0, .slice none 0 0]) ?_ 0 _ rfl; (with_reducible repeat (first | refine blk_drewN ?_ _ | refine blk_drew ?_ | refine blk_alloc ?_ _)); exact BK213.out) NB213_0.out (by simp)); have n3_ := am13_ (KeepBut.trans (by repeat (first | (with_reducible first | exact HK.out | apply KeepBut.set_ | apply keep_drewN | apply keep_drew | apply keep_alloc | refine keep_far ?_ GW206.out _ | refine keep_far ?_ GW213.out _) | exact HK.out)) hk (.inl rfl)); have n4_ := am13_ (hb); have n5_ := am13_ (hi); clear BK206; clear HO210; clear BK213; clear HK; clear HB; clear HI0; have BK206 := n0_; have HO210 := n1_; have BK213 := n2_; have HK := n3_; have HB := n4_; have HI0 := n5_; clear n0_ n1_ n2_ n3_ n4_ n5_; (try clear hb); (try clear hb2); (try clear hk); (try clear hi)) | ((with_reducible refine gate_callee (f := 107) rfl ?_); refine goesL_ (some 52) rfl rfl Try.func107 (by kernel_rfl) rfl #[.pointer (some ⟨g, 0, none⟩), .int .i64 5] rfl lm13_ ?_; (with_reducible refine (spec_l1Cur_pick.calls g s0_0 t215 t216 5 t243 t244 t245 w0 _ ?side1 ?side2 A96.out).mono ?_); (case side1 => repeat (first | (with_reducible first | exact HI0.out | apply IsS109.alloc | apply IsS109.drewN | apply IsS109.drew | apply IsS109.set_1 | apply IsS109.set_2 | refine IsS109.far ?_ NB0_206.out _ | refine IsS109.far ?_ NB0_213.out _) | exact HI0.out)); (case side2 => repeat (first | (with_reducible first | exact HB.out | apply below_alloc | apply pw_below_drewN | apply below_drew1 | refine below_set ?_ (IsS109.ge HI0.out) | refine below_set ?_ GE206.out | refine below_set ?_ GE213.out) | exact HB.out)); rintro e w106 ⟨rfl, hi, hb, hk⟩; refine ⟨_, rfl, ?_⟩; have n0_ := am13_ (KeepBut.blk hk (g' := gb206) (o := .cells #[.int .i64 0, .slice none 0 0] 26 (0, 0)) (lb13_ BK206) NB206_0.out (by simp)); have n1_ := am13_ (Kd.R_mono (Kd.R_keep (IsS109.apart (show IsS109 w0 _ g s0_0 t215 t216 from by repeat (first | (with_reducible first | exact HI0.out | apply IsS109.alloc | apply IsS109.drewN | apply IsS109.drew | apply IsS109.set_1 | apply IsS109.set_2 | refine IsS109.far ?_ NB0_206.out _ | refine IsS109.far ?_ NB0_213.out _) | exact HI0.out)) (lf13_ HO210) (by decide)) hk (fun _ h => h.2)) (fun _ h => h.1)); have n2_ := am13_ (KeepBut.blk hk (g' := gb213) (o := .cells #[.int .i64 t207, .slice Ao104 t208.length co104] 26 (0, 0)) (lb13_ BK213) NB213_0.out (by simp)); have n3_ := am13_ (KeepBut.trans (by repeat (first | (with_reducible first | exact HK.out | apply KeepBut.set_ | apply keep_drewN | apply keep_drew | apply keep_alloc | refine keep_far ?_ GW206.out _ | refine keep_far ?_ GW213.out _) | exact HK.out)) hk (.inl rfl)); have n4_ := am13_ (hb); have n5_ := am13_ (hi); clear BK206; clear HO210; clear BK213; clear HK; clear HB; clear HI0; have BK206 := n0_; have HO210 := n1_; have BK213 := n2_; have HK := n3_; have HB := n4_; have HI0 := n5_; clear n0_ n1_ n2_ n3_ n4_ n5_; (try clear hb); (try clear hb2); (try clear hk); (try clear hi)) | ((with_reducible refine gate_callee (f := 106) rfl ?_); refine goesL_ (some 54) rfl rfl Try.func106 (by kernel_rfl) rfl #[.int .i64 (wrap64 (16 * t243))] rfl lm13_ ?_; (with_reducible refine (spec_biNew.calls (wrap64 (16 * t243)) t246 t247 _ A97.out).mono ?_); rintro e w107 ⟨v248, rfl, ho0, hb⟩; refine ⟨_, rfl, ?_⟩; have n0_ := am13_ (Kd.R_elder' (lf13_ HO210) (Kd.R_base ho0) hb); have n1_ := am13_ (Kd.R_lower (Kd.R_new' ho0 (Kd.R_lt (lf13_ HO210))) (keep_size (w := w) (g := g) (row := none) (by repeat (first | (with_reducible first | exact HK.out | apply KeepBut.set_ | apply keep_drewN | apply keep_drew | apply keep_alloc | refine keep_far ?_ GW206.out _ | refine keep_far ?_ GW213.out _) | exact HK.out)))); have n2_ := am13_ (IsS109.below (by repeat (first | (with_reducible first | exact HI0.out | apply IsS109.alloc | apply IsS109.drewN | apply IsS109.drew | apply IsS109.set_1 | apply IsS109.set_2 | refine IsS109.far ?_ NB0_206.out _ | refine IsS109.far ?_ NB0_213.out _) | exact HI0.out)) hb); have n3_ := am13_ (blk_below (g := gb206) (o := .cells #[.int .i64 0, .slice none 0 0] 26 (0, 0)) (lb13_ BK206) hb); have n4_ := am13_ (blk_below (g := gb213) (o := .cells #[.int .i64 t207, .slice Ao104 t208.length co104] 26 (0, 0)) (lb13_ BK213) hb); have n5_ := am13_ (KeepBut.trans (by repeat (first | (with_reducible first | exact HK.out | apply KeepBut.set_ | apply keep_drewN | apply keep_drew | apply keep_alloc | refine keep_far ?_ GW206.out _ | refine keep_far ?_ GW213.out _) | exact HK.out)) (KeepBut.of_below hb g none) (.inl rfl)); have n6_ := am13_ (below_step (by repeat (first | (with_reducible first | exact HB.out | apply below_alloc | apply pw_below_drewN | apply below_drew1 | refine below_set ?_ (IsS109.ge HI0.out) | refine below_set ?_ GE206.out | refine below_set ?_ GE213.out) | exact HB.out)) hb); clear HO210; clear HI0; clear BK206; clear BK213; clear HK; clear HB; have HO210 := n0_; have HO249 := n1_; have HI0 := n2_; have BK206 := n3_; have BK213 := n4_; have HK := n5_; have HB := n6_; clear n0_ n1_ n2_ n3_ n4_ n5_ n6_; (try clear hb); (try clear hb2); (try clear hk); (try clear hi); (try clear ho0); have hcz108_0 : w107.cell? ⟨gb213, 0, none⟩ = some (.int .i64 t207) := (blk_cell BK213.out 0).trans rfl; have hcz108_1 : w107.cell? ⟨gb213, 1, none⟩ = some (.slice Ao104 t208.length co104) := (blk_cell BK213.out 1).trans rfl; have hfz108_0 := blk_frozen BK213.out 0; have hfz108_1 := blk_frozen BK213.out 1; obtain ⟨Ao109, co109, eo109⟩ := Kd.R_slice HO249.out; subst eo109; have hnb110 := NB206_0.out; have hnc110 := NB0_206.out; have hcz111_0 : w107.cell? ⟨gb206, 0, none⟩ = some (.int .i64 0) := (blk_cell BK206.out 0).trans rfl; have hcz111_1 : w107.cell? ⟨gb206, 1, none⟩ = some (.slice none 0 0) := (blk_cell BK206.out 1).trans rfl; have hfz111_0 := blk_frozen BK206.out 0; have hfz111_1 := blk_frozen BK206.out 1))
      refine bodyPost_ret (results_cell_row rfl _ _ gb206 26 #[.int .i64 t246, .slice Ao109 t247.length co109] (0, 0) _ rfl (by (with_reducible repeat (first | refine blk_drewN ?_ _ | refine blk_drew ?_ | refine blk_alloc ?_ _)); refine blk_put (cs := #[.int .i64 t246, .slice none 0 0]) ?_ 1 _ rfl; (with_reducible repeat (first | refine blk_drewN ?_ _ | refine blk_drew ?_ | refine blk_alloc ?_ _)); refine blk_put (cs := #[.int .i64 0, .slice none 0 0]) ?_ 0 _ rfl; (with_reducible repeat (first | refine blk_drewN ?_ _ | refine blk_drew ?_ | refine blk_alloc ?_ _)); refine blk_far ?_ NB206_213.out _; (with_reducible repeat (first | refine blk_drewN ?_ _ | refine blk_drew ?_ | refine blk_alloc ?_ _)); refine blk_far ?_ NB206_213.out _; (with_reducible repeat (first | refine blk_drewN ?_ _ | refine blk_drew ?_ | refine blk_alloc ?_ _)); exact BK206.out) Try.underlying26 rfl (by kernel_rfl)) rfl ?_
      exact ⟨_, by first | rfl | (simp [errW_none, errW_some] <;> rfl) | (simp [*, errW_none, errW_some] <;> rfl), by (with_reducible repeat (first | apply Kd.R_alloc | apply Kd.R_drewN | apply Kd.R_drew)); exact Kd.R_mono (Kd.R_far (p := ⟨gb206, 1, none⟩) (Kd.R_far (p := ⟨gb206, 0, none⟩) (Kd.R_far (p := ⟨gb213, 1, none⟩) (Kd.R_far (p := ⟨gb213, 0, none⟩) (Kd.R_types (Kd.R_types HO249.out BK213.out (by decide)) BK206.out (by decide)) (fun _ hk => hk.1.2) (.int .i64 t246)) (fun _ hk => hk.1.2) (.slice Ao109 t247.length co109)) (fun _ hk => hk.2) (.int .i64 t246)) (fun _ hk => hk.2) (.slice Ao109 t247.length co109)) (fun _ hk => trivial), by repeat (first | (with_reducible first | exact HI0.out | apply IsS109.alloc | apply IsS109.drewN | apply IsS109.drew | apply IsS109.set_1 | apply IsS109.set_2 | refine IsS109.far ?_ NB0_206.out _ | refine IsS109.far ?_ NB0_213.out _) | exact HI0.out), by repeat (first | (with_reducible first | exact HB.out | apply below_alloc | apply pw_below_drewN | apply below_drew1 | refine below_set ?_ (IsS109.ge HI0.out) | refine below_set ?_ GE206.out | refine below_set ?_ GE213.out) | exact HB.out), by repeat (first | (with_reducible first | exact HK.out | apply KeepBut.set_ | apply keep_drewN | apply keep_drew | apply keep_alloc | refine keep_far ?_ GW206.out _ | refine keep_far ?_ GW213.out _) | exact HK.out)⟩
     ·rw [if_neg c95] at H
      have c95b0 : (t214 == 4) = false := beq_eq_false_iff_ne.mpr c95
      have c95b1 : (t214 != 4) = true := bne_iff_ne.mpr c95
      simp only [Option.some.injEq, Prod.mk.injEq] at H
      obtain ⟨rfl, rfl, rfl, rfl⟩ := H
      go_enter Try.func103, Try.ntmps103
      go_wp2_with (first | ((with_reducible refine gate_dst (N := 2) rfl ?_); refine box_event ?hg (N := 2) ?hd (cs := #[.int .i64 0, .slice none 0 0]) (t := 26) ?hr ?_; (case hd => rfl); (case hg => rfl); (case hr => first | (go_simp; done) | (go_simp; rfl)); intro gb206 hg w112 hbox hb; have n0_ := am13_ (IsS109.below (by repeat (first | (with_reducible first | exact HI0.out | apply IsS109.alloc | apply IsS109.drewN | apply IsS109.drew | apply IsS109.set_1 | apply IsS109.set_2) | exact HI0.out)) hb); have n1_ := am13_ (KeepBut.trans (by repeat (first | (with_reducible first | exact HK.out | apply KeepBut.set_ | apply keep_drewN | apply keep_drew | apply keep_alloc) | exact HK.out)) (KeepBut.of_below hb g none) (.inl rfl)); have n2_ := am13_ (below_step (by repeat (first | (with_reducible first | exact HB.out | apply below_alloc | apply pw_below_drewN | apply below_drew1 | refine below_set ?_ (IsS109.ge HI0.out)) | exact HB.out)) hb); have n3_ := am13_ (hbox); have n4_ := am13_ ((by rw [hg]; exact (keep_size (w := w) (g := g) (row := none) (by repeat (first | (with_reducible first | exact HK.out | apply KeepBut.set_ | apply keep_drewN | apply keep_drew | apply keep_alloc) | exact HK.out))) : w.heap.size ≤ gb206)); have n5_ := am13_ ((Nat.le_trans HW0.out (by rw [hg]; exact (keep_size (w := w) (g := g) (row := none) (by repeat (first | (with_reducible first | exact HK.out | apply KeepBut.set_ | apply keep_drewN | apply keep_drew | apply keep_alloc) | exact HK.out))) : w.heap.size ≤ gb206) : w0.heap.size ≤ gb206)); have n6_ := am13_ ((by rw [hg]; exact Nat.ne_of_lt (IsS109.lt (show IsS109 w0 _ g s0_0 s0_1 s0_2 from by repeat (first | (with_reducible first | exact HI0.out | apply IsS109.alloc | apply IsS109.drewN | apply IsS109.drew | apply IsS109.set_1 | apply IsS109.set_2) | exact HI0.out))) : g ≠ gb206)); have n7_ := am13_ ((by rw [hg]; exact Nat.ne_of_gt (IsS109.lt (show IsS109 w0 _ g s0_0 s0_1 s0_2 from by repeat (first | (with_reducible first | exact HI0.out | apply IsS109.alloc | apply IsS109.drewN | apply IsS109.drew | apply IsS109.set_1 | apply IsS109.set_2) | exact HI0.out))) : gb206 ≠ g)); clear HI0; clear HK; clear HB; have HI0 := n0_; have HK := n1_; have HB := n2_; have BK206 := n3_; have GW206 := n4_; have GE206 := n5_; have NB0_206 := n6_; have NB206_0 := n7_; clear n0_ n1_ n2_ n3_ n4_ n5_ n6_ n7_; clear hb hbox hg) | ((with_reducible refine gate_callee (f := 108) rfl ?_); refine goesL_ (some 5) rfl rfl Try.func108 (by kernel_rfl) rfl #[.pointer (some ⟨g, 0, none⟩), .int .i64 40] rfl lm13_ ?_; (with_reducible refine (spec_l1Cur_bits.calls k g s0_0 s0_1 s0_2 40 t207 t208 t211 t212 w0 _ ?side1 ?side2 A2.out).mono ?_); (case side1 => repeat (first | (with_reducible first | exact HI0.out | apply IsS109.alloc | apply IsS109.drewN | apply IsS109.drew | apply IsS109.set_1 | apply IsS109.set_2 | refine IsS109.far ?_ NB0_206.out _) | exact HI0.out)); (case side2 => repeat (first | (with_reducible first | exact HB.out | apply below_alloc | apply pw_below_drewN | apply below_drew1 | refine below_set ?_ (IsS109.ge HI0.out) | refine below_set ?_ GE206.out) | exact HB.out)); rintro e w113 ⟨v209, rfl, ho0, hi, hb, hk⟩; refine ⟨_, rfl, ?_⟩; have n0_ := am13_ (KeepBut.blk hk (g' := gb206) (o := .cells #[.int .i64 0, .slice none 0 0] 26 (0, 0)) (lb13_ BK206) NB206_0.out (by simp)); have n1_ := am13_ (Kd.R_lower ho0 (keep_size (w := w) (g := g) (row := none) (by repeat (first | (with_reducible first | exact HK.out | apply KeepBut.set_ | apply keep_drewN | apply keep_drew | apply keep_alloc | refine keep_far ?_ GW206.out _) | exact HK.out)))); have n2_ := am13_ (KeepBut.trans (by repeat (first | (with_reducible first | exact HK.out | apply KeepBut.set_ | apply keep_drewN | apply keep_drew | apply keep_alloc | refine keep_far ?_ GW206.out _) | exact HK.out)) hk (.inl rfl)); have n3_ := am13_ (hb); have n4_ := am13_ (hi); clear BK206; clear HK; clear HB; clear HI0; have BK206 := n0_; have HO210 := n1_; have HK := n2_; have HB := n3_; have HI0 := n4_; clear n0_ n1_ n2_ n3_ n4_; (try clear hb); (try clear hb2); (try clear hk); (try clear hi); (try clear ho0)) | ((with_reducible refine gate_dst (N := 3) rfl ?_); refine box_event ?hg (N := 3) ?hd (cs := #[.int .i64 0, .slice none 0 0]) (t := 26) ?hr ?_; (case hd => rfl); (case hg => rfl); (case hr => first | (go_simp; done) | (go_simp; rfl)); intro gb213 hg w114 hbox hb; have n0_ := am13_ (Kd.R_below (lf13_ HO210) hb); have n1_ := am13_ (IsS109.below (by repeat (first | (with_reducible first | exact HI0.out | apply IsS109.alloc | apply IsS109.drewN | apply IsS109.drew | apply IsS109.set_1 | apply IsS109.set_2 | refine IsS109.far ?_ NB0_206.out _) | exact HI0.out)) hb); have n2_ := am13_ (blk_below (g := gb206) (o := .cells #[.int .i64 0, .slice none 0 0] 26 (0, 0)) (lb13_ BK206) hb); have n3_ := am13_ (KeepBut.trans (by repeat (first | (with_reducible first | exact HK.out | apply KeepBut.set_ | apply keep_drewN | apply keep_drew | apply keep_alloc | refine keep_far ?_ GW206.out _) | exact HK.out)) (KeepBut.of_below hb g none) (.inl rfl)); have n4_ := am13_ (below_step (by repeat (first | (with_reducible first | exact HB.out | apply below_alloc | apply pw_below_drewN | apply below_drew1 | refine below_set ?_ (IsS109.ge HI0.out) | refine below_set ?_ GE206.out) | exact HB.out)) hb); have n5_ := am13_ (hbox); have n6_ := am13_ ((by rw [hg]; exact (keep_size (w := w) (g := g) (row := none) (by repeat (first | (with_reducible first | exact HK.out | apply KeepBut.set_ | apply keep_drewN | apply keep_drew | apply keep_alloc | refine keep_far ?_ GW206.out _) | exact HK.out))) : w.heap.size ≤ gb213)); have n7_ := am13_ ((Nat.le_trans HW0.out (by rw [hg]; exact (keep_size (w := w) (g := g) (row := none) (by repeat (first | (with_reducible first | exact HK.out | apply KeepBut.set_ | apply keep_drewN | apply keep_drew | apply keep_alloc | refine keep_far ?_ GW206.out _) | exact HK.out))) : w.heap.size ≤ gb213) : w0.heap.size ≤ gb213)); have n8_ := am13_ ((by rw [hg]; exact Nat.ne_of_lt (blk_lt (g := gb206) (lb13_ BK206)) : gb206 ≠ gb213)); have n9_ := am13_ ((by rw [hg]; exact Nat.ne_of_gt (blk_lt (g := gb206) (lb13_ BK206)) : gb213 ≠ gb206)); have n10_ := am13_ ((by rw [hg]; exact Nat.ne_of_lt (IsS109.lt (show IsS109 w0 _ g s0_0 t211 t212 from by repeat (first | (with_reducible first | exact HI0.out | apply IsS109.alloc | apply IsS109.drewN | apply IsS109.drew | apply IsS109.set_1 | apply IsS109.set_2 | refine IsS109.far ?_ NB0_206.out _) | exact HI0.out))) : g ≠ gb213)); have n11_ := am13_ ((by rw [hg]; exact Nat.ne_of_gt (IsS109.lt (show IsS109 w0 _ g s0_0 t211 t212 from by repeat (first | (with_reducible first | exact HI0.out | apply IsS109.alloc | apply IsS109.drewN | apply IsS109.drew | apply IsS109.set_1 | apply IsS109.set_2 | refine IsS109.far ?_ NB0_206.out _) | exact HI0.out))) : gb213 ≠ g)); clear HO210; clear HI0; clear BK206; clear HK; clear HB; have HO210 := n0_; have HI0 := n1_; have BK206 := n2_; have HK := n3_; have HB := n4_; have BK213 := n5_; have GW213 := n6_; have GE213 := n7_; have NB206_213 := n8_; have NB213_206 := n9_; have NB0_213 := n10_; have NB213_0 := n11_; clear n0_ n1_ n2_ n3_ n4_ n5_ n6_ n7_ n8_ n9_ n10_ n11_; clear hb hbox hg; have hnb115 := NB213_206.out; have hnc115 := NB206_213.out; have hnb116 := NB213_0.out; have hnc116 := NB0_213.out; have hcz117_0 : w114.cell? ⟨gb213, 0, none⟩ = some (.int .i64 0) := (blk_cell BK213.out 0).trans rfl; have hcz117_1 : w114.cell? ⟨gb213, 1, none⟩ = some (.slice none 0 0) := (blk_cell BK213.out 1).trans rfl; have hfz117_0 := blk_frozen BK213.out 0; have hfz117_1 := blk_frozen BK213.out 1; obtain ⟨Ao118, co118, eo118⟩ := Kd.R_slice HO210.out; subst eo118) | ((with_reducible refine gate_callee (f := 107) rfl ?_); refine goesL_ (some 7) rfl rfl Try.func107 (by kernel_rfl) rfl #[.pointer (some ⟨g, 0, none⟩), .int .i64 16] rfl lm13_ ?_; (with_reducible refine (spec_l1Cur_pick.calls g s0_0 t211 t212 16 t214 t215 t216 w0 _ ?side1 ?side2 A3.out).mono ?_); (case side1 => repeat (first | (with_reducible first | exact HI0.out | apply IsS109.alloc | apply IsS109.drewN | apply IsS109.drew | apply IsS109.set_1 | apply IsS109.set_2 | refine IsS109.far ?_ NB0_206.out _ | refine IsS109.far ?_ NB0_213.out _) | exact HI0.out)); (case side2 => repeat (first | (with_reducible first | exact HB.out | apply below_alloc | apply pw_below_drewN | apply below_drew1 | refine below_set ?_ (IsS109.ge HI0.out) | refine below_set ?_ GE206.out | refine below_set ?_ GE213.out) | exact HB.out)); rintro e w119 ⟨rfl, hi, hb, hk⟩; refine ⟨_, rfl, ?_⟩; have n0_ := am13_ (KeepBut.blk hk (g' := gb206) (o := .cells #[.int .i64 0, .slice none 0 0] 26 (0, 0)) (by (with_reducible repeat (first | refine blk_drewN ?_ _ | refine blk_drew ?_ | refine blk_alloc ?_ _)); refine blk_far ?_ NB206_213.out _; (with_reducible repeat (first | refine blk_drewN ?_ _ | refine blk_drew ?_ | refine blk_alloc ?_ _)); refine blk_far ?_ NB206_213.out _; (with_reducible repeat (first | refine blk_drewN ?_ _ | refine blk_drew ?_ | refine blk_alloc ?_ _)); exact BK206.out) NB206_0.out (by simp)); have n1_ := am13_ (Kd.R_mono (Kd.R_keep (IsS109.apart (show IsS109 w0 _ g s0_0 t211 t212 from by repeat (first | (with_reducible first | exact HI0.out | apply IsS109.alloc | apply IsS109.drewN | apply IsS109.drew | apply IsS109.set_1 | apply IsS109.set_2 | refine IsS109.far ?_ NB0_206.out _ | refine IsS109.far ?_ NB0_213.out _) | exact HI0.out)) (lt13_ (Kd.R_mono (Kd.R_far (p := ⟨gb213, 1, none⟩) (Kd.R_far (p := ⟨gb213, 0, none⟩) (Kd.R_types HO210.out BK213.out (by decide)) (fun _ hk => hk.2) (.int .i64 t207)) (fun _ hk => hk.2) (.slice Ao118 t208.length co118)) (fun _ h_ => h_.1))) (by decide)) hk (fun _ h => h.2)) (fun _ h => h.1)); have n2_ := am13_ (KeepBut.blk hk (g' := gb213) (o := .cells #[.int .i64 t207, .slice Ao118 t208.length co118] 26 (0, 0)) (by (with_reducible repeat (first | refine blk_drewN ?_ _ | refine blk_drew ?_ | refine blk_alloc ?_ _)); refine blk_put (cs := #[.int .i64 t207, .slice none 0 0]) ?_ 1 _ rfl; (with_reducible repeat (first | refine blk_drewN ?_ _ | refine blk_drew ?_ | refine blk_alloc ?_ _)); refine blk_put (cs := #[.int .i64 0, .slice none 0 0]) ?_ 0 _ rfl; (with_reducible repeat (first | refine blk_drewN ?_ _ | refine blk_drew ?_ | refine blk_alloc ?_ _)); exact BK213.out) NB213_0.out (by simp)); have n3_ := am13_ (KeepBut.trans (by repeat (first | (with_reducible first | exact HK.out | apply KeepBut.set_ | apply keep_drewN | apply keep_drew | apply keep_alloc | refine keep_far ?_ GW206.out _ | refine keep_far ?_ GW213.out _) | exact HK.out)) hk (.inl rfl)); have n4_ := am13_ (hb); have n5_ := am13_ (hi); clear BK206; clear HO210; clear BK213; clear HK; clear HB; clear HI0; have BK206 := n0_; have HO210 := n1_; have BK213 := n2_; have HK := n3_; have HB := n4_; have HI0 := n5_; clear n0_ n1_ n2_ n3_ n4_ n5_; (try clear hb); (try clear hb2); (try clear hk); (try clear hi); have hcz120_0 : w119.cell? ⟨gb213, 0, none⟩ = some (.int .i64 t207) := (blk_cell BK213.out 0).trans rfl; have hcz120_1 : w119.cell? ⟨gb213, 1, none⟩ = some (.slice Ao118 t208.length co118) := (blk_cell BK213.out 1).trans rfl; have hfz120_0 := blk_frozen BK213.out 0; have hfz120_1 := blk_frozen BK213.out 1; have hnb121 := NB206_0.out; have hnc121 := NB0_206.out; have hcz122_0 : w119.cell? ⟨gb206, 0, none⟩ = some (.int .i64 0) := (blk_cell BK206.out 0).trans rfl; have hcz122_1 : w119.cell? ⟨gb206, 1, none⟩ = some (.slice none 0 0) := (blk_cell BK206.out 1).trans rfl; have hfz122_0 := blk_frozen BK206.out 0; have hfz122_1 := blk_frozen BK206.out 1))
      refine bodyPost_ret (results_cell_row rfl _ _ gb206 26 #[.int .i64 t207, .slice Ao118 t208.length co118] (0, 0) _ rfl (by (with_reducible repeat (first | refine blk_drewN ?_ _ | refine blk_drew ?_ | refine blk_alloc ?_ _)); refine blk_put (cs := #[.int .i64 t207, .slice none 0 0]) ?_ 1 _ rfl; (with_reducible repeat (first | refine blk_drewN ?_ _ | refine blk_drew ?_ | refine blk_alloc ?_ _)); refine blk_put (cs := #[.int .i64 0, .slice none 0 0]) ?_ 0 _ rfl; (with_reducible repeat (first | refine blk_drewN ?_ _ | refine blk_drew ?_ | refine blk_alloc ?_ _)); exact BK206.out) Try.underlying26 rfl (by kernel_rfl)) rfl ?_
      exact ⟨_, by first | rfl | (simp [errW_none, errW_some] <;> rfl) | (simp [*, errW_none, errW_some] <;> rfl), by (with_reducible repeat (first | apply Kd.R_alloc | apply Kd.R_drewN | apply Kd.R_drew)); exact Kd.R_mono (Kd.R_far (p := ⟨gb206, 1, none⟩) (Kd.R_far (p := ⟨gb206, 0, none⟩) (Kd.R_types HO210.out BK206.out (by decide)) (fun _ hk => hk.2) (.int .i64 t207)) (fun _ hk => hk.2) (.slice Ao118 t208.length co118)) (fun _ hk => trivial), by repeat (first | (with_reducible first | exact HI0.out | apply IsS109.alloc | apply IsS109.drewN | apply IsS109.drew | apply IsS109.set_1 | apply IsS109.set_2 | refine IsS109.far ?_ NB0_206.out _ | refine IsS109.far ?_ NB0_213.out _) | exact HI0.out), by repeat (first | (with_reducible first | exact HB.out | apply below_alloc | apply pw_below_drewN | apply below_drew1 | refine below_set ?_ (IsS109.ge HI0.out) | refine below_set ?_ GE206.out | refine below_set ?_ GE213.out) | exact HB.out), by repeat (first | (with_reducible first | exact HK.out | apply KeepBut.set_ | apply keep_drewN | apply keep_drew | apply keep_alloc | refine keep_far ?_ GW206.out _ | refine keep_far ?_ GW213.out _) | exact HK.out)⟩

end Go.Proofs.Ytkmhjgejficclaa.PFnJoinsAreCut
