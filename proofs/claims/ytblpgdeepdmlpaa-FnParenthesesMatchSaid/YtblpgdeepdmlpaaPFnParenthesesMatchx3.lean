-- Laid by a program of this session: the print of the kit with additions of ours (wip/tools/patchprint.py). Nothing of it is trusted: Lean checks it.
import Derived.Test.YtblpgdeepdmlpaaPFnParenthesesMatchx0
import Derived.Test.YtblpgdeepdmlpaaPFnParenthesesMatchx1
import Derived.Test.YtblpgdeepdmlpaaPFnParenthesesMatchx2
namespace Go.Proofs.Ytblpgdeepdmlpaa.PFnParenthesesMatch
open Go.RowKit Go.Proofs.YtblpgdeepdmlpaaW.PrintWords Go.Proofs.YtblpgdeepdmlpaaW.PrintLast Go.Proofs.YtblpgdeepdmlpaaW.PrintMore
attribute [local go_sem] max2_int min2_int max_two min_two max_three min_three max_four min_four   -- for this text's walks alone
set_option linter.unusedVariables false
set_option linter.unusedSimpArgs false

theorem am7_ {p : Prop} (h : p) : Aside0 p := ⟨h⟩
theorem lm7_ {P : Prop} (h : P := by (try simp only [List.map_toArray, List.map_cons, List.map_nil]); first | done | rfl | (simp only [List.length_drop, List.length_take]; rfl)) : P := h
theorem lc7_ {P Q : Prop} (h : P) (f : P → Q := by intro h_; repeat (first | exact h_ | (with_reducible refine Kd.C_alloc ?_ _) | (with_reducible refine Kd.C_drewN ?_ _) | (with_reducible refine Kd.C_drew ?_))) : Q := f h
theorem lt7_ {P Q : Prop} (h : P) (f : P → Q := by intro h_; (with_reducible repeat (first | apply Kd.R_alloc | apply Kd.R_drewN | apply Kd.R_drew)); exact h_) : Q := f h
theorem lf7_ {P Q : Prop} (h : Aside0 P) (f : P → Q := by intro h_; (with_reducible repeat (first | apply Kd.R_alloc | apply Kd.R_drewN | apply Kd.R_drew)); exact h_) : Q := f h.out
theorem lb7_ {P Q : Prop} (h : Aside0 P) (f : P → Q := by intro h_; (with_reducible repeat (first | refine blk_drewN ?_ _ | refine blk_drew ?_ | refine blk_alloc ?_ _)); exact h_) : Q := f h.out
theorem lw7_ {P Q : Prop} (h : Aside0 P) (f : P → Q := by intro h_; repeat (first | (with_reducible first | exact h_ | apply below_alloc | apply pw_below_drewN | apply below_drew1 | refine below_set ?_ (Aside0.out (by assumption))) | exact h_)) : Q := f h.out
/-! ### spec_l1Cur_anyBits: function 20 -/
def spec_l1Cur_anyBits.f (k : Nat) (s0_0 : List Int) (s0_1 : Int) (s0_2 : Int) : Option (Int × List Int × Int × Int) := (spec_l1Cur_bits.f k s0_0 s0_1 s0_2 40).bind fun bt156 => ((spec_l1Cur_pick.f s0_0 bt156.2.2.1 bt156.2.2.2 16).bind fun bt163 => (if bt163.1 = 0 then ((spec_l1Cur_pick.f s0_0 bt163.2.1 bt163.2.2 2).bind fun bt166 => (if bt156.2.1.length < 17592186044416 then (some (bt156.1, (bt156.2.1 ++ [bt166.1]), bt166.2.1, bt166.2.2)) else (none))) else (if bt163.1 = 1 then ((spec_l1Cur_pick.f s0_0 bt163.2.1 bt163.2.2 3).bind fun bt172 => (some (wrap64 (bt156.1 + (wrap64 (bt172.1 - 1))), bt156.2.1, bt172.2.1, bt172.2.2))) else (if bt163.1 = 2 then (if (bt156.2.1.length : Int) > 0 then ((spec_l1Cur_pick.f s0_0 bt163.2.1 bt163.2.2 (bt156.2.1.length : Int)).bind fun bt175 => ((spec_l1Cur_among.f s0_0 bt175.2.1 bt175.2.2 (([(-1), 65535, 65536, 40000] : List Int))).bind fun bt181 => (if 0 ≤ bt175.1 then (if bt175.1 < (bt156.2.1.length : Int) then (some (bt156.1, (bt156.2.1.set (bt175.1 : Int).toNat bt181.1), bt181.2.1, bt181.2.2)) else (none)) else (none)))) else (some (bt156.1, bt156.2.1, bt163.2.1, bt163.2.2))) else (if bt163.1 = 3 then ((spec_l1Cur_pick.f s0_0 bt163.2.1 bt163.2.2 2).bind fun bt185 => ((spec_biNew.f (wrap64 (4096 - bt185.1))).bind fun bt188 => (some (bt188.1, bt188.2, bt185.2.1, bt185.2.2)))) else (if bt163.1 = 4 then ((spec_l1Cur_pick.f s0_0 bt163.2.1 bt163.2.2 5).bind fun bt192 => ((spec_biNew.f (wrap64 (16 * bt192.1))).bind fun bt195 => (some (bt195.1, bt195.2, bt192.2.1, bt192.2.2)))) else (some (bt156.1, bt156.2.1, bt163.2.1, bt163.2.2))))))))
theorem spec_l1Cur_anyBits.mono : ∀ a0 a1 a2 k, LeO (spec_l1Cur_anyBits.f k a0 a1 a2) (spec_l1Cur_anyBits.f (k + 1) a0 a1 a2) := by
 intro a0 a1 a2 k
 unfold spec_l1Cur_anyBits.f
 repeat' first
   | (with_reducible exact spec_l1Cur_bits.mono _ _ _ _ _)
   | (with_reducible exact LeO.refl _)
   | (with_reducible exact LeO.none _)
   | (with_reducible refine LeO.ite ?_ ?_)
   | (with_reducible refine LeO.bind ?_ (fun _ => ?_))
   | exact spec_l1Cur_bits.mono _ _ _ _ _
   | exact LeO.none _
   | refine LeO.ite ?_ ?_
   | refine LeO.bind ?_ (fun _ => ?_)
def spec_l1Cur_anyBits.T4 : Bool × List (List Nat × List Nat) := (true, [([], []), ([0], [0]), ([], []), ([2], [2]), ([3], [3]), ([1, 4, 3], [1, 4]), ([0, 1, 2, 3, 4, 5], []), ([6, 5, 5, 0, 1, 2, 3, 4, 5], [5, 6])])
def spec_l1Cur_anyBits.B4 : List Nat := [0, 1, 0, 4, 12, 31, 63, 127]
theorem spec_l1Cur_anyBits.tab4 : rtab .any (opsOf Try.f20 4) = spec_l1Cur_anyBits.T4 := by kernel_rfl
theorem spec_l1Cur_anyBits.bits4 : waitsOk spec_l1Cur_anyBits.T4.2 spec_l1Cur_anyBits.B4 = true := by kernel_rfl
def spec_l1Cur_anyBits.T6 : Bool × List (List Nat × List Nat) := (true, [([], []), ([0], [0]), ([], []), ([2], [2]), ([3], [3]), ([1, 4], [1, 4]), ([0, 1, 2, 3, 4, 5], []), ([6, 5, 3, 0, 1, 2, 3, 4, 5], [5, 6])])
def spec_l1Cur_anyBits.B6 : List Nat := [0, 1, 0, 4, 12, 31, 63, 127]
theorem spec_l1Cur_anyBits.tab6 : rtab .any (opsOf Try.f20 6) = spec_l1Cur_anyBits.T6 := by kernel_rfl
theorem spec_l1Cur_anyBits.bits6 : waitsOk spec_l1Cur_anyBits.T6.2 spec_l1Cur_anyBits.B6 = true := by kernel_rfl
def spec_l1Cur_anyBits.T9 : Bool × List (List Nat × List Nat) := (true, [([], []), ([0], [0]), ([], []), ([], []), ([3], [3]), ([4], [4]), ([2, 5], [2, 5]), ([], []), ([], []), ([7, 8, 6], [7, 8]), ([1, 6, 0, 1, 2, 3, 4, 5, 6, 7, 8, 9], [1, 6]), ([10, 9, 9, 0, 1, 2, 3, 4, 5, 6, 7, 8, 9], [9, 10])])
def spec_l1Cur_anyBits.B9 : List Nat := [0, 1, 0, 0, 8, 24, 60, 0, 0, 508, 1023, 2047]
theorem spec_l1Cur_anyBits.tab9 : rtab .any (opsOf Try.f20 9) = spec_l1Cur_anyBits.T9 := by kernel_rfl
theorem spec_l1Cur_anyBits.bits9 : waitsOk spec_l1Cur_anyBits.T9.2 spec_l1Cur_anyBits.B9 = true := by kernel_rfl
set_option maxHeartbeats 8000000 in
set_option maxRecDepth 100000 in
theorem spec_l1Cur_anyBits.calls (k : Nat) (g : Nat) (s0_0 : List Int) (s0_1 : Int) (s0_2 : Int) (r1 : Int) (r2 : List Int) (r3 : Int) (r4 : Int) (w0 w : World) (hI : IsS42 w0 w g s0_0 s0_1 s0_2) (hB : Below w0.heap.size w0 w) (h : spec_l1Cur_anyBits.f k s0_0 s0_1 s0_2 = some (r1, r2, r3, r4)) :
  Calls Try.prog 20 #[.pointer (some ⟨g, 0, none⟩)] w fun e w' => ∃ v1_ : Value, e = .returned (.agg #[.int .i64 r1, v1_]) ∧ Kd.R (Kd.int .i64) 3 w' w.heap.size (fun _ => True) v1_ r2 ∧ IsS42 w0 w' g s0_0 r3 r4 ∧ Below w0.heap.size w0 w' ∧ KeepBut w w' g none := by
 have hu26 := Try.underlying26
 have HI0 := am7_ hI
 have HK := am7_ (KeepBut.refl w g none)
 have HL := am7_ hB.size
 clear hI
 have HW0 := am7_ hB.size
 have HB := am7_ hB
 clear hB
 have H : ((spec_l1Cur_bits.f k s0_0 s0_1 s0_2 40).bind fun bt156 => ((spec_l1Cur_pick.f s0_0 bt156.2.2.1 bt156.2.2.2 16).bind fun bt163 => (if bt163.1 = 0 then ((spec_l1Cur_pick.f s0_0 bt163.2.1 bt163.2.2 2).bind fun bt166 => (if bt156.2.1.length < 17592186044416 then (some (bt156.1, (bt156.2.1 ++ [bt166.1]), bt166.2.1, bt166.2.2)) else (none))) else (if bt163.1 = 1 then ((spec_l1Cur_pick.f s0_0 bt163.2.1 bt163.2.2 3).bind fun bt172 => (some (wrap64 (bt156.1 + (wrap64 (bt172.1 - 1))), bt156.2.1, bt172.2.1, bt172.2.2))) else (if bt163.1 = 2 then (if (bt156.2.1.length : Int) > 0 then ((spec_l1Cur_pick.f s0_0 bt163.2.1 bt163.2.2 (bt156.2.1.length : Int)).bind fun bt175 => ((spec_l1Cur_among.f s0_0 bt175.2.1 bt175.2.2 (([(-1), 65535, 65536, 40000] : List Int))).bind fun bt181 => (if 0 ≤ bt175.1 then (if bt175.1 < (bt156.2.1.length : Int) then (some (bt156.1, (bt156.2.1.set (bt175.1 : Int).toNat bt181.1), bt181.2.1, bt181.2.2)) else (none)) else (none)))) else (some (bt156.1, bt156.2.1, bt163.2.1, bt163.2.2))) else (if bt163.1 = 3 then ((spec_l1Cur_pick.f s0_0 bt163.2.1 bt163.2.2 2).bind fun bt185 => ((spec_biNew.f (wrap64 (4096 - bt185.1))).bind fun bt188 => (some (bt188.1, bt188.2, bt185.2.1, bt185.2.2)))) else (if bt163.1 = 4 then ((spec_l1Cur_pick.f s0_0 bt163.2.1 bt163.2.2 5).bind fun bt192 => ((spec_biNew.f (wrap64 (16 * bt192.1))).bind fun bt195 => (some (bt195.1, bt195.2, bt192.2.1, bt192.2.2)))) else (some (bt156.1, bt156.2.1, bt163.2.1, bt163.2.2))))))))) = some (r1, r2, r3, r4) := h
 clear h
 replace H := Option.bind_eq_some_iff.mp H
 obtain ⟨⟨t156, t157, t160, t161⟩, A20, H⟩ := H
 replace H : ((spec_l1Cur_pick.f s0_0 t160 t161 16).bind fun bt163 => (if bt163.1 = 0 then ((spec_l1Cur_pick.f s0_0 bt163.2.1 bt163.2.2 2).bind fun bt166 => (if t157.length < 17592186044416 then (some (t156, (t157 ++ [bt166.1]), bt166.2.1, bt166.2.2)) else (none))) else (if bt163.1 = 1 then ((spec_l1Cur_pick.f s0_0 bt163.2.1 bt163.2.2 3).bind fun bt172 => (some (wrap64 (t156 + (wrap64 (bt172.1 - 1))), t157, bt172.2.1, bt172.2.2))) else (if bt163.1 = 2 then (if (t157.length : Int) > 0 then ((spec_l1Cur_pick.f s0_0 bt163.2.1 bt163.2.2 (t157.length : Int)).bind fun bt175 => ((spec_l1Cur_among.f s0_0 bt175.2.1 bt175.2.2 (([(-1), 65535, 65536, 40000] : List Int))).bind fun bt181 => (if 0 ≤ bt175.1 then (if bt175.1 < (t157.length : Int) then (some (t156, (t157.set (bt175.1 : Int).toNat bt181.1), bt181.2.1, bt181.2.2)) else (none)) else (none)))) else (some (t156, t157, bt163.2.1, bt163.2.2))) else (if bt163.1 = 3 then ((spec_l1Cur_pick.f s0_0 bt163.2.1 bt163.2.2 2).bind fun bt185 => ((spec_biNew.f (wrap64 (4096 - bt185.1))).bind fun bt188 => (some (bt188.1, bt188.2, bt185.2.1, bt185.2.2)))) else (if bt163.1 = 4 then ((spec_l1Cur_pick.f s0_0 bt163.2.1 bt163.2.2 5).bind fun bt192 => ((spec_biNew.f (wrap64 (16 * bt192.1))).bind fun bt195 => (some (bt195.1, bt195.2, bt192.2.1, bt192.2.2)))) else (some (t156, t157, bt163.2.1, bt163.2.2)))))))) = some (r1, r2, r3, r4) := H
 have A2 := am7_ A20
 clear A20
 replace H := Option.bind_eq_some_iff.mp H
 obtain ⟨⟨t163, t164, t165⟩, A30, H⟩ := H
 replace H : (if t163 = 0 then ((spec_l1Cur_pick.f s0_0 t164 t165 2).bind fun bt166 => (if t157.length < 17592186044416 then (some (t156, (t157 ++ [bt166.1]), bt166.2.1, bt166.2.2)) else (none))) else (if t163 = 1 then ((spec_l1Cur_pick.f s0_0 t164 t165 3).bind fun bt172 => (some (wrap64 (t156 + (wrap64 (bt172.1 - 1))), t157, bt172.2.1, bt172.2.2))) else (if t163 = 2 then (if (t157.length : Int) > 0 then ((spec_l1Cur_pick.f s0_0 t164 t165 (t157.length : Int)).bind fun bt175 => ((spec_l1Cur_among.f s0_0 bt175.2.1 bt175.2.2 (([(-1), 65535, 65536, 40000] : List Int))).bind fun bt181 => (if 0 ≤ bt175.1 then (if bt175.1 < (t157.length : Int) then (some (t156, (t157.set (bt175.1 : Int).toNat bt181.1), bt181.2.1, bt181.2.2)) else (none)) else (none)))) else (some (t156, t157, t164, t165))) else (if t163 = 3 then ((spec_l1Cur_pick.f s0_0 t164 t165 2).bind fun bt185 => ((spec_biNew.f (wrap64 (4096 - bt185.1))).bind fun bt188 => (some (bt188.1, bt188.2, bt185.2.1, bt185.2.2)))) else (if t163 = 4 then ((spec_l1Cur_pick.f s0_0 t164 t165 5).bind fun bt192 => ((spec_biNew.f (wrap64 (16 * bt192.1))).bind fun bt195 => (some (bt195.1, bt195.2, bt192.2.1, bt192.2.2)))) else (some (t156, t157, t164, t165))))))) = some (r1, r2, r3, r4) := H
 have A3 := am7_ A30
 clear A30
 by_cases c4 : t163 = 0
 ·rw [if_pos c4] at H
  have c4b0 : (t163 == 0) = true := beq_iff_eq.mpr c4
  have c4b1 : (t163 != 0) = false := bne_eq_false_iff_eq.mpr c4
  clear c4
  replace H := Option.bind_eq_some_iff.mp H
  obtain ⟨⟨t166, t167, t168⟩, A50, H⟩ := H
  replace H : (if t157.length < 17592186044416 then (some (t156, (t157 ++ [t166]), t167, t168)) else (none)) = some (r1, r2, r3, r4) := H
  have A5 := am7_ A50
  clear A50
  by_cases c6 : t157.length < 17592186044416
  ·rw [if_pos c6] at H
   have LMc6 := am7_ c6
   clear c6
   obtain ⟨y169, hy169⟩ : ∃ y_ : List Int, y_ = (t157 ++ [t166]) := ⟨_, rfl⟩
   replace H : (some (t156, y169, t167, t168)) = some (r1, r2, r3, r4) := by first | (rw [hy169]; with_reducible exact H) | (have H2_ := (Option.bind_some _ _).symm.trans H; rw [hy169]; with_reducible exact H2_) | (have H2_ := (Option.bind_some _ _).symm.trans H; with_reducible exact H2_) | with_reducible exact H | (rw [hy169]; exact H) | exact H
   have Ny169 := am7_ hy169
   clear hy169
   simp only [Option.some.injEq, Prod.mk.injEq] at H
   obtain ⟨rfl, rfl, rfl, rfl⟩ := H
   go_enter Try.func20, Try.ntmps20
   try go_wp2_with (first | ((with_reducible refine gate_dst (N := 2) rfl ?_); refine box_event ?hg (N := 2) ?hd (cs := #[.int .i64 0, .slice none 0 0]) (t := 26) ?hr ?_; (case hd => rfl); (case hg => rfl); (case hr => first | (go_simp; done) | (go_simp; rfl)); intro gb155 hg w7 hbox hb; have n0_ := am7_ (IsS42.below (by repeat (first | (with_reducible first | exact HI0.out | apply IsS42.alloc | apply IsS42.drewN | apply IsS42.drew | apply IsS42.set_1 | apply IsS42.set_2) | exact HI0.out)) hb); have n1_ := am7_ (KeepBut.trans (by repeat (first | (with_reducible first | exact HK.out | apply KeepBut.set_ | apply keep_drewN | apply keep_drew | apply keep_alloc) | exact HK.out)) (KeepBut.of_below hb g none) (.inl rfl)); have n2_ := am7_ (below_step (by repeat (first | (with_reducible first | exact HB.out | apply below_alloc | apply pw_below_drewN | apply below_drew1 | refine below_set ?_ (IsS42.ge HI0.out)) | exact HB.out)) hb); have n3_ := am7_ (hbox); have n4_ := am7_ ((by rw [hg]; exact (keep_size (w := w) (g := g) (row := none) (by repeat (first | (with_reducible first | exact HK.out | apply KeepBut.set_ | apply keep_drewN | apply keep_drew | apply keep_alloc) | exact HK.out))) : w.heap.size ≤ gb155)); have n5_ := am7_ ((Nat.le_trans HW0.out (by rw [hg]; exact (keep_size (w := w) (g := g) (row := none) (by repeat (first | (with_reducible first | exact HK.out | apply KeepBut.set_ | apply keep_drewN | apply keep_drew | apply keep_alloc) | exact HK.out))) : w.heap.size ≤ gb155) : w0.heap.size ≤ gb155)); have n6_ := am7_ ((by rw [hg]; exact Nat.ne_of_lt (IsS42.lt (show IsS42 w0 _ g s0_0 s0_1 s0_2 from by repeat (first | (with_reducible first | exact HI0.out | apply IsS42.alloc | apply IsS42.drewN | apply IsS42.drew | apply IsS42.set_1 | apply IsS42.set_2) | exact HI0.out))) : g ≠ gb155)); have n7_ := am7_ ((by rw [hg]; exact Nat.ne_of_gt (IsS42.lt (show IsS42 w0 _ g s0_0 s0_1 s0_2 from by repeat (first | (with_reducible first | exact HI0.out | apply IsS42.alloc | apply IsS42.drewN | apply IsS42.drew | apply IsS42.set_1 | apply IsS42.set_2) | exact HI0.out))) : gb155 ≠ g)); clear HI0; clear HK; clear HB; have HI0 := n0_; have HK := n1_; have HB := n2_; have BK155 := n3_; have GW155 := n4_; have GE155 := n5_; have NB0_155 := n6_; have NB155_0 := n7_; clear n0_ n1_ n2_ n3_ n4_ n5_ n6_ n7_; clear hb hbox hg) | ((with_reducible refine gate_callee (f := 41) rfl ?_); refine goesL_ (some 5) rfl rfl Try.func41 (by kernel_rfl) rfl #[.pointer (some ⟨g, 0, none⟩), .int .i64 40] rfl lm7_ ?_; (with_reducible refine (spec_l1Cur_bits.calls k g s0_0 s0_1 s0_2 40 t156 t157 t160 t161 w0 _ ?side1 ?side2 A2.out).mono ?_); (case side1 => repeat (first | (with_reducible first | exact HI0.out | apply IsS42.alloc | apply IsS42.drewN | apply IsS42.drew | apply IsS42.set_1 | apply IsS42.set_2 | refine IsS42.far ?_ NB0_155.out _) | exact HI0.out)); (case side2 => repeat (first | (with_reducible first | exact HB.out | apply below_alloc | apply pw_below_drewN | apply below_drew1 | refine below_set ?_ (IsS42.ge HI0.out) | refine below_set ?_ GE155.out) | exact HB.out)); rintro e w8 ⟨v158, rfl, ho0, hi, hb, hk⟩; refine ⟨_, rfl, ?_⟩; have n0_ := am7_ (KeepBut.blk hk (g' := gb155) (o := .cells #[.int .i64 0, .slice none 0 0] 26 (0, 0)) (lb7_ BK155) NB155_0.out (by simp)); have n1_ := am7_ (Kd.R_lower ho0 (keep_size (w := w) (g := g) (row := none) (by repeat (first | (with_reducible first | exact HK.out | apply KeepBut.set_ | apply keep_drewN | apply keep_drew | apply keep_alloc | refine keep_far ?_ GW155.out _) | exact HK.out)))); have n2_ := am7_ (KeepBut.trans (by repeat (first | (with_reducible first | exact HK.out | apply KeepBut.set_ | apply keep_drewN | apply keep_drew | apply keep_alloc | refine keep_far ?_ GW155.out _) | exact HK.out)) hk (.inl rfl)); have n3_ := am7_ (hb); have n4_ := am7_ (hi); clear BK155; clear HK; clear HB; clear HI0; have BK155 := n0_; have HO159 := n1_; have HK := n2_; have HB := n3_; have HI0 := n4_; clear n0_ n1_ n2_ n3_ n4_; (try clear hb); (try clear hb2); (try clear hk); (try clear hi); (try clear ho0)) | ((with_reducible refine gate_dst (N := 3) rfl ?_); refine box_event ?hg (N := 3) ?hd (cs := #[.int .i64 0, .slice none 0 0]) (t := 26) ?hr ?_; (case hd => rfl); (case hg => rfl); (case hr => first | (go_simp; done) | (go_simp; rfl)); intro gb162 hg w9 hbox hb; have n0_ := am7_ (Kd.R_below (lf7_ HO159) hb); have n1_ := am7_ (IsS42.below (by repeat (first | (with_reducible first | exact HI0.out | apply IsS42.alloc | apply IsS42.drewN | apply IsS42.drew | apply IsS42.set_1 | apply IsS42.set_2 | refine IsS42.far ?_ NB0_155.out _) | exact HI0.out)) hb); have n2_ := am7_ (blk_below (g := gb155) (o := .cells #[.int .i64 0, .slice none 0 0] 26 (0, 0)) (lb7_ BK155) hb); have n3_ := am7_ (KeepBut.trans (by repeat (first | (with_reducible first | exact HK.out | apply KeepBut.set_ | apply keep_drewN | apply keep_drew | apply keep_alloc | refine keep_far ?_ GW155.out _) | exact HK.out)) (KeepBut.of_below hb g none) (.inl rfl)); have n4_ := am7_ (below_step (by repeat (first | (with_reducible first | exact HB.out | apply below_alloc | apply pw_below_drewN | apply below_drew1 | refine below_set ?_ (IsS42.ge HI0.out) | refine below_set ?_ GE155.out) | exact HB.out)) hb); have n5_ := am7_ (hbox); have n6_ := am7_ ((by rw [hg]; exact (keep_size (w := w) (g := g) (row := none) (by repeat (first | (with_reducible first | exact HK.out | apply KeepBut.set_ | apply keep_drewN | apply keep_drew | apply keep_alloc | refine keep_far ?_ GW155.out _) | exact HK.out))) : w.heap.size ≤ gb162)); have n7_ := am7_ ((Nat.le_trans HW0.out (by rw [hg]; exact (keep_size (w := w) (g := g) (row := none) (by repeat (first | (with_reducible first | exact HK.out | apply KeepBut.set_ | apply keep_drewN | apply keep_drew | apply keep_alloc | refine keep_far ?_ GW155.out _) | exact HK.out))) : w.heap.size ≤ gb162) : w0.heap.size ≤ gb162)); have n8_ := am7_ ((by rw [hg]; exact Nat.ne_of_lt (blk_lt (g := gb155) (lb7_ BK155)) : gb155 ≠ gb162)); have n9_ := am7_ ((by rw [hg]; exact Nat.ne_of_gt (blk_lt (g := gb155) (lb7_ BK155)) : gb162 ≠ gb155)); have n10_ := am7_ ((by rw [hg]; exact Nat.ne_of_lt (IsS42.lt (show IsS42 w0 _ g s0_0 t160 t161 from by repeat (first | (with_reducible first | exact HI0.out | apply IsS42.alloc | apply IsS42.drewN | apply IsS42.drew | apply IsS42.set_1 | apply IsS42.set_2 | refine IsS42.far ?_ NB0_155.out _) | exact HI0.out))) : g ≠ gb162)); have n11_ := am7_ ((by rw [hg]; exact Nat.ne_of_gt (IsS42.lt (show IsS42 w0 _ g s0_0 t160 t161 from by repeat (first | (with_reducible first | exact HI0.out | apply IsS42.alloc | apply IsS42.drewN | apply IsS42.drew | apply IsS42.set_1 | apply IsS42.set_2 | refine IsS42.far ?_ NB0_155.out _) | exact HI0.out))) : gb162 ≠ g)); clear HO159; clear HI0; clear BK155; clear HK; clear HB; have HO159 := n0_; have HI0 := n1_; have BK155 := n2_; have HK := n3_; have HB := n4_; have BK162 := n5_; have GW162 := n6_; have GE162 := n7_; have NB155_162 := n8_; have NB162_155 := n9_; have NB0_162 := n10_; have NB162_0 := n11_; clear n0_ n1_ n2_ n3_ n4_ n5_ n6_ n7_ n8_ n9_ n10_ n11_; clear hb hbox hg; have hnb10 := NB162_155.out; have hnc10 := NB155_162.out; have hnb11 := NB162_0.out; have hnc11 := NB0_162.out; have hcz12_0 : w9.cell? ⟨gb162, 0, none⟩ = some (.int .i64 0) := (blk_cell BK162.out 0).trans rfl; have hcz12_1 : w9.cell? ⟨gb162, 1, none⟩ = some (.slice none 0 0) := (blk_cell BK162.out 1).trans rfl; have hfz12_0 := blk_frozen BK162.out 0; have hfz12_1 := blk_frozen BK162.out 1; obtain ⟨Ao13, co13, eo13⟩ := Kd.R_slice HO159.out; subst eo13) | ((with_reducible refine gate_callee (f := 24) rfl ?_); refine goesL_ (some 7) rfl rfl Try.func24 (by kernel_rfl) rfl #[.pointer (some ⟨g, 0, none⟩), .int .i64 16] rfl lm7_ ?_; (with_reducible refine (spec_l1Cur_pick.calls g s0_0 t160 t161 16 t163 t164 t165 w0 _ ?side1 ?side2 A3.out).mono ?_); (case side1 => repeat (first | (with_reducible first | exact HI0.out | apply IsS42.alloc | apply IsS42.drewN | apply IsS42.drew | apply IsS42.set_1 | apply IsS42.set_2 | refine IsS42.far ?_ NB0_155.out _ | refine IsS42.far ?_ NB0_162.out _) | exact HI0.out)); (case side2 => repeat (first | (with_reducible first | exact HB.out | apply below_alloc | apply pw_below_drewN | apply below_drew1 | refine below_set ?_ (IsS42.ge HI0.out) | refine below_set ?_ GE155.out | refine below_set ?_ GE162.out) | exact HB.out)); rintro e w14 ⟨rfl, hi, hb, hk⟩; refine ⟨_, rfl, ?_⟩; have n0_ := am7_ (KeepBut.blk hk (g' := gb155) (o := .cells #[.int .i64 0, .slice none 0 0] 26 (0, 0)) (by (with_reducible repeat (first | refine blk_drewN ?_ _ | refine blk_drew ?_ | refine blk_alloc ?_ _)); refine blk_far ?_ NB155_162.out _; (with_reducible repeat (first | refine blk_drewN ?_ _ | refine blk_drew ?_ | refine blk_alloc ?_ _)); refine blk_far ?_ NB155_162.out _; (with_reducible repeat (first | refine blk_drewN ?_ _ | refine blk_drew ?_ | refine blk_alloc ?_ _)); exact BK155.out) NB155_0.out (by simp)); have n1_ := am7_ (Kd.R_mono (Kd.R_keep (IsS42.apart (show IsS42 w0 _ g s0_0 t160 t161 from by repeat (first | (with_reducible first | exact HI0.out | apply IsS42.alloc | apply IsS42.drewN | apply IsS42.drew | apply IsS42.set_1 | apply IsS42.set_2 | refine IsS42.far ?_ NB0_155.out _ | refine IsS42.far ?_ NB0_162.out _) | exact HI0.out)) (lt7_ (Kd.R_mono (Kd.R_far (p := ⟨gb162, 1, none⟩) (Kd.R_far (p := ⟨gb162, 0, none⟩) (Kd.R_types HO159.out BK162.out (by decide)) (fun _ hk => hk.2) (.int .i64 t156)) (fun _ hk => hk.2) (.slice Ao13 t157.length co13)) (fun _ h_ => h_.1))) (by decide)) hk (fun _ h => h.2)) (fun _ h => h.1)); have n2_ := am7_ (KeepBut.blk hk (g' := gb162) (o := .cells #[.int .i64 t156, .slice Ao13 t157.length co13] 26 (0, 0)) (by (with_reducible repeat (first | refine blk_drewN ?_ _ | refine blk_drew ?_ | refine blk_alloc ?_ _)); refine blk_put (cs := #[.int .i64 t156, .slice none 0 0]) ?_ 1 _ rfl; (with_reducible repeat (first | refine blk_drewN ?_ _ | refine blk_drew ?_ | refine blk_alloc ?_ _)); refine blk_put (cs := #[.int .i64 0, .slice none 0 0]) ?_ 0 _ rfl; (with_reducible repeat (first | refine blk_drewN ?_ _ | refine blk_drew ?_ | refine blk_alloc ?_ _)); exact BK162.out) NB162_0.out (by simp)); have n3_ := am7_ (KeepBut.trans (by repeat (first | (with_reducible first | exact HK.out | apply KeepBut.set_ | apply keep_drewN | apply keep_drew | apply keep_alloc | refine keep_far ?_ GW155.out _ | refine keep_far ?_ GW162.out _) | exact HK.out)) hk (.inl rfl)); have n4_ := am7_ (hb); have n5_ := am7_ (hi); clear BK155; clear HO159; clear BK162; clear HK; clear HB; clear HI0; have BK155 := n0_; have HO159 := n1_; have BK162 := n2_; have HK := n3_; have HB := n4_; have HI0 := n5_; clear n0_ n1_ n2_ n3_ n4_ n5_; (try clear hb); (try clear hb2); (try clear hk); (try clear hi)))
   have n0_ := am7_ (Kd.R_drew HO159.out)
   have n1_ := am7_ (blk_drew BK155.out)
   have n2_ := am7_ (blk_drew BK162.out)
   have n3_ := am7_ (IsS42.drew HI0.out)
   have n4_ := am7_ (keep_drew HK.out)
   have n5_ := am7_ (below_drew1 HB.out)
   clear HO159
   clear BK155
   clear BK162
   clear HI0
   clear HK
   clear HB
   have HO159 := n0_
   have BK155 := n1_
   have BK162 := n2_
   have HI0 := n3_
   have HK := n4_
   have HB := n5_
   clear n0_ n1_ n2_ n3_ n4_ n5_
   refine start_ (n := 8) (S := fun w' => w'.cell? ⟨gb162, 0, none⟩ = some (.int .i64 t156) ∧ w'.cell? ⟨gb162, 1, none⟩ = some (.slice Ao13 t157.length co13)) (ds := [7]) #[false, false, false, false, false, false, false, false] (by kernel_rfl) rfl rfl ⟨(blk_cell BK162.out 0).trans rfl, (blk_cell BK162.out 1).trans rfl⟩ (fun hHeld => ?_); refine with_tabW spec_l1Cur_anyBits.tab4 spec_l1Cur_anyBits.bits4 (fun HT_ HW_ => ?_)
   generalize w14.drew = w15 at HO159 BK155 BK162 HI0 HK HB hHeld ⊢
   refine pure_ (i := 0) (N := some 10) (v := ?_) (a' := ?_) #[true, false, false, false, false, false, false, false] rfl rfl (any_of HT_.out (by kernel_rfl)) (fun _ _ _ h => h) (Or.inl ⟨by rfl, ?_⟩) ?_ ?_
   rotate_left
   ·intro w'
    go_simp
    with_reducible rfl
   rotate_left
   ·simp only [Act.put, List.setIfInBounds_toArray, List.set_cons_zero, List.set_cons_succ, i64_w, i32_w]
    rfl
   refine pure_ (i := 2) (N := some 12) (v := ?_) (a' := ?_) #[true, false, true, false, false, false, false, false] rfl rfl (any_of HT_.out (by kernel_rfl)) (fun _ _ _ h => h) (Or.inl ⟨by rfl, ?_⟩) ?_ ?_
   rotate_left
   ·intro w'
    go_simp
    with_reducible rfl
   rotate_left
   ·simp only [Act.put, List.setIfInBounds_toArray, List.set_cons_zero, List.set_cons_succ, i64_w, i32_w]
    rfl
   refine take_ (i := 1) (N := some 11) (v := ?_) (a' := ?_) #[true, true, true, false, false, false, false, false] rfl rfl (take_ofW HT_.out HW_.out (by kernel_rfl)) (fun _ _ _ h => h) (Or.inl ⟨by rfl, ?_⟩) hHeld ?_ ?_
   rotate_left
   ·rintro w' ⟨s0, s1⟩
    go_simp
    with_reducible rfl
   rotate_left
   ·simp only [Act.put, List.setIfInBounds_toArray, List.set_cons_zero, List.set_cons_succ, i64_w, i32_w]
    rfl
   refine one_ (i := 3) (N := some 13) #[true, true, true, true, false, false, false, false] rfl rfl (one_of HT_.out (by kernel_rfl)) (by decide) (fun K hK => ?_)
   refine goes_ Try.func24 (by kernel_rfl) rfl #[.pointer (some ⟨g, 0, none⟩), .int .i64 2] (by rfl) rfl rfl lm7_ ?_
   with_reducible refine (spec_l1Cur_pick.calls g s0_0 t164 t165 2 t166 t167 t168 w0 _ ?side1 ?side2 A5.out).mono ?_
   (case side1 => repeat (first | (with_reducible first | exact HI0.out | apply IsS42.alloc | apply IsS42.drewN | apply IsS42.drew | apply IsS42.set_1 | apply IsS42.set_2 | refine IsS42.far ?_ NB0_155.out _ | refine IsS42.far ?_ NB0_162.out _) | exact HI0.out))
   (case side2 => repeat (first | (with_reducible first | exact HB.out | apply below_alloc | apply pw_below_drewN | apply below_drew1 | refine below_set ?_ (IsS42.ge HI0.out) | refine below_set ?_ GE155.out | refine below_set ?_ GE162.out) | exact HB.out))
   rintro e w16 ⟨rfl, hi, hb, hk⟩
   refine ⟨_, rfl, ?_⟩
   have n0_ := am7_ (KeepBut.blk hk (g' := gb155) (o := .cells #[.int .i64 0, .slice none 0 0] 26 (0, 0)) (lb7_ BK155) NB155_0.out (by simp))
   have n1_ := am7_ (Kd.R_mono (Kd.R_keep (IsS42.apart (show IsS42 w0 _ g s0_0 t164 t165 from by repeat (first | (with_reducible first | exact HI0.out | apply IsS42.alloc | apply IsS42.drewN | apply IsS42.drew | apply IsS42.set_1 | apply IsS42.set_2 | refine IsS42.far ?_ NB0_155.out _ | refine IsS42.far ?_ NB0_162.out _) | exact HI0.out)) (lf7_ HO159) (by decide)) hk (fun _ h => h.2)) (fun _ h => h.1))
   have n2_ := am7_ (KeepBut.blk hk (g' := gb162) (o := .cells #[.int .i64 t156, .slice Ao13 t157.length co13] 26 (0, 0)) (lb7_ BK162) NB162_0.out (by simp))
   have n3_ := am7_ (KeepBut.trans (by repeat (first | (with_reducible first | exact HK.out | apply KeepBut.set_ | apply keep_drewN | apply keep_drew | apply keep_alloc | refine keep_far ?_ GW155.out _ | refine keep_far ?_ GW162.out _) | exact HK.out)) hk (.inl rfl))
   have n4_ := am7_ (hb)
   have n5_ := am7_ (hi)
   clear BK155
   clear HO159
   clear BK162
   clear HK
   clear HB
   clear HI0
   have BK155 := n0_
   have HO159 := n1_
   have BK162 := n2_
   have HK := n3_
   have HB := n4_
   have HI0 := n5_
   clear n0_ n1_ n2_ n3_ n4_ n5_
   (try clear hb)
   (try clear hb2)
   (try clear hk)
   (try clear hi)
   refine hK.out _ _ ⟨(blk_cell BK162.out 0).trans rfl, (blk_cell BK162.out 1).trans rfl⟩ (fun hHeld => ?_)
   clear hK K
   refine norm_ (a' := ?_) ?_ ?_
   rotate_left
   ·show Act.put _ (some 13) _ = _
    simp only [Act.put, List.setIfInBounds_toArray, List.set_cons_zero, List.set_cons_succ, i64_w, i32_w]
    rfl
   refine one_ (i := 4) (N := some 14) #[true, true, true, true, true, false, false, false] rfl rfl (one_of HT_.out (by kernel_rfl)) (by decide) (fun K hK => ?_)
   refine value_ (w1 := ?_) (v := ?_) (by rfl) rfl ?_ ?_
   rotate_left 2
   ·go_simp
    constructor
    ·rfl
    ·rfl
   refine hK.out _ _ ⟨(blk_cell (blk_alloc BK162.out _) 0).trans rfl, (blk_cell (blk_alloc BK162.out _) 1).trans rfl⟩ (fun hHeld => ?_)
   clear hK K
   refine norm_ (a' := ?_) ?_ ?_
   rotate_left
   ·show Act.put _ (some 14) _ = _
    simp only [Act.put, List.setIfInBounds_toArray, List.set_cons_zero, List.set_cons_succ, i64_w, i32_w]
    rfl
   refine one_ (i := 5) (N := some 15) #[true, true, true, true, true, true, false, false] rfl rfl (one_of HT_.out (by kernel_rfl)) (by decide) (fun K hK => ?_)
   refine Kd.R_append_step (Kd.int .i64) w.heap.size (by rfl) (.tmp 11) (.tmp 14) 24 3 (.int .i64 0) 8 rfl Try.underlying24 info3 rfl (by decide) (by omega) (.slice Ao13 t157.length co13) t157 t166 [.int .i64 t166] (fun _ => True) (fun _ => False) rfl rfl ?aP (fun _ hk => hk.elim) ?aF ?aO (Below.refl _ _) ?aS ?aL ?_
   (case aP => exact rfl)
   (case aF => exact (fun _ _ => trivial))
   (case aO => exact (lf7_ HO159))
   (case aS => exact (keep_size (w := w) (g := g) (row := none) (by repeat (first | (with_reducible first | exact HK.out | apply KeepBut.set_ | apply keep_drewN | apply keep_drew | apply keep_alloc | refine keep_far ?_ GW155.out _ | refine keep_far ?_ GW162.out _) | exact HK.out))))
   (case aL => have := LMc6.out; omega)
   intro v170 w17 ho hb hg hat
   rw [← Ny169.out] at ho
   have n0_ := am7_ (IsS42.grown (by repeat (first | (with_reducible first | exact HI0.out | apply IsS42.alloc | apply IsS42.drewN | apply IsS42.drew | apply IsS42.set_1 | apply IsS42.set_2 | refine IsS42.far ?_ NB0_155.out _ | refine IsS42.far ?_ NB0_162.out _) | exact HI0.out)) hg (IsS42.own_ne HI0.out HO159.out (by decide)))
   have n1_ := am7_ (blk_grown (g := gb155) (o := .cells #[.int .i64 0, .slice none 0 0] 26 (0, 0)) (lb7_ BK155) hg (Kd.R_ne HO159.out BK155.out (by decide)))
   have n2_ := am7_ (blk_grown (g := gb162) (o := .cells #[.int .i64 t156, .slice Ao13 t157.length co13] 26 (0, 0)) (lb7_ BK162) hg (Kd.R_ne HO159.out BK162.out (by decide)))
   have n3_ := am7_ (below_weaken (by repeat (first | (with_reducible first | exact HB.out | apply below_alloc | apply pw_below_drewN | apply below_drew1 | refine below_set ?_ (IsS42.ge HI0.out) | refine below_set ?_ GE155.out | refine below_set ?_ GE162.out) | exact HB.out)) HL.out hb)
   have n4_ := am7_ (KeepBut.trans (by repeat (first | (with_reducible first | exact HK.out | apply KeepBut.set_ | apply keep_drewN | apply keep_drew | apply keep_alloc | refine keep_far ?_ GW155.out _ | refine keep_far ?_ GW162.out _) | exact HK.out)) (KeepBut.of_grown hg g) (Kd.R_base2 HO159.out))
   have n5_ := am7_ (ho)
   clear HI0
   clear BK155
   clear BK162
   clear HB
   clear HK
   clear HO159
   have HI0 := n0_
   have BK155 := n1_
   have BK162 := n2_
   have HB := n3_
   have HK := n4_
   have HO171 := n5_
   clear n0_ n1_ n2_ n3_ n4_ n5_
   clear ho hb hg hat
   obtain ⟨Ao18, co18, eo18⟩ := Kd.R_slice HO171.out
   (first | subst eo18 | (injection eo18 with f1_ f2_ f3_; have f4_ := f1_.symm; have f5_ := f3_.symm; clear f1_ f2_ f3_; subst f4_; subst f5_))
   refine hK.out _ _ ⟨(blk_cell BK162.out 0).trans rfl, (blk_cell BK162.out 1).trans rfl⟩ (fun hHeld => ?_)
   clear hK K
   refine norm_ (a' := ?_) ?_ ?_
   rotate_left
   ·show Act.put _ (some 15) _ = _
    simp only [Act.put, List.setIfInBounds_toArray, List.set_cons_zero, List.set_cons_succ, i64_w, i32_w]
    rfl
   refine pure_ (i := 6) (N := some 16) (v := ?_) (a' := ?_) #[true, true, true, true, true, true, true, false] rfl rfl (any_of HT_.out (by kernel_rfl)) (fun _ _ _ h => h) (Or.inl ⟨by rfl, ?_⟩) ?_ ?_
   rotate_left
   ·intro w'
    go_simp
    with_reducible rfl
   rotate_left
   ·simp only [Act.put, List.setIfInBounds_toArray, List.set_cons_zero, List.set_cons_succ, i64_w, i32_w]
    rfl
   refine last_ (i := 7) (N := none) #[true, true, true, true, true, true, true, true] rfl rfl (one_of HT_.out (by kernel_rfl)) (by decide) (fun K hK => ?_)
   have hs19 : w17.cell? ⟨gb162, 1, none⟩ = some (.slice Ao13 t157.length co13) := (blk_cell BK162.out 1).trans rfl
   have hfs19 := blk_frozen BK162.out 1
   have hns19_0 := NB155_162.out
   have hms19_0 := NB162_155.out
   refine skip_ (w1 := ?_) (by rfl) rfl ?_ ?_
   rotate_left
   ·go_simp
    rfl
   refine hK.out _ _ ?_
   clear hK K
   refine done_ (done_of HT_.out (by kernel_rfl)) ?_
   have hcz20_0 : w17.cell? ⟨gb162, 0, none⟩ = some (.int .i64 t156) := (blk_cell BK162.out 0).trans rfl
   have hcz20_1 : w17.cell? ⟨gb162, 1, none⟩ = some (.slice Ao13 t157.length co13) := (blk_cell BK162.out 1).trans rfl
   have hfz20_0 := blk_frozen BK162.out 0
   have hfz20_1 := blk_frozen BK162.out 1
   have hnb21 := NB155_0.out
   have hnc21 := NB0_155.out
   have hcz22_0 : w17.cell? ⟨gb155, 0, none⟩ = some (.int .i64 0) := (blk_cell BK155.out 0).trans rfl
   have hcz22_1 : w17.cell? ⟨gb155, 1, none⟩ = some (.slice none 0 0) := (blk_cell BK155.out 1).trans rfl
   have hfz22_0 := blk_frozen BK155.out 0
   have hfz22_1 := blk_frozen BK155.out 1
   try go_wp2
   refine bodyPost_ret (results_cell_row rfl _ _ gb155 26 #[.int .i64 t156, .slice Ao18 y169.length co18] (0, 0) _ rfl (by (with_reducible repeat (first | refine blk_drewN ?_ _ | refine blk_drew ?_ | refine blk_alloc ?_ _)); refine blk_put (cs := #[.int .i64 t156, .slice none 0 0]) ?_ 1 _ rfl; (with_reducible repeat (first | refine blk_drewN ?_ _ | refine blk_drew ?_ | refine blk_alloc ?_ _)); refine blk_put (cs := #[.int .i64 0, .slice none 0 0]) ?_ 0 _ rfl; (with_reducible repeat (first | refine blk_drewN ?_ _ | refine blk_drew ?_ | refine blk_alloc ?_ _)); refine blk_far ?_ NB155_162.out _; (with_reducible repeat (first | refine blk_drewN ?_ _ | refine blk_drew ?_ | refine blk_alloc ?_ _)); exact BK155.out) Try.underlying26 rfl (by kernel_rfl)) rfl ?_
   exact ⟨_, by first | rfl | (simp [errW_none, errW_some] <;> rfl) | (simp [*, errW_none, errW_some] <;> rfl), by (with_reducible repeat (first | apply Kd.R_alloc | apply Kd.R_drewN | apply Kd.R_drew)); exact Kd.R_mono (Kd.R_far (p := ⟨gb155, 1, none⟩) (Kd.R_far (p := ⟨gb155, 0, none⟩) (Kd.R_far (p := ⟨gb162, 1, none⟩) (Kd.R_types (Kd.R_types HO171.out BK162.out (by decide)) BK155.out (by decide)) (fun _ hk => hk.1.2) (.slice Ao18 y169.length co18)) (fun _ hk => hk.2) (.int .i64 t156)) (fun _ hk => hk.2) (.slice Ao18 y169.length co18)) (fun _ hk => trivial), by repeat (first | (with_reducible first | exact HI0.out | apply IsS42.alloc | apply IsS42.drewN | apply IsS42.drew | apply IsS42.set_1 | apply IsS42.set_2 | refine IsS42.far ?_ NB0_155.out _ | refine IsS42.far ?_ NB0_162.out _) | exact HI0.out), by repeat (first | (with_reducible first | exact HB.out | apply below_alloc | apply pw_below_drewN | apply below_drew1 | refine below_set ?_ (IsS42.ge HI0.out) | refine below_set ?_ GE155.out | refine below_set ?_ GE162.out) | exact HB.out), by repeat (first | (with_reducible first | exact HK.out | apply KeepBut.set_ | apply keep_drewN | apply keep_drew | apply keep_alloc | refine keep_far ?_ GW155.out _ | refine keep_far ?_ GW162.out _) | exact HK.out)⟩
  ·rw [if_neg c6] at H
   exact absurd H (by simp)
 ·rw [if_neg c4] at H
  have c4b0 : (t163 == 0) = false := beq_eq_false_iff_ne.mpr c4
  have c4b1 : (t163 != 0) = true := bne_iff_ne.mpr c4
  by_cases c23 : t163 = 1
  ·rw [if_pos c23] at H
   have c23b0 : (t163 == 1) = true := beq_iff_eq.mpr c23
   have c23b1 : (t163 != 1) = false := bne_eq_false_iff_eq.mpr c23
   clear c23
   replace H := Option.bind_eq_some_iff.mp H
   obtain ⟨⟨t172, t173, t174⟩, A240, H⟩ := H
   replace H : (some (wrap64 (t156 + (wrap64 (t172 - 1))), t157, t173, t174)) = some (r1, r2, r3, r4) := H
   have A24 := am7_ A240
   clear A240
   simp only [Option.some.injEq, Prod.mk.injEq] at H
   obtain ⟨rfl, rfl, rfl, rfl⟩ := H
   go_enter Try.func20, Try.ntmps20
   try go_wp2_with (first | ((with_reducible refine gate_dst (N := 2) rfl ?_); refine box_event ?hg (N := 2) ?hd (cs := #[.int .i64 0, .slice none 0 0]) (t := 26) ?hr ?_; (case hd => rfl); (case hg => rfl); (case hr => first | (go_simp; done) | (go_simp; rfl)); intro gb155 hg w25 hbox hb; have n0_ := am7_ (IsS42.below (by repeat (first | (with_reducible first | exact HI0.out | apply IsS42.alloc | apply IsS42.drewN | apply IsS42.drew | apply IsS42.set_1 | apply IsS42.set_2) | exact HI0.out)) hb); have n1_ := am7_ (KeepBut.trans (by repeat (first | (with_reducible first | exact HK.out | apply KeepBut.set_ | apply keep_drewN | apply keep_drew | apply keep_alloc) | exact HK.out)) (KeepBut.of_below hb g none) (.inl rfl)); have n2_ := am7_ (below_step (by repeat (first | (with_reducible first | exact HB.out | apply below_alloc | apply pw_below_drewN | apply below_drew1 | refine below_set ?_ (IsS42.ge HI0.out)) | exact HB.out)) hb); have n3_ := am7_ (hbox); have n4_ := am7_ ((by rw [hg]; exact (keep_size (w := w) (g := g) (row := none) (by repeat (first | (with_reducible first | exact HK.out | apply KeepBut.set_ | apply keep_drewN | apply keep_drew | apply keep_alloc) | exact HK.out))) : w.heap.size ≤ gb155)); have n5_ := am7_ ((Nat.le_trans HW0.out (by rw [hg]; exact (keep_size (w := w) (g := g) (row := none) (by repeat (first | (with_reducible first | exact HK.out | apply KeepBut.set_ | apply keep_drewN | apply keep_drew | apply keep_alloc) | exact HK.out))) : w.heap.size ≤ gb155) : w0.heap.size ≤ gb155)); have n6_ := am7_ ((by rw [hg]; exact Nat.ne_of_lt (IsS42.lt (show IsS42 w0 _ g s0_0 s0_1 s0_2 from by repeat (first | (with_reducible first | exact HI0.out | apply IsS42.alloc | apply IsS42.drewN | apply IsS42.drew | apply IsS42.set_1 | apply IsS42.set_2) | exact HI0.out))) : g ≠ gb155)); have n7_ := am7_ ((by rw [hg]; exact Nat.ne_of_gt (IsS42.lt (show IsS42 w0 _ g s0_0 s0_1 s0_2 from by repeat (first | (with_reducible first | exact HI0.out | apply IsS42.alloc | apply IsS42.drewN | apply IsS42.drew | apply IsS42.set_1 | apply IsS42.set_2) | exact HI0.out))) : gb155 ≠ g)); clear HI0; clear HK; clear HB; have HI0 := n0_; have HK := n1_; have HB := n2_; have BK155 := n3_; have GW155 := n4_; have GE155 := n5_; have NB0_155 := n6_; have NB155_0 := n7_; clear n0_ n1_ n2_ n3_ n4_ n5_ n6_ n7_; clear hb hbox hg) | ((with_reducible refine gate_callee (f := 41) rfl ?_); refine goesL_ (some 5) rfl rfl Try.func41 (by kernel_rfl) rfl #[.pointer (some ⟨g, 0, none⟩), .int .i64 40] rfl lm7_ ?_; (with_reducible refine (spec_l1Cur_bits.calls k g s0_0 s0_1 s0_2 40 t156 t157 t160 t161 w0 _ ?side1 ?side2 A2.out).mono ?_); (case side1 => repeat (first | (with_reducible first | exact HI0.out | apply IsS42.alloc | apply IsS42.drewN | apply IsS42.drew | apply IsS42.set_1 | apply IsS42.set_2 | refine IsS42.far ?_ NB0_155.out _) | exact HI0.out)); (case side2 => repeat (first | (with_reducible first | exact HB.out | apply below_alloc | apply pw_below_drewN | apply below_drew1 | refine below_set ?_ (IsS42.ge HI0.out) | refine below_set ?_ GE155.out) | exact HB.out)); rintro e w26 ⟨v158, rfl, ho0, hi, hb, hk⟩; refine ⟨_, rfl, ?_⟩; have n0_ := am7_ (KeepBut.blk hk (g' := gb155) (o := .cells #[.int .i64 0, .slice none 0 0] 26 (0, 0)) (lb7_ BK155) NB155_0.out (by simp)); have n1_ := am7_ (Kd.R_lower ho0 (keep_size (w := w) (g := g) (row := none) (by repeat (first | (with_reducible first | exact HK.out | apply KeepBut.set_ | apply keep_drewN | apply keep_drew | apply keep_alloc | refine keep_far ?_ GW155.out _) | exact HK.out)))); have n2_ := am7_ (KeepBut.trans (by repeat (first | (with_reducible first | exact HK.out | apply KeepBut.set_ | apply keep_drewN | apply keep_drew | apply keep_alloc | refine keep_far ?_ GW155.out _) | exact HK.out)) hk (.inl rfl)); have n3_ := am7_ (hb); have n4_ := am7_ (hi); clear BK155; clear HK; clear HB; clear HI0; have BK155 := n0_; have HO159 := n1_; have HK := n2_; have HB := n3_; have HI0 := n4_; clear n0_ n1_ n2_ n3_ n4_; (try clear hb); (try clear hb2); (try clear hk); (try clear hi); (try clear ho0)) | ((with_reducible refine gate_dst (N := 3) rfl ?_); refine box_event ?hg (N := 3) ?hd (cs := #[.int .i64 0, .slice none 0 0]) (t := 26) ?hr ?_; (case hd => rfl); (case hg => rfl); (case hr => first | (go_simp; done) | (go_simp; rfl)); intro gb162 hg w27 hbox hb; have n0_ := am7_ (Kd.R_below (lf7_ HO159) hb); have n1_ := am7_ (IsS42.below (by repeat (first | (with_reducible first | exact HI0.out | apply IsS42.alloc | apply IsS42.drewN | apply IsS42.drew | apply IsS42.set_1 | apply IsS42.set_2 | refine IsS42.far ?_ NB0_155.out _) | exact HI0.out)) hb); have n2_ := am7_ (blk_below (g := gb155) (o := .cells #[.int .i64 0, .slice none 0 0] 26 (0, 0)) (lb7_ BK155) hb); have n3_ := am7_ (KeepBut.trans (by repeat (first | (with_reducible first | exact HK.out | apply KeepBut.set_ | apply keep_drewN | apply keep_drew | apply keep_alloc | refine keep_far ?_ GW155.out _) | exact HK.out)) (KeepBut.of_below hb g none) (.inl rfl)); have n4_ := am7_ (below_step (by repeat (first | (with_reducible first | exact HB.out | apply below_alloc | apply pw_below_drewN | apply below_drew1 | refine below_set ?_ (IsS42.ge HI0.out) | refine below_set ?_ GE155.out) | exact HB.out)) hb); have n5_ := am7_ (hbox); have n6_ := am7_ ((by rw [hg]; exact (keep_size (w := w) (g := g) (row := none) (by repeat (first | (with_reducible first | exact HK.out | apply KeepBut.set_ | apply keep_drewN | apply keep_drew | apply keep_alloc | refine keep_far ?_ GW155.out _) | exact HK.out))) : w.heap.size ≤ gb162)); have n7_ := am7_ ((Nat.le_trans HW0.out (by rw [hg]; exact (keep_size (w := w) (g := g) (row := none) (by repeat (first | (with_reducible first | exact HK.out | apply KeepBut.set_ | apply keep_drewN | apply keep_drew | apply keep_alloc | refine keep_far ?_ GW155.out _) | exact HK.out))) : w.heap.size ≤ gb162) : w0.heap.size ≤ gb162)); have n8_ := am7_ ((by rw [hg]; exact Nat.ne_of_lt (blk_lt (g := gb155) (lb7_ BK155)) : gb155 ≠ gb162)); have n9_ := am7_ ((by rw [hg]; exact Nat.ne_of_gt (blk_lt (g := gb155) (lb7_ BK155)) : gb162 ≠ gb155)); have n10_ := am7_ ((by rw [hg]; exact Nat.ne_of_lt (IsS42.lt (show IsS42 w0 _ g s0_0 t160 t161 from by repeat (first | (with_reducible first | exact HI0.out | apply IsS42.alloc | apply IsS42.drewN | apply IsS42.drew | apply IsS42.set_1 | apply IsS42.set_2 | refine IsS42.far ?_ NB0_155.out _) | exact HI0.out))) : g ≠ gb162)); have n11_ := am7_ ((by rw [hg]; exact Nat.ne_of_gt (IsS42.lt (show IsS42 w0 _ g s0_0 t160 t161 from by repeat (first | (with_reducible first | exact HI0.out | apply IsS42.alloc | apply IsS42.drewN | apply IsS42.drew | apply IsS42.set_1 | apply IsS42.set_2 | refine IsS42.far ?_ NB0_155.out _) | exact HI0.out))) : gb162 ≠ g)); clear HO159; clear HI0; clear BK155; clear HK; clear HB; have HO159 := n0_; have HI0 := n1_; have BK155 := n2_; have HK := n3_; have HB := n4_; have BK162 := n5_; have GW162 := n6_; have GE162 := n7_; have NB155_162 := n8_; have NB162_155 := n9_; have NB0_162 := n10_; have NB162_0 := n11_; clear n0_ n1_ n2_ n3_ n4_ n5_ n6_ n7_ n8_ n9_ n10_ n11_; clear hb hbox hg; have hnb28 := NB162_155.out; have hnc28 := NB155_162.out; have hnb29 := NB162_0.out; have hnc29 := NB0_162.out; have hcz30_0 : w27.cell? ⟨gb162, 0, none⟩ = some (.int .i64 0) := (blk_cell BK162.out 0).trans rfl; have hcz30_1 : w27.cell? ⟨gb162, 1, none⟩ = some (.slice none 0 0) := (blk_cell BK162.out 1).trans rfl; have hfz30_0 := blk_frozen BK162.out 0; have hfz30_1 := blk_frozen BK162.out 1; obtain ⟨Ao31, co31, eo31⟩ := Kd.R_slice HO159.out; subst eo31) | ((with_reducible refine gate_callee (f := 24) rfl ?_); refine goesL_ (some 7) rfl rfl Try.func24 (by kernel_rfl) rfl #[.pointer (some ⟨g, 0, none⟩), .int .i64 16] rfl lm7_ ?_; (with_reducible refine (spec_l1Cur_pick.calls g s0_0 t160 t161 16 t163 t164 t165 w0 _ ?side1 ?side2 A3.out).mono ?_); (case side1 => repeat (first | (with_reducible first | exact HI0.out | apply IsS42.alloc | apply IsS42.drewN | apply IsS42.drew | apply IsS42.set_1 | apply IsS42.set_2 | refine IsS42.far ?_ NB0_155.out _ | refine IsS42.far ?_ NB0_162.out _) | exact HI0.out)); (case side2 => repeat (first | (with_reducible first | exact HB.out | apply below_alloc | apply pw_below_drewN | apply below_drew1 | refine below_set ?_ (IsS42.ge HI0.out) | refine below_set ?_ GE155.out | refine below_set ?_ GE162.out) | exact HB.out)); rintro e w32 ⟨rfl, hi, hb, hk⟩; refine ⟨_, rfl, ?_⟩; have n0_ := am7_ (KeepBut.blk hk (g' := gb155) (o := .cells #[.int .i64 0, .slice none 0 0] 26 (0, 0)) (by (with_reducible repeat (first | refine blk_drewN ?_ _ | refine blk_drew ?_ | refine blk_alloc ?_ _)); refine blk_far ?_ NB155_162.out _; (with_reducible repeat (first | refine blk_drewN ?_ _ | refine blk_drew ?_ | refine blk_alloc ?_ _)); refine blk_far ?_ NB155_162.out _; (with_reducible repeat (first | refine blk_drewN ?_ _ | refine blk_drew ?_ | refine blk_alloc ?_ _)); exact BK155.out) NB155_0.out (by simp)); have n1_ := am7_ (Kd.R_mono (Kd.R_keep (IsS42.apart (show IsS42 w0 _ g s0_0 t160 t161 from by repeat (first | (with_reducible first | exact HI0.out | apply IsS42.alloc | apply IsS42.drewN | apply IsS42.drew | apply IsS42.set_1 | apply IsS42.set_2 | refine IsS42.far ?_ NB0_155.out _ | refine IsS42.far ?_ NB0_162.out _) | exact HI0.out)) (lt7_ (Kd.R_mono (Kd.R_far (p := ⟨gb162, 1, none⟩) (Kd.R_far (p := ⟨gb162, 0, none⟩) (Kd.R_types HO159.out BK162.out (by decide)) (fun _ hk => hk.2) (.int .i64 t156)) (fun _ hk => hk.2) (.slice Ao31 t157.length co31)) (fun _ h_ => h_.1))) (by decide)) hk (fun _ h => h.2)) (fun _ h => h.1)); have n2_ := am7_ (KeepBut.blk hk (g' := gb162) (o := .cells #[.int .i64 t156, .slice Ao31 t157.length co31] 26 (0, 0)) (by (with_reducible repeat (first | refine blk_drewN ?_ _ | refine blk_drew ?_ | refine blk_alloc ?_ _)); refine blk_put (cs := #[.int .i64 t156, .slice none 0 0]) ?_ 1 _ rfl; (with_reducible repeat (first | refine blk_drewN ?_ _ | refine blk_drew ?_ | refine blk_alloc ?_ _)); refine blk_put (cs := #[.int .i64 0, .slice none 0 0]) ?_ 0 _ rfl; (with_reducible repeat (first | refine blk_drewN ?_ _ | refine blk_drew ?_ | refine blk_alloc ?_ _)); exact BK162.out) NB162_0.out (by simp)); have n3_ := am7_ (KeepBut.trans (by repeat (first | (with_reducible first | exact HK.out | apply KeepBut.set_ | apply keep_drewN | apply keep_drew | apply keep_alloc | refine keep_far ?_ GW155.out _ | refine keep_far ?_ GW162.out _) | exact HK.out)) hk (.inl rfl)); have n4_ := am7_ (hb); have n5_ := am7_ (hi); clear BK155; clear HO159; clear BK162; clear HK; clear HB; clear HI0; have BK155 := n0_; have HO159 := n1_; have BK162 := n2_; have HK := n3_; have HB := n4_; have HI0 := n5_; clear n0_ n1_ n2_ n3_ n4_ n5_; (try clear hb); (try clear hb2); (try clear hk); (try clear hi)))
   have n0_ := am7_ (Kd.R_drew HO159.out)
   have n1_ := am7_ (blk_drew BK155.out)
   have n2_ := am7_ (blk_drew BK162.out)
   have n3_ := am7_ (IsS42.drew HI0.out)
   have n4_ := am7_ (keep_drew HK.out)
   have n5_ := am7_ (below_drew1 HB.out)
   clear HO159
   clear BK155
   clear BK162
   clear HI0
   clear HK
   clear HB
   have HO159 := n0_
   have BK155 := n1_
   have BK162 := n2_
   have HI0 := n3_
   have HK := n4_
   have HB := n5_
   clear n0_ n1_ n2_ n3_ n4_ n5_
   refine start_ (n := 8) (S := fun w' => w'.cell? ⟨gb162, 0, none⟩ = some (.int .i64 t156) ∧ w'.cell? ⟨gb162, 1, none⟩ = some (.slice Ao31 t157.length co31)) (ds := [7]) #[false, false, false, false, false, false, false, false] (by kernel_rfl) rfl rfl ⟨(blk_cell BK162.out 0).trans rfl, (blk_cell BK162.out 1).trans rfl⟩ (fun hHeld => ?_); refine with_tabW spec_l1Cur_anyBits.tab6 spec_l1Cur_anyBits.bits6 (fun HT_ HW_ => ?_)
   generalize w32.drew = w33 at HO159 BK155 BK162 HI0 HK HB hHeld ⊢
   refine pure_ (i := 0) (N := some 19) (v := ?_) (a' := ?_) #[true, false, false, false, false, false, false, false] rfl rfl (any_of HT_.out (by kernel_rfl)) (fun _ _ _ h => h) (Or.inl ⟨by rfl, ?_⟩) ?_ ?_
   rotate_left
   ·intro w'
    go_simp
    with_reducible rfl
   rotate_left
   ·simp only [Act.put, List.setIfInBounds_toArray, List.set_cons_zero, List.set_cons_succ, i64_w, i32_w]
    rfl
   refine pure_ (i := 2) (N := some 21) (v := ?_) (a' := ?_) #[true, false, true, false, false, false, false, false] rfl rfl (any_of HT_.out (by kernel_rfl)) (fun _ _ _ h => h) (Or.inl ⟨by rfl, ?_⟩) ?_ ?_
   rotate_left
   ·intro w'
    go_simp
    with_reducible rfl
   rotate_left
   ·simp only [Act.put, List.setIfInBounds_toArray, List.set_cons_zero, List.set_cons_succ, i64_w, i32_w]
    rfl
   refine take_ (i := 1) (N := some 20) (v := ?_) (a' := ?_) #[true, true, true, false, false, false, false, false] rfl rfl (take_ofW HT_.out HW_.out (by kernel_rfl)) (fun _ _ _ h => h) (Or.inl ⟨by rfl, ?_⟩) hHeld ?_ ?_
   rotate_left
   ·rintro w' ⟨s0, s1⟩
    go_simp
    with_reducible rfl
   rotate_left
   ·simp only [Act.put, List.setIfInBounds_toArray, List.set_cons_zero, List.set_cons_succ, i64_w, i32_w]
    rfl
   refine one_ (i := 3) (N := some 22) #[true, true, true, true, false, false, false, false] rfl rfl (one_of HT_.out (by kernel_rfl)) (by decide) (fun K hK => ?_)
   refine goes_ Try.func24 (by kernel_rfl) rfl #[.pointer (some ⟨g, 0, none⟩), .int .i64 3] (by rfl) rfl rfl lm7_ ?_
   with_reducible refine (spec_l1Cur_pick.calls g s0_0 t164 t165 3 t172 t173 t174 w0 _ ?side1 ?side2 A24.out).mono ?_
   (case side1 => repeat (first | (with_reducible first | exact HI0.out | apply IsS42.alloc | apply IsS42.drewN | apply IsS42.drew | apply IsS42.set_1 | apply IsS42.set_2 | refine IsS42.far ?_ NB0_155.out _ | refine IsS42.far ?_ NB0_162.out _) | exact HI0.out))
   (case side2 => repeat (first | (with_reducible first | exact HB.out | apply below_alloc | apply pw_below_drewN | apply below_drew1 | refine below_set ?_ (IsS42.ge HI0.out) | refine below_set ?_ GE155.out | refine below_set ?_ GE162.out) | exact HB.out))
   rintro e w34 ⟨rfl, hi, hb, hk⟩
   refine ⟨_, rfl, ?_⟩
   have n0_ := am7_ (KeepBut.blk hk (g' := gb155) (o := .cells #[.int .i64 0, .slice none 0 0] 26 (0, 0)) (lb7_ BK155) NB155_0.out (by simp))
   have n1_ := am7_ (Kd.R_mono (Kd.R_keep (IsS42.apart (show IsS42 w0 _ g s0_0 t164 t165 from by repeat (first | (with_reducible first | exact HI0.out | apply IsS42.alloc | apply IsS42.drewN | apply IsS42.drew | apply IsS42.set_1 | apply IsS42.set_2 | refine IsS42.far ?_ NB0_155.out _ | refine IsS42.far ?_ NB0_162.out _) | exact HI0.out)) (lf7_ HO159) (by decide)) hk (fun _ h => h.2)) (fun _ h => h.1))
   have n2_ := am7_ (KeepBut.blk hk (g' := gb162) (o := .cells #[.int .i64 t156, .slice Ao31 t157.length co31] 26 (0, 0)) (lb7_ BK162) NB162_0.out (by simp))
   have n3_ := am7_ (KeepBut.trans (by repeat (first | (with_reducible first | exact HK.out | apply KeepBut.set_ | apply keep_drewN | apply keep_drew | apply keep_alloc | refine keep_far ?_ GW155.out _ | refine keep_far ?_ GW162.out _) | exact HK.out)) hk (.inl rfl))
   have n4_ := am7_ (hb)
   have n5_ := am7_ (hi)
   clear BK155
   clear HO159
   clear BK162
   clear HK
   clear HB
   clear HI0
   have BK155 := n0_
   have HO159 := n1_
   have BK162 := n2_
   have HK := n3_
   have HB := n4_
   have HI0 := n5_
   clear n0_ n1_ n2_ n3_ n4_ n5_
   (try clear hb)
   (try clear hb2)
   (try clear hk)
   (try clear hi)
   refine hK.out _ _ ⟨(blk_cell BK162.out 0).trans rfl, (blk_cell BK162.out 1).trans rfl⟩ (fun hHeld => ?_)
   clear hK K
   refine norm_ (a' := ?_) ?_ ?_
   rotate_left
   ·show Act.put _ (some 22) _ = _
    simp only [Act.put, List.setIfInBounds_toArray, List.set_cons_zero, List.set_cons_succ, i64_w, i32_w]
    rfl
   refine pure_ (i := 4) (N := some 23) (v := ?_) (a' := ?_) #[true, true, true, true, true, false, false, false] rfl rfl (any_of HT_.out (by kernel_rfl)) (fun _ _ _ h => h) (Or.inl ⟨by rfl, ?_⟩) ?_ ?_
   rotate_left
   ·intro w'
    go_simp
    with_reducible rfl
   rotate_left
   ·simp only [Act.put, List.setIfInBounds_toArray, List.set_cons_zero, List.set_cons_succ, i64_w, i32_w]
    rfl
   refine pure_ (i := 5) (N := some 24) (v := ?_) (a' := ?_) #[true, true, true, true, true, true, false, false] rfl rfl (any_of HT_.out (by kernel_rfl)) (fun _ _ _ h => h) (Or.inl ⟨by rfl, ?_⟩) ?_ ?_
   rotate_left
   ·intro w'
    go_simp
    with_reducible rfl
   rotate_left
   ·simp only [Act.put, List.setIfInBounds_toArray, List.set_cons_zero, List.set_cons_succ, i64_w, i32_w]
    rfl
   refine pure_ (i := 6) (N := some 25) (v := ?_) (a' := ?_) #[true, true, true, true, true, true, true, false] rfl rfl (any_of HT_.out (by kernel_rfl)) (fun _ _ _ h => h) (Or.inl ⟨by rfl, ?_⟩) ?_ ?_
   rotate_left
   ·intro w'
    go_simp
    with_reducible rfl
   rotate_left
   ·simp only [Act.put, List.setIfInBounds_toArray, List.set_cons_zero, List.set_cons_succ, i64_w, i32_w]
    rfl
   refine last_ (i := 7) (N := none) #[true, true, true, true, true, true, true, true] rfl rfl (one_of HT_.out (by kernel_rfl)) (by decide) (fun K hK => ?_)
   have hs35 : w34.cell? ⟨gb162, 0, none⟩ = some (.int .i64 t156) := (blk_cell BK162.out 0).trans rfl
   have hfs35 := blk_frozen BK162.out 0
   have hns35_0 := NB155_162.out
   have hms35_0 := NB162_155.out
   refine skip_ (w1 := ?_) (by rfl) rfl ?_ ?_
   rotate_left
   ·go_simp
    rfl
   refine hK.out _ _ ?_
   clear hK K
   refine done_ (done_of HT_.out (by kernel_rfl)) ?_
   have hcz36_0 : w34.cell? ⟨gb162, 0, none⟩ = some (.int .i64 t156) := (blk_cell BK162.out 0).trans rfl
   have hcz36_1 : w34.cell? ⟨gb162, 1, none⟩ = some (.slice Ao31 t157.length co31) := (blk_cell BK162.out 1).trans rfl
   have hfz36_0 := blk_frozen BK162.out 0
   have hfz36_1 := blk_frozen BK162.out 1
   have hnb37 := NB155_0.out
   have hnc37 := NB0_155.out
   have hcz38_0 : w34.cell? ⟨gb155, 0, none⟩ = some (.int .i64 0) := (blk_cell BK155.out 0).trans rfl
   have hcz38_1 : w34.cell? ⟨gb155, 1, none⟩ = some (.slice none 0 0) := (blk_cell BK155.out 1).trans rfl
   have hfz38_0 := blk_frozen BK155.out 0
   have hfz38_1 := blk_frozen BK155.out 1
   try go_wp2
   refine bodyPost_ret (results_cell_row rfl _ _ gb155 26 #[.int .i64 (wrap64 (t156 + (wrap64 (t172 - 1)))), .slice Ao31 t157.length co31] (0, 0) _ rfl (by (with_reducible repeat (first | refine blk_drewN ?_ _ | refine blk_drew ?_ | refine blk_alloc ?_ _)); refine blk_put (cs := #[.int .i64 (wrap64 (t156 + (wrap64 (t172 - 1)))), .slice none 0 0]) ?_ 1 _ rfl; (with_reducible repeat (first | refine blk_drewN ?_ _ | refine blk_drew ?_ | refine blk_alloc ?_ _)); refine blk_put (cs := #[.int .i64 0, .slice none 0 0]) ?_ 0 _ rfl; (with_reducible repeat (first | refine blk_drewN ?_ _ | refine blk_drew ?_ | refine blk_alloc ?_ _)); refine blk_far ?_ NB155_162.out _; (with_reducible repeat (first | refine blk_drewN ?_ _ | refine blk_drew ?_ | refine blk_alloc ?_ _)); exact BK155.out) Try.underlying26 rfl (by kernel_rfl)) rfl ?_
   exact ⟨_, by first | rfl | (simp [errW_none, errW_some] <;> rfl) | (simp [*, errW_none, errW_some] <;> rfl), by (with_reducible repeat (first | apply Kd.R_alloc | apply Kd.R_drewN | apply Kd.R_drew)); exact Kd.R_mono (Kd.R_far (p := ⟨gb155, 1, none⟩) (Kd.R_far (p := ⟨gb155, 0, none⟩) (Kd.R_far (p := ⟨gb162, 0, none⟩) (Kd.R_types (Kd.R_types HO159.out BK162.out (by decide)) BK155.out (by decide)) (fun _ hk => hk.1.2) (.int .i64 (wrap64 (t156 + (wrap64 (t172 - 1)))))) (fun _ hk => hk.2) (.int .i64 (wrap64 (t156 + (wrap64 (t172 - 1)))))) (fun _ hk => hk.2) (.slice Ao31 t157.length co31)) (fun _ hk => trivial), by repeat (first | (with_reducible first | exact HI0.out | apply IsS42.alloc | apply IsS42.drewN | apply IsS42.drew | apply IsS42.set_1 | apply IsS42.set_2 | refine IsS42.far ?_ NB0_155.out _ | refine IsS42.far ?_ NB0_162.out _) | exact HI0.out), by repeat (first | (with_reducible first | exact HB.out | apply below_alloc | apply pw_below_drewN | apply below_drew1 | refine below_set ?_ (IsS42.ge HI0.out) | refine below_set ?_ GE155.out | refine below_set ?_ GE162.out) | exact HB.out), by repeat (first | (with_reducible first | exact HK.out | apply KeepBut.set_ | apply keep_drewN | apply keep_drew | apply keep_alloc | refine keep_far ?_ GW155.out _ | refine keep_far ?_ GW162.out _) | exact HK.out)⟩
  ·rw [if_neg c23] at H
   have c23b0 : (t163 == 1) = false := beq_eq_false_iff_ne.mpr c23
   have c23b1 : (t163 != 1) = true := bne_iff_ne.mpr c23
   by_cases c39 : t163 = 2
   ·rw [if_pos c39] at H
    have c39b0 : (t163 == 2) = true := beq_iff_eq.mpr c39
    have c39b1 : (t163 != 2) = false := bne_eq_false_iff_eq.mpr c39
    clear c39
    by_cases c40 : (t157.length : Int) > 0
    ·rw [if_pos c40] at H
     have c40b0 : decide (0 < (t157.length : Int)) = true := decide_eq_true c40
     have c40b1 : decide (0 < t157.length) = true := decide_eq_true (by omega)
     clear c40
     replace H := Option.bind_eq_some_iff.mp H
     obtain ⟨⟨t175, t176, t177⟩, A410, H⟩ := H
     replace H : ((spec_l1Cur_among.f s0_0 t176 t177 (([(-1), 65535, 65536, 40000] : List Int))).bind fun bt181 => (if 0 ≤ t175 then (if t175 < (t157.length : Int) then (some (t156, (t157.set (t175 : Int).toNat bt181.1), bt181.2.1, bt181.2.2)) else (none)) else (none))) = some (r1, r2, r3, r4) := H
     have A41 := am7_ A410
     clear A410
     obtain ⟨y178, hy178⟩ : ∃ y_ : List Int, y_ = (([(-1), 65535, 65536, 40000] : List Int)) := ⟨_, rfl⟩
     replace H : ((spec_l1Cur_among.f s0_0 t176 t177 y178).bind fun bt181 => (if 0 ≤ t175 then (if t175 < (t157.length : Int) then (some (t156, (t157.set (t175 : Int).toNat bt181.1), bt181.2.1, bt181.2.2)) else (none)) else (none))) = some (r1, r2, r3, r4) := by first | (rw [hy178]; with_reducible exact H) | (have H2_ := (Option.bind_some _ _).symm.trans H; rw [hy178]; with_reducible exact H2_) | (have H2_ := (Option.bind_some _ _).symm.trans H; with_reducible exact H2_) | with_reducible exact H | (rw [hy178]; exact H) | exact H
     have Ny178 := am7_ hy178
     clear hy178
     replace H := Option.bind_eq_some_iff.mp H
     obtain ⟨⟨t181, t182, t183⟩, A420, H⟩ := H
     replace H : (if 0 ≤ t175 then (if t175 < (t157.length : Int) then (some (t156, (t157.set (t175 : Int).toNat t181), t182, t183)) else (none)) else (none)) = some (r1, r2, r3, r4) := H
     have A42 := am7_ A420
     clear A420
     by_cases c43 : 0 ≤ t175
     ·rw [if_pos c43] at H
      have c43b0 : decide (0 ≤ t175) = true := decide_eq_true c43
      clear c43
      by_cases c44 : t175 < (t157.length : Int)
      ·rw [if_pos c44] at H
       have c44b0 : decide (t175 < (t157.length : Int)) = true := decide_eq_true c44
       clear c44
       obtain ⟨y184, hy184⟩ : ∃ y_ : List Int, y_ = (t157.set (t175 : Int).toNat t181) := ⟨_, rfl⟩
       replace H : (some (t156, y184, t182, t183)) = some (r1, r2, r3, r4) := by first | (rw [hy184]; with_reducible exact H) | (have H2_ := (Option.bind_some _ _).symm.trans H; rw [hy184]; with_reducible exact H2_) | (have H2_ := (Option.bind_some _ _).symm.trans H; with_reducible exact H2_) | with_reducible exact H | (rw [hy184]; exact H) | exact H
       have Ny184 := am7_ hy184
       clear hy184
       simp only [Option.some.injEq, Prod.mk.injEq] at H
       obtain ⟨rfl, rfl, rfl, rfl⟩ := H
       go_enter Try.func20, Try.ntmps20
       try go_wp2_with (first | ((with_reducible refine gate_dst (N := 2) rfl ?_); refine box_event ?hg (N := 2) ?hd (cs := #[.int .i64 0, .slice none 0 0]) (t := 26) ?hr ?_; (case hd => rfl); (case hg => rfl); (case hr => first | (go_simp; done) | (go_simp; rfl)); intro gb155 hg w46 hbox hb; have n0_ := am7_ (IsS42.below (by repeat (first | (with_reducible first | exact HI0.out | apply IsS42.alloc | apply IsS42.drewN | apply IsS42.drew | apply IsS42.set_1 | apply IsS42.set_2) | exact HI0.out)) hb); have n1_ := am7_ (KeepBut.trans (by repeat (first | (with_reducible first | exact HK.out | apply KeepBut.set_ | apply keep_drewN | apply keep_drew | apply keep_alloc) | exact HK.out)) (KeepBut.of_below hb g none) (.inl rfl)); have n2_ := am7_ (below_step (by repeat (first | (with_reducible first | exact HB.out | apply below_alloc | apply pw_below_drewN | apply below_drew1 | refine below_set ?_ (IsS42.ge HI0.out)) | exact HB.out)) hb); have n3_ := am7_ (hbox); have n4_ := am7_ ((by rw [hg]; exact (keep_size (w := w) (g := g) (row := none) (by repeat (first | (with_reducible first | exact HK.out | apply KeepBut.set_ | apply keep_drewN | apply keep_drew | apply keep_alloc) | exact HK.out))) : w.heap.size ≤ gb155)); have n5_ := am7_ ((Nat.le_trans HW0.out (by rw [hg]; exact (keep_size (w := w) (g := g) (row := none) (by repeat (first | (with_reducible first | exact HK.out | apply KeepBut.set_ | apply keep_drewN | apply keep_drew | apply keep_alloc) | exact HK.out))) : w.heap.size ≤ gb155) : w0.heap.size ≤ gb155)); have n6_ := am7_ ((by rw [hg]; exact Nat.ne_of_lt (IsS42.lt (show IsS42 w0 _ g s0_0 s0_1 s0_2 from by repeat (first | (with_reducible first | exact HI0.out | apply IsS42.alloc | apply IsS42.drewN | apply IsS42.drew | apply IsS42.set_1 | apply IsS42.set_2) | exact HI0.out))) : g ≠ gb155)); have n7_ := am7_ ((by rw [hg]; exact Nat.ne_of_gt (IsS42.lt (show IsS42 w0 _ g s0_0 s0_1 s0_2 from by repeat (first | (with_reducible first | exact HI0.out | apply IsS42.alloc | apply IsS42.drewN | apply IsS42.drew | apply IsS42.set_1 | apply IsS42.set_2) | exact HI0.out))) : gb155 ≠ g)); clear HI0; clear HK; clear HB; have HI0 := n0_; have HK := n1_; have HB := n2_; have BK155 := n3_; have GW155 := n4_; have GE155 := n5_; have NB0_155 := n6_; have NB155_0 := n7_; clear n0_ n1_ n2_ n3_ n4_ n5_ n6_ n7_; clear hb hbox hg) | ((with_reducible refine gate_callee (f := 41) rfl ?_); refine goesL_ (some 5) rfl rfl Try.func41 (by kernel_rfl) rfl #[.pointer (some ⟨g, 0, none⟩), .int .i64 40] rfl lm7_ ?_; (with_reducible refine (spec_l1Cur_bits.calls k g s0_0 s0_1 s0_2 40 t156 t157 t160 t161 w0 _ ?side1 ?side2 A2.out).mono ?_); (case side1 => repeat (first | (with_reducible first | exact HI0.out | apply IsS42.alloc | apply IsS42.drewN | apply IsS42.drew | apply IsS42.set_1 | apply IsS42.set_2 | refine IsS42.far ?_ NB0_155.out _) | exact HI0.out)); (case side2 => repeat (first | (with_reducible first | exact HB.out | apply below_alloc | apply pw_below_drewN | apply below_drew1 | refine below_set ?_ (IsS42.ge HI0.out) | refine below_set ?_ GE155.out) | exact HB.out)); rintro e w47 ⟨v158, rfl, ho0, hi, hb, hk⟩; refine ⟨_, rfl, ?_⟩; have n0_ := am7_ (KeepBut.blk hk (g' := gb155) (o := .cells #[.int .i64 0, .slice none 0 0] 26 (0, 0)) (lb7_ BK155) NB155_0.out (by simp)); have n1_ := am7_ (Kd.R_lower ho0 (keep_size (w := w) (g := g) (row := none) (by repeat (first | (with_reducible first | exact HK.out | apply KeepBut.set_ | apply keep_drewN | apply keep_drew | apply keep_alloc | refine keep_far ?_ GW155.out _) | exact HK.out)))); have n2_ := am7_ (KeepBut.trans (by repeat (first | (with_reducible first | exact HK.out | apply KeepBut.set_ | apply keep_drewN | apply keep_drew | apply keep_alloc | refine keep_far ?_ GW155.out _) | exact HK.out)) hk (.inl rfl)); have n3_ := am7_ (hb); have n4_ := am7_ (hi); clear BK155; clear HK; clear HB; clear HI0; have BK155 := n0_; have HO159 := n1_; have HK := n2_; have HB := n3_; have HI0 := n4_; clear n0_ n1_ n2_ n3_ n4_; (try clear hb); (try clear hb2); (try clear hk); (try clear hi); (try clear ho0)) | ((with_reducible refine gate_dst (N := 3) rfl ?_); refine box_event ?hg (N := 3) ?hd (cs := #[.int .i64 0, .slice none 0 0]) (t := 26) ?hr ?_; (case hd => rfl); (case hg => rfl); (case hr => first | (go_simp; done) | (go_simp; rfl)); intro gb162 hg w48 hbox hb; have n0_ := am7_ (Kd.R_below (lf7_ HO159) hb); have n1_ := am7_ (IsS42.below (by repeat (first | (with_reducible first | exact HI0.out | apply IsS42.alloc | apply IsS42.drewN | apply IsS42.drew | apply IsS42.set_1 | apply IsS42.set_2 | refine IsS42.far ?_ NB0_155.out _) | exact HI0.out)) hb); have n2_ := am7_ (blk_below (g := gb155) (o := .cells #[.int .i64 0, .slice none 0 0] 26 (0, 0)) (lb7_ BK155) hb); have n3_ := am7_ (KeepBut.trans (by repeat (first | (with_reducible first | exact HK.out | apply KeepBut.set_ | apply keep_drewN | apply keep_drew | apply keep_alloc | refine keep_far ?_ GW155.out _) | exact HK.out)) (KeepBut.of_below hb g none) (.inl rfl)); have n4_ := am7_ (below_step (by repeat (first | (with_reducible first | exact HB.out | apply below_alloc | apply pw_below_drewN | apply below_drew1 | refine below_set ?_ (IsS42.ge HI0.out) | refine below_set ?_ GE155.out) | exact HB.out)) hb); have n5_ := am7_ (hbox); have n6_ := am7_ ((by rw [hg]; exact (keep_size (w := w) (g := g) (row := none) (by repeat (first | (with_reducible first | exact HK.out | apply KeepBut.set_ | apply keep_drewN | apply keep_drew | apply keep_alloc | refine keep_far ?_ GW155.out _) | exact HK.out))) : w.heap.size ≤ gb162)); have n7_ := am7_ ((Nat.le_trans HW0.out (by rw [hg]; exact (keep_size (w := w) (g := g) (row := none) (by repeat (first | (with_reducible first | exact HK.out | apply KeepBut.set_ | apply keep_drewN | apply keep_drew | apply keep_alloc | refine keep_far ?_ GW155.out _) | exact HK.out))) : w.heap.size ≤ gb162) : w0.heap.size ≤ gb162)); have n8_ := am7_ ((by rw [hg]; exact Nat.ne_of_lt (blk_lt (g := gb155) (lb7_ BK155)) : gb155 ≠ gb162)); have n9_ := am7_ ((by rw [hg]; exact Nat.ne_of_gt (blk_lt (g := gb155) (lb7_ BK155)) : gb162 ≠ gb155)); have n10_ := am7_ ((by rw [hg]; exact Nat.ne_of_lt (IsS42.lt (show IsS42 w0 _ g s0_0 t160 t161 from by repeat (first | (with_reducible first | exact HI0.out | apply IsS42.alloc | apply IsS42.drewN | apply IsS42.drew | apply IsS42.set_1 | apply IsS42.set_2 | refine IsS42.far ?_ NB0_155.out _) | exact HI0.out))) : g ≠ gb162)); have n11_ := am7_ ((by rw [hg]; exact Nat.ne_of_gt (IsS42.lt (show IsS42 w0 _ g s0_0 t160 t161 from by repeat (first | (with_reducible first | exact HI0.out | apply IsS42.alloc | apply IsS42.drewN | apply IsS42.drew | apply IsS42.set_1 | apply IsS42.set_2 | refine IsS42.far ?_ NB0_155.out _) | exact HI0.out))) : gb162 ≠ g)); clear HO159; clear HI0; clear BK155; clear HK; clear HB; have HO159 := n0_; have HI0 := n1_; have BK155 := n2_; have HK := n3_; have HB := n4_; have BK162 := n5_; have GW162 := n6_; have GE162 := n7_; have NB155_162 := n8_; have NB162_155 := n9_; have NB0_162 := n10_; have NB162_0 := n11_; clear n0_ n1_ n2_ n3_ n4_ n5_ n6_ n7_ n8_ n9_ n10_ n11_; clear hb hbox hg; have hnb49 := NB162_155.out; have hnc49 := NB155_162.out; have hnb50 := NB162_0.out; have hnc50 := NB0_162.out; have hcz51_0 : w48.cell? ⟨gb162, 0, none⟩ = some (.int .i64 0) := (blk_cell BK162.out 0).trans rfl; have hcz51_1 : w48.cell? ⟨gb162, 1, none⟩ = some (.slice none 0 0) := (blk_cell BK162.out 1).trans rfl; have hfz51_0 := blk_frozen BK162.out 0; have hfz51_1 := blk_frozen BK162.out 1; obtain ⟨Ao52, co52, eo52⟩ := Kd.R_slice HO159.out; subst eo52) | ((with_reducible refine gate_callee (f := 24) rfl ?_); refine goesL_ (some 7) rfl rfl Try.func24 (by kernel_rfl) rfl #[.pointer (some ⟨g, 0, none⟩), .int .i64 16] rfl lm7_ ?_; (with_reducible refine (spec_l1Cur_pick.calls g s0_0 t160 t161 16 t163 t164 t165 w0 _ ?side1 ?side2 A3.out).mono ?_); (case side1 => repeat (first | (with_reducible first | exact HI0.out | apply IsS42.alloc | apply IsS42.drewN | apply IsS42.drew | apply IsS42.set_1 | apply IsS42.set_2 | refine IsS42.far ?_ NB0_155.out _ | refine IsS42.far ?_ NB0_162.out _) | exact HI0.out)); (case side2 => repeat (first | (with_reducible first | exact HB.out | apply below_alloc | apply pw_below_drewN | apply below_drew1 | refine below_set ?_ (IsS42.ge HI0.out) | refine below_set ?_ GE155.out | refine below_set ?_ GE162.out) | exact HB.out)); rintro e w53 ⟨rfl, hi, hb, hk⟩; refine ⟨_, rfl, ?_⟩; have n0_ := am7_ (KeepBut.blk hk (g' := gb155) (o := .cells #[.int .i64 0, .slice none 0 0] 26 (0, 0)) (by (with_reducible repeat (first | refine blk_drewN ?_ _ | refine blk_drew ?_ | refine blk_alloc ?_ _)); refine blk_far ?_ NB155_162.out _; (with_reducible repeat (first | refine blk_drewN ?_ _ | refine blk_drew ?_ | refine blk_alloc ?_ _)); refine blk_far ?_ NB155_162.out _; (with_reducible repeat (first | refine blk_drewN ?_ _ | refine blk_drew ?_ | refine blk_alloc ?_ _)); exact BK155.out) NB155_0.out (by simp)); have n1_ := am7_ (Kd.R_mono (Kd.R_keep (IsS42.apart (show IsS42 w0 _ g s0_0 t160 t161 from by repeat (first | (with_reducible first | exact HI0.out | apply IsS42.alloc | apply IsS42.drewN | apply IsS42.drew | apply IsS42.set_1 | apply IsS42.set_2 | refine IsS42.far ?_ NB0_155.out _ | refine IsS42.far ?_ NB0_162.out _) | exact HI0.out)) (lt7_ (Kd.R_mono (Kd.R_far (p := ⟨gb162, 1, none⟩) (Kd.R_far (p := ⟨gb162, 0, none⟩) (Kd.R_types HO159.out BK162.out (by decide)) (fun _ hk => hk.2) (.int .i64 t156)) (fun _ hk => hk.2) (.slice Ao52 t157.length co52)) (fun _ h_ => h_.1))) (by decide)) hk (fun _ h => h.2)) (fun _ h => h.1)); have n2_ := am7_ (KeepBut.blk hk (g' := gb162) (o := .cells #[.int .i64 t156, .slice Ao52 t157.length co52] 26 (0, 0)) (by (with_reducible repeat (first | refine blk_drewN ?_ _ | refine blk_drew ?_ | refine blk_alloc ?_ _)); refine blk_put (cs := #[.int .i64 t156, .slice none 0 0]) ?_ 1 _ rfl; (with_reducible repeat (first | refine blk_drewN ?_ _ | refine blk_drew ?_ | refine blk_alloc ?_ _)); refine blk_put (cs := #[.int .i64 0, .slice none 0 0]) ?_ 0 _ rfl; (with_reducible repeat (first | refine blk_drewN ?_ _ | refine blk_drew ?_ | refine blk_alloc ?_ _)); exact BK162.out) NB162_0.out (by simp)); have n3_ := am7_ (KeepBut.trans (by repeat (first | (with_reducible first | exact HK.out | apply KeepBut.set_ | apply keep_drewN | apply keep_drew | apply keep_alloc | refine keep_far ?_ GW155.out _ | refine keep_far ?_ GW162.out _) | exact HK.out)) hk (.inl rfl)); have n4_ := am7_ (hb); have n5_ := am7_ (hi); clear BK155; clear HO159; clear BK162; clear HK; clear HB; clear HI0; have BK155 := n0_; have HO159 := n1_; have BK162 := n2_; have HK := n3_; have HB := n4_; have HI0 := n5_; clear n0_ n1_ n2_ n3_ n4_ n5_; (try clear hb); (try clear hb2); (try clear hk); (try clear hi); have hcz54_0 : w53.cell? ⟨gb162, 0, none⟩ = some (.int .i64 t156) := (blk_cell BK162.out 0).trans rfl; have hcz54_1 : w53.cell? ⟨gb162, 1, none⟩ = some (.slice Ao52 t157.length co52) := (blk_cell BK162.out 1).trans rfl; have hfz54_0 := blk_frozen BK162.out 0; have hfz54_1 := blk_frozen BK162.out 1))
       have n0_ := am7_ (Kd.R_drew HO159.out)
       have n1_ := am7_ (blk_drew BK155.out)
       have n2_ := am7_ (blk_drew BK162.out)
       have n3_ := am7_ (IsS42.drew HI0.out)
       have n4_ := am7_ (keep_drew HK.out)
       have n5_ := am7_ (below_drew1 HB.out)
       clear HO159
       clear BK155
       clear BK162
       clear HI0
       clear HK
       clear HB
       have HO159 := n0_
       have BK155 := n1_
       have BK162 := n2_
       have HI0 := n3_
       have HK := n4_
       have HB := n5_
       clear n0_ n1_ n2_ n3_ n4_ n5_
       refine start_ (n := 12) (S := fun w' => w'.cell? ⟨gb162, 0, none⟩ = some (.int .i64 t156) ∧ w'.cell? ⟨gb162, 1, none⟩ = some (.slice Ao52 t157.length co52)) (ds := [11]) #[false, false, false, false, false, false, false, false, false, false, false, false] (by kernel_rfl) rfl rfl ⟨(blk_cell BK162.out 0).trans rfl, (blk_cell BK162.out 1).trans rfl⟩ (fun hHeld => ?_); refine with_tabW spec_l1Cur_anyBits.tab9 spec_l1Cur_anyBits.bits9 (fun HT_ HW_ => ?_)
       generalize w53.drew = w55 at HO159 BK155 BK162 HI0 HK HB hHeld ⊢
       refine pure_ (i := 0) (N := some 32) (v := ?_) (a' := ?_) #[true, false, false, false, false, false, false, false, false, false, false, false] rfl rfl (any_of HT_.out (by kernel_rfl)) (fun _ _ _ h => h) (Or.inl ⟨by rfl, ?_⟩) ?_ ?_
       rotate_left
       ·intro w'
        go_simp
        with_reducible rfl
       rotate_left
       ·simp only [Act.put, List.setIfInBounds_toArray, List.set_cons_zero, List.set_cons_succ, i64_w, i32_w]
        rfl
       refine pure_ (i := 2) (N := some 34) (v := ?_) (a' := ?_) #[true, false, true, false, false, false, false, false, false, false, false, false] rfl rfl (any_of HT_.out (by kernel_rfl)) (fun _ _ _ h => h) (Or.inl ⟨by rfl, ?_⟩) ?_ ?_
       rotate_left
       ·intro w'
        go_simp
        with_reducible rfl
       rotate_left
       ·simp only [Act.put, List.setIfInBounds_toArray, List.set_cons_zero, List.set_cons_succ, i64_w, i32_w]
        rfl
       refine pure_ (i := 3) (N := some 35) (v := ?_) (a' := ?_) #[true, false, true, true, false, false, false, false, false, false, false, false] rfl rfl (any_of HT_.out (by kernel_rfl)) (fun _ _ _ h => h) (Or.inl ⟨by rfl, ?_⟩) ?_ ?_
       rotate_left
       ·intro w'
        go_simp
        with_reducible rfl
       rotate_left
       ·simp only [Act.put, List.setIfInBounds_toArray, List.set_cons_zero, List.set_cons_succ, i64_w, i32_w]
        rfl
       refine pure_ (i := 7) (N := some 39) (v := ?_) (a' := ?_) #[true, false, true, true, false, false, false, true, false, false, false, false] rfl rfl (any_of HT_.out (by kernel_rfl)) (fun _ _ _ h => h) (Or.inl ⟨by rfl, ?_⟩) ?_ ?_
       rotate_left
       ·intro w'
        go_simp
        with_reducible rfl
       rotate_left
       ·simp only [Act.put, List.setIfInBounds_toArray, List.set_cons_zero, List.set_cons_succ, i64_w, i32_w]
        rfl
       refine take_ (i := 1) (N := some 33) (v := ?_) (a' := ?_) #[true, true, true, true, false, false, false, true, false, false, false, false] rfl rfl (take_ofW HT_.out HW_.out (by kernel_rfl)) (fun _ _ _ h => h) (Or.inl ⟨by rfl, ?_⟩) hHeld ?_ ?_
       rotate_left
       ·rintro w' ⟨s0, s1⟩
        go_simp
        with_reducible rfl
       rotate_left
       ·simp only [Act.put, List.setIfInBounds_toArray, List.set_cons_zero, List.set_cons_succ, i64_w, i32_w]
        rfl
       refine take_ (i := 4) (N := some 36) (v := ?_) (a' := ?_) #[true, true, true, true, true, false, false, true, false, false, false, false] rfl rfl (take_ofW HT_.out HW_.out (by kernel_rfl)) (fun _ _ _ h => h) (Or.inl ⟨by rfl, ?_⟩) hHeld ?_ ?_
       rotate_left
       ·rintro w' ⟨s0, s1⟩
        go_simp
        with_reducible rfl
       rotate_left
       ·simp only [Act.put, List.setIfInBounds_toArray, List.set_cons_zero, List.set_cons_succ, i64_w, i32_w]
        rfl
       refine pure_ (i := 5) (N := some 37) (v := ?_) (a' := ?_) #[true, true, true, true, true, true, false, true, false, false, false, false] rfl rfl (any_of HT_.out (by kernel_rfl)) (fun _ _ _ h => h) (Or.inl ⟨by rfl, ?_⟩) ?_ ?_
       rotate_left
       ·intro w'
        go_simp
        with_reducible rfl
       rotate_left
       ·simp only [Act.put, List.setIfInBounds_toArray, List.set_cons_zero, List.set_cons_succ, i64_w, i32_w]
        rfl
       refine join_ (σ := Value) 3 #[true, true, true, true, true, true, true, true, true, false, false, false] (fun s_ => [(38, .int .i64 t175), (40, s_)]) (fun s_ w' => (w'.cell? ⟨gb162, 0, none⟩ = some (.int .i64 t156) ∧ w'.cell? ⟨gb162, 1, none⟩ = some (.slice Ao52 t157.length co52)) ∧ (Kd.R (Kd.int .i64) 3 w' w.heap.size (fun k_ => some k_ ≠ (s_ : Value).ownBlock) (.slice Ao52 t157.length co52) t157) ∧ (Kd.R (Kd.int .i64) 3 w' w.heap.size (fun k_ => some k_ ≠ (.slice Ao52 t157.length co52 : Value).ownBlock) s_ y178) ∧ (w'.heap[gb155]? = some (.cells #[.int .i64 0, .slice none 0 0] 26 (0, 0))) ∧ (w'.heap[gb162]? = some (.cells #[.int .i64 t156, .slice Ao52 t157.length co52] 26 (0, 0))) ∧ (IsS42 w0 w' g s0_0 t176 t177) ∧ (KeepBut w w' g none) ∧ (Below w0.heap.size w0 w')) ?_ ?_
       rotate_left
       ·intro hCont
        refine two_ (i := 6) (j := 8) (Ni := some 38) (Nj := some 40) #[true, true, true, true, true, true, true, true, false, false, false, false] #[true, true, true, true, true, true, false, true, true, false, false, false] rfl rfl rfl rfl (two_of HT_.out (by kernel_rfl)) (by decide) (by decide) (fun K hK => ?_) (fun K hK => ?_)
        ·skip
         refine goes_ Try.func24 (by kernel_rfl) rfl #[.pointer (some ⟨g, 0, none⟩), .int .i64 (t157.length : Int)] (by rfl) rfl rfl lm7_ ?_
         with_reducible refine (spec_l1Cur_pick.calls g s0_0 t164 t165 (t157.length : Int) t175 t176 t177 w0 _ ?side1 ?side2 A41.out).mono ?_
         (case side1 => repeat (first | (with_reducible first | exact HI0.out | apply IsS42.alloc | apply IsS42.drewN | apply IsS42.drew | apply IsS42.set_1 | apply IsS42.set_2 | refine IsS42.far ?_ NB0_155.out _ | refine IsS42.far ?_ NB0_162.out _) | exact HI0.out))
         (case side2 => repeat (first | (with_reducible first | exact HB.out | apply below_alloc | apply pw_below_drewN | apply below_drew1 | refine below_set ?_ (IsS42.ge HI0.out) | refine below_set ?_ GE155.out | refine below_set ?_ GE162.out) | exact HB.out))
         rintro e w56 ⟨rfl, hi, hb, hk⟩
         refine ⟨_, rfl, ?_⟩
         have n0_ := am7_ (KeepBut.blk hk (g' := gb155) (o := .cells #[.int .i64 0, .slice none 0 0] 26 (0, 0)) (lb7_ BK155) NB155_0.out (by simp))
         have n1_ := am7_ (Kd.R_mono (Kd.R_keep (IsS42.apart (show IsS42 w0 _ g s0_0 t164 t165 from by repeat (first | (with_reducible first | exact HI0.out | apply IsS42.alloc | apply IsS42.drewN | apply IsS42.drew | apply IsS42.set_1 | apply IsS42.set_2 | refine IsS42.far ?_ NB0_155.out _ | refine IsS42.far ?_ NB0_162.out _) | exact HI0.out)) (lf7_ HO159) (by decide)) hk (fun _ h => h.2)) (fun _ h => h.1))
         have n2_ := am7_ (KeepBut.blk hk (g' := gb162) (o := .cells #[.int .i64 t156, .slice Ao52 t157.length co52] 26 (0, 0)) (lb7_ BK162) NB162_0.out (by simp))
         have n3_ := am7_ (KeepBut.trans (by repeat (first | (with_reducible first | exact HK.out | apply KeepBut.set_ | apply keep_drewN | apply keep_drew | apply keep_alloc | refine keep_far ?_ GW155.out _ | refine keep_far ?_ GW162.out _) | exact HK.out)) hk (.inl rfl))
         have n4_ := am7_ (hb)
         have n5_ := am7_ (hi)
         clear BK155
         clear HO159
         clear BK162
         clear HK
         clear HB
         clear HI0
         have BK155 := n0_
         have HO159 := n1_
         have BK162 := n2_
         have HK := n3_
         have HB := n4_
         have HI0 := n5_
         clear n0_ n1_ n2_ n3_ n4_ n5_
         (try clear hb)
         (try clear hb2)
         (try clear hk)
         (try clear hi)
         refine hK.out _ _ ⟨(blk_cell BK162.out 0).trans rfl, (blk_cell BK162.out 1).trans rfl⟩ (fun hHeld => ?_)
         clear hK K
         refine norm_ (a' := ?_) ?_ ?_
         rotate_left
         ·show Act.put _ (some 38) _ = _
          simp only [Act.put, List.setIfInBounds_toArray, List.set_cons_zero, List.set_cons_succ, i64_w, i32_w]
          rfl
         refine one_ (i := 8) (N := some 40) #[true, true, true, true, true, true, true, true, true, false, false, false] rfl rfl (one_of HT_.out (by kernel_rfl)) (by decide) (fun K hK => ?_)
         refine Kd.R_lit_step (Kd.int .i64) _ 3 ?hg (N := 40) ?hd (xs := ([(-1), 65535, 65536, 40000] : List Int)) (inner := [.int .i64 (-1), .int .i64 65535, .int .i64 65536, .int .i64 40000]) (ok := fun _ => True) (okp := fun _ => True) ?hr ?hp (fun _ hk => hk) trivial (Below.refl _ _) (Nat.le_refl _) (by simp) ?_; (case hd => rfl); (case hg => rfl); (case hr => first | (go_simp; done) | (go_simp; rfl)); (case hp => exact (Reps.one (show Kd.M (Kd.int .i64) _ _ _ (-1) [.int .i64 (-1)] from rfl) (Reps.one (show Kd.M (Kd.int .i64) _ _ _ 65535 [.int .i64 65535] from rfl) (Reps.one (show Kd.M (Kd.int .i64) _ _ _ 65536 [.int .i64 65536] from rfl) (Reps.one (show Kd.M (Kd.int .i64) _ _ _ 40000 [.int .i64 40000] from rfl) (Reps.none _ _))))))
         intro v179 w57 ho58 hb hg_ hnew_
         clear hg_ hnew_
         (first | rw [← Ny178.out] at ho58 | (simp only [Int.reduceToNat] at ho58; rw [← Ny178.out] at ho58))
         have n0_ := am7_ (Kd.R_elder' (lf7_ HO159) (Kd.R_base ho58) hb)
         have n1_ := am7_ (Kd.R_lower (Kd.R_new' ho58 (Kd.R_lt (lf7_ HO159))) (keep_size (w := w) (g := g) (row := none) (by repeat (first | (with_reducible first | exact HK.out | apply KeepBut.set_ | apply keep_drewN | apply keep_drew | apply keep_alloc | refine keep_far ?_ GW155.out _ | refine keep_far ?_ GW162.out _) | exact HK.out))))
         have n2_ := am7_ (IsS42.below (by repeat (first | (with_reducible first | exact HI0.out | apply IsS42.alloc | apply IsS42.drewN | apply IsS42.drew | apply IsS42.set_1 | apply IsS42.set_2 | refine IsS42.far ?_ NB0_155.out _ | refine IsS42.far ?_ NB0_162.out _) | exact HI0.out)) hb)
         have n3_ := am7_ (blk_below (g := gb155) (o := .cells #[.int .i64 0, .slice none 0 0] 26 (0, 0)) (lb7_ BK155) hb)
         have n4_ := am7_ (blk_below (g := gb162) (o := .cells #[.int .i64 t156, .slice Ao52 t157.length co52] 26 (0, 0)) (lb7_ BK162) hb)
         have n5_ := am7_ (KeepBut.trans (by repeat (first | (with_reducible first | exact HK.out | apply KeepBut.set_ | apply keep_drewN | apply keep_drew | apply keep_alloc | refine keep_far ?_ GW155.out _ | refine keep_far ?_ GW162.out _) | exact HK.out)) (KeepBut.of_below hb g none) (.inl rfl))
         have n6_ := am7_ (below_step (by repeat (first | (with_reducible first | exact HB.out | apply below_alloc | apply pw_below_drewN | apply below_drew1 | refine below_set ?_ (IsS42.ge HI0.out) | refine below_set ?_ GE155.out | refine below_set ?_ GE162.out) | exact HB.out)) hb)
         clear HO159
         clear HI0
         clear BK155
         clear BK162
         clear HK
         clear HB
         have HO159 := n0_
         have HO180 := n1_
         have HI0 := n2_
         have BK155 := n3_
         have BK162 := n4_
         have HK := n5_
         have HB := n6_
         clear n0_ n1_ n2_ n3_ n4_ n5_ n6_
         clear hb ho58
         refine hK.out _ _ ⟨(blk_cell BK162.out 0).trans rfl, (blk_cell BK162.out 1).trans rfl⟩ (fun hHeld => ?_)
         clear hK K
         refine norm_ (a' := ?_) ?_ ?_
         rotate_left
         ·show Act.put _ (some 40) _ = _
          simp only [Act.put, List.setIfInBounds_toArray, List.set_cons_zero, List.set_cons_succ, i64_w, i32_w]
          rfl
         exact norm_ (by simp only [putAll, Act.put, List.setIfInBounds_toArray, List.set_cons_zero, List.set_cons_succ]) (hCont (v179) _ ⟨hHeld, (by (with_reducible repeat (first | apply Kd.R_alloc | apply Kd.R_drewN | apply Kd.R_drew)); exact Kd.R_mono HO159.out (fun _ hk => hk.2)), (by (with_reducible repeat (first | apply Kd.R_alloc | apply Kd.R_drewN | apply Kd.R_drew)); exact Kd.R_mono HO180.out (fun _ hk => hk.2)), (lb7_ BK155), (lb7_ BK162), (by repeat (first | (with_reducible first | exact HI0.out | apply IsS42.alloc | apply IsS42.drewN | apply IsS42.drew | apply IsS42.set_1 | apply IsS42.set_2 | refine IsS42.far ?_ NB0_155.out _ | refine IsS42.far ?_ NB0_162.out _) | exact HI0.out)), (by repeat (first | (with_reducible first | exact HK.out | apply KeepBut.set_ | apply keep_drewN | apply keep_drew | apply keep_alloc | refine keep_far ?_ GW155.out _ | refine keep_far ?_ GW162.out _) | exact HK.out)), (by repeat (first | (with_reducible first | exact HB.out | apply below_alloc | apply pw_below_drewN | apply below_drew1 | refine below_set ?_ (IsS42.ge HI0.out) | refine below_set ?_ GE155.out | refine below_set ?_ GE162.out) | exact HB.out))⟩)
        ·skip
         refine Kd.R_lit_step (Kd.int .i64) _ 3 ?hg (N := 40) ?hd (xs := ([(-1), 65535, 65536, 40000] : List Int)) (inner := [.int .i64 (-1), .int .i64 65535, .int .i64 65536, .int .i64 40000]) (ok := fun _ => True) (okp := fun _ => True) ?hr ?hp (fun _ hk => hk) trivial (Below.refl _ _) (Nat.le_refl _) (by simp) ?_; (case hd => rfl); (case hg => rfl); (case hr => first | (go_simp; done) | (go_simp; rfl)); (case hp => exact (Reps.one (show Kd.M (Kd.int .i64) _ _ _ (-1) [.int .i64 (-1)] from rfl) (Reps.one (show Kd.M (Kd.int .i64) _ _ _ 65535 [.int .i64 65535] from rfl) (Reps.one (show Kd.M (Kd.int .i64) _ _ _ 65536 [.int .i64 65536] from rfl) (Reps.one (show Kd.M (Kd.int .i64) _ _ _ 40000 [.int .i64 40000] from rfl) (Reps.none _ _))))))
         intro v179 w56 ho57 hb hg_ hnew_
         clear hg_ hnew_
         (first | rw [← Ny178.out] at ho57 | (simp only [Int.reduceToNat] at ho57; rw [← Ny178.out] at ho57))
         have n0_ := am7_ (Kd.R_elder' (lf7_ HO159) (Kd.R_base ho57) hb)
         have n1_ := am7_ (Kd.R_lower (Kd.R_new' ho57 (Kd.R_lt (lf7_ HO159))) (keep_size (w := w) (g := g) (row := none) (by repeat (first | (with_reducible first | exact HK.out | apply KeepBut.set_ | apply keep_drewN | apply keep_drew | apply keep_alloc | refine keep_far ?_ GW155.out _ | refine keep_far ?_ GW162.out _) | exact HK.out))))
         have n2_ := am7_ (IsS42.below (by repeat (first | (with_reducible first | exact HI0.out | apply IsS42.alloc | apply IsS42.drewN | apply IsS42.drew | apply IsS42.set_1 | apply IsS42.set_2 | refine IsS42.far ?_ NB0_155.out _ | refine IsS42.far ?_ NB0_162.out _) | exact HI0.out)) hb)
         have n3_ := am7_ (blk_below (g := gb155) (o := .cells #[.int .i64 0, .slice none 0 0] 26 (0, 0)) (lb7_ BK155) hb)
         have n4_ := am7_ (blk_below (g := gb162) (o := .cells #[.int .i64 t156, .slice Ao52 t157.length co52] 26 (0, 0)) (lb7_ BK162) hb)
         have n5_ := am7_ (KeepBut.trans (by repeat (first | (with_reducible first | exact HK.out | apply KeepBut.set_ | apply keep_drewN | apply keep_drew | apply keep_alloc | refine keep_far ?_ GW155.out _ | refine keep_far ?_ GW162.out _) | exact HK.out)) (KeepBut.of_below hb g none) (.inl rfl))
         have n6_ := am7_ (below_step (by repeat (first | (with_reducible first | exact HB.out | apply below_alloc | apply pw_below_drewN | apply below_drew1 | refine below_set ?_ (IsS42.ge HI0.out) | refine below_set ?_ GE155.out | refine below_set ?_ GE162.out) | exact HB.out)) hb)
         clear HO159
         clear HI0
         clear BK155
         clear BK162
         clear HK
         clear HB
         have HO159 := n0_
         have HO180 := n1_
         have HI0 := n2_
         have BK155 := n3_
         have BK162 := n4_
         have HK := n5_
         have HB := n6_
         clear n0_ n1_ n2_ n3_ n4_ n5_ n6_
         clear hb ho57
         refine hK.out _ _ ⟨(blk_cell BK162.out 0).trans rfl, (blk_cell BK162.out 1).trans rfl⟩ (fun hHeld => ?_)
         clear hK K
         refine norm_ (a' := ?_) ?_ ?_
         rotate_left
         ·show Act.put _ (some 40) _ = _
          simp only [Act.put, List.setIfInBounds_toArray, List.set_cons_zero, List.set_cons_succ, i64_w, i32_w]
          rfl
         refine one_ (i := 6) (N := some 38) #[true, true, true, true, true, true, true, true, true, false, false, false] rfl rfl (one_of HT_.out (by kernel_rfl)) (by decide) (fun K hK => ?_)
         refine goes_ Try.func24 (by kernel_rfl) rfl #[.pointer (some ⟨g, 0, none⟩), .int .i64 (t157.length : Int)] (by rfl) rfl rfl lm7_ ?_
         with_reducible refine (spec_l1Cur_pick.calls g s0_0 t164 t165 (t157.length : Int) t175 t176 t177 w0 _ ?side1 ?side2 A41.out).mono ?_
         (case side1 => repeat (first | (with_reducible first | exact HI0.out | apply IsS42.alloc | apply IsS42.drewN | apply IsS42.drew | apply IsS42.set_1 | apply IsS42.set_2 | refine IsS42.far ?_ NB0_155.out _ | refine IsS42.far ?_ NB0_162.out _) | exact HI0.out))
         (case side2 => repeat (first | (with_reducible first | exact HB.out | apply below_alloc | apply pw_below_drewN | apply below_drew1 | refine below_set ?_ (IsS42.ge HI0.out) | refine below_set ?_ GE155.out | refine below_set ?_ GE162.out) | exact HB.out))
         rintro e w58 ⟨rfl, hi, hb, hk⟩
         refine ⟨_, rfl, ?_⟩
         have n0_ := am7_ (KeepBut.blk hk (g' := gb155) (o := .cells #[.int .i64 0, .slice none 0 0] 26 (0, 0)) (lb7_ BK155) NB155_0.out (by simp))
         have n1_ := am7_ (Kd.R_mono (Kd.R_keep (IsS42.apart (show IsS42 w0 _ g s0_0 t164 t165 from by repeat (first | (with_reducible first | exact HI0.out | apply IsS42.alloc | apply IsS42.drewN | apply IsS42.drew | apply IsS42.set_1 | apply IsS42.set_2 | refine IsS42.far ?_ NB0_155.out _ | refine IsS42.far ?_ NB0_162.out _) | exact HI0.out)) (lf7_ HO159) (by decide)) hk (fun _ h => h.2)) (fun _ h => h.1))
         have n2_ := am7_ (KeepBut.blk hk (g' := gb162) (o := .cells #[.int .i64 t156, .slice Ao52 t157.length co52] 26 (0, 0)) (lb7_ BK162) NB162_0.out (by simp))
         have n3_ := am7_ (Kd.R_mono (Kd.R_keep (IsS42.apart (show IsS42 w0 _ g s0_0 t164 t165 from by repeat (first | (with_reducible first | exact HI0.out | apply IsS42.alloc | apply IsS42.drewN | apply IsS42.drew | apply IsS42.set_1 | apply IsS42.set_2 | refine IsS42.far ?_ NB0_155.out _ | refine IsS42.far ?_ NB0_162.out _) | exact HI0.out)) (lf7_ HO180) (by decide)) hk (fun _ h => h.2)) (fun _ h => h.1))
         have n4_ := am7_ (KeepBut.trans (by repeat (first | (with_reducible first | exact HK.out | apply KeepBut.set_ | apply keep_drewN | apply keep_drew | apply keep_alloc | refine keep_far ?_ GW155.out _ | refine keep_far ?_ GW162.out _) | exact HK.out)) hk (.inl rfl))
         have n5_ := am7_ (hb)
         have n6_ := am7_ (hi)
         clear BK155
         clear HO159
         clear BK162
         clear HO180
         clear HK
         clear HB
         clear HI0
         have BK155 := n0_
         have HO159 := n1_
         have BK162 := n2_
         have HO180 := n3_
         have HK := n4_
         have HB := n5_
         have HI0 := n6_
         clear n0_ n1_ n2_ n3_ n4_ n5_ n6_
         (try clear hb)
         (try clear hb2)
         (try clear hk)
         (try clear hi)
         refine hK.out _ _ ⟨(blk_cell BK162.out 0).trans rfl, (blk_cell BK162.out 1).trans rfl⟩ (fun hHeld => ?_)
         clear hK K
         refine norm_ (a' := ?_) ?_ ?_
         rotate_left
         ·show Act.put _ (some 38) _ = _
          simp only [Act.put, List.setIfInBounds_toArray, List.set_cons_zero, List.set_cons_succ, i64_w, i32_w]
          rfl
         exact norm_ (by simp only [putAll, Act.put, List.setIfInBounds_toArray, List.set_cons_zero, List.set_cons_succ]) (hCont (v179) _ ⟨hHeld, (by (with_reducible repeat (first | apply Kd.R_alloc | apply Kd.R_drewN | apply Kd.R_drew)); exact Kd.R_mono HO159.out (fun _ hk => hk.2)), (by (with_reducible repeat (first | apply Kd.R_alloc | apply Kd.R_drewN | apply Kd.R_drew)); exact Kd.R_mono HO180.out (fun _ hk => hk.2)), (lb7_ BK155), (lb7_ BK162), (by repeat (first | (with_reducible first | exact HI0.out | apply IsS42.alloc | apply IsS42.drewN | apply IsS42.drew | apply IsS42.set_1 | apply IsS42.set_2 | refine IsS42.far ?_ NB0_155.out _ | refine IsS42.far ?_ NB0_162.out _) | exact HI0.out)), (by repeat (first | (with_reducible first | exact HK.out | apply KeepBut.set_ | apply keep_drewN | apply keep_drew | apply keep_alloc | refine keep_far ?_ GW155.out _ | refine keep_far ?_ GW162.out _) | exact HK.out)), (by repeat (first | (with_reducible first | exact HB.out | apply below_alloc | apply pw_below_drewN | apply below_drew1 | refine below_set ?_ (IsS42.ge HI0.out) | refine below_set ?_ GE155.out | refine below_set ?_ GE162.out) | exact HB.out))⟩)
       rintro v179 w59 ⟨hS_, h0_, h1_, h2_, h3_, h4_, h5_, h6_⟩
       have n0_ : Aside0 (Kd.R (Kd.int .i64) 3 w59 w.heap.size (fun k_ => some k_ ≠ (v179 : Value).ownBlock) (.slice Ao52 t157.length co52) t157) := ⟨h0_⟩
       have n1_ : Aside0 (Kd.R (Kd.int .i64) 3 w59 w.heap.size (fun k_ => some k_ ≠ (.slice Ao52 t157.length co52 : Value).ownBlock) v179 y178) := ⟨h1_⟩
       have n2_ : Aside0 (w59.heap[gb155]? = some (.cells #[.int .i64 0, .slice none 0 0] 26 (0, 0))) := ⟨h2_⟩
       have n3_ : Aside0 (w59.heap[gb162]? = some (.cells #[.int .i64 t156, .slice Ao52 t157.length co52] 26 (0, 0))) := ⟨h3_⟩
       have n4_ : Aside0 (IsS42 w0 w59 g s0_0 t176 t177) := ⟨h4_⟩
       have n5_ : Aside0 (KeepBut w w59 g none) := ⟨h5_⟩
       have n6_ : Aside0 (Below w0.heap.size w0 w59) := ⟨h6_⟩
       clear HO159
       clear BK155
       clear BK162
       clear HI0
       clear HK
       clear HB
       clear h0_ h1_ h2_ h3_ h4_ h5_ h6_
       have HO159 := n0_
       have HO180 := n1_
       have BK155 := n2_
       have BK162 := n3_
       have HI0 := n4_
       have HK := n5_
       have HB := n6_
       clear n0_ n1_ n2_ n3_ n4_ n5_ n6_
       have hHeld : w59.cell? ⟨gb162, 0, none⟩ = some (.int .i64 t156) ∧ w59.cell? ⟨gb162, 1, none⟩ = some (.slice Ao52 t157.length co52) := hS_
       obtain ⟨Ao60, co60, eo60⟩ := Kd.R_slice HO180.out
       (first | subst eo60 | (injection eo60 with f1_ f2_ f3_; have f4_ := f1_.symm; have f5_ := f3_.symm; clear f1_ f2_ f3_; subst f4_; subst f5_))
       refine norm_ (a' := ?_) ?_ ?_
       rotate_left
       ·simp only [putAll, Act.put, List.setIfInBounds_toArray, List.set_cons_zero, List.set_cons_succ]
        rfl
       refine one_ (i := 9) (N := some 41) #[true, true, true, true, true, true, true, true, true, true, false, false] rfl rfl (one_of HT_.out (by kernel_rfl)) (by decide) (fun K hK => ?_)
       refine goes_ Try.func42 (by kernel_rfl) rfl #[.pointer (some ⟨g, 0, none⟩), .slice Ao60 y178.length co60] (by rfl) rfl rfl lm7_ ?_
       with_reducible refine (spec_l1Cur_among.calls g s0_0 t176 t177 _ _ y178 t181 t182 t183 w0 _ ?side1 ?side2 ?side3 ?side4 ?side5 A42.out).mono ?_
       (case side1 => repeat (first | (with_reducible first | exact HI0.out | apply IsS42.alloc | apply IsS42.drewN | apply IsS42.drew | apply IsS42.set_1 | apply IsS42.set_2 | refine IsS42.far ?_ NB0_155.out _ | refine IsS42.far ?_ NB0_162.out _) | exact HI0.out))
       (case side2 => repeat (first | (with_reducible first | exact HB.out | apply below_alloc | apply pw_below_drewN | apply below_drew1 | refine below_set ?_ (IsS42.ge HI0.out) | refine below_set ?_ GE155.out | refine below_set ?_ GE162.out) | exact HB.out))
       (case side3 => exact lc7_ (Kd.R_reads' HO180.out).2.2)
       (case side4 => exact (Kd.R_reads' HO180.out).2.1)
       (case side5 => exact far_slice (IsS42.own_ne HI0.out HO180.out (by decide)))
       rintro e w61 ⟨rfl, hi, hb, hk⟩
       refine ⟨_, rfl, ?_⟩
       have n0_ := am7_ (KeepBut.blk hk (g' := gb155) (o := .cells #[.int .i64 0, .slice none 0 0] 26 (0, 0)) (lb7_ BK155) NB155_0.out (by simp))
       have n1_ := am7_ (Kd.R_mono (Kd.R_keep (IsS42.apart (show IsS42 w0 _ g s0_0 t176 t177 from by repeat (first | (with_reducible first | exact HI0.out | apply IsS42.alloc | apply IsS42.drewN | apply IsS42.drew | apply IsS42.set_1 | apply IsS42.set_2 | refine IsS42.far ?_ NB0_155.out _ | refine IsS42.far ?_ NB0_162.out _) | exact HI0.out)) (lf7_ HO159) (by decide)) hk (fun _ h => h.2)) (fun _ h => h.1))
       have n2_ := am7_ (KeepBut.blk hk (g' := gb162) (o := .cells #[.int .i64 t156, .slice Ao52 t157.length co52] 26 (0, 0)) (lb7_ BK162) NB162_0.out (by simp))
       have n3_ := am7_ (Kd.R_mono (Kd.R_keep (IsS42.apart (show IsS42 w0 _ g s0_0 t176 t177 from by repeat (first | (with_reducible first | exact HI0.out | apply IsS42.alloc | apply IsS42.drewN | apply IsS42.drew | apply IsS42.set_1 | apply IsS42.set_2 | refine IsS42.far ?_ NB0_155.out _ | refine IsS42.far ?_ NB0_162.out _) | exact HI0.out)) (lf7_ HO180) (by decide)) hk (fun _ h => h.2)) (fun _ h => h.1))
       have n4_ := am7_ (KeepBut.trans (by repeat (first | (with_reducible first | exact HK.out | apply KeepBut.set_ | apply keep_drewN | apply keep_drew | apply keep_alloc | refine keep_far ?_ GW155.out _ | refine keep_far ?_ GW162.out _) | exact HK.out)) hk (.inl rfl))
       have n5_ := am7_ (hb)
       have n6_ := am7_ (hi)
       clear BK155
       clear HO159
       clear BK162
       clear HO180
       clear HK
       clear HB
       clear HI0
       have BK155 := n0_
       have HO159 := n1_
       have BK162 := n2_
       have HO180 := n3_
       have HK := n4_
       have HB := n5_
       have HI0 := n6_
       clear n0_ n1_ n2_ n3_ n4_ n5_ n6_
       (try clear hb)
       (try clear hb2)
       (try clear hk)
       (try clear hi)
       have p45 : 0 ≤ (t175 : Int) := of_decide_eq_true (by first | (with_reducible assumption) | assumption)
       have q45 : (t175 : Int) < ((t157.length : Int) : Int) := of_decide_eq_true (by first | (with_reducible assumption) | assumption)
       obtain ⟨go45, co45, eo45, gb45, gl45, cl45, HG45⟩ := Kd.R_form HO159.out (by omega)
       (first | cases eo45 | (injection eo45 with ea_ en_ ec_; (first | subst ea_ | (injection ea_ with ea_; subst ea_)); subst ec_; clear en_))
       have GB45 := am7_ gb45
       have GG45 := am7_ HG45
       clear gb45 gl45 HG45
       obtain ⟨hx45_0, hf45_0⟩ := Kd.R_celln 0 HO159.out (t175 : Int) p45 q45
       replace p45 := eq_true p45
       replace q45 := eq_true q45
       have HN0_go45 := am7_ (show g ≠ go45 from by have h_ := IsS42.own_ne HI0.out HO159.out (by decide); intro e_; exact h_ (by rw [e_]; rfl))
       have HP62 := Kd.R_putn HO159.out (t175 : Int) t181
       rw [← Ny184.out] at HP62
       have HQ62 := am7_ HP62
       clear HP62
       refine hK.out _ _ ⟨(blk_cell BK162.out 0).trans rfl, (blk_cell BK162.out 1).trans rfl⟩ (fun hHeld => ?_)
       clear hK K
       refine norm_ (a' := ?_) ?_ ?_
       rotate_left
       ·show Act.put _ (some 41) _ = _
        simp only [Act.put, List.setIfInBounds_toArray, List.set_cons_zero, List.set_cons_succ, i64_w, i32_w]
        rfl
       refine pure_ (i := 10) (N := some 42) (v := ?_) (a' := ?_) #[true, true, true, true, true, true, true, true, true, true, true, false] rfl rfl (any_of HT_.out (by kernel_rfl)) (fun _ _ _ h => h) (Or.inl ⟨by rfl, ?_⟩) ?_ ?_
       rotate_left
       ·intro w'
        go_simp
        with_reducible rfl
       rotate_left
       ·simp only [Act.put, List.setIfInBounds_toArray, List.set_cons_zero, List.set_cons_succ, i64_w, i32_w]
        rfl
       refine last_ (i := 11) (N := none) #[true, true, true, true, true, true, true, true, true, true, true, true] rfl rfl (one_of HT_.out (by kernel_rfl)) (by decide) (fun K hK => ?_)
       refine skip_ (w1 := ?_) (by rfl) rfl ?_ ?_
       rotate_left
       ·go_simp
        rfl
       refine hK.out _ _ ?_
       clear hK K
       refine done_ (done_of HT_.out (by kernel_rfl)) ?_
       have n0_ : Aside0 (Kd.R (Kd.int .i64) 3 (w61.setCell ⟨go45, (t175 : Int).toNat, none⟩ (.int .i64 t181)) w.heap.size (fun k_ => some k_ ≠ (.slice Ao60 y178.length co60 : Value).ownBlock) (.slice (some ⟨go45, 0, none⟩) t157.length co52) y184) := ⟨lf7_ HQ62⟩
       have n1_ : Aside0 (Kd.R (Kd.int .i64) 3 (w61.setCell ⟨go45, (t175 : Int).toNat, none⟩ (.int .i64 t181)) w.heap.size (fun k_ => some k_ ≠ (.slice (some ⟨go45, 0, none⟩) t157.length co52 : Value).ownBlock) (.slice Ao60 y178.length co60) y178) := ⟨by (with_reducible repeat (first | apply Kd.R_alloc | apply Kd.R_drewN | apply Kd.R_drew)); exact Kd.R_mono (Kd.R_far (p := ⟨go45, (t175 : Int).toNat, none⟩) (Kd.R_mono HO180.out (fun k_ hk => (⟨hk, fun e_ => hk (by rw [e_]; rfl)⟩ : _ ∧ k_ ≠ go45))) (fun _ hk => hk.2) (.int .i64 t181)) (fun _ hk => hk.1)⟩
       have n2_ : Aside0 ((w61.setCell ⟨go45, (t175 : Int).toNat, none⟩ (.int .i64 t181)).heap[gb155]? = some (.cells #[.int .i64 0, .slice none 0 0] 26 (0, 0))) := ⟨by (with_reducible repeat (first | refine blk_drewN ?_ _ | refine blk_drew ?_ | refine blk_alloc ?_ _)); refine blk_far ?_ (by have h_ := Kd.R_ne HO159.out BK155.out (by decide); intro e_; exact h_ (by rw [e_]; rfl)) _; (with_reducible repeat (first | refine blk_drewN ?_ _ | refine blk_drew ?_ | refine blk_alloc ?_ _)); exact BK155.out⟩
       have n3_ : Aside0 ((w61.setCell ⟨go45, (t175 : Int).toNat, none⟩ (.int .i64 t181)).heap[gb162]? = some (.cells #[.int .i64 t156, .slice (some ⟨go45, 0, none⟩) t157.length co52] 26 (0, 0))) := ⟨by (with_reducible repeat (first | refine blk_drewN ?_ _ | refine blk_drew ?_ | refine blk_alloc ?_ _)); refine blk_far ?_ (by have h_ := Kd.R_ne HO159.out BK162.out (by decide); intro e_; exact h_ (by rw [e_]; rfl)) _; (with_reducible repeat (first | refine blk_drewN ?_ _ | refine blk_drew ?_ | refine blk_alloc ?_ _)); exact BK162.out⟩
       have n4_ : Aside0 (IsS42 w0 (w61.setCell ⟨go45, (t175 : Int).toNat, none⟩ (.int .i64 t181)) g s0_0 t182 t183) := ⟨by repeat (first | (with_reducible first | exact HI0.out | apply IsS42.alloc | apply IsS42.drewN | apply IsS42.drew | apply IsS42.set_1 | apply IsS42.set_2 | refine IsS42.far ?_ HN0_go45.out _ | refine IsS42.far ?_ NB0_155.out _ | refine IsS42.far ?_ NB0_162.out _) | exact HI0.out)⟩
       have n5_ : Aside0 (KeepBut w (w61.setCell ⟨go45, (t175 : Int).toNat, none⟩ (.int .i64 t181)) g none) := ⟨by repeat (first | (with_reducible first | exact HK.out | apply KeepBut.set_ | apply keep_drewN | apply keep_drew | apply keep_alloc | refine keep_far ?_ GB45.out _ | refine keep_far ?_ GW155.out _ | refine keep_far ?_ GW162.out _) | exact HK.out)⟩
       have n6_ : Aside0 (Below w0.heap.size w0 (w61.setCell ⟨go45, (t175 : Int).toNat, none⟩ (.int .i64 t181))) := ⟨by repeat (first | (with_reducible first | exact HB.out | apply below_alloc | apply pw_below_drewN | apply below_drew1 | refine below_set ?_ (Nat.le_trans HL.out GB45.out) | refine below_set ?_ (IsS42.ge HI0.out) | refine below_set ?_ GE155.out | refine below_set ?_ GE162.out) | exact HB.out)⟩
       (try clear HO159)
       (try clear HO180)
       (try clear BK155)
       (try clear BK162)
       (try clear HI0)
       (try clear HK)
       (try clear HB)
       generalize (w61.setCell ⟨go45, (t175 : Int).toNat, none⟩ (.int .i64 t181)) = w63 at n0_ n1_ n2_ n3_ n4_ n5_ n6_ ⊢
       have HO159 := n0_
       have HO180 := n1_
       have BK155 := n2_
       have BK162 := n3_
       have HI0 := n4_
       have HK := n5_
       have HB := n6_
       clear n0_ n1_ n2_ n3_ n4_ n5_ n6_
       have hcz64_0 : w63.cell? ⟨gb162, 0, none⟩ = some (.int .i64 t156) := (blk_cell BK162.out 0).trans rfl
       have hcz64_1 : w63.cell? ⟨gb162, 1, none⟩ = some (.slice (some ⟨go45, 0, none⟩) t157.length co52) := (blk_cell BK162.out 1).trans rfl
       have hfz64_0 := blk_frozen BK162.out 0
       have hfz64_1 := blk_frozen BK162.out 1
       have hnb65 := NB155_0.out
       have hnc65 := NB0_155.out
       have hcz66_0 : w63.cell? ⟨gb155, 0, none⟩ = some (.int .i64 0) := (blk_cell BK155.out 0).trans rfl
       have hcz66_1 : w63.cell? ⟨gb155, 1, none⟩ = some (.slice none 0 0) := (blk_cell BK155.out 1).trans rfl
       have hfz66_0 := blk_frozen BK155.out 0
       have hfz66_1 := blk_frozen BK155.out 1
       try go_wp2
       refine bodyPost_ret (results_cell_row rfl _ _ gb155 26 #[.int .i64 t156, .slice (some ⟨go45, 0, none⟩) t157.length co52] (0, 0) _ rfl (by (with_reducible repeat (first | refine blk_drewN ?_ _ | refine blk_drew ?_ | refine blk_alloc ?_ _)); refine blk_put (cs := #[.int .i64 t156, .slice none 0 0]) ?_ 1 _ rfl; (with_reducible repeat (first | refine blk_drewN ?_ _ | refine blk_drew ?_ | refine blk_alloc ?_ _)); refine blk_put (cs := #[.int .i64 0, .slice none 0 0]) ?_ 0 _ rfl; (with_reducible repeat (first | refine blk_drewN ?_ _ | refine blk_drew ?_ | refine blk_alloc ?_ _)); exact BK155.out) Try.underlying26 rfl (by kernel_rfl)) rfl ?_
       exact ⟨_, by first | rfl | (simp [errW_none, errW_some] <;> rfl) | (simp [*, errW_none, errW_some] <;> rfl), by (with_reducible repeat (first | apply Kd.R_alloc | apply Kd.R_drewN | apply Kd.R_drew)); exact Kd.R_mono (Kd.R_far (p := ⟨gb155, 1, none⟩) (Kd.R_far (p := ⟨gb155, 0, none⟩) (Kd.R_types HO159.out BK155.out (by decide)) (fun _ hk => hk.2) (.int .i64 t156)) (fun _ hk => hk.2) (.slice (some ⟨go45, 0, none⟩) t157.length co52)) (fun _ hk => trivial), by repeat (first | (with_reducible first | exact HI0.out | apply IsS42.alloc | apply IsS42.drewN | apply IsS42.drew | apply IsS42.set_1 | apply IsS42.set_2 | refine IsS42.far ?_ NB0_155.out _ | refine IsS42.far ?_ NB0_162.out _) | exact HI0.out), by repeat (first | (with_reducible first | exact HB.out | apply below_alloc | apply pw_below_drewN | apply below_drew1 | refine below_set ?_ (IsS42.ge HI0.out) | refine below_set ?_ GE155.out | refine below_set ?_ GE162.out) | exact HB.out), by repeat (first | (with_reducible first | exact HK.out | apply KeepBut.set_ | apply keep_drewN | apply keep_drew | apply keep_alloc | refine keep_far ?_ GW155.out _ | refine keep_far ?_ GW162.out _) | exact HK.out)⟩
      ·rw [if_neg c44] at H
       exact absurd H (by simp)
     ·rw [if_neg c43] at H
      exact absurd H (by simp)
    ·rw [if_neg c40] at H
     have c40b0 : decide (0 < (t157.length : Int)) = false := decide_eq_false c40
     have c40b1 : decide (0 < t157.length) = false := decide_eq_false (by omega)
     clear c40
     simp only [Option.some.injEq, Prod.mk.injEq] at H
     obtain ⟨rfl, rfl, rfl, rfl⟩ := H
     go_enter Try.func20, Try.ntmps20
     go_wp2_with (first | ((with_reducible refine gate_dst (N := 2) rfl ?_); refine box_event ?hg (N := 2) ?hd (cs := #[.int .i64 0, .slice none 0 0]) (t := 26) ?hr ?_; (case hd => rfl); (case hg => rfl); (case hr => first | (go_simp; done) | (go_simp; rfl)); intro gb155 hg w67 hbox hb; have n0_ := am7_ (IsS42.below (by repeat (first | (with_reducible first | exact HI0.out | apply IsS42.alloc | apply IsS42.drewN | apply IsS42.drew | apply IsS42.set_1 | apply IsS42.set_2) | exact HI0.out)) hb); have n1_ := am7_ (KeepBut.trans (by repeat (first | (with_reducible first | exact HK.out | apply KeepBut.set_ | apply keep_drewN | apply keep_drew | apply keep_alloc) | exact HK.out)) (KeepBut.of_below hb g none) (.inl rfl)); have n2_ := am7_ (below_step (by repeat (first | (with_reducible first | exact HB.out | apply below_alloc | apply pw_below_drewN | apply below_drew1 | refine below_set ?_ (IsS42.ge HI0.out)) | exact HB.out)) hb); have n3_ := am7_ (hbox); have n4_ := am7_ ((by rw [hg]; exact (keep_size (w := w) (g := g) (row := none) (by repeat (first | (with_reducible first | exact HK.out | apply KeepBut.set_ | apply keep_drewN | apply keep_drew | apply keep_alloc) | exact HK.out))) : w.heap.size ≤ gb155)); have n5_ := am7_ ((Nat.le_trans HW0.out (by rw [hg]; exact (keep_size (w := w) (g := g) (row := none) (by repeat (first | (with_reducible first | exact HK.out | apply KeepBut.set_ | apply keep_drewN | apply keep_drew | apply keep_alloc) | exact HK.out))) : w.heap.size ≤ gb155) : w0.heap.size ≤ gb155)); have n6_ := am7_ ((by rw [hg]; exact Nat.ne_of_lt (IsS42.lt (show IsS42 w0 _ g s0_0 s0_1 s0_2 from by repeat (first | (with_reducible first | exact HI0.out | apply IsS42.alloc | apply IsS42.drewN | apply IsS42.drew | apply IsS42.set_1 | apply IsS42.set_2) | exact HI0.out))) : g ≠ gb155)); have n7_ := am7_ ((by rw [hg]; exact Nat.ne_of_gt (IsS42.lt (show IsS42 w0 _ g s0_0 s0_1 s0_2 from by repeat (first | (with_reducible first | exact HI0.out | apply IsS42.alloc | apply IsS42.drewN | apply IsS42.drew | apply IsS42.set_1 | apply IsS42.set_2) | exact HI0.out))) : gb155 ≠ g)); clear HI0; clear HK; clear HB; have HI0 := n0_; have HK := n1_; have HB := n2_; have BK155 := n3_; have GW155 := n4_; have GE155 := n5_; have NB0_155 := n6_; have NB155_0 := n7_; clear n0_ n1_ n2_ n3_ n4_ n5_ n6_ n7_; clear hb hbox hg) | ((with_reducible refine gate_callee (f := 41) rfl ?_); refine goesL_ (some 5) rfl rfl Try.func41 (by kernel_rfl) rfl #[.pointer (some ⟨g, 0, none⟩), .int .i64 40] rfl lm7_ ?_; (with_reducible refine (spec_l1Cur_bits.calls k g s0_0 s0_1 s0_2 40 t156 t157 t160 t161 w0 _ ?side1 ?side2 A2.out).mono ?_); (case side1 => repeat (first | (with_reducible first | exact HI0.out | apply IsS42.alloc | apply IsS42.drewN | apply IsS42.drew | apply IsS42.set_1 | apply IsS42.set_2 | refine IsS42.far ?_ NB0_155.out _) | exact HI0.out)); (case side2 => repeat (first | (with_reducible first | exact HB.out | apply below_alloc | apply pw_below_drewN | apply below_drew1 | refine below_set ?_ (IsS42.ge HI0.out) | refine below_set ?_ GE155.out) | exact HB.out)); rintro e w68 ⟨v158, rfl, ho0, hi, hb, hk⟩; refine ⟨_, rfl, ?_⟩; have n0_ := am7_ (KeepBut.blk hk (g' := gb155) (o := .cells #[.int .i64 0, .slice none 0 0] 26 (0, 0)) (lb7_ BK155) NB155_0.out (by simp)); have n1_ := am7_ (Kd.R_lower ho0 (keep_size (w := w) (g := g) (row := none) (by repeat (first | (with_reducible first | exact HK.out | apply KeepBut.set_ | apply keep_drewN | apply keep_drew | apply keep_alloc | refine keep_far ?_ GW155.out _) | exact HK.out)))); have n2_ := am7_ (KeepBut.trans (by repeat (first | (with_reducible first | exact HK.out | apply KeepBut.set_ | apply keep_drewN | apply keep_drew | apply keep_alloc | refine keep_far ?_ GW155.out _) | exact HK.out)) hk (.inl rfl)); have n3_ := am7_ (hb); have n4_ := am7_ (hi); clear BK155; clear HK; clear HB; clear HI0; have BK155 := n0_; have HO159 := n1_; have HK := n2_; have HB := n3_; have HI0 := n4_; clear n0_ n1_ n2_ n3_ n4_; (try clear hb); (try clear hb2); (try clear hk); (try clear hi); (try clear ho0)) | ((with_reducible refine gate_dst (N := 3) rfl ?_); refine box_event ?hg (N := 3) ?hd (cs := #[.int .i64 0, .slice none 0 0]) (t := 26) ?hr ?_; (case hd => rfl); (case hg => rfl); (case hr => first | (go_simp; done) | (go_simp; rfl)); intro gb162 hg w69 hbox hb; have n0_ := am7_ (Kd.R_below (lf7_ HO159) hb); have n1_ := am7_ (IsS42.below (by repeat (first | (with_reducible first | exact HI0.out | apply IsS42.alloc | apply IsS42.drewN | apply IsS42.drew | apply IsS42.set_1 | apply IsS42.set_2 | refine IsS42.far ?_ NB0_155.out _) | exact HI0.out)) hb); have n2_ := am7_ (blk_below (g := gb155) (o := .cells #[.int .i64 0, .slice none 0 0] 26 (0, 0)) (lb7_ BK155) hb); have n3_ := am7_ (KeepBut.trans (by repeat (first | (with_reducible first | exact HK.out | apply KeepBut.set_ | apply keep_drewN | apply keep_drew | apply keep_alloc | refine keep_far ?_ GW155.out _) | exact HK.out)) (KeepBut.of_below hb g none) (.inl rfl)); have n4_ := am7_ (below_step (by repeat (first | (with_reducible first | exact HB.out | apply below_alloc | apply pw_below_drewN | apply below_drew1 | refine below_set ?_ (IsS42.ge HI0.out) | refine below_set ?_ GE155.out) | exact HB.out)) hb); have n5_ := am7_ (hbox); have n6_ := am7_ ((by rw [hg]; exact (keep_size (w := w) (g := g) (row := none) (by repeat (first | (with_reducible first | exact HK.out | apply KeepBut.set_ | apply keep_drewN | apply keep_drew | apply keep_alloc | refine keep_far ?_ GW155.out _) | exact HK.out))) : w.heap.size ≤ gb162)); have n7_ := am7_ ((Nat.le_trans HW0.out (by rw [hg]; exact (keep_size (w := w) (g := g) (row := none) (by repeat (first | (with_reducible first | exact HK.out | apply KeepBut.set_ | apply keep_drewN | apply keep_drew | apply keep_alloc | refine keep_far ?_ GW155.out _) | exact HK.out))) : w.heap.size ≤ gb162) : w0.heap.size ≤ gb162)); have n8_ := am7_ ((by rw [hg]; exact Nat.ne_of_lt (blk_lt (g := gb155) (lb7_ BK155)) : gb155 ≠ gb162)); have n9_ := am7_ ((by rw [hg]; exact Nat.ne_of_gt (blk_lt (g := gb155) (lb7_ BK155)) : gb162 ≠ gb155)); have n10_ := am7_ ((by rw [hg]; exact Nat.ne_of_lt (IsS42.lt (show IsS42 w0 _ g s0_0 t160 t161 from by repeat (first | (with_reducible first | exact HI0.out | apply IsS42.alloc | apply IsS42.drewN | apply IsS42.drew | apply IsS42.set_1 | apply IsS42.set_2 | refine IsS42.far ?_ NB0_155.out _) | exact HI0.out))) : g ≠ gb162)); have n11_ := am7_ ((by rw [hg]; exact Nat.ne_of_gt (IsS42.lt (show IsS42 w0 _ g s0_0 t160 t161 from by repeat (first | (with_reducible first | exact HI0.out | apply IsS42.alloc | apply IsS42.drewN | apply IsS42.drew | apply IsS42.set_1 | apply IsS42.set_2 | refine IsS42.far ?_ NB0_155.out _) | exact HI0.out))) : gb162 ≠ g)); clear HO159; clear HI0; clear BK155; clear HK; clear HB; have HO159 := n0_; have HI0 := n1_; have BK155 := n2_; have HK := n3_; have HB := n4_; have BK162 := n5_; have GW162 := n6_; have GE162 := n7_; have NB155_162 := n8_; have NB162_155 := n9_; have NB0_162 := n10_; have NB162_0 := n11_; clear n0_ n1_ n2_ n3_ n4_ n5_ n6_ n7_ n8_ n9_ n10_ n11_; clear hb hbox hg; have hnb70 := NB162_155.out; have hnc70 := NB155_162.out; have hnb71 := NB162_0.out; have hnc71 := NB0_162.out; have hcz72_0 : w69.cell? ⟨gb162, 0, none⟩ = some (.int .i64 0) := (blk_cell BK162.out 0).trans rfl; have hcz72_1 : w69.cell? ⟨gb162, 1, none⟩ = some (.slice none 0 0) := (blk_cell BK162.out 1).trans rfl; have hfz72_0 := blk_frozen BK162.out 0; have hfz72_1 := blk_frozen BK162.out 1; obtain ⟨Ao73, co73, eo73⟩ := Kd.R_slice HO159.out; subst eo73) | ((with_reducible refine gate_callee (f := 24) rfl ?_); refine goesL_ (some 7) rfl rfl Try.func24 (by kernel_rfl) rfl #[.pointer (some ⟨g, 0, none⟩), .int .i64 16] rfl lm7_ ?_; (with_reducible refine (spec_l1Cur_pick.calls g s0_0 t160 t161 16 t163 t164 t165 w0 _ ?side1 ?side2 A3.out).mono ?_); (case side1 => repeat (first | (with_reducible first | exact HI0.out | apply IsS42.alloc | apply IsS42.drewN | apply IsS42.drew | apply IsS42.set_1 | apply IsS42.set_2 | refine IsS42.far ?_ NB0_155.out _ | refine IsS42.far ?_ NB0_162.out _) | exact HI0.out)); (case side2 => repeat (first | (with_reducible first | exact HB.out | apply below_alloc | apply pw_below_drewN | apply below_drew1 | refine below_set ?_ (IsS42.ge HI0.out) | refine below_set ?_ GE155.out | refine below_set ?_ GE162.out) | exact HB.out)); rintro e w74 ⟨rfl, hi, hb, hk⟩; refine ⟨_, rfl, ?_⟩; have n0_ := am7_ (KeepBut.blk hk (g' := gb155) (o := .cells #[.int .i64 0, .slice none 0 0] 26 (0, 0)) (by (with_reducible repeat (first | refine blk_drewN ?_ _ | refine blk_drew ?_ | refine blk_alloc ?_ _)); refine blk_far ?_ NB155_162.out _; (with_reducible repeat (first | refine blk_drewN ?_ _ | refine blk_drew ?_ | refine blk_alloc ?_ _)); refine blk_far ?_ NB155_162.out _; (with_reducible repeat (first | refine blk_drewN ?_ _ | refine blk_drew ?_ | refine blk_alloc ?_ _)); exact BK155.out) NB155_0.out (by simp)); have n1_ := am7_ (Kd.R_mono (Kd.R_keep (IsS42.apart (show IsS42 w0 _ g s0_0 t160 t161 from by repeat (first | (with_reducible first | exact HI0.out | apply IsS42.alloc | apply IsS42.drewN | apply IsS42.drew | apply IsS42.set_1 | apply IsS42.set_2 | refine IsS42.far ?_ NB0_155.out _ | refine IsS42.far ?_ NB0_162.out _) | exact HI0.out)) (lt7_ (Kd.R_mono (Kd.R_far (p := ⟨gb162, 1, none⟩) (Kd.R_far (p := ⟨gb162, 0, none⟩) (Kd.R_types HO159.out BK162.out (by decide)) (fun _ hk => hk.2) (.int .i64 t156)) (fun _ hk => hk.2) (.slice Ao73 t157.length co73)) (fun _ h_ => h_.1))) (by decide)) hk (fun _ h => h.2)) (fun _ h => h.1)); have n2_ := am7_ (KeepBut.blk hk (g' := gb162) (o := .cells #[.int .i64 t156, .slice Ao73 t157.length co73] 26 (0, 0)) (by (with_reducible repeat (first | refine blk_drewN ?_ _ | refine blk_drew ?_ | refine blk_alloc ?_ _)); refine blk_put (cs := #[.int .i64 t156, .slice none 0 0]) ?_ 1 _ rfl; (with_reducible repeat (first | refine blk_drewN ?_ _ | refine blk_drew ?_ | refine blk_alloc ?_ _)); refine blk_put (cs := #[.int .i64 0, .slice none 0 0]) ?_ 0 _ rfl; (with_reducible repeat (first | refine blk_drewN ?_ _ | refine blk_drew ?_ | refine blk_alloc ?_ _)); exact BK162.out) NB162_0.out (by simp)); have n3_ := am7_ (KeepBut.trans (by repeat (first | (with_reducible first | exact HK.out | apply KeepBut.set_ | apply keep_drewN | apply keep_drew | apply keep_alloc | refine keep_far ?_ GW155.out _ | refine keep_far ?_ GW162.out _) | exact HK.out)) hk (.inl rfl)); have n4_ := am7_ (hb); have n5_ := am7_ (hi); clear BK155; clear HO159; clear BK162; clear HK; clear HB; clear HI0; have BK155 := n0_; have HO159 := n1_; have BK162 := n2_; have HK := n3_; have HB := n4_; have HI0 := n5_; clear n0_ n1_ n2_ n3_ n4_ n5_; (try clear hb); (try clear hb2); (try clear hk); (try clear hi); have hcz75_0 : w74.cell? ⟨gb162, 0, none⟩ = some (.int .i64 t156) := (blk_cell BK162.out 0).trans rfl; have hcz75_1 : w74.cell? ⟨gb162, 1, none⟩ = some (.slice Ao73 t157.length co73) := (blk_cell BK162.out 1).trans rfl; have hfz75_0 := blk_frozen BK162.out 0; have hfz75_1 := blk_frozen BK162.out 1; have hnb76 := NB155_0.out; have hnc76 := NB0_155.out; have hcz77_0 : w74.cell? ⟨gb155, 0, none⟩ = some (.int .i64 0) := (blk_cell BK155.out 0).trans rfl; have hcz77_1 : w74.cell? ⟨gb155, 1, none⟩ = some (.slice none 0 0) := (blk_cell BK155.out 1).trans rfl; have hfz77_0 := blk_frozen BK155.out 0; have hfz77_1 := blk_frozen BK155.out 1))
     refine bodyPost_ret (results_cell_row rfl _ _ gb155 26 #[.int .i64 t156, .slice Ao73 t157.length co73] (0, 0) _ rfl (by (with_reducible repeat (first | refine blk_drewN ?_ _ | refine blk_drew ?_ | refine blk_alloc ?_ _)); refine blk_put (cs := #[.int .i64 t156, .slice none 0 0]) ?_ 1 _ rfl; (with_reducible repeat (first | refine blk_drewN ?_ _ | refine blk_drew ?_ | refine blk_alloc ?_ _)); refine blk_put (cs := #[.int .i64 0, .slice none 0 0]) ?_ 0 _ rfl; (with_reducible repeat (first | refine blk_drewN ?_ _ | refine blk_drew ?_ | refine blk_alloc ?_ _)); exact BK155.out) Try.underlying26 rfl (by kernel_rfl)) rfl ?_
     exact ⟨_, by first | rfl | (simp [errW_none, errW_some] <;> rfl) | (simp [*, errW_none, errW_some] <;> rfl), by (with_reducible repeat (first | apply Kd.R_alloc | apply Kd.R_drewN | apply Kd.R_drew)); exact Kd.R_mono (Kd.R_far (p := ⟨gb155, 1, none⟩) (Kd.R_far (p := ⟨gb155, 0, none⟩) (Kd.R_types HO159.out BK155.out (by decide)) (fun _ hk => hk.2) (.int .i64 t156)) (fun _ hk => hk.2) (.slice Ao73 t157.length co73)) (fun _ hk => trivial), by repeat (first | (with_reducible first | exact HI0.out | apply IsS42.alloc | apply IsS42.drewN | apply IsS42.drew | apply IsS42.set_1 | apply IsS42.set_2 | refine IsS42.far ?_ NB0_155.out _ | refine IsS42.far ?_ NB0_162.out _) | exact HI0.out), by repeat (first | (with_reducible first | exact HB.out | apply below_alloc | apply pw_below_drewN | apply below_drew1 | refine below_set ?_ (IsS42.ge HI0.out) | refine below_set ?_ GE155.out | refine below_set ?_ GE162.out) | exact HB.out), by repeat (first | (with_reducible first | exact HK.out | apply KeepBut.set_ | apply keep_drewN | apply keep_drew | apply keep_alloc | refine keep_far ?_ GW155.out _ | refine keep_far ?_ GW162.out _) | exact HK.out)⟩
   ·rw [if_neg c39] at H
    have c39b0 : (t163 == 2) = false := beq_eq_false_iff_ne.mpr c39
    have c39b1 : (t163 != 2) = true := bne_iff_ne.mpr c39
    by_cases c78 : t163 = 3
    ·rw [if_pos c78] at H
     have c78b0 : (t163 == 3) = true := beq_iff_eq.mpr c78
     have c78b1 : (t163 != 3) = false := bne_eq_false_iff_eq.mpr c78
     clear c78
     replace H := Option.bind_eq_some_iff.mp H
     obtain ⟨⟨t185, t186, t187⟩, A790, H⟩ := H
     replace H : ((spec_biNew.f (wrap64 (4096 - t185))).bind fun bt188 => (some (bt188.1, bt188.2, t186, t187))) = some (r1, r2, r3, r4) := H
     have A79 := am7_ A790
     clear A790
     replace H := Option.bind_eq_some_iff.mp H
     obtain ⟨⟨t188, t189⟩, A800, H⟩ := H
     replace H : (some (t188, t189, t186, t187)) = some (r1, r2, r3, r4) := H
     have A80 := am7_ A800
     clear A800
     simp only [Option.some.injEq, Prod.mk.injEq] at H
     obtain ⟨rfl, rfl, rfl, rfl⟩ := H
     go_enter Try.func20, Try.ntmps20
     go_wp2_with (first | ((with_reducible refine gate_dst (N := 2) rfl ?_); refine box_event ?hg (N := 2) ?hd (cs := #[.int .i64 0, .slice none 0 0]) (t := 26) ?hr ?_; (case hd => rfl); (case hg => rfl); (case hr => first | (go_simp; done) | (go_simp; rfl)); intro gb155 hg w81 hbox hb; have n0_ := am7_ (IsS42.below (by repeat (first | (with_reducible first | exact HI0.out | apply IsS42.alloc | apply IsS42.drewN | apply IsS42.drew | apply IsS42.set_1 | apply IsS42.set_2) | exact HI0.out)) hb); have n1_ := am7_ (KeepBut.trans (by repeat (first | (with_reducible first | exact HK.out | apply KeepBut.set_ | apply keep_drewN | apply keep_drew | apply keep_alloc) | exact HK.out)) (KeepBut.of_below hb g none) (.inl rfl)); have n2_ := am7_ (below_step (by repeat (first | (with_reducible first | exact HB.out | apply below_alloc | apply pw_below_drewN | apply below_drew1 | refine below_set ?_ (IsS42.ge HI0.out)) | exact HB.out)) hb); have n3_ := am7_ (hbox); have n4_ := am7_ ((by rw [hg]; exact (keep_size (w := w) (g := g) (row := none) (by repeat (first | (with_reducible first | exact HK.out | apply KeepBut.set_ | apply keep_drewN | apply keep_drew | apply keep_alloc) | exact HK.out))) : w.heap.size ≤ gb155)); have n5_ := am7_ ((Nat.le_trans HW0.out (by rw [hg]; exact (keep_size (w := w) (g := g) (row := none) (by repeat (first | (with_reducible first | exact HK.out | apply KeepBut.set_ | apply keep_drewN | apply keep_drew | apply keep_alloc) | exact HK.out))) : w.heap.size ≤ gb155) : w0.heap.size ≤ gb155)); have n6_ := am7_ ((by rw [hg]; exact Nat.ne_of_lt (IsS42.lt (show IsS42 w0 _ g s0_0 s0_1 s0_2 from by repeat (first | (with_reducible first | exact HI0.out | apply IsS42.alloc | apply IsS42.drewN | apply IsS42.drew | apply IsS42.set_1 | apply IsS42.set_2) | exact HI0.out))) : g ≠ gb155)); have n7_ := am7_ ((by rw [hg]; exact Nat.ne_of_gt (IsS42.lt (show IsS42 w0 _ g s0_0 s0_1 s0_2 from by repeat (first | (with_reducible first | exact HI0.out | apply IsS42.alloc | apply IsS42.drewN | apply IsS42.drew | apply IsS42.set_1 | apply IsS42.set_2) | exact HI0.out))) : gb155 ≠ g)); clear HI0; clear HK; clear HB; have HI0 := n0_; have HK := n1_; have HB := n2_; have BK155 := n3_; have GW155 := n4_; have GE155 := n5_; have NB0_155 := n6_; have NB155_0 := n7_; clear n0_ n1_ n2_ n3_ n4_ n5_ n6_ n7_; clear hb hbox hg) | ((with_reducible refine gate_callee (f := 41) rfl ?_); refine goesL_ (some 5) rfl rfl Try.func41 (by kernel_rfl) rfl #[.pointer (some ⟨g, 0, none⟩), .int .i64 40] rfl lm7_ ?_; (with_reducible refine (spec_l1Cur_bits.calls k g s0_0 s0_1 s0_2 40 t156 t157 t160 t161 w0 _ ?side1 ?side2 A2.out).mono ?_); (case side1 => repeat (first | (with_reducible first | exact HI0.out | apply IsS42.alloc | apply IsS42.drewN | apply IsS42.drew | apply IsS42.set_1 | apply IsS42.set_2 | refine IsS42.far ?_ NB0_155.out _) | exact HI0.out)); (case side2 => repeat (first | (with_reducible first | exact HB.out | apply below_alloc | apply pw_below_drewN | apply below_drew1 | refine below_set ?_ (IsS42.ge HI0.out) | refine below_set ?_ GE155.out) | exact HB.out)); rintro e w82 ⟨v158, rfl, ho0, hi, hb, hk⟩; refine ⟨_, rfl, ?_⟩; have n0_ := am7_ (KeepBut.blk hk (g' := gb155) (o := .cells #[.int .i64 0, .slice none 0 0] 26 (0, 0)) (lb7_ BK155) NB155_0.out (by simp)); have n1_ := am7_ (Kd.R_lower ho0 (keep_size (w := w) (g := g) (row := none) (by repeat (first | (with_reducible first | exact HK.out | apply KeepBut.set_ | apply keep_drewN | apply keep_drew | apply keep_alloc | refine keep_far ?_ GW155.out _) | exact HK.out)))); have n2_ := am7_ (KeepBut.trans (by repeat (first | (with_reducible first | exact HK.out | apply KeepBut.set_ | apply keep_drewN | apply keep_drew | apply keep_alloc | refine keep_far ?_ GW155.out _) | exact HK.out)) hk (.inl rfl)); have n3_ := am7_ (hb); have n4_ := am7_ (hi); clear BK155; clear HK; clear HB; clear HI0; have BK155 := n0_; have HO159 := n1_; have HK := n2_; have HB := n3_; have HI0 := n4_; clear n0_ n1_ n2_ n3_ n4_; (try clear hb); (try clear hb2); (try clear hk); (try clear hi); (try clear ho0)) | ((with_reducible refine gate_dst (N := 3) rfl ?_); refine box_event ?hg (N := 3) ?hd (cs := #[.int .i64 0, .slice none 0 0]) (t := 26) ?hr ?_; (case hd => rfl); (case hg => rfl); (case hr => first | (go_simp; done) | (go_simp; rfl)); intro gb162 hg w83 hbox hb; have n0_ := am7_ (Kd.R_below (lf7_ HO159) hb); have n1_ := am7_ (IsS42.below (by repeat (first | (with_reducible first | exact HI0.out | apply IsS42.alloc | apply IsS42.drewN | apply IsS42.drew | apply IsS42.set_1 | apply IsS42.set_2 | refine IsS42.far ?_ NB0_155.out _) | exact HI0.out)) hb); have n2_ := am7_ (blk_below (g := gb155) (o := .cells #[.int .i64 0, .slice none 0 0] 26 (0, 0)) (lb7_ BK155) hb); have n3_ := am7_ (KeepBut.trans (by repeat (first | (with_reducible first | exact HK.out | apply KeepBut.set_ | apply keep_drewN | apply keep_drew | apply keep_alloc | refine keep_far ?_ GW155.out _) | exact HK.out)) (KeepBut.of_below hb g none) (.inl rfl)); have n4_ := am7_ (below_step (by repeat (first | (with_reducible first | exact HB.out | apply below_alloc | apply pw_below_drewN | apply below_drew1 | refine below_set ?_ (IsS42.ge HI0.out) | refine below_set ?_ GE155.out) | exact HB.out)) hb); have n5_ := am7_ (hbox); have n6_ := am7_ ((by rw [hg]; exact (keep_size (w := w) (g := g) (row := none) (by repeat (first | (with_reducible first | exact HK.out | apply KeepBut.set_ | apply keep_drewN | apply keep_drew | apply keep_alloc | refine keep_far ?_ GW155.out _) | exact HK.out))) : w.heap.size ≤ gb162)); have n7_ := am7_ ((Nat.le_trans HW0.out (by rw [hg]; exact (keep_size (w := w) (g := g) (row := none) (by repeat (first | (with_reducible first | exact HK.out | apply KeepBut.set_ | apply keep_drewN | apply keep_drew | apply keep_alloc | refine keep_far ?_ GW155.out _) | exact HK.out))) : w.heap.size ≤ gb162) : w0.heap.size ≤ gb162)); have n8_ := am7_ ((by rw [hg]; exact Nat.ne_of_lt (blk_lt (g := gb155) (lb7_ BK155)) : gb155 ≠ gb162)); have n9_ := am7_ ((by rw [hg]; exact Nat.ne_of_gt (blk_lt (g := gb155) (lb7_ BK155)) : gb162 ≠ gb155)); have n10_ := am7_ ((by rw [hg]; exact Nat.ne_of_lt (IsS42.lt (show IsS42 w0 _ g s0_0 t160 t161 from by repeat (first | (with_reducible first | exact HI0.out | apply IsS42.alloc | apply IsS42.drewN | apply IsS42.drew | apply IsS42.set_1 | apply IsS42.set_2 | refine IsS42.far ?_ NB0_155.out _) | exact HI0.out))) : g ≠ gb162)); have n11_ := am7_ ((by rw [hg]; exact Nat.ne_of_gt (IsS42.lt (show IsS42 w0 _ g s0_0 t160 t161 from by repeat (first | (with_reducible first | exact HI0.out | apply IsS42.alloc | apply IsS42.drewN | apply IsS42.drew | apply IsS42.set_1 | apply IsS42.set_2 | refine IsS42.far ?_ NB0_155.out _) | exact HI0.out))) : gb162 ≠ g)); clear HO159; clear HI0; clear BK155; clear HK; clear HB; have HO159 := n0_; have HI0 := n1_; have BK155 := n2_; have HK := n3_; have HB := n4_; have BK162 := n5_; have GW162 := n6_; have GE162 := n7_; have NB155_162 := n8_; have NB162_155 := n9_; have NB0_162 := n10_; have NB162_0 := n11_; clear n0_ n1_ n2_ n3_ n4_ n5_ n6_ n7_ n8_ n9_ n10_ n11_; clear hb hbox hg; have hnb84 := NB162_155.out; have hnc84 := NB155_162.out; have hnb85 := NB162_0.out; have hnc85 := NB0_162.out; have hcz86_0 : w83.cell? ⟨gb162, 0, none⟩ = some (.int .i64 0) := (blk_cell BK162.out 0).trans rfl; have hcz86_1 : w83.cell? ⟨gb162, 1, none⟩ = some (.slice none 0 0) := (blk_cell BK162.out 1).trans rfl; have hfz86_0 := blk_frozen BK162.out 0; have hfz86_1 := blk_frozen BK162.out 1; obtain ⟨Ao87, co87, eo87⟩ := Kd.R_slice HO159.out; subst eo87) | ((with_reducible refine gate_callee (f := 24) rfl ?_); refine goesL_ (some 7) rfl rfl Try.func24 (by kernel_rfl) rfl #[.pointer (some ⟨g, 0, none⟩), .int .i64 16] rfl lm7_ ?_; (with_reducible refine (spec_l1Cur_pick.calls g s0_0 t160 t161 16 t163 t164 t165 w0 _ ?side1 ?side2 A3.out).mono ?_); (case side1 => repeat (first | (with_reducible first | exact HI0.out | apply IsS42.alloc | apply IsS42.drewN | apply IsS42.drew | apply IsS42.set_1 | apply IsS42.set_2 | refine IsS42.far ?_ NB0_155.out _ | refine IsS42.far ?_ NB0_162.out _) | exact HI0.out)); (case side2 => repeat (first | (with_reducible first | exact HB.out | apply below_alloc | apply pw_below_drewN | apply below_drew1 | refine below_set ?_ (IsS42.ge HI0.out) | refine below_set ?_ GE155.out | refine below_set ?_ GE162.out) | exact HB.out)); rintro e w88 ⟨rfl, hi, hb, hk⟩; refine ⟨_, rfl, ?_⟩; have n0_ := am7_ (KeepBut.blk hk (g' := gb155) (o := .cells #[.int .i64 0, .slice none 0 0] 26 (0, 0)) (by (with_reducible repeat (first | refine blk_drewN ?_ _ | refine blk_drew ?_ | refine blk_alloc ?_ _)); refine blk_far ?_ NB155_162.out _; (with_reducible repeat (first | refine blk_drewN ?_ _ | refine blk_drew ?_ | refine blk_alloc ?_ _)); refine blk_far ?_ NB155_162.out _; (with_reducible repeat (first | refine blk_drewN ?_ _ | refine blk_drew ?_ | refine blk_alloc ?_ _)); exact BK155.out) NB155_0.out (by simp)); have n1_ := am7_ (Kd.R_mono (Kd.R_keep (IsS42.apart (show IsS42 w0 _ g s0_0 t160 t161 from by repeat (first | (with_reducible first | exact HI0.out | apply IsS42.alloc | apply IsS42.drewN | apply IsS42.drew | apply IsS42.set_1 | apply IsS42.set_2 | refine IsS42.far ?_ NB0_155.out _ | refine IsS42.far ?_ NB0_162.out _) | exact HI0.out)) (lt7_ (Kd.R_mono (Kd.R_far (p := ⟨gb162, 1, none⟩) (Kd.R_far (p := ⟨gb162, 0, none⟩) (Kd.R_types HO159.out BK162.out (by decide)) (fun _ hk => hk.2) (.int .i64 t156)) (fun _ hk => hk.2) (.slice Ao87 t157.length co87)) (fun _ h_ => h_.1))) (by decide)) hk (fun _ h => h.2)) (fun _ h => h.1)); have n2_ := am7_ (KeepBut.blk hk (g' := gb162) (o := .cells #[.int .i64 t156, .slice Ao87 t157.length co87] 26 (0, 0)) (by (with_reducible repeat (first | refine blk_drewN ?_ _ | refine blk_drew ?_ | refine blk_alloc ?_ _)); refine blk_put (cs := #[.int .i64 t156, .slice none 0 0]) ?_ 1 _ rfl; (with_reducible repeat (first | refine blk_drewN ?_ _ | refine blk_drew ?_ | refine blk_alloc ?_ _)); refine blk_put (cs := #[.int .i64 0, .slice none 0 0]) ?_ 0 _ rfl; (with_reducible repeat (first | refine blk_drewN ?_ _ | refine blk_drew ?_ | refine blk_alloc ?_ _)); exact BK162.out) NB162_0.out (by simp)); have n3_ := am7_ (KeepBut.trans (by repeat (first | (with_reducible first | exact HK.out | apply KeepBut.set_ | apply keep_drewN | apply keep_drew | apply keep_alloc | refine keep_far ?_ GW155.out _ | refine keep_far ?_ GW162.out _) | exact HK.out)) hk (.inl rfl)); have n4_ := am7_ (hb); have n5_ := am7_ (hi); clear BK155; clear HO159; clear BK162; clear HK; clear HB; clear HI0; have BK155 := n0_; have HO159 := n1_; have BK162 := n2_; have HK := n3_; have HB := n4_; have HI0 := n5_; clear n0_ n1_ n2_ n3_ n4_ n5_; (try clear hb); (try clear hb2); (try clear hk); (try clear hi)) | ((with_reducible refine gate_callee (f := 24) rfl ?_); refine goesL_ (some 46) rfl rfl Try.func24 (by kernel_rfl) rfl #[.pointer (some ⟨g, 0, none⟩), .int .i64 2] rfl lm7_ ?_; (with_reducible refine (spec_l1Cur_pick.calls g s0_0 t164 t165 2 t185 t186 t187 w0 _ ?side1 ?side2 A79.out).mono ?_); (case side1 => repeat (first | (with_reducible first | exact HI0.out | apply IsS42.alloc | apply IsS42.drewN | apply IsS42.drew | apply IsS42.set_1 | apply IsS42.set_2 | refine IsS42.far ?_ NB0_155.out _ | refine IsS42.far ?_ NB0_162.out _) | exact HI0.out)); (case side2 => repeat (first | (with_reducible first | exact HB.out | apply below_alloc | apply pw_below_drewN | apply below_drew1 | refine below_set ?_ (IsS42.ge HI0.out) | refine below_set ?_ GE155.out | refine below_set ?_ GE162.out) | exact HB.out)); rintro e w89 ⟨rfl, hi, hb, hk⟩; refine ⟨_, rfl, ?_⟩; have n0_ := am7_ (KeepBut.blk hk (g' := gb155) (o := .cells #[.int .i64 0, .slice none 0 0] 26 (0, 0)) (lb7_ BK155) NB155_0.out (by simp)); have n1_ := am7_ (Kd.R_mono (Kd.R_keep (IsS42.apart (show IsS42 w0 _ g s0_0 t164 t165 from by repeat (first | (with_reducible first | exact HI0.out | apply IsS42.alloc | apply IsS42.drewN | apply IsS42.drew | apply IsS42.set_1 | apply IsS42.set_2 | refine IsS42.far ?_ NB0_155.out _ | refine IsS42.far ?_ NB0_162.out _) | exact HI0.out)) (lf7_ HO159) (by decide)) hk (fun _ h => h.2)) (fun _ h => h.1)); have n2_ := am7_ (KeepBut.blk hk (g' := gb162) (o := .cells #[.int .i64 t156, .slice Ao87 t157.length co87] 26 (0, 0)) (lb7_ BK162) NB162_0.out (by simp)); have n3_ := am7_ (KeepBut.trans (by repeat (first | (with_reducible first | exact HK.out | apply KeepBut.set_ | apply keep_drewN | apply keep_drew | apply keep_alloc | refine keep_far ?_ GW155.out _ | refine keep_far ?_ GW162.out _) | exact HK.out)) hk (.inl rfl)); have n4_ := am7_ (hb); have n5_ := am7_ (hi); clear BK155; clear HO159; clear BK162; clear HK; clear HB; clear HI0; have BK155 := n0_; have HO159 := n1_; have BK162 := n2_; have HK := n3_; have HB := n4_; have HI0 := n5_; clear n0_ n1_ n2_ n3_ n4_ n5_; (try clear hb); (try clear hb2); (try clear hk); (try clear hi)) | ((with_reducible refine gate_callee (f := 22) rfl ?_); refine goesL_ (some 48) rfl rfl Try.func22 (by kernel_rfl) rfl #[.int .i64 (wrap64 (4096 - t185))] rfl lm7_ ?_; (with_reducible refine (spec_biNew.calls (wrap64 (4096 - t185)) t188 t189 _ A80.out).mono ?_); rintro e w90 ⟨v190, rfl, ho0, hb⟩; refine ⟨_, rfl, ?_⟩; have n0_ := am7_ (Kd.R_elder' (lf7_ HO159) (Kd.R_base ho0) hb); have n1_ := am7_ (Kd.R_lower (Kd.R_new' ho0 (Kd.R_lt (lf7_ HO159))) (keep_size (w := w) (g := g) (row := none) (by repeat (first | (with_reducible first | exact HK.out | apply KeepBut.set_ | apply keep_drewN | apply keep_drew | apply keep_alloc | refine keep_far ?_ GW155.out _ | refine keep_far ?_ GW162.out _) | exact HK.out)))); have n2_ := am7_ (IsS42.below (by repeat (first | (with_reducible first | exact HI0.out | apply IsS42.alloc | apply IsS42.drewN | apply IsS42.drew | apply IsS42.set_1 | apply IsS42.set_2 | refine IsS42.far ?_ NB0_155.out _ | refine IsS42.far ?_ NB0_162.out _) | exact HI0.out)) hb); have n3_ := am7_ (blk_below (g := gb155) (o := .cells #[.int .i64 0, .slice none 0 0] 26 (0, 0)) (lb7_ BK155) hb); have n4_ := am7_ (blk_below (g := gb162) (o := .cells #[.int .i64 t156, .slice Ao87 t157.length co87] 26 (0, 0)) (lb7_ BK162) hb); have n5_ := am7_ (KeepBut.trans (by repeat (first | (with_reducible first | exact HK.out | apply KeepBut.set_ | apply keep_drewN | apply keep_drew | apply keep_alloc | refine keep_far ?_ GW155.out _ | refine keep_far ?_ GW162.out _) | exact HK.out)) (KeepBut.of_below hb g none) (.inl rfl)); have n6_ := am7_ (below_step (by repeat (first | (with_reducible first | exact HB.out | apply below_alloc | apply pw_below_drewN | apply below_drew1 | refine below_set ?_ (IsS42.ge HI0.out) | refine below_set ?_ GE155.out | refine below_set ?_ GE162.out) | exact HB.out)) hb); clear HO159; clear HI0; clear BK155; clear BK162; clear HK; clear HB; have HO159 := n0_; have HO191 := n1_; have HI0 := n2_; have BK155 := n3_; have BK162 := n4_; have HK := n5_; have HB := n6_; clear n0_ n1_ n2_ n3_ n4_ n5_ n6_; (try clear hb); (try clear hb2); (try clear hk); (try clear hi); (try clear ho0); have hcz91_0 : w90.cell? ⟨gb162, 0, none⟩ = some (.int .i64 t156) := (blk_cell BK162.out 0).trans rfl; have hcz91_1 : w90.cell? ⟨gb162, 1, none⟩ = some (.slice Ao87 t157.length co87) := (blk_cell BK162.out 1).trans rfl; have hfz91_0 := blk_frozen BK162.out 0; have hfz91_1 := blk_frozen BK162.out 1; obtain ⟨Ao92, co92, eo92⟩ := Kd.R_slice HO191.out; subst eo92; have hnb93 := NB155_0.out; have hnc93 := NB0_155.out; have hcz94_0 : w90.cell? ⟨gb155, 0, none⟩ = some (.int .i64 0) := (blk_cell BK155.out 0).trans rfl; have hcz94_1 : w90.cell? ⟨gb155, 1, none⟩ = some (.slice none 0 0) := (blk_cell BK155.out 1).trans rfl; have hfz94_0 := blk_frozen BK155.out 0; have hfz94_1 := blk_frozen BK155.out 1))
     refine bodyPost_ret (results_cell_row rfl _ _ gb155 26 #[.int .i64 t188, .slice Ao92 t189.length co92] (0, 0) _ rfl (by (with_reducible repeat (first | refine blk_drewN ?_ _ | refine blk_drew ?_ | refine blk_alloc ?_ _)); refine blk_put (cs := #[.int .i64 t188, .slice none 0 0]) ?_ 1 _ rfl; (with_reducible repeat (first | refine blk_drewN ?_ _ | refine blk_drew ?_ | refine blk_alloc ?_ _)); refine blk_put (cs := #[.int .i64 0, .slice none 0 0]) ?_ 0 _ rfl; (with_reducible repeat (first | refine blk_drewN ?_ _ | refine blk_drew ?_ | refine blk_alloc ?_ _)); refine blk_far ?_ NB155_162.out _; (with_reducible repeat (first | refine blk_drewN ?_ _ | refine blk_drew ?_ | refine blk_alloc ?_ _)); refine blk_far ?_ NB155_162.out _; (with_reducible repeat (first | refine blk_drewN ?_ _ | refine blk_drew ?_ | refine blk_alloc ?_ _)); exact BK155.out) Try.underlying26 rfl (by kernel_rfl)) rfl ?_
     exact ⟨_, by first | rfl | (simp [errW_none, errW_some] <;> rfl) | (simp [*, errW_none, errW_some] <;> rfl), by (with_reducible repeat (first | apply Kd.R_alloc | apply Kd.R_drewN | apply Kd.R_drew)); exact Kd.R_mono (Kd.R_far (p := ⟨gb155, 1, none⟩) (Kd.R_far (p := ⟨gb155, 0, none⟩) (Kd.R_far (p := ⟨gb162, 1, none⟩) (Kd.R_far (p := ⟨gb162, 0, none⟩) (Kd.R_types (Kd.R_types HO191.out BK162.out (by decide)) BK155.out (by decide)) (fun _ hk => hk.1.2) (.int .i64 t188)) (fun _ hk => hk.1.2) (.slice Ao92 t189.length co92)) (fun _ hk => hk.2) (.int .i64 t188)) (fun _ hk => hk.2) (.slice Ao92 t189.length co92)) (fun _ hk => trivial), by repeat (first | (with_reducible first | exact HI0.out | apply IsS42.alloc | apply IsS42.drewN | apply IsS42.drew | apply IsS42.set_1 | apply IsS42.set_2 | refine IsS42.far ?_ NB0_155.out _ | refine IsS42.far ?_ NB0_162.out _) | exact HI0.out), by repeat (first | (with_reducible first | exact HB.out | apply below_alloc | apply pw_below_drewN | apply below_drew1 | refine below_set ?_ (IsS42.ge HI0.out) | refine below_set ?_ GE155.out | refine below_set ?_ GE162.out) | exact HB.out), by repeat (first | (with_reducible first | exact HK.out | apply KeepBut.set_ | apply keep_drewN | apply keep_drew | apply keep_alloc | refine keep_far ?_ GW155.out _ | refine keep_far ?_ GW162.out _) | exact HK.out)⟩
    ·rw [if_neg c78] at H
     have c78b0 : (t163 == 3) = false := beq_eq_false_iff_ne.mpr c78
     have c78b1 : (t163 != 3) = true := bne_iff_ne.mpr c78
     by_cases c95 : t163 = 4
     ·rw [if_pos c95] at H
      have c95b0 : (t163 == 4) = true := beq_iff_eq.mpr c95
      have c95b1 : (t163 != 4) = false := bne_eq_false_iff_eq.mpr c95
      clear c95
      replace H := Option.bind_eq_some_iff.mp H
      obtain ⟨⟨t192, t193, t194⟩, A960, H⟩ := H
      replace H : ((spec_biNew.f (wrap64 (16 * t192))).bind fun bt195 => (some (bt195.1, bt195.2, t193, t194))) = some (r1, r2, r3, r4) := H
      have A96 := am7_ A960
      clear A960
      replace H := Option.bind_eq_some_iff.mp H
      obtain ⟨⟨t195, t196⟩, A970, H⟩ := H
      replace H : (some (t195, t196, t193, t194)) = some (r1, r2, r3, r4) := H
      have A97 := am7_ A970
      clear A970
      simp only [Option.some.injEq, Prod.mk.injEq] at H
      obtain ⟨rfl, rfl, rfl, rfl⟩ := H
      go_enter Try.func20, Try.ntmps20
      go_wp2_with (first | ((with_reducible refine gate_dst (N := 2) rfl ?_); refine box_event ?hg (N := 2) ?hd (cs := #[.int .i64 0, .slice none 0 0]) (t := 26) ?hr ?_; (case hd => rfl); (case hg => rfl); (case hr => first | (go_simp; done) | (go_simp; rfl)); intro gb155 hg w98 hbox hb; have n0_ := am7_ (IsS42.below (by repeat (first | (with_reducible first | exact HI0.out | apply IsS42.alloc | apply IsS42.drewN | apply IsS42.drew | apply IsS42.set_1 | apply IsS42.set_2) | exact HI0.out)) hb); have n1_ := am7_ (KeepBut.trans (by repeat (first | (with_reducible first | exact HK.out | apply KeepBut.set_ | apply keep_drewN | apply keep_drew | apply keep_alloc) | exact HK.out)) (KeepBut.of_below hb g none) (.inl rfl)); have n2_ := am7_ (below_step (by repeat (first | (with_reducible first | exact HB.out | apply below_alloc | apply pw_below_drewN | apply below_drew1 | refine below_set ?_ (IsS42.ge HI0.out)) | exact HB.out)) hb); have n3_ := am7_ (hbox); have n4_ := am7_ ((by rw [hg]; exact (keep_size (w := w) (g := g) (row := none) (by repeat (first | (with_reducible first | exact HK.out | apply KeepBut.set_ | apply keep_drewN | apply keep_drew | apply keep_alloc) | exact HK.out))) : w.heap.size ≤ gb155)); have n5_ := am7_ ((Nat.le_trans HW0.out (by rw [hg]; exact (keep_size (w := w) (g := g) (row := none) (by repeat (first | (with_reducible first | exact HK.out | apply KeepBut.set_ | apply keep_drewN | apply keep_drew | apply keep_alloc) | exact HK.out))) : w.heap.size ≤ gb155) : w0.heap.size ≤ gb155)); have n6_ := am7_ ((by rw [hg]; exact Nat.ne_of_lt (IsS42.lt (show IsS42 w0 _ g s0_0 s0_1 s0_2 from by repeat (first | (with_reducible first | exact HI0.out | apply IsS42.alloc | apply IsS42.drewN | apply IsS42.drew | apply IsS42.set_1 | apply IsS42.set_2) | exact HI0.out))) : g ≠ gb155)); have n7_ := am7_ ((by rw [hg]; exact Nat.ne_of_gt (IsS42.lt (show IsS42 w0 _ g s0_0 s0_1 s0_2 from by repeat (first | (with_reducible first | exact HI0.out | apply IsS42.alloc | apply IsS42.drewN | apply IsS42.drew | apply IsS42.set_1 | apply IsS42.set_2) | exact HI0.out))) : gb155 ≠ g)); clear HI0; clear HK; clear HB; have HI0 := n0_; have HK := n1_; have HB := n2_; have BK155 := n3_; have GW155 := n4_; have GE155 := n5_; have NB0_155 := n6_; have NB155_0 := n7_; clear n0_ n1_ n2_ n3_ n4_ n5_ n6_ n7_; clear hb hbox hg) | ((with_reducible refine gate_callee (f := 41) rfl ?_); refine goesL_ (some 5) rfl rfl Try.func41 (by kernel_rfl) rfl #[.pointer (some ⟨g, 0, none⟩), .int .i64 40] rfl lm7_ ?_; (with_reducible refine (spec_l1Cur_bits.calls k g s0_0 s0_1 s0_2 40 t156 t157 t160 t161 w0 _ ?side1 ?side2 A2.out).mono ?_); (case side1 => repeat (first | (with_reducible first | exact HI0.out | apply IsS42.alloc | apply IsS42.drewN | apply IsS42.drew | apply IsS42.set_1 | apply IsS42.set_2 | refine IsS42.far ?_ NB0_155.out _) | exact HI0.out)); (case side2 => repeat (first | (with_reducible first | exact HB.out | apply below_alloc | apply pw_below_drewN | apply below_drew1 | refine below_set ?_ (IsS42.ge HI0.out) | refine below_set ?_ GE155.out) | exact HB.out)); rintro e w99 ⟨v158, rfl, ho0, hi, hb, hk⟩; refine ⟨_, rfl, ?_⟩; have n0_ := am7_ (KeepBut.blk hk (g' := gb155) (o := .cells #[.int .i64 0, .slice none 0 0] 26 (0, 0)) (lb7_ BK155) NB155_0.out (by simp)); have n1_ := am7_ (Kd.R_lower ho0 (keep_size (w := w) (g := g) (row := none) (by repeat (first | (with_reducible first | exact HK.out | apply KeepBut.set_ | apply keep_drewN | apply keep_drew | apply keep_alloc | refine keep_far ?_ GW155.out _) | exact HK.out)))); have n2_ := am7_ (KeepBut.trans (by repeat (first | (with_reducible first | exact HK.out | apply KeepBut.set_ | apply keep_drewN | apply keep_drew | apply keep_alloc | refine keep_far ?_ GW155.out _) | exact HK.out)) hk (.inl rfl)); have n3_ := am7_ (hb); have n4_ := am7_ (hi); clear BK155; clear HK; clear HB; clear HI0; have BK155 := n0_; have HO159 := n1_; have HK := n2_; have HB := n3_; have HI0 := n4_; clear n0_ n1_ n2_ n3_ n4_; (try clear hb); (try clear hb2); (try clear hk); (try clear hi); (try clear ho0)) | ((with_reducible refine gate_dst (N := 3) rfl ?_); refine box_event ?hg (N := 3) ?hd (cs := #[.int .i64 0, .slice none 0 0]) (t := 26) ?hr ?_; (case hd => rfl); (case hg => rfl); (case hr => first | (go_simp; done) | (go_simp; rfl)); intro gb162 hg w100 hbox hb; have n0_ := am7_ (Kd.R_below (lf7_ HO159) hb); have n1_ := am7_ (IsS42.below (by repeat (first | (with_reducible first | exact HI0.out | apply IsS42.alloc | apply IsS42.drewN | apply IsS42.drew | apply IsS42.set_1 | apply IsS42.set_2 | refine IsS42.far ?_ NB0_155.out _) | exact HI0.out)) hb); have n2_ := am7_ (blk_below (g := gb155) (o := .cells #[.int .i64 0, .slice none 0 0] 26 (0, 0)) (lb7_ BK155) hb); have n3_ := am7_ (KeepBut.trans (by repeat (first | (with_reducible first | exact HK.out | apply KeepBut.set_ | apply keep_drewN | apply keep_drew | apply keep_alloc | refine keep_far ?_ GW155.out _) | exact HK.out)) (KeepBut.of_below hb g none) (.inl rfl)); have n4_ := am7_ (below_step (by repeat (first | (with_reducible first | exact HB.out | apply below_alloc | apply pw_below_drewN | apply below_drew1 | refine below_set ?_ (IsS42.ge HI0.out) | refine below_set ?_ GE155.out) | exact HB.out)) hb); have n5_ := am7_ (hbox); have n6_ := am7_ ((by rw [hg]; exact (keep_size (w := w) (g := g) (row := none) (by repeat (first | (with_reducible first | exact HK.out | apply KeepBut.set_ | apply keep_drewN | apply keep_drew | apply keep_alloc | refine keep_far ?_ GW155.out _) | exact HK.out))) : w.heap.size ≤ gb162)); have n7_ := am7_ ((Nat.le_trans HW0.out (by rw [hg]; exact (keep_size (w := w) (g := g) (row := none) (by repeat (first | (with_reducible first | exact HK.out | apply KeepBut.set_ | apply keep_drewN | apply keep_drew | apply keep_alloc | refine keep_far ?_ GW155.out _) | exact HK.out))) : w.heap.size ≤ gb162) : w0.heap.size ≤ gb162)); have n8_ := am7_ ((by rw [hg]; exact Nat.ne_of_lt (blk_lt (g := gb155) (lb7_ BK155)) : gb155 ≠ gb162)); have n9_ := am7_ ((by rw [hg]; exact Nat.ne_of_gt (blk_lt (g := gb155) (lb7_ BK155)) : gb162 ≠ gb155)); have n10_ := am7_ ((by rw [hg]; exact Nat.ne_of_lt (IsS42.lt (show IsS42 w0 _ g s0_0 t160 t161 from by repeat (first | (with_reducible first | exact HI0.out | apply IsS42.alloc | apply IsS42.drewN | apply IsS42.drew | apply IsS42.set_1 | apply IsS42.set_2 | refine IsS42.far ?_ NB0_155.out _) | exact HI0.out))) : g ≠ gb162)); have n11_ := am7_ ((by rw [hg]; exact Nat.ne_of_gt (IsS42.lt (show IsS42 w0 _ g s0_0 t160 t161 from by repeat (first | (with_reducible first | exact HI0.out | apply IsS42.alloc | apply IsS42.drewN | apply IsS42.drew | apply IsS42.set_1 | apply IsS42.set_2 | refine IsS42.far ?_ NB0_155.out _) | exact HI0.out))) : gb162 ≠ g)); clear HO159; clear HI0; clear BK155; clear HK; clear HB; have HO159 := n0_; have HI0 := n1_; have BK155 := n2_; have HK := n3_; have HB := n4_; have BK162 := n5_; have GW162 := n6_; have GE162 := n7_; have NB155_162 := n8_; have NB162_155 := n9_; have NB0_162 := n10_; have NB162_0 := n11_; clear n0_ n1_ n2_ n3_ n4_ n5_ n6_ n7_ n8_ n9_ n10_ n11_; clear hb hbox hg; have hnb101 := NB162_155.out; have hnc101 := NB155_162.out; have hnb102 := NB162_0.out; have hnc102 := NB0_162.out; have hcz103_0 : w100.cell? ⟨gb162, 0, none⟩ = some (.int .i64 0) := (blk_cell BK162.out 0).trans rfl; have hcz103_1 : w100.cell? ⟨gb162, 1, none⟩ = some (.slice none 0 0) := (blk_cell BK162.out 1).trans rfl; have hfz103_0 := blk_frozen BK162.out 0; have hfz103_1 := blk_frozen BK162.out 1; obtain ⟨Ao104, co104, eo104⟩ := Kd.R_slice HO159.out; subst eo104) | ((with_reducible refine gate_callee (f := 24) rfl ?_); refine goesL_ (some 7) rfl rfl Try.func24 (by kernel_rfl) rfl #[.pointer (some ⟨g, 0, none⟩), .int .i64 16] rfl lm7_ ?_; (with_reducible refine (spec_l1Cur_pick.calls g s0_0 t160 t161 16 t163 t164 t165 w0 _ ?side1 ?side2 A3.out).mono ?_); (case side1 => repeat (first | (with_reducible first | exact HI0.out | apply IsS42.alloc | apply IsS42.drewN | apply IsS42.drew | apply IsS42.set_1 | apply IsS42.set_2 | refine IsS42.far ?_ NB0_155.out _ | refine IsS42.far ?_ NB0_162.out _) | exact HI0.out)); (case side2 => repeat (first | (with_reducible first | exact HB.out | apply below_alloc | apply pw_below_drewN | apply below_drew1 | refine below_set ?_ (IsS42.ge HI0.out) | refine below_set ?_ GE155.out | refine below_set ?_ GE162.out) | exact HB.out)); rintro e w105 ⟨rfl, hi, hb, hk⟩; refine ⟨_, rfl, ?_⟩; have n0_ := am7_ (KeepBut.blk hk (g' := gb155) (o := .cells #[.int .i64 0, .slice none 0 0] 26 (0, 0)) (by (with_reducible repeat (first | refine blk_drewN ?_ _ | refine blk_drew ?_ | refine blk_alloc ?_ _)); refine blk_far ?_ NB155_162.out _; (with_reducible repeat (first | refine blk_drewN ?_ _ | refine blk_drew ?_ | refine blk_alloc ?_ _)); refine blk_far ?_ NB155_162.out _; (with_reducible repeat (first | refine blk_drewN ?_ _ | refine blk_drew ?_ | refine blk_alloc ?_ _)); exact BK155.out) NB155_0.out (by simp)); have n1_ := am7_ (Kd.R_mono (Kd.R_keep (IsS42.apart (show IsS42 w0 _ g s0_0 t160 t161 from by repeat (first | (with_reducible first | exact HI0.out | apply IsS42.alloc | apply IsS42.drewN | apply IsS42.drew | apply IsS42.set_1 | apply IsS42.set_2 | refine IsS42.far ?_ NB0_155.out _ | refine IsS42.far ?_ NB0_162.out _) | exact HI0.out)) (lt7_ (Kd.R_mono (Kd.R_far (p := ⟨gb162, 1, none⟩) (Kd.R_far (p := ⟨gb162, 0, none⟩) (Kd.R_types HO159.out BK162.out (by decide)) (fun _ hk => hk.2) (.int .i64 t156)) (fun _ hk => hk.2) (.slice Ao104 t157.length co104)) (fun _ h_ => h_.1))) (by decide)) hk (fun _ h => h.2)) (fun _ h => h.1)); have n2_ := am7_ (KeepBut.blk hk (g' := gb162) (o := .cells #[.int .i64 t156, .slice Ao104 t157.length co104] 26 (0, 0)) (by (with_reducible repeat (first | refine blk_drewN ?_ _ | refine blk_drew ?_ | refine blk_alloc ?_ _)); refine blk_put (cs := #[.int .i64 t156, .slice none 0 0]) ?_ 1 _ rfl; (with_reducible repeat (first | refine blk_drewN ?_ _ | refine blk_drew ?_ | refine blk_alloc ?_ _)); refine blk_put (cs := #[.int .i64 0, .slice none 0 0]) ?_ 0 _ rfl; (with_reducible repeat (first | refine blk_drewN ?_ _ | refine blk_drew ?_ | refine blk_alloc ?_ _)); exact BK162.out) NB162_0.out (by simp)); have n3_ := am7_ (KeepBut.trans (by repeat (first | (with_reducible first | exact HK.out | apply KeepBut.set_ | apply keep_drewN | apply keep_drew | apply keep_alloc | refine keep_far ?_ GW155.out _ | refine keep_far ?_ GW162.out _) | exact HK.out)) hk (.inl rfl)); have n4_ := am7_ (hb); have n5_ := am7_ (hi); clear BK155; clear HO159; clear BK162; clear HK; clear HB; clear HI0; have BK155 := n0_; have HO159 := n1_; have BK162 := n2_; have HK := n3_; have HB := n4_; have HI0 := n5_; clear n0_ n1_ n2_ n3_ n4_ n5_; (try clear hb); (try clear hb2); (try clear hk); (try clear hi)) | ((with_reducible refine gate_callee (f := 24) rfl ?_); refine goesL_ (some 52) rfl rfl Try.func24 (by kernel_rfl) rfl #[.pointer (some ⟨g, 0, none⟩), .int .i64 5] rfl lm7_ ?_; (with_reducible refine (spec_l1Cur_pick.calls g s0_0 t164 t165 5 t192 t193 t194 w0 _ ?side1 ?side2 A96.out).mono ?_); (case side1 => repeat (first | (with_reducible first | exact HI0.out | apply IsS42.alloc | apply IsS42.drewN | apply IsS42.drew | apply IsS42.set_1 | apply IsS42.set_2 | refine IsS42.far ?_ NB0_155.out _ | refine IsS42.far ?_ NB0_162.out _) | exact HI0.out)); (case side2 => repeat (first | (with_reducible first | exact HB.out | apply below_alloc | apply pw_below_drewN | apply below_drew1 | refine below_set ?_ (IsS42.ge HI0.out) | refine below_set ?_ GE155.out | refine below_set ?_ GE162.out) | exact HB.out)); rintro e w106 ⟨rfl, hi, hb, hk⟩; refine ⟨_, rfl, ?_⟩; have n0_ := am7_ (KeepBut.blk hk (g' := gb155) (o := .cells #[.int .i64 0, .slice none 0 0] 26 (0, 0)) (lb7_ BK155) NB155_0.out (by simp)); have n1_ := am7_ (Kd.R_mono (Kd.R_keep (IsS42.apart (show IsS42 w0 _ g s0_0 t164 t165 from by repeat (first | (with_reducible first | exact HI0.out | apply IsS42.alloc | apply IsS42.drewN | apply IsS42.drew | apply IsS42.set_1 | apply IsS42.set_2 | refine IsS42.far ?_ NB0_155.out _ | refine IsS42.far ?_ NB0_162.out _) | exact HI0.out)) (lf7_ HO159) (by decide)) hk (fun _ h => h.2)) (fun _ h => h.1)); have n2_ := am7_ (KeepBut.blk hk (g' := gb162) (o := .cells #[.int .i64 t156, .slice Ao104 t157.length co104] 26 (0, 0)) (lb7_ BK162) NB162_0.out (by simp)); have n3_ := am7_ (KeepBut.trans (by repeat (first | (with_reducible first | exact HK.out | apply KeepBut.set_ | apply keep_drewN | apply keep_drew | apply keep_alloc | refine keep_far ?_ GW155.out _ | refine keep_far ?_ GW162.out _) | exact HK.out)) hk (.inl rfl)); have n4_ := am7_ (hb); have n5_ := am7_ (hi); clear BK155; clear HO159; clear BK162; clear HK; clear HB; clear HI0; have BK155 := n0_; have HO159 := n1_; have BK162 := n2_; have HK := n3_; have HB := n4_; have HI0 := n5_; clear n0_ n1_ n2_ n3_ n4_ n5_; (try clear hb); (try clear hb2); (try clear hk); (try clear hi)) | ((with_reducible refine gate_callee (f := 22) rfl ?_); refine goesL_ (some 54) rfl rfl Try.func22 (by kernel_rfl) rfl #[.int .i64 (wrap64 (16 * t192))] rfl lm7_ ?_; (with_reducible refine (spec_biNew.calls (wrap64 (16 * t192)) t195 t196 _ A97.out).mono ?_); rintro e w107 ⟨v197, rfl, ho0, hb⟩; refine ⟨_, rfl, ?_⟩; have n0_ := am7_ (Kd.R_elder' (lf7_ HO159) (Kd.R_base ho0) hb); have n1_ := am7_ (Kd.R_lower (Kd.R_new' ho0 (Kd.R_lt (lf7_ HO159))) (keep_size (w := w) (g := g) (row := none) (by repeat (first | (with_reducible first | exact HK.out | apply KeepBut.set_ | apply keep_drewN | apply keep_drew | apply keep_alloc | refine keep_far ?_ GW155.out _ | refine keep_far ?_ GW162.out _) | exact HK.out)))); have n2_ := am7_ (IsS42.below (by repeat (first | (with_reducible first | exact HI0.out | apply IsS42.alloc | apply IsS42.drewN | apply IsS42.drew | apply IsS42.set_1 | apply IsS42.set_2 | refine IsS42.far ?_ NB0_155.out _ | refine IsS42.far ?_ NB0_162.out _) | exact HI0.out)) hb); have n3_ := am7_ (blk_below (g := gb155) (o := .cells #[.int .i64 0, .slice none 0 0] 26 (0, 0)) (lb7_ BK155) hb); have n4_ := am7_ (blk_below (g := gb162) (o := .cells #[.int .i64 t156, .slice Ao104 t157.length co104] 26 (0, 0)) (lb7_ BK162) hb); have n5_ := am7_ (KeepBut.trans (by repeat (first | (with_reducible first | exact HK.out | apply KeepBut.set_ | apply keep_drewN | apply keep_drew | apply keep_alloc | refine keep_far ?_ GW155.out _ | refine keep_far ?_ GW162.out _) | exact HK.out)) (KeepBut.of_below hb g none) (.inl rfl)); have n6_ := am7_ (below_step (by repeat (first | (with_reducible first | exact HB.out | apply below_alloc | apply pw_below_drewN | apply below_drew1 | refine below_set ?_ (IsS42.ge HI0.out) | refine below_set ?_ GE155.out | refine below_set ?_ GE162.out) | exact HB.out)) hb); clear HO159; clear HI0; clear BK155; clear BK162; clear HK; clear HB; have HO159 := n0_; have HO198 := n1_; have HI0 := n2_; have BK155 := n3_; have BK162 := n4_; have HK := n5_; have HB := n6_; clear n0_ n1_ n2_ n3_ n4_ n5_ n6_; (try clear hb); (try clear hb2); (try clear hk); (try clear hi); (try clear ho0); have hcz108_0 : w107.cell? ⟨gb162, 0, none⟩ = some (.int .i64 t156) := (blk_cell BK162.out 0).trans rfl; have hcz108_1 : w107.cell? ⟨gb162, 1, none⟩ = some (.slice Ao104 t157.length co104) := (blk_cell BK162.out 1).trans rfl; have hfz108_0 := blk_frozen BK162.out 0; have hfz108_1 := blk_frozen BK162.out 1; obtain ⟨Ao109, co109, eo109⟩ := Kd.R_slice HO198.out; subst eo109; have hnb110 := NB155_0.out; have hnc110 := NB0_155.out; have hcz111_0 : w107.cell? ⟨gb155, 0, none⟩ = some (.int .i64 0) := (blk_cell BK155.out 0).trans rfl; have hcz111_1 : w107.cell? ⟨gb155, 1, none⟩ = some (.slice none 0 0) := (blk_cell BK155.out 1).trans rfl; have hfz111_0 := blk_frozen BK155.out 0; have hfz111_1 := blk_frozen BK155.out 1))
      refine bodyPost_ret (results_cell_row rfl _ _ gb155 26 #[.int .i64 t195, .slice Ao109 t196.length co109] (0, 0) _ rfl (by (with_reducible repeat (first | refine blk_drewN ?_ _ | refine blk_drew ?_ | refine blk_alloc ?_ _)); refine blk_put (cs := #[.int .i64 t195, .slice none 0 0]) ?_ 1 _ rfl; (with_reducible repeat (first | refine blk_drewN ?_ _ | refine blk_drew ?_ | refine blk_alloc ?_ _)); refine blk_put (cs := #[.int .i64 0, .slice none 0 0]) ?_ 0 _ rfl; (with_reducible repeat (first | refine blk_drewN ?_ _ | refine blk_drew ?_ | refine blk_alloc ?_ _)); refine blk_far ?_ NB155_162.out _; (with_reducible repeat (first | refine blk_drewN ?_ _ | refine blk_drew ?_ | refine blk_alloc ?_ _)); refine blk_far ?_ NB155_162.out _; (with_reducible repeat (first | refine blk_drewN ?_ _ | refine blk_drew ?_ | refine blk_alloc ?_ _)); exact BK155.out) Try.underlying26 rfl (by kernel_rfl)) rfl ?_
      exact ⟨_, by first | rfl | (simp [errW_none, errW_some] <;> rfl) | (simp [*, errW_none, errW_some] <;> rfl), by (with_reducible repeat (first | apply Kd.R_alloc | apply Kd.R_drewN | apply Kd.R_drew)); exact Kd.R_mono (Kd.R_far (p := ⟨gb155, 1, none⟩) (Kd.R_far (p := ⟨gb155, 0, none⟩) (Kd.R_far (p := ⟨gb162, 1, none⟩) (Kd.R_far (p := ⟨gb162, 0, none⟩) (Kd.R_types (Kd.R_types HO198.out BK162.out (by decide)) BK155.out (by decide)) (fun _ hk => hk.1.2) (.int .i64 t195)) (fun _ hk => hk.1.2) (.slice Ao109 t196.length co109)) (fun _ hk => hk.2) (.int .i64 t195)) (fun _ hk => hk.2) (.slice Ao109 t196.length co109)) (fun _ hk => trivial), by repeat (first | (with_reducible first | exact HI0.out | apply IsS42.alloc | apply IsS42.drewN | apply IsS42.drew | apply IsS42.set_1 | apply IsS42.set_2 | refine IsS42.far ?_ NB0_155.out _ | refine IsS42.far ?_ NB0_162.out _) | exact HI0.out), by repeat (first | (with_reducible first | exact HB.out | apply below_alloc | apply pw_below_drewN | apply below_drew1 | refine below_set ?_ (IsS42.ge HI0.out) | refine below_set ?_ GE155.out | refine below_set ?_ GE162.out) | exact HB.out), by repeat (first | (with_reducible first | exact HK.out | apply KeepBut.set_ | apply keep_drewN | apply keep_drew | apply keep_alloc | refine keep_far ?_ GW155.out _ | refine keep_far ?_ GW162.out _) | exact HK.out)⟩
     ·rw [if_neg c95] at H
      have c95b0 : (t163 == 4) = false := beq_eq_false_iff_ne.mpr c95
      have c95b1 : (t163 != 4) = true := bne_iff_ne.mpr c95
      simp only [Option.some.injEq, Prod.mk.injEq] at H
      obtain ⟨rfl, rfl, rfl, rfl⟩ := H
      go_enter Try.func20, Try.ntmps20
      go_wp2_with (first | ((with_reducible refine gate_dst (N := 2) rfl ?_); refine box_event ?hg (N := 2) ?hd (cs := #[.int .i64 0, .slice none 0 0]) (t := 26) ?hr ?_; (case hd => rfl); (case hg => rfl); (case hr => first | (go_simp; done) | (go_simp; rfl)); intro gb155 hg w112 hbox hb; have n0_ := am7_ (IsS42.below (by repeat (first | (with_reducible first | exact HI0.out | apply IsS42.alloc | apply IsS42.drewN | apply IsS42.drew | apply IsS42.set_1 | apply IsS42.set_2) | exact HI0.out)) hb); have n1_ := am7_ (KeepBut.trans (by repeat (first | (with_reducible first | exact HK.out | apply KeepBut.set_ | apply keep_drewN | apply keep_drew | apply keep_alloc) | exact HK.out)) (KeepBut.of_below hb g none) (.inl rfl)); have n2_ := am7_ (below_step (by repeat (first | (with_reducible first | exact HB.out | apply below_alloc | apply pw_below_drewN | apply below_drew1 | refine below_set ?_ (IsS42.ge HI0.out)) | exact HB.out)) hb); have n3_ := am7_ (hbox); have n4_ := am7_ ((by rw [hg]; exact (keep_size (w := w) (g := g) (row := none) (by repeat (first | (with_reducible first | exact HK.out | apply KeepBut.set_ | apply keep_drewN | apply keep_drew | apply keep_alloc) | exact HK.out))) : w.heap.size ≤ gb155)); have n5_ := am7_ ((Nat.le_trans HW0.out (by rw [hg]; exact (keep_size (w := w) (g := g) (row := none) (by repeat (first | (with_reducible first | exact HK.out | apply KeepBut.set_ | apply keep_drewN | apply keep_drew | apply keep_alloc) | exact HK.out))) : w.heap.size ≤ gb155) : w0.heap.size ≤ gb155)); have n6_ := am7_ ((by rw [hg]; exact Nat.ne_of_lt (IsS42.lt (show IsS42 w0 _ g s0_0 s0_1 s0_2 from by repeat (first | (with_reducible first | exact HI0.out | apply IsS42.alloc | apply IsS42.drewN | apply IsS42.drew | apply IsS42.set_1 | apply IsS42.set_2) | exact HI0.out))) : g ≠ gb155)); have n7_ := am7_ ((by rw [hg]; exact Nat.ne_of_gt (IsS42.lt (show IsS42 w0 _ g s0_0 s0_1 s0_2 from by repeat (first | (with_reducible first | exact HI0.out | apply IsS42.alloc | apply IsS42.drewN | apply IsS42.drew | apply IsS42.set_1 | apply IsS42.set_2) | exact HI0.out))) : gb155 ≠ g)); clear HI0; clear HK; clear HB; have HI0 := n0_; have HK := n1_; have HB := n2_; have BK155 := n3_; have GW155 := n4_; have GE155 := n5_; have NB0_155 := n6_; have NB155_0 := n7_; clear n0_ n1_ n2_ n3_ n4_ n5_ n6_ n7_; clear hb hbox hg) | ((with_reducible refine gate_callee (f := 41) rfl ?_); refine goesL_ (some 5) rfl rfl Try.func41 (by kernel_rfl) rfl #[.pointer (some ⟨g, 0, none⟩), .int .i64 40] rfl lm7_ ?_; (with_reducible refine (spec_l1Cur_bits.calls k g s0_0 s0_1 s0_2 40 t156 t157 t160 t161 w0 _ ?side1 ?side2 A2.out).mono ?_); (case side1 => repeat (first | (with_reducible first | exact HI0.out | apply IsS42.alloc | apply IsS42.drewN | apply IsS42.drew | apply IsS42.set_1 | apply IsS42.set_2 | refine IsS42.far ?_ NB0_155.out _) | exact HI0.out)); (case side2 => repeat (first | (with_reducible first | exact HB.out | apply below_alloc | apply pw_below_drewN | apply below_drew1 | refine below_set ?_ (IsS42.ge HI0.out) | refine below_set ?_ GE155.out) | exact HB.out)); rintro e w113 ⟨v158, rfl, ho0, hi, hb, hk⟩; refine ⟨_, rfl, ?_⟩; have n0_ := am7_ (KeepBut.blk hk (g' := gb155) (o := .cells #[.int .i64 0, .slice none 0 0] 26 (0, 0)) (lb7_ BK155) NB155_0.out (by simp)); have n1_ := am7_ (Kd.R_lower ho0 (keep_size (w := w) (g := g) (row := none) (by repeat (first | (with_reducible first | exact HK.out | apply KeepBut.set_ | apply keep_drewN | apply keep_drew | apply keep_alloc | refine keep_far ?_ GW155.out _) | exact HK.out)))); have n2_ := am7_ (KeepBut.trans (by repeat (first | (with_reducible first | exact HK.out | apply KeepBut.set_ | apply keep_drewN | apply keep_drew | apply keep_alloc | refine keep_far ?_ GW155.out _) | exact HK.out)) hk (.inl rfl)); have n3_ := am7_ (hb); have n4_ := am7_ (hi); clear BK155; clear HK; clear HB; clear HI0; have BK155 := n0_; have HO159 := n1_; have HK := n2_; have HB := n3_; have HI0 := n4_; clear n0_ n1_ n2_ n3_ n4_; (try clear hb); (try clear hb2); (try clear hk); (try clear hi); (try clear ho0)) | ((with_reducible refine gate_dst (N := 3) rfl ?_); refine box_event ?hg (N := 3) ?hd (cs := #[.int .i64 0, .slice none 0 0]) (t := 26) ?hr ?_; (case hd => rfl); (case hg => rfl); (case hr => first | (go_simp; done) | (go_simp; rfl)); intro gb162 hg w114 hbox hb; have n0_ := am7_ (Kd.R_below (lf7_ HO159) hb); have n1_ := am7_ (IsS42.below (by repeat (first | (with_reducible first | exact HI0.out | apply IsS42.alloc | apply IsS42.drewN | apply IsS42.drew | apply IsS42.set_1 | apply IsS42.set_2 | refine IsS42.far ?_ NB0_155.out _) | exact HI0.out)) hb); have n2_ := am7_ (blk_below (g := gb155) (o := .cells #[.int .i64 0, .slice none 0 0] 26 (0, 0)) (lb7_ BK155) hb); have n3_ := am7_ (KeepBut.trans (by repeat (first | (with_reducible first | exact HK.out | apply KeepBut.set_ | apply keep_drewN | apply keep_drew | apply keep_alloc | refine keep_far ?_ GW155.out _) | exact HK.out)) (KeepBut.of_below hb g none) (.inl rfl)); have n4_ := am7_ (below_step (by repeat (first | (with_reducible first | exact HB.out | apply below_alloc | apply pw_below_drewN | apply below_drew1 | refine below_set ?_ (IsS42.ge HI0.out) | refine below_set ?_ GE155.out) | exact HB.out)) hb); have n5_ := am7_ (hbox); have n6_ := am7_ ((by rw [hg]; exact (keep_size (w := w) (g := g) (row := none) (by repeat (first | (with_reducible first | exact HK.out | apply KeepBut.set_ | apply keep_drewN | apply keep_drew | apply keep_alloc | refine keep_far ?_ GW155.out _) | exact HK.out))) : w.heap.size ≤ gb162)); have n7_ := am7_ ((Nat.le_trans HW0.out (by rw [hg]; exact (keep_size (w := w) (g := g) (row := none) (by repeat (first | (with_reducible first | exact HK.out | apply KeepBut.set_ | apply keep_drewN | apply keep_drew | apply keep_alloc | refine keep_far ?_ GW155.out _) | exact HK.out))) : w.heap.size ≤ gb162) : w0.heap.size ≤ gb162)); have n8_ := am7_ ((by rw [hg]; exact Nat.ne_of_lt (blk_lt (g := gb155) (lb7_ BK155)) : gb155 ≠ gb162)); have n9_ := am7_ ((by rw [hg]; exact Nat.ne_of_gt (blk_lt (g := gb155) (lb7_ BK155)) : gb162 ≠ gb155)); have n10_ := am7_ ((by rw [hg]; exact Nat.ne_of_lt (IsS42.lt (show IsS42 w0 _ g s0_0 t160 t161 from by repeat (first | (with_reducible first | exact HI0.out | apply IsS42.alloc | apply IsS42.drewN | apply IsS42.drew | apply IsS42.set_1 | apply IsS42.set_2 | refine IsS42.far ?_ NB0_155.out _) | exact HI0.out))) : g ≠ gb162)); have n11_ := am7_ ((by rw [hg]; exact Nat.ne_of_gt (IsS42.lt (show IsS42 w0 _ g s0_0 t160 t161 from by repeat (first | (with_reducible first | exact HI0.out | apply IsS42.alloc | apply IsS42.drewN | apply IsS42.drew | apply IsS42.set_1 | apply IsS42.set_2 | refine IsS42.far ?_ NB0_155.out _) | exact HI0.out))) : gb162 ≠ g)); clear HO159; clear HI0; clear BK155; clear HK; clear HB; have HO159 := n0_; have HI0 := n1_; have BK155 := n2_; have HK := n3_; have HB := n4_; have BK162 := n5_; have GW162 := n6_; have GE162 := n7_; have NB155_162 := n8_; have NB162_155 := n9_; have NB0_162 := n10_; have NB162_0 := n11_; clear n0_ n1_ n2_ n3_ n4_ n5_ n6_ n7_ n8_ n9_ n10_ n11_; clear hb hbox hg; have hnb115 := NB162_155.out; have hnc115 := NB155_162.out; have hnb116 := NB162_0.out; have hnc116 := NB0_162.out; have hcz117_0 : w114.cell? ⟨gb162, 0, none⟩ = some (.int .i64 0) := (blk_cell BK162.out 0).trans rfl; have hcz117_1 : w114.cell? ⟨gb162, 1, none⟩ = some (.slice none 0 0) := (blk_cell BK162.out 1).trans rfl; have hfz117_0 := blk_frozen BK162.out 0; have hfz117_1 := blk_frozen BK162.out 1; obtain ⟨Ao118, co118, eo118⟩ := Kd.R_slice HO159.out; subst eo118) | ((with_reducible refine gate_callee (f := 24) rfl ?_); refine goesL_ (some 7) rfl rfl Try.func24 (by kernel_rfl) rfl #[.pointer (some ⟨g, 0, none⟩), .int .i64 16] rfl lm7_ ?_; (with_reducible refine (spec_l1Cur_pick.calls g s0_0 t160 t161 16 t163 t164 t165 w0 _ ?side1 ?side2 A3.out).mono ?_); (case side1 => repeat (first | (with_reducible first | exact HI0.out | apply IsS42.alloc | apply IsS42.drewN | apply IsS42.drew | apply IsS42.set_1 | apply IsS42.set_2 | refine IsS42.far ?_ NB0_155.out _ | refine IsS42.far ?_ NB0_162.out _) | exact HI0.out)); (case side2 => repeat (first | (with_reducible first | exact HB.out | apply below_alloc | apply pw_below_drewN | apply below_drew1 | refine below_set ?_ (IsS42.ge HI0.out) | refine below_set ?_ GE155.out | refine below_set ?_ GE162.out) | exact HB.out)); rintro e w119 ⟨rfl, hi, hb, hk⟩; refine ⟨_, rfl, ?_⟩; have n0_ := am7_ (KeepBut.blk hk (g' := gb155) (o := .cells #[.int .i64 0, .slice none 0 0] 26 (0, 0)) (by (with_reducible repeat (first | refine blk_drewN ?_ _ | refine blk_drew ?_ | refine blk_alloc ?_ _)); refine blk_far ?_ NB155_162.out _; (with_reducible repeat (first | refine blk_drewN ?_ _ | refine blk_drew ?_ | refine blk_alloc ?_ _)); refine blk_far ?_ NB155_162.out _; (with_reducible repeat (first | refine blk_drewN ?_ _ | refine blk_drew ?_ | refine blk_alloc ?_ _)); exact BK155.out) NB155_0.out (by simp)); have n1_ := am7_ (Kd.R_mono (Kd.R_keep (IsS42.apart (show IsS42 w0 _ g s0_0 t160 t161 from by repeat (first | (with_reducible first | exact HI0.out | apply IsS42.alloc | apply IsS42.drewN | apply IsS42.drew | apply IsS42.set_1 | apply IsS42.set_2 | refine IsS42.far ?_ NB0_155.out _ | refine IsS42.far ?_ NB0_162.out _) | exact HI0.out)) (lt7_ (Kd.R_mono (Kd.R_far (p := ⟨gb162, 1, none⟩) (Kd.R_far (p := ⟨gb162, 0, none⟩) (Kd.R_types HO159.out BK162.out (by decide)) (fun _ hk => hk.2) (.int .i64 t156)) (fun _ hk => hk.2) (.slice Ao118 t157.length co118)) (fun _ h_ => h_.1))) (by decide)) hk (fun _ h => h.2)) (fun _ h => h.1)); have n2_ := am7_ (KeepBut.blk hk (g' := gb162) (o := .cells #[.int .i64 t156, .slice Ao118 t157.length co118] 26 (0, 0)) (by (with_reducible repeat (first | refine blk_drewN ?_ _ | refine blk_drew ?_ | refine blk_alloc ?_ _)); refine blk_put (cs := #[.int .i64 t156, .slice none 0 0]) ?_ 1 _ rfl; (with_reducible repeat (first | refine blk_drewN ?_ _ | refine blk_drew ?_ | refine blk_alloc ?_ _)); refine blk_put (cs := #[.int .i64 0, .slice none 0 0]) ?_ 0 _ rfl; (with_reducible repeat (first | refine blk_drewN ?_ _ | refine blk_drew ?_ | refine blk_alloc ?_ _)); exact BK162.out) NB162_0.out (by simp)); have n3_ := am7_ (KeepBut.trans (by repeat (first | (with_reducible first | exact HK.out | apply KeepBut.set_ | apply keep_drewN | apply keep_drew | apply keep_alloc | refine keep_far ?_ GW155.out _ | refine keep_far ?_ GW162.out _) | exact HK.out)) hk (.inl rfl)); have n4_ := am7_ (hb); have n5_ := am7_ (hi); clear BK155; clear HO159; clear BK162; clear HK; clear HB; clear HI0; have BK155 := n0_; have HO159 := n1_; have BK162 := n2_; have HK := n3_; have HB := n4_; have HI0 := n5_; clear n0_ n1_ n2_ n3_ n4_ n5_; (try clear hb); (try clear hb2); (try clear hk); (try clear hi); have hcz120_0 : w119.cell? ⟨gb162, 0, none⟩ = some (.int .i64 t156) := (blk_cell BK162.out 0).trans rfl; have hcz120_1 : w119.cell? ⟨gb162, 1, none⟩ = some (.slice Ao118 t157.length co118) := (blk_cell BK162.out 1).trans rfl; have hfz120_0 := blk_frozen BK162.out 0; have hfz120_1 := blk_frozen BK162.out 1; have hnb121 := NB155_0.out; have hnc121 := NB0_155.out; have hcz122_0 : w119.cell? ⟨gb155, 0, none⟩ = some (.int .i64 0) := (blk_cell BK155.out 0).trans rfl; have hcz122_1 : w119.cell? ⟨gb155, 1, none⟩ = some (.slice none 0 0) := (blk_cell BK155.out 1).trans rfl; have hfz122_0 := blk_frozen BK155.out 0; have hfz122_1 := blk_frozen BK155.out 1))
      refine bodyPost_ret (results_cell_row rfl _ _ gb155 26 #[.int .i64 t156, .slice Ao118 t157.length co118] (0, 0) _ rfl (by (with_reducible repeat (first | refine blk_drewN ?_ _ | refine blk_drew ?_ | refine blk_alloc ?_ _)); refine blk_put (cs := #[.int .i64 t156, .slice none 0 0]) ?_ 1 _ rfl; (with_reducible repeat (first | refine blk_drewN ?_ _ | refine blk_drew ?_ | refine blk_alloc ?_ _)); refine blk_put (cs := #[.int .i64 0, .slice none 0 0]) ?_ 0 _ rfl; (with_reducible repeat (first | refine blk_drewN ?_ _ | refine blk_drew ?_ | refine blk_alloc ?_ _)); exact BK155.out) Try.underlying26 rfl (by kernel_rfl)) rfl ?_
      exact ⟨_, by first | rfl | (simp [errW_none, errW_some] <;> rfl) | (simp [*, errW_none, errW_some] <;> rfl), by (with_reducible repeat (first | apply Kd.R_alloc | apply Kd.R_drewN | apply Kd.R_drew)); exact Kd.R_mono (Kd.R_far (p := ⟨gb155, 1, none⟩) (Kd.R_far (p := ⟨gb155, 0, none⟩) (Kd.R_types HO159.out BK155.out (by decide)) (fun _ hk => hk.2) (.int .i64 t156)) (fun _ hk => hk.2) (.slice Ao118 t157.length co118)) (fun _ hk => trivial), by repeat (first | (with_reducible first | exact HI0.out | apply IsS42.alloc | apply IsS42.drewN | apply IsS42.drew | apply IsS42.set_1 | apply IsS42.set_2 | refine IsS42.far ?_ NB0_155.out _ | refine IsS42.far ?_ NB0_162.out _) | exact HI0.out), by repeat (first | (with_reducible first | exact HB.out | apply below_alloc | apply pw_below_drewN | apply below_drew1 | refine below_set ?_ (IsS42.ge HI0.out) | refine below_set ?_ GE155.out | refine below_set ?_ GE162.out) | exact HB.out), by repeat (first | (with_reducible first | exact HK.out | apply KeepBut.set_ | apply keep_drewN | apply keep_drew | apply keep_alloc | refine keep_far ?_ GW155.out _ | refine keep_far ?_ GW162.out _) | exact HK.out)⟩

end Go.Proofs.Ytblpgdeepdmlpaa.PFnParenthesesMatch
