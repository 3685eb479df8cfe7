-- Laid by a program of this session: the print of the kit with additions of ours (wip/tools/patchprint.py). Nothing of it is trusted: Lean checks it.
import Derived.Test.YtkmhjgejficclaaPFnExactCutBitsx0
import Derived.Test.YtkmhjgejficclaaPFnExactCutBitsx1
import Derived.Test.YtkmhjgejficclaaPFnExactCutBitsx3
import Derived.Test.YtkmhjgejficclaaPFnExactCutBitsx4
namespace Go.Proofs.Ytkmhjgejficclaa.PFnExactCutBits
open Go.RowKit Go.Proofs.YtkmhjgejficclaaW.PrintWords Go.Proofs.YtkmhjgejficclaaW.PrintLast Go.Proofs.YtkmhjgejficclaaW.PrintMore
attribute [local go_sem] max2_int min2_int max_two min_two max_three min_three max_four min_four   -- for this text's walks alone
set_option linter.unusedVariables false
set_option linter.unusedSimpArgs false

theorem am13_ {p : Prop} (h : p) : Aside0 p := ⟨h⟩
theorem lm13_ {P : Prop} (h : P := by (try simp only [List.map_toArray, List.map_cons, List.map_nil]); first | done | rfl | (simp only [List.length_drop, List.length_take]; rfl)) : P := h
theorem lc13_ {P Q : Prop} (h : P) (f : P → Q := by intro h_; repeat (first | exact h_ | (with_reducible refine Kd.C_alloc ?_ _) | (with_reducible refine Kd.C_drewN ?_ _) | (with_reducible refine Kd.C_drew ?_))) : Q := f h
theorem lt13_ {P Q : Prop} (h : P) (f : P → Q := by intro h_; (with_reducible repeat (first | apply Kd.R_alloc | apply Kd.R_drewN | apply Kd.R_drew)); exact h_) : Q := f h
theorem lf13_ {P Q : Prop} (h : Aside0 P) (f : P → Q := by intro h_; (with_reducible repeat (first | apply Kd.R_alloc | apply Kd.R_drewN | apply Kd.R_drew)); exact h_) : Q := f h.out
theorem lb13_ {P Q : Prop} (h : Aside0 P) (f : P → Q := by intro h_; (with_reducible repeat (first | refine blk_drewN ?_ _ | refine blk_drew ?_ | refine blk_alloc ?_ _)); exact h_) : Q := f h.out
theorem lw13_ {P Q : Prop} (h : Aside0 P) (f : P → Q := by intro h_; repeat (first | (with_reducible first | exact h_ | apply below_alloc | apply pw_below_drewN | apply below_drew1 | refine below_set ?_ (Aside0.out (by assumption))) | exact h_)) : Q := f h.out
/-! ### laws_FnExactCutBits: function 4 -/
mutual
def laws_FnExactCutBits.j0 : Nat → Int → Int → Bool → Bool → Bool → Int → List Int → Int → List Int → Int → List Int → Int → List Int → Option (Bool)
 | 0, _, _, _, _, _, _, _, _, _, _, _, _, _ => none
 | k + 1, x1, x2, x9, x12, x48, x189000, x189001, x200000, x200001, x205000, x205001, x211000, x211001 => if x48 = true then (none) else ((laws_toBits.f k x189000 x189001).bind fun bt212 => ((laws_eqBits.f k x205000 x205001 bt212.1 bt212.2).bind fun t216 => (if t216 = true then ((laws_markBits.f k x205000 x205001 1).bind fun bt217 => (if bt217.1 < 0 then (none) else ((laws_eqBits.f k x211000 x211001 x200000 x200001).bind fun t219 => (if t219 = true then (laws_FnExactCutBits.j1 k x1 x2 x9 (x12 != x9) x189000 x189001 x200000 x200001 x211000 x211001) else (none))))) else (none))))
def laws_FnExactCutBits.j1 : Nat → Int → Int → Bool → Bool → Int → List Int → Int → List Int → Int → List Int → Option (Bool)
 | 0, _, _, _, _, _, _, _, _, _, _ => none
 | k + 1, x1, x2, x9, x69, x189000, x189001, x200000, x200001, x211000, x211001 => if x69 = true then (none) else ((laws_markBits.f k x211000 x211001 1).bind fun bt220 => ((laws_heldBits.f k x211000 bt220.2 1).bind fun t222 => (if t222 < 0 then (none) else (if t222 = bt220.1 then ((laws_toBits.f k x189000 x189001).bind fun bt223 => ((impl_CutBits.f k bt223.1 bt223.2 x1 x2).bind fun bt227 => ((laws_eqBits.f k bt227.1 bt227.2.1 x200000 x200001).bind fun t233 => (if t233 = true then (laws_FnExactCutBits.j2 k bt220.1 (bt227.2.2 != x9) x211000 bt220.2) else (none))))) else (none)))))
def laws_FnExactCutBits.j2 : Nat → Int → Bool → Int → List Int → Option (Bool)
 | 0, _, _, _, _ => none
 | k + 1, x14, x97, x211000, x211001 => if x97 = true then (none) else ((laws_heldBits.f k x211000 x211001 1).bind fun t234 => (if t234 < 0 then (none) else (if t234 = x14 then (some true) else (none))))
end
def laws_FnExactCutBits.f (k : Nat) (a0_0 : Int) (l0_1 : List Int) (a1 : Int) (a2 : Int) : Option (Bool) := (laws_szBits.f a0_0 l0_1 1048576).bind fun t189 => (if t189 < 0 then (some true) else ((laws_toBits.f k a0_0 l0_1).bind fun bt190 => ((spec_CutBits.f k bt190.1 bt190.2 a1 a2).bind fun bt194 => ((laws_toBits.f k a0_0 l0_1).bind fun bt200 => ((impl_CutBits.f k bt200.1 bt200.2 a1 a2).bind fun bt205 => ((laws_eqBits.f k bt205.1 bt205.2.1 bt194.1 bt194.2.1).bind fun t211 => (if t211 = true then (laws_FnExactCutBits.j0 k a1 a2 bt194.2.2 bt205.2.2 (bt205.2.2 != bt194.2.2) a0_0 l0_1 bt194.1 bt194.2.1 bt200.1 bt200.2 bt205.1 bt205.2.1) else (none))))))))
theorem laws_FnExactCutBits.mono_l : ∀ k, (∀ y0 y1 y2 y3 y4 y5 y6 y7 y8 y9 y10 y11 y12, LeO (laws_FnExactCutBits.j0 k y0 y1 y2 y3 y4 y5 y6 y7 y8 y9 y10 y11 y12) (laws_FnExactCutBits.j0 (k + 1) y0 y1 y2 y3 y4 y5 y6 y7 y8 y9 y10 y11 y12)) ∧ (∀ y0 y1 y2 y3 y4 y5 y6 y7 y8 y9, LeO (laws_FnExactCutBits.j1 k y0 y1 y2 y3 y4 y5 y6 y7 y8 y9) (laws_FnExactCutBits.j1 (k + 1) y0 y1 y2 y3 y4 y5 y6 y7 y8 y9)) ∧ (∀ y0 y1 y2 y3, LeO (laws_FnExactCutBits.j2 k y0 y1 y2 y3) (laws_FnExactCutBits.j2 (k + 1) y0 y1 y2 y3))
 | 0 => ⟨fun _ _ _ _ _ _ _ _ _ _ _ _ _ r h => by simp [laws_FnExactCutBits.j0] at h, fun _ _ _ _ _ _ _ _ _ _ r h => by simp [laws_FnExactCutBits.j1] at h, fun _ _ _ _ r h => by simp [laws_FnExactCutBits.j2] at h⟩
 | k + 1 => by
  obtain ⟨ih0, ih1, ih2⟩ := laws_FnExactCutBits.mono_l k
  refine ⟨?_, ?_, ?_⟩
  ·intro y0 y1 y2 y3 y4 y5 y6 y7 y8 y9 y10 y11 y12
   unfold laws_FnExactCutBits.j0
   repeat' first
   | (with_reducible exact ih0 _ _ _ _ _ _ _ _ _ _ _ _ _)
   | (with_reducible exact ih1 _ _ _ _ _ _ _ _ _ _)
   | (with_reducible exact ih2 _ _ _ _)
   | (with_reducible exact impl_CutBits.mono _ _ _ _ _)
   | (with_reducible exact laws_eqBits.mono _ _ _ _ _)
   | (with_reducible exact laws_heldBits.mono _ _ _ _)
   | (with_reducible exact laws_markBits.mono _ _ _ _)
   | (with_reducible exact laws_toBits.mono _ _ _)
   | (with_reducible exact spec_CutBits.mono _ _ _ _ _)
   | (with_reducible exact LeO.refl _)
   | (with_reducible exact LeO.none _)
   | (with_reducible refine LeO.ite ?_ ?_)
   | (with_reducible refine LeO.bind ?_ (fun _ => ?_))
   | exact ih0 _ _ _ _ _ _ _ _ _ _ _ _ _
   | exact ih1 _ _ _ _ _ _ _ _ _ _
   | exact ih2 _ _ _ _
   | exact impl_CutBits.mono _ _ _ _ _
   | exact laws_eqBits.mono _ _ _ _ _
   | exact laws_heldBits.mono _ _ _ _
   | exact laws_markBits.mono _ _ _ _
   | exact laws_toBits.mono _ _ _
   | exact spec_CutBits.mono _ _ _ _ _
   | exact LeO.none _
   | refine LeO.ite ?_ ?_
   | refine LeO.bind ?_ (fun _ => ?_)
  ·intro y0 y1 y2 y3 y4 y5 y6 y7 y8 y9
   unfold laws_FnExactCutBits.j1
   repeat' first
   | (with_reducible exact ih0 _ _ _ _ _ _ _ _ _ _ _ _ _)
   | (with_reducible exact ih1 _ _ _ _ _ _ _ _ _ _)
   | (with_reducible exact ih2 _ _ _ _)
   | (with_reducible exact impl_CutBits.mono _ _ _ _ _)
   | (with_reducible exact laws_eqBits.mono _ _ _ _ _)
   | (with_reducible exact laws_heldBits.mono _ _ _ _)
   | (with_reducible exact laws_markBits.mono _ _ _ _)
   | (with_reducible exact laws_toBits.mono _ _ _)
   | (with_reducible exact spec_CutBits.mono _ _ _ _ _)
   | (with_reducible exact LeO.refl _)
   | (with_reducible exact LeO.none _)
   | (with_reducible refine LeO.ite ?_ ?_)
   | (with_reducible refine LeO.bind ?_ (fun _ => ?_))
   | exact ih0 _ _ _ _ _ _ _ _ _ _ _ _ _
   | exact ih1 _ _ _ _ _ _ _ _ _ _
   | exact ih2 _ _ _ _
   | exact impl_CutBits.mono _ _ _ _ _
   | exact laws_eqBits.mono _ _ _ _ _
   | exact laws_heldBits.mono _ _ _ _
   | exact laws_markBits.mono _ _ _ _
   | exact laws_toBits.mono _ _ _
   | exact spec_CutBits.mono _ _ _ _ _
   | exact LeO.none _
   | refine LeO.ite ?_ ?_
   | refine LeO.bind ?_ (fun _ => ?_)
  ·intro y0 y1 y2 y3
   unfold laws_FnExactCutBits.j2
   repeat' first
   | (with_reducible exact ih0 _ _ _ _ _ _ _ _ _ _ _ _ _)
   | (with_reducible exact ih1 _ _ _ _ _ _ _ _ _ _)
   | (with_reducible exact ih2 _ _ _ _)
   | (with_reducible exact impl_CutBits.mono _ _ _ _ _)
   | (with_reducible exact laws_eqBits.mono _ _ _ _ _)
   | (with_reducible exact laws_heldBits.mono _ _ _ _)
   | (with_reducible exact laws_markBits.mono _ _ _ _)
   | (with_reducible exact laws_toBits.mono _ _ _)
   | (with_reducible exact spec_CutBits.mono _ _ _ _ _)
   | (with_reducible exact LeO.refl _)
   | (with_reducible exact LeO.none _)
   | (with_reducible refine LeO.ite ?_ ?_)
   | (with_reducible refine LeO.bind ?_ (fun _ => ?_))
   | exact ih0 _ _ _ _ _ _ _ _ _ _ _ _ _
   | exact ih1 _ _ _ _ _ _ _ _ _ _
   | exact ih2 _ _ _ _
   | exact impl_CutBits.mono _ _ _ _ _
   | exact laws_eqBits.mono _ _ _ _ _
   | exact laws_heldBits.mono _ _ _ _
   | exact laws_markBits.mono _ _ _ _
   | exact laws_toBits.mono _ _ _
   | exact spec_CutBits.mono _ _ _ _ _
   | exact LeO.none _
   | refine LeO.ite ?_ ?_
   | refine LeO.bind ?_ (fun _ => ?_)
theorem laws_FnExactCutBits.mono : ∀ a0 a1 a2 a3 k, LeO (laws_FnExactCutBits.f k a0 a1 a2 a3) (laws_FnExactCutBits.f (k + 1) a0 a1 a2 a3) := by
 intro a0 a1 a2 a3 k
 obtain ⟨ih0, ih1, ih2⟩ := laws_FnExactCutBits.mono_l k
 unfold laws_FnExactCutBits.f
 repeat' first
   | (with_reducible exact ih0 _ _ _ _ _ _ _ _ _ _ _ _ _)
   | (with_reducible exact ih1 _ _ _ _ _ _ _ _ _ _)
   | (with_reducible exact ih2 _ _ _ _)
   | (with_reducible exact impl_CutBits.mono _ _ _ _ _)
   | (with_reducible exact laws_eqBits.mono _ _ _ _ _)
   | (with_reducible exact laws_heldBits.mono _ _ _ _)
   | (with_reducible exact laws_markBits.mono _ _ _ _)
   | (with_reducible exact laws_toBits.mono _ _ _)
   | (with_reducible exact spec_CutBits.mono _ _ _ _ _)
   | (with_reducible exact LeO.refl _)
   | (with_reducible exact LeO.none _)
   | (with_reducible refine LeO.ite ?_ ?_)
   | (with_reducible refine LeO.bind ?_ (fun _ => ?_))
   | exact ih0 _ _ _ _ _ _ _ _ _ _ _ _ _
   | exact ih1 _ _ _ _ _ _ _ _ _ _
   | exact ih2 _ _ _ _
   | exact impl_CutBits.mono _ _ _ _ _
   | exact laws_eqBits.mono _ _ _ _ _
   | exact laws_heldBits.mono _ _ _ _
   | exact laws_markBits.mono _ _ _ _
   | exact laws_toBits.mono _ _ _
   | exact spec_CutBits.mono _ _ _ _ _
   | exact LeO.none _
   | refine LeO.ite ?_ ?_
   | refine LeO.bind ?_ (fun _ => ?_)
set_option maxHeartbeats 8000000 in
set_option maxRecDepth 100000 in
theorem laws_FnExactCutBits.calls (k : Nat) (a0_0 : Int) (A0_1 : Option Addr) (c0_1 : Nat) (l0_1 : List Int) (a1 : Int) (a2 : Int) (r : Bool) (w : World) (hr0_1 : Kd.C (Kd.int .i64) w A0_1 l0_1.length l0_1) (hc0_1 : l0_1.length ≤ c0_1) (h : laws_FnExactCutBits.f k a0_0 l0_1 a1 a2 = some r) :
  Calls Try.prog 4 #[.agg #[.int .i64 a0_0, .slice A0_1 l0_1.length c0_1], .int .i64 a1, .int .i64 a2] w fun e w' => e = .returned (.bool r) ∧ Below w.heap.size w w' := by
 have hu24 := Try.underlying24
 have hu26 := Try.underlying26
 have HR0_1 := am13_ hr0_1
 have HC0_1 := am13_ hc0_1
 clear hr0_1 hc0_1
 have HB := am13_ (Below.refl w.heap.size w)
 have H : ((laws_szBits.f a0_0 l0_1 1048576).bind fun t189 => (if t189 < 0 then (some true) else ((laws_toBits.f k a0_0 l0_1).bind fun bt190 => ((spec_CutBits.f k bt190.1 bt190.2 a1 a2).bind fun bt194 => ((laws_toBits.f k a0_0 l0_1).bind fun bt200 => ((impl_CutBits.f k bt200.1 bt200.2 a1 a2).bind fun bt205 => ((laws_eqBits.f k bt205.1 bt205.2.1 bt194.1 bt194.2.1).bind fun t211 => (if t211 = true then (laws_FnExactCutBits.j0 k a1 a2 bt194.2.2 bt205.2.2 (bt205.2.2 != bt194.2.2) a0_0 l0_1 bt194.1 bt194.2.1 bt200.1 bt200.2 bt205.1 bt205.2.1) else (none))))))))) = some r := h
 clear h
 replace H := Option.bind_eq_some_iff.mp H
 obtain ⟨t189, A40, H⟩ := H
 replace H : (if t189 < 0 then (some true) else ((laws_toBits.f k a0_0 l0_1).bind fun bt190 => ((spec_CutBits.f k bt190.1 bt190.2 a1 a2).bind fun bt194 => ((laws_toBits.f k a0_0 l0_1).bind fun bt200 => ((impl_CutBits.f k bt200.1 bt200.2 a1 a2).bind fun bt205 => ((laws_eqBits.f k bt205.1 bt205.2.1 bt194.1 bt194.2.1).bind fun t211 => (if t211 = true then (laws_FnExactCutBits.j0 k a1 a2 bt194.2.2 bt205.2.2 (bt205.2.2 != bt194.2.2) a0_0 l0_1 bt194.1 bt194.2.1 bt200.1 bt200.2 bt205.1 bt205.2.1) else (none)))))))) = some r := H
 have A4 := am13_ A40
 clear A40
 by_cases c5 : t189 < 0
 ·rw [if_pos c5] at H
  have c5b0 : decide (t189 < 0) = true := decide_eq_true c5
  clear c5
  obtain rfl := Option.some.inj H
  go_enter Try.func4, Try.ntmps4
  go_wp2_with (first | ((with_reducible refine gate_dst (N := 3) rfl ?_); refine box_event ?hg (N := 3) ?hd (cs := #[.int .i64 a0_0, .slice A0_1 l0_1.length c0_1]) (t := 24) ?hr ?_; (case hd => rfl); (case hg => rfl); (case hr => first | (go_simp; done) | (go_simp; rfl)); intro gb188 hg w6 hbox hb; have n0_ := am13_ (below_step (lw13_ HB) hb); have n1_ := am13_ (hbox); have n2_ := am13_ ((by rw [hg]; exact (below_size (lw13_ HB)) : w.heap.size ≤ gb188)); have n3_ := am13_ ((by rw [hg]; exact (below_size (lw13_ HB)) : w.heap.size ≤ gb188)); clear HB; have HB := n0_; have BK188 := n1_; have GW188 := n2_; have GE188 := n3_; clear n0_ n1_ n2_ n3_; clear hb hbox hg; have hcz7_0 : w6.cell? ⟨gb188, 0, none⟩ = some (.int .i64 a0_0) := (blk_cell BK188.out 0).trans rfl; have hcz7_1 : w6.cell? ⟨gb188, 1, none⟩ = some (.slice A0_1 l0_1.length c0_1) := (blk_cell BK188.out 1).trans rfl; have hfz7_0 := blk_frozen BK188.out 0; have hfz7_1 := blk_frozen BK188.out 1) | ((with_reducible refine gate_callee (f := 16) rfl ?_); refine goesL_ (some 20) rfl rfl Try.func16 (by kernel_rfl) rfl #[.agg #[.int .i64 a0_0, .slice A0_1 l0_1.length c0_1], .int .i64 1048576] rfl lm13_ ?_; (with_reducible refine (laws_szBits.calls a0_0 _ _ l0_1 1048576 t189 _ ?side1 ?side2 A4.out).mono ?_); (case side1 => exact lc13_ (Kd.C_below HR0_1.out HB.out)); (case side2 => exact HC0_1.out); rintro e w8 ⟨rfl, hb⟩; refine ⟨_, rfl, ?_⟩; have n0_ := am13_ (blk_below (g := gb188) (o := .cells #[.int .i64 a0_0, .slice A0_1 l0_1.length c0_1] 24 (0, 0)) (lb13_ BK188) hb); have n1_ := am13_ (below_step (lw13_ HB) hb); clear BK188; clear HB; have BK188 := n0_; have HB := n1_; clear n0_ n1_; (try clear hb); (try clear hb2); (try clear hk); (try clear hi)))
  go_ret
  exact ⟨by first | rfl | (simp [errW_none, errW_some] <;> rfl) | (simp [*, errW_none, errW_some] <;> rfl), lw13_ HB⟩
 ·rw [if_neg c5] at H
  have c5b0 : decide (t189 < 0) = false := decide_eq_false c5
  clear c5
  replace H := Option.bind_eq_some_iff.mp H
  obtain ⟨⟨t190, t191⟩, A90, H⟩ := H
  replace H : ((spec_CutBits.f k t190 t191 a1 a2).bind fun bt194 => ((laws_toBits.f k a0_0 l0_1).bind fun bt200 => ((impl_CutBits.f k bt200.1 bt200.2 a1 a2).bind fun bt205 => ((laws_eqBits.f k bt205.1 bt205.2.1 bt194.1 bt194.2.1).bind fun t211 => (if t211 = true then (laws_FnExactCutBits.j0 k a1 a2 bt194.2.2 bt205.2.2 (bt205.2.2 != bt194.2.2) a0_0 l0_1 bt194.1 bt194.2.1 bt200.1 bt200.2 bt205.1 bt205.2.1) else (none)))))) = some r := H
  have A9 := am13_ A90
  clear A90
  replace H := Option.bind_eq_some_iff.mp H
  obtain ⟨⟨t194, t195, t198⟩, A100, H⟩ := H
  replace H : ((laws_toBits.f k a0_0 l0_1).bind fun bt200 => ((impl_CutBits.f k bt200.1 bt200.2 a1 a2).bind fun bt205 => ((laws_eqBits.f k bt205.1 bt205.2.1 t194 t195).bind fun t211 => (if t211 = true then (laws_FnExactCutBits.j0 k a1 a2 t198 bt205.2.2 (bt205.2.2 != t198) a0_0 l0_1 t194 t195 bt200.1 bt200.2 bt205.1 bt205.2.1) else (none))))) = some r := H
  have A10 := am13_ A100
  clear A100
  replace H := Option.bind_eq_some_iff.mp H
  obtain ⟨⟨t200, t201⟩, A110, H⟩ := H
  replace H : ((impl_CutBits.f k t200 t201 a1 a2).bind fun bt205 => ((laws_eqBits.f k bt205.1 bt205.2.1 t194 t195).bind fun t211 => (if t211 = true then (laws_FnExactCutBits.j0 k a1 a2 t198 bt205.2.2 (bt205.2.2 != t198) a0_0 l0_1 t194 t195 t200 t201 bt205.1 bt205.2.1) else (none)))) = some r := H
  have A11 := am13_ A110
  clear A110
  replace H := Option.bind_eq_some_iff.mp H
  obtain ⟨⟨t205, t206, t209⟩, A120, H⟩ := H
  replace H : ((laws_eqBits.f k t205 t206 t194 t195).bind fun t211 => (if t211 = true then (laws_FnExactCutBits.j0 k a1 a2 t198 t209 (t209 != t198) a0_0 l0_1 t194 t195 t200 t201 t205 t206) else (none))) = some r := H
  have A12 := am13_ A120
  clear A120
  have HC13 := am13_ H
  clear H
  go_enter Try.func4, Try.ntmps4
  go_upto_region 8 with (first | ((with_reducible refine gate_dst (N := 3) rfl ?_); refine box_event ?hg (N := 3) ?hd (cs := #[.int .i64 a0_0, .slice A0_1 l0_1.length c0_1]) (t := 24) ?hr ?_; (case hd => rfl); (case hg => rfl); (case hr => first | (go_simp; done) | (go_simp; rfl)); intro gb188 hg w14 hbox hb; have n0_ := am13_ (below_step (lw13_ HB) hb); have n1_ := am13_ (hbox); have n2_ := am13_ ((by rw [hg]; exact (below_size (lw13_ HB)) : w.heap.size ≤ gb188)); have n3_ := am13_ ((by rw [hg]; exact (below_size (lw13_ HB)) : w.heap.size ≤ gb188)); clear HB; have HB := n0_; have BK188 := n1_; have GW188 := n2_; have GE188 := n3_; clear n0_ n1_ n2_ n3_; clear hb hbox hg; have hcz15_0 : w14.cell? ⟨gb188, 0, none⟩ = some (.int .i64 a0_0) := (blk_cell BK188.out 0).trans rfl; have hcz15_1 : w14.cell? ⟨gb188, 1, none⟩ = some (.slice A0_1 l0_1.length c0_1) := (blk_cell BK188.out 1).trans rfl; have hfz15_0 := blk_frozen BK188.out 0; have hfz15_1 := blk_frozen BK188.out 1) | ((with_reducible refine gate_callee (f := 16) rfl ?_); refine goesL_ (some 20) rfl rfl Try.func16 (by kernel_rfl) rfl #[.agg #[.int .i64 a0_0, .slice A0_1 l0_1.length c0_1], .int .i64 1048576] rfl lm13_ ?_; (with_reducible refine (laws_szBits.calls a0_0 _ _ l0_1 1048576 t189 _ ?side1 ?side2 A4.out).mono ?_); (case side1 => exact lc13_ (Kd.C_below HR0_1.out HB.out)); (case side2 => exact HC0_1.out); rintro e w16 ⟨rfl, hb⟩; refine ⟨_, rfl, ?_⟩; have n0_ := am13_ (blk_below (g := gb188) (o := .cells #[.int .i64 a0_0, .slice A0_1 l0_1.length c0_1] 24 (0, 0)) (lb13_ BK188) hb); have n1_ := am13_ (below_step (lw13_ HB) hb); clear BK188; clear HB; have BK188 := n0_; have HB := n1_; clear n0_ n1_; (try clear hb); (try clear hb2); (try clear hk); (try clear hi); have hcz17_0 : w16.cell? ⟨gb188, 0, none⟩ = some (.int .i64 a0_0) := (blk_cell BK188.out 0).trans rfl; have hcz17_1 : w16.cell? ⟨gb188, 1, none⟩ = some (.slice A0_1 l0_1.length c0_1) := (blk_cell BK188.out 1).trans rfl; have hfz17_0 := blk_frozen BK188.out 0; have hfz17_1 := blk_frozen BK188.out 1) | ((with_reducible refine gate_callee (f := 18) rfl ?_); refine goesL_ (some 25) rfl rfl Try.func18 (by kernel_rfl) rfl #[.agg #[.int .i64 a0_0, .slice A0_1 l0_1.length c0_1]] rfl lm13_ ?_; (with_reducible refine (laws_toBits.calls k a0_0 _ _ l0_1 t190 t191 _ ?side1 ?side2 A9.out).mono ?_); (case side1 => exact lc13_ (Kd.C_below HR0_1.out HB.out)); (case side2 => exact HC0_1.out); rintro e w18 ⟨v192, rfl, ho0, hb⟩; refine ⟨_, rfl, ?_⟩; have n0_ := am13_ (Kd.R_lower ho0 (below_size (lw13_ HB))); have n1_ := am13_ (blk_below (g := gb188) (o := .cells #[.int .i64 a0_0, .slice A0_1 l0_1.length c0_1] 24 (0, 0)) (lb13_ BK188) hb); have n2_ := am13_ (below_step (lw13_ HB) hb); clear BK188; clear HB; have HO193 := n0_; have BK188 := n1_; have HB := n2_; clear n0_ n1_ n2_; (try clear hb); (try clear hb2); (try clear hk); (try clear hi); (try clear ho0); obtain ⟨Ao19, co19, eo19⟩ := Kd.R_slice HO193.out; subst eo19) | ((with_reducible refine gate_callee (f := 23) rfl ?_); refine goesL_ (some 28) rfl rfl Try.func23 (by kernel_rfl) rfl #[.agg #[.int .i64 t190, .slice Ao19 t191.length co19], .int .i64 a1, .int .i64 a2] rfl lm13_ ?_; (with_reducible refine (spec_CutBits.calls k t190 _ _ t191 a1 a2 t194 t195 t198 _ ?side1 ?side2 A10.out).mono ?_); (case side1 => exact lc13_ (Kd.R_reads' HO193.out).2.2); (case side2 => exact (Kd.R_reads' HO193.out).2.1); rintro e w20 ⟨v196, rfl, ho0, hb⟩; refine ⟨_, rfl, ?_⟩; have n0_ := am13_ (Kd.R_elder' (lf13_ HO193) (Kd.R_base ho0) hb); have n1_ := am13_ (Kd.R_lower (Kd.R_new' ho0 (Kd.R_lt (lf13_ HO193))) (below_size (lw13_ HB))); have n2_ := am13_ (blk_below (g := gb188) (o := .cells #[.int .i64 a0_0, .slice A0_1 l0_1.length c0_1] 24 (0, 0)) (lb13_ BK188) hb); have n3_ := am13_ (below_step (lw13_ HB) hb); clear HO193; clear BK188; clear HB; have HO193 := n0_; have HO197 := n1_; have BK188 := n2_; have HB := n3_; clear n0_ n1_ n2_ n3_; (try clear hb); (try clear hb2); (try clear hk); (try clear hi); (try clear ho0)) | ((with_reducible refine gate_dst (N := 8) rfl ?_); refine box_event ?hg (N := 8) ?hd (cs := #[.int .i64 0, .slice none 0 0]) (t := 26) ?hr ?_; (case hd => rfl); (case hg => rfl); (case hr => first | (go_simp; done) | (go_simp; rfl)); intro gb199 hg w21 hbox hb; have n0_ := am13_ (Kd.R_below (lf13_ HO193) hb); have n1_ := am13_ (Kd.R_below (lf13_ HO197) hb); have n2_ := am13_ (blk_below (g := gb188) (o := .cells #[.int .i64 a0_0, .slice A0_1 l0_1.length c0_1] 24 (0, 0)) (lb13_ BK188) hb); have n3_ := am13_ (below_step (lw13_ HB) hb); have n4_ := am13_ (hbox); have n5_ := am13_ ((by rw [hg]; exact (below_size (lw13_ HB)) : w.heap.size ≤ gb199)); have n6_ := am13_ ((by rw [hg]; exact (below_size (lw13_ HB)) : w.heap.size ≤ gb199)); have n7_ := am13_ ((by rw [hg]; exact Nat.ne_of_lt (blk_lt (g := gb188) (lb13_ BK188)) : gb188 ≠ gb199)); have n8_ := am13_ ((by rw [hg]; exact Nat.ne_of_gt (blk_lt (g := gb188) (lb13_ BK188)) : gb199 ≠ gb188)); clear HO193; clear HO197; clear BK188; clear HB; have HO193 := n0_; have HO197 := n1_; have BK188 := n2_; have HB := n3_; have BK199 := n4_; have GW199 := n5_; have GE199 := n6_; have NB188_199 := n7_; have NB199_188 := n8_; clear n0_ n1_ n2_ n3_ n4_ n5_ n6_ n7_ n8_; clear hb hbox hg; have hnb22 := NB199_188.out; have hnc22 := NB188_199.out; have hcz23_0 : w21.cell? ⟨gb199, 0, none⟩ = some (.int .i64 0) := (blk_cell BK199.out 0).trans rfl; have hcz23_1 : w21.cell? ⟨gb199, 1, none⟩ = some (.slice none 0 0) := (blk_cell BK199.out 1).trans rfl; have hfz23_0 := blk_frozen BK199.out 0; have hfz23_1 := blk_frozen BK199.out 1; obtain ⟨Ao24, co24, eo24⟩ := Kd.R_slice HO197.out; subst eo24; have hcz25_0 : w21.cell? ⟨gb188, 0, none⟩ = some (.int .i64 a0_0) := (blk_cell BK188.out 0).trans rfl; have hcz25_1 : w21.cell? ⟨gb188, 1, none⟩ = some (.slice A0_1 l0_1.length c0_1) := (blk_cell BK188.out 1).trans rfl; have hfz25_0 := blk_frozen BK188.out 0; have hfz25_1 := blk_frozen BK188.out 1) | ((with_reducible refine gate_callee (f := 18) rfl ?_); refine goesL_ (some 32) rfl rfl Try.func18 (by kernel_rfl) rfl #[.agg #[.int .i64 a0_0, .slice A0_1 l0_1.length c0_1]] rfl lm13_ ?_; (with_reducible refine (laws_toBits.calls k a0_0 _ _ l0_1 t200 t201 _ ?side1 ?side2 A11.out).mono ?_); (case side1 => exact Kd.C_below HR0_1.out (lw13_ HB)); (case side2 => exact HC0_1.out); rintro e w26 ⟨v202, rfl, ho0, hb⟩; refine ⟨_, rfl, ?_⟩; have n0_ := am13_ (Kd.R_elder' (lt13_ (Kd.R_mono (Kd.R_far (p := ⟨gb199, 1, none⟩) (Kd.R_far (p := ⟨gb199, 0, none⟩) (Kd.R_types HO193.out BK199.out (by decide)) (fun _ hk => hk.2) (.int .i64 t194)) (fun _ hk => hk.2) (.slice Ao24 t195.length co24)) (fun _ h_ => h_.1))) (Kd.R_base ho0) hb); have n1_ := am13_ (Kd.R_elder' (lt13_ (Kd.R_mono (Kd.R_far (p := ⟨gb199, 1, none⟩) (Kd.R_far (p := ⟨gb199, 0, none⟩) (Kd.R_types HO197.out BK199.out (by decide)) (fun _ hk => hk.2) (.int .i64 t194)) (fun _ hk => hk.2) (.slice Ao24 t195.length co24)) (fun _ h_ => h_.1))) (Kd.R_base ho0) hb); have n2_ := am13_ (Kd.R_lower (Kd.R_new' (Kd.R_new' ho0 (Kd.R_lt (lt13_ (Kd.R_mono (Kd.R_far (p := ⟨gb199, 1, none⟩) (Kd.R_far (p := ⟨gb199, 0, none⟩) (Kd.R_types HO193.out BK199.out (by decide)) (fun _ hk => hk.2) (.int .i64 t194)) (fun _ hk => hk.2) (.slice Ao24 t195.length co24)) (fun _ h_ => h_.1))))) (Kd.R_lt (lt13_ (Kd.R_mono (Kd.R_far (p := ⟨gb199, 1, none⟩) (Kd.R_far (p := ⟨gb199, 0, none⟩) (Kd.R_types HO197.out BK199.out (by decide)) (fun _ hk => hk.2) (.int .i64 t194)) (fun _ hk => hk.2) (.slice Ao24 t195.length co24)) (fun _ h_ => h_.1))))) (below_size (lw13_ HB))); have n3_ := am13_ (blk_below (g := gb188) (o := .cells #[.int .i64 a0_0, .slice A0_1 l0_1.length c0_1] 24 (0, 0)) (by (with_reducible repeat (first | refine blk_drewN ?_ _ | refine blk_drew ?_ | refine blk_alloc ?_ _)); refine blk_far ?_ NB188_199.out _; (with_reducible repeat (first | refine blk_drewN ?_ _ | refine blk_drew ?_ | refine blk_alloc ?_ _)); refine blk_far ?_ NB188_199.out _; (with_reducible repeat (first | refine blk_drewN ?_ _ | refine blk_drew ?_ | refine blk_alloc ?_ _)); exact BK188.out) hb); have n4_ := am13_ (blk_below (g := gb199) (o := .cells #[.int .i64 t194, .slice Ao24 t195.length co24] 26 (0, 0)) (by (with_reducible repeat (first | refine blk_drewN ?_ _ | refine blk_drew ?_ | refine blk_alloc ?_ _)); refine blk_put (cs := #[.int .i64 t194, .slice none 0 0]) ?_ 1 _ rfl; (with_reducible repeat (first | refine blk_drewN ?_ _ | refine blk_drew ?_ | refine blk_alloc ?_ _)); refine blk_put (cs := #[.int .i64 0, .slice none 0 0]) ?_ 0 _ rfl; (with_reducible repeat (first | refine blk_drewN ?_ _ | refine blk_drew ?_ | refine blk_alloc ?_ _)); exact BK199.out) hb); have n5_ := am13_ (below_step (lw13_ HB) hb); clear HO193; clear HO197; clear BK188; clear BK199; clear HB; have HO193 := n0_; have HO197 := n1_; have HO203 := n2_; have BK188 := n3_; have BK199 := n4_; have HB := n5_; clear n0_ n1_ n2_ n3_ n4_ n5_; (try clear hb); (try clear hb2); (try clear hk); (try clear hi); (try clear ho0)) | ((with_reducible refine gate_dst (N := 10) rfl ?_); refine box_event ?hg (N := 10) ?hd (cs := #[.int .i64 0, .slice none 0 0]) (t := 26) ?hr ?_; (case hd => rfl); (case hg => rfl); (case hr => first | (go_simp; done) | (go_simp; rfl)); intro gb204 hg w27 hbox hb; have n0_ := am13_ (Kd.R_below (lf13_ HO193) hb); have n1_ := am13_ (Kd.R_below (lf13_ HO197) hb); have n2_ := am13_ (Kd.R_below (lf13_ HO203) hb); have n3_ := am13_ (blk_below (g := gb188) (o := .cells #[.int .i64 a0_0, .slice A0_1 l0_1.length c0_1] 24 (0, 0)) (lb13_ BK188) hb); have n4_ := am13_ (blk_below (g := gb199) (o := .cells #[.int .i64 t194, .slice Ao24 t195.length co24] 26 (0, 0)) (lb13_ BK199) hb); have n5_ := am13_ (below_step (lw13_ HB) hb); have n6_ := am13_ (hbox); have n7_ := am13_ ((by rw [hg]; exact (below_size (lw13_ HB)) : w.heap.size ≤ gb204)); have n8_ := am13_ ((by rw [hg]; exact (below_size (lw13_ HB)) : w.heap.size ≤ gb204)); have n9_ := am13_ ((by rw [hg]; exact Nat.ne_of_lt (blk_lt (g := gb188) (lb13_ BK188)) : gb188 ≠ gb204)); have n10_ := am13_ ((by rw [hg]; exact Nat.ne_of_gt (blk_lt (g := gb188) (lb13_ BK188)) : gb204 ≠ gb188)); have n11_ := am13_ ((by rw [hg]; exact Nat.ne_of_lt (blk_lt (g := gb199) (lb13_ BK199)) : gb199 ≠ gb204)); have n12_ := am13_ ((by rw [hg]; exact Nat.ne_of_gt (blk_lt (g := gb199) (lb13_ BK199)) : gb204 ≠ gb199)); clear HO193; clear HO197; clear HO203; clear BK188; clear BK199; clear HB; have HO193 := n0_; have HO197 := n1_; have HO203 := n2_; have BK188 := n3_; have BK199 := n4_; have HB := n5_; have BK204 := n6_; have GW204 := n7_; have GE204 := n8_; have NB188_204 := n9_; have NB204_188 := n10_; have NB199_204 := n11_; have NB204_199 := n12_; clear n0_ n1_ n2_ n3_ n4_ n5_ n6_ n7_ n8_ n9_ n10_ n11_ n12_; clear hb hbox hg; have hnb28 := NB204_188.out; have hnc28 := NB188_204.out; have hnb29 := NB204_199.out; have hnc29 := NB199_204.out; have hcz30_0 : w27.cell? ⟨gb204, 0, none⟩ = some (.int .i64 0) := (blk_cell BK204.out 0).trans rfl; have hcz30_1 : w27.cell? ⟨gb204, 1, none⟩ = some (.slice none 0 0) := (blk_cell BK204.out 1).trans rfl; have hfz30_0 := blk_frozen BK204.out 0; have hfz30_1 := blk_frozen BK204.out 1; obtain ⟨Ao31, co31, eo31⟩ := Kd.R_slice HO203.out; subst eo31) | ((with_reducible refine gate_callee (f := 24) rfl ?_); refine goesL_ (some 37) rfl rfl Try.func24 (by kernel_rfl) rfl #[.agg #[.int .i64 t200, .slice Ao31 t201.length co31], .int .i64 a1, .int .i64 a2] rfl lm13_ ?_; (with_reducible refine (impl_CutBits.calls k t200 _ _ t201 a1 a2 t205 t206 t209 _ ?side1 ?side2 A12.out).mono ?_); (case side1 => refine (Kd.R_reads' (e := 3) (base := w.heap.size) (ok := fun k_ => ((True ∧ some k_ ≠ (.slice Ao19 t191.length co19 : Value).ownBlock) ∧ some k_ ≠ (.slice Ao24 t195.length co24 : Value).ownBlock)) (n := t201.length) (c := co31) ?_).2.2; exact (lt13_ (Kd.R_mono (Kd.R_far (p := ⟨gb204, 1, none⟩) (Kd.R_far (p := ⟨gb204, 0, none⟩) (Kd.R_types HO203.out BK204.out (by decide)) (fun _ hk => hk.2) (.int .i64 t200)) (fun _ hk => hk.2) (.slice Ao31 t201.length co31)) (fun _ h_ => h_.1)))); (case side2 => exact (Kd.R_reads' HO203.out).2.1); rintro e w32 ⟨v207, rfl, ho0, hb⟩; refine ⟨_, rfl, ?_⟩; have n0_ := am13_ (Kd.R_elder' (lt13_ (Kd.R_mono (Kd.R_far (p := ⟨gb204, 1, none⟩) (Kd.R_far (p := ⟨gb204, 0, none⟩) (Kd.R_types HO193.out BK204.out (by decide)) (fun _ hk => hk.2) (.int .i64 t200)) (fun _ hk => hk.2) (.slice Ao31 t201.length co31)) (fun _ h_ => h_.1))) (Kd.R_base ho0) hb); have n1_ := am13_ (Kd.R_elder' (lt13_ (Kd.R_mono (Kd.R_far (p := ⟨gb204, 1, none⟩) (Kd.R_far (p := ⟨gb204, 0, none⟩) (Kd.R_types HO197.out BK204.out (by decide)) (fun _ hk => hk.2) (.int .i64 t200)) (fun _ hk => hk.2) (.slice Ao31 t201.length co31)) (fun _ h_ => h_.1))) (Kd.R_base ho0) hb); have n2_ := am13_ (Kd.R_elder' (lt13_ (Kd.R_mono (Kd.R_far (p := ⟨gb204, 1, none⟩) (Kd.R_far (p := ⟨gb204, 0, none⟩) (Kd.R_types HO203.out BK204.out (by decide)) (fun _ hk => hk.2) (.int .i64 t200)) (fun _ hk => hk.2) (.slice Ao31 t201.length co31)) (fun _ h_ => h_.1))) (Kd.R_base ho0) hb); have n3_ := am13_ (Kd.R_lower (Kd.R_new' (Kd.R_new' (Kd.R_new' ho0 (Kd.R_lt (lt13_ (Kd.R_mono (Kd.R_far (p := ⟨gb204, 1, none⟩) (Kd.R_far (p := ⟨gb204, 0, none⟩) (Kd.R_types HO193.out BK204.out (by decide)) (fun _ hk => hk.2) (.int .i64 t200)) (fun _ hk => hk.2) (.slice Ao31 t201.length co31)) (fun _ h_ => h_.1))))) (Kd.R_lt (lt13_ (Kd.R_mono (Kd.R_far (p := ⟨gb204, 1, none⟩) (Kd.R_far (p := ⟨gb204, 0, none⟩) (Kd.R_types HO197.out BK204.out (by decide)) (fun _ hk => hk.2) (.int .i64 t200)) (fun _ hk => hk.2) (.slice Ao31 t201.length co31)) (fun _ h_ => h_.1))))) (Kd.R_lt (lt13_ (Kd.R_mono (Kd.R_far (p := ⟨gb204, 1, none⟩) (Kd.R_far (p := ⟨gb204, 0, none⟩) (Kd.R_types HO203.out BK204.out (by decide)) (fun _ hk => hk.2) (.int .i64 t200)) (fun _ hk => hk.2) (.slice Ao31 t201.length co31)) (fun _ h_ => h_.1))))) (below_size (lw13_ HB))); have n4_ := am13_ (blk_below (g := gb188) (o := .cells #[.int .i64 a0_0, .slice A0_1 l0_1.length c0_1] 24 (0, 0)) (by (with_reducible repeat (first | refine blk_drewN ?_ _ | refine blk_drew ?_ | refine blk_alloc ?_ _)); refine blk_far ?_ NB188_204.out _; (with_reducible repeat (first | refine blk_drewN ?_ _ | refine blk_drew ?_ | refine blk_alloc ?_ _)); refine blk_far ?_ NB188_204.out _; (with_reducible repeat (first | refine blk_drewN ?_ _ | refine blk_drew ?_ | refine blk_alloc ?_ _)); exact BK188.out) hb); have n5_ := am13_ (blk_below (g := gb199) (o := .cells #[.int .i64 t194, .slice Ao24 t195.length co24] 26 (0, 0)) (by (with_reducible repeat (first | refine blk_drewN ?_ _ | refine blk_drew ?_ | refine blk_alloc ?_ _)); refine blk_far ?_ NB199_204.out _; (with_reducible repeat (first | refine blk_drewN ?_ _ | refine blk_drew ?_ | refine blk_alloc ?_ _)); refine blk_far ?_ NB199_204.out _; (with_reducible repeat (first | refine blk_drewN ?_ _ | refine blk_drew ?_ | refine blk_alloc ?_ _)); exact BK199.out) hb); have n6_ := am13_ (blk_below (g := gb204) (o := .cells #[.int .i64 t200, .slice Ao31 t201.length co31] 26 (0, 0)) (by (with_reducible repeat (first | refine blk_drewN ?_ _ | refine blk_drew ?_ | refine blk_alloc ?_ _)); refine blk_put (cs := #[.int .i64 t200, .slice none 0 0]) ?_ 1 _ rfl; (with_reducible repeat (first | refine blk_drewN ?_ _ | refine blk_drew ?_ | refine blk_alloc ?_ _)); refine blk_put (cs := #[.int .i64 0, .slice none 0 0]) ?_ 0 _ rfl; (with_reducible repeat (first | refine blk_drewN ?_ _ | refine blk_drew ?_ | refine blk_alloc ?_ _)); exact BK204.out) hb); have n7_ := am13_ (below_step (lw13_ HB) hb); clear HO193; clear HO197; clear HO203; clear BK188; clear BK199; clear BK204; clear HB; have HO193 := n0_; have HO197 := n1_; have HO203 := n2_; have HO208 := n3_; have BK188 := n4_; have BK199 := n5_; have BK204 := n6_; have HB := n7_; clear n0_ n1_ n2_ n3_ n4_ n5_ n6_ n7_; (try clear hb); (try clear hb2); (try clear hk); (try clear hi); (try clear ho0)) | ((with_reducible refine gate_dst (N := 11) rfl ?_); refine box_event ?hg (N := 11) ?hd (cs := #[.int .i64 0, .slice none 0 0]) (t := 26) ?hr ?_; (case hd => rfl); (case hg => rfl); (case hr => first | (go_simp; done) | (go_simp; rfl)); intro gb210 hg w33 hbox hb; have n0_ := am13_ (Kd.R_below (lf13_ HO193) hb); have n1_ := am13_ (Kd.R_below (lf13_ HO197) hb); have n2_ := am13_ (Kd.R_below (lf13_ HO203) hb); have n3_ := am13_ (Kd.R_below (lf13_ HO208) hb); have n4_ := am13_ (blk_below (g := gb188) (o := .cells #[.int .i64 a0_0, .slice A0_1 l0_1.length c0_1] 24 (0, 0)) (lb13_ BK188) hb); have n5_ := am13_ (blk_below (g := gb199) (o := .cells #[.int .i64 t194, .slice Ao24 t195.length co24] 26 (0, 0)) (lb13_ BK199) hb); have n6_ := am13_ (blk_below (g := gb204) (o := .cells #[.int .i64 t200, .slice Ao31 t201.length co31] 26 (0, 0)) (lb13_ BK204) hb); have n7_ := am13_ (below_step (lw13_ HB) hb); have n8_ := am13_ (hbox); have n9_ := am13_ ((by rw [hg]; exact (below_size (lw13_ HB)) : w.heap.size ≤ gb210)); have n10_ := am13_ ((by rw [hg]; exact (below_size (lw13_ HB)) : w.heap.size ≤ gb210)); have n11_ := am13_ ((by rw [hg]; exact Nat.ne_of_lt (blk_lt (g := gb188) (lb13_ BK188)) : gb188 ≠ gb210)); have n12_ := am13_ ((by rw [hg]; exact Nat.ne_of_gt (blk_lt (g := gb188) (lb13_ BK188)) : gb210 ≠ gb188)); have n13_ := am13_ ((by rw [hg]; exact Nat.ne_of_lt (blk_lt (g := gb199) (lb13_ BK199)) : gb199 ≠ gb210)); have n14_ := am13_ ((by rw [hg]; exact Nat.ne_of_gt (blk_lt (g := gb199) (lb13_ BK199)) : gb210 ≠ gb199)); have n15_ := am13_ ((by rw [hg]; exact Nat.ne_of_lt (blk_lt (g := gb204) (lb13_ BK204)) : gb204 ≠ gb210)); have n16_ := am13_ ((by rw [hg]; exact Nat.ne_of_gt (blk_lt (g := gb204) (lb13_ BK204)) : gb210 ≠ gb204)); clear HO193; clear HO197; clear HO203; clear HO208; clear BK188; clear BK199; clear BK204; clear HB; have HO193 := n0_; have HO197 := n1_; have HO203 := n2_; have HO208 := n3_; have BK188 := n4_; have BK199 := n5_; have BK204 := n6_; have HB := n7_; have BK210 := n8_; have GW210 := n9_; have GE210 := n10_; have NB188_210 := n11_; have NB210_188 := n12_; have NB199_210 := n13_; have NB210_199 := n14_; have NB204_210 := n15_; have NB210_204 := n16_; clear n0_ n1_ n2_ n3_ n4_ n5_ n6_ n7_ n8_ n9_ n10_ n11_ n12_ n13_ n14_ n15_ n16_; clear hb hbox hg; have hnb34 := NB210_188.out; have hnc34 := NB188_210.out; have hnb35 := NB210_199.out; have hnc35 := NB199_210.out; have hnb36 := NB210_204.out; have hnc36 := NB204_210.out; have hcz37_0 : w33.cell? ⟨gb210, 0, none⟩ = some (.int .i64 0) := (blk_cell BK210.out 0).trans rfl; have hcz37_1 : w33.cell? ⟨gb210, 1, none⟩ = some (.slice none 0 0) := (blk_cell BK210.out 1).trans rfl; have hfz37_0 := blk_frozen BK210.out 0; have hfz37_1 := blk_frozen BK210.out 1; obtain ⟨Ao38, co38, eo38⟩ := Kd.R_slice HO208.out; subst eo38))
  (try simp only [Act.put, List.setIfInBounds_toArray, List.set_cons_zero, List.set_cons_succ])
  go_cut [48] (fun v48 wc => ∃ (kq : Nat) (x48_12 : Bool), v48 = .bool x48_12 ∧ Aside0 (laws_FnExactCutBits.j0 kq a1 a2 t198 t209 x48_12 a0_0 l0_1 t194 t195 t200 t201 t205 t206 = some r) ∧ Aside0 (kq ≤ k) ∧ Aside0 (Kd.R (Kd.int .i64) 3 wc w.heap.size (fun k_ => some k_ ≠ ((.slice Ao31 t201.length co31) : Value).ownBlock ∧ some k_ ≠ ((.slice Ao38 t206.length co38) : Value).ownBlock) (.slice Ao24 t195.length co24) t195) ∧ Aside0 (Kd.R (Kd.int .i64) 3 wc w.heap.size (fun k_ => some k_ ≠ ((.slice Ao24 t195.length co24) : Value).ownBlock ∧ some k_ ≠ ((.slice Ao38 t206.length co38) : Value).ownBlock) (.slice Ao31 t201.length co31) t201) ∧ Aside0 (Kd.R (Kd.int .i64) 3 wc w.heap.size (fun k_ => some k_ ≠ ((.slice Ao24 t195.length co24) : Value).ownBlock ∧ some k_ ≠ ((.slice Ao31 t201.length co31) : Value).ownBlock) (.slice Ao38 t206.length co38) t206) ∧ Aside0 (wc.heap[gb188]? = some (.cells #[.int .i64 a0_0, (.slice A0_1 l0_1.length c0_1)] 24 (0, 0))) ∧ Aside0 (wc.heap[gb199]? = some (.cells #[.int .i64 t194, (.slice Ao24 t195.length co24)] 26 (0, 0))) ∧ Aside0 (wc.heap[gb204]? = some (.cells #[.int .i64 t200, (.slice Ao31 t201.length co31)] 26 (0, 0))) ∧ Aside0 (wc.heap[gb210]? = some (.cells #[.int .i64 t205, (.slice Ao38 t206.length co38)] 26 (0, 0))) ∧ Aside0 (Below w.heap.size w wc))
  case first =>
   have H := HC13.out
   clear HC13
   replace H := Option.bind_eq_some_iff.mp H
   obtain ⟨t211, A390, H⟩ := H
   replace H : (if t211 = true then (laws_FnExactCutBits.j0 k a1 a2 t198 t209 (t209 != t198) a0_0 l0_1 t194 t195 t200 t201 t205 t206) else (none)) = some r := H
   have A39 := am13_ A390
   clear A390
   by_cases c40 : t211 = true
   ·subst c40
    have H1 : (laws_FnExactCutBits.j0 k a1 a2 t198 t209 (t209 != t198) a0_0 l0_1 t194 t195 t200 t201 t205 t206) = some r := by rw [if_pos rfl] at H; exact H
    clear H
    have H := H1
    clear H1
    have H' := am13_ H
    clear H
    have hnb41 := NB210_188.out
    have hnc41 := NB188_210.out
    have hnb42 := NB210_199.out
    have hnc42 := NB199_210.out
    have hnb43 := NB210_204.out
    have hnc43 := NB204_210.out
    have hcz44_0 : w33.cell? ⟨gb210, 0, none⟩ = some (.int .i64 0) := (blk_cell BK210.out 0).trans rfl
    have hcz44_1 : w33.cell? ⟨gb210, 1, none⟩ = some (.slice none 0 0) := (blk_cell BK210.out 1).trans rfl
    have hfz44_0 := blk_frozen BK210.out 0
    have hfz44_1 := blk_frozen BK210.out 1
    have hnb45 := NB199_188.out
    have hnc45 := NB188_199.out
    have hnb46 := NB199_204.out
    have hnc46 := NB204_199.out
    have hcz47_0 : w33.cell? ⟨gb199, 0, none⟩ = some (.int .i64 t194) := (blk_cell BK199.out 0).trans rfl
    have hcz47_1 : w33.cell? ⟨gb199, 1, none⟩ = some (.slice Ao24 t195.length co24) := (blk_cell BK199.out 1).trans rfl
    have hfz47_0 := blk_frozen BK199.out 0
    have hfz47_1 := blk_frozen BK199.out 1
    go_wp2_with (first | ((with_reducible refine gate_callee (f := 20) rfl ?_); refine goesL_ (some 42) rfl rfl Try.func20 (by kernel_rfl) rfl #[.agg #[.int .i64 t205, .slice Ao38 t206.length co38], .agg #[.int .i64 t194, .slice Ao24 t195.length co24]] rfl lm13_ ?_; (with_reducible refine (laws_eqBits.calls k t205 _ _ t206 t194 _ _ t195 true _ ?side1 ?side2 ?side3 ?side4 A39.out).mono ?_); (case side1 => refine (Kd.R_reads' (e := 3) (base := w.heap.size) (ok := fun k_ => (((True ∧ some k_ ≠ (.slice Ao19 t191.length co19 : Value).ownBlock) ∧ some k_ ≠ (.slice Ao24 t195.length co24 : Value).ownBlock) ∧ some k_ ≠ (.slice Ao31 t201.length co31 : Value).ownBlock)) (n := t206.length) (c := co38) ?_).2.2; exact (lt13_ (Kd.R_mono (Kd.R_far (p := ⟨gb210, 1, none⟩) (Kd.R_far (p := ⟨gb210, 0, none⟩) (Kd.R_types HO208.out BK210.out (by decide)) (fun _ hk => hk.2) (.int .i64 t205)) (fun _ hk => hk.2) (.slice Ao38 t206.length co38)) (fun _ h_ => h_.1)))); (case side2 => exact (Kd.R_reads' HO208.out).2.1); (case side3 => refine (Kd.R_reads' (e := 3) (base := w.heap.size) (ok := fun k_ => (((True ∧ some k_ ≠ (.slice Ao19 t191.length co19 : Value).ownBlock) ∧ some k_ ≠ (.slice Ao31 t201.length co31 : Value).ownBlock) ∧ some k_ ≠ (.slice Ao38 t206.length co38 : Value).ownBlock)) (n := t195.length) (c := co24) ?_).2.2; exact (lt13_ (Kd.R_mono (Kd.R_far (p := ⟨gb210, 1, none⟩) (Kd.R_far (p := ⟨gb210, 0, none⟩) (Kd.R_types HO197.out BK210.out (by decide)) (fun _ hk => hk.2) (.int .i64 t205)) (fun _ hk => hk.2) (.slice Ao38 t206.length co38)) (fun _ h_ => h_.1)))); (case side4 => exact (Kd.R_reads' HO197.out).2.1); rintro e w48 ⟨rfl, hb⟩; refine ⟨_, rfl, ?_⟩; have n0_ := am13_ (Kd.R_below (lt13_ (Kd.R_mono (Kd.R_far (p := ⟨gb210, 1, none⟩) (Kd.R_far (p := ⟨gb210, 0, none⟩) (Kd.R_types HO193.out BK210.out (by decide)) (fun _ hk => hk.2) (.int .i64 t205)) (fun _ hk => hk.2) (.slice Ao38 t206.length co38)) (fun _ h_ => h_.1))) hb); have n1_ := am13_ (Kd.R_below (lt13_ (Kd.R_mono (Kd.R_far (p := ⟨gb210, 1, none⟩) (Kd.R_far (p := ⟨gb210, 0, none⟩) (Kd.R_types HO197.out BK210.out (by decide)) (fun _ hk => hk.2) (.int .i64 t205)) (fun _ hk => hk.2) (.slice Ao38 t206.length co38)) (fun _ h_ => h_.1))) hb); have n2_ := am13_ (Kd.R_below (lt13_ (Kd.R_mono (Kd.R_far (p := ⟨gb210, 1, none⟩) (Kd.R_far (p := ⟨gb210, 0, none⟩) (Kd.R_types HO203.out BK210.out (by decide)) (fun _ hk => hk.2) (.int .i64 t205)) (fun _ hk => hk.2) (.slice Ao38 t206.length co38)) (fun _ h_ => h_.1))) hb); have n3_ := am13_ (Kd.R_below (lt13_ (Kd.R_mono (Kd.R_far (p := ⟨gb210, 1, none⟩) (Kd.R_far (p := ⟨gb210, 0, none⟩) (Kd.R_types HO208.out BK210.out (by decide)) (fun _ hk => hk.2) (.int .i64 t205)) (fun _ hk => hk.2) (.slice Ao38 t206.length co38)) (fun _ h_ => h_.1))) hb); have n4_ := am13_ (blk_below (g := gb188) (o := .cells #[.int .i64 a0_0, .slice A0_1 l0_1.length c0_1] 24 (0, 0)) (by (with_reducible repeat (first | refine blk_drewN ?_ _ | refine blk_drew ?_ | refine blk_alloc ?_ _)); refine blk_far ?_ NB188_210.out _; (with_reducible repeat (first | refine blk_drewN ?_ _ | refine blk_drew ?_ | refine blk_alloc ?_ _)); refine blk_far ?_ NB188_210.out _; (with_reducible repeat (first | refine blk_drewN ?_ _ | refine blk_drew ?_ | refine blk_alloc ?_ _)); exact BK188.out) hb); have n5_ := am13_ (blk_below (g := gb199) (o := .cells #[.int .i64 t194, .slice Ao24 t195.length co24] 26 (0, 0)) (by (with_reducible repeat (first | refine blk_drewN ?_ _ | refine blk_drew ?_ | refine blk_alloc ?_ _)); refine blk_far ?_ NB199_210.out _; (with_reducible repeat (first | refine blk_drewN ?_ _ | refine blk_drew ?_ | refine blk_alloc ?_ _)); refine blk_far ?_ NB199_210.out _; (with_reducible repeat (first | refine blk_drewN ?_ _ | refine blk_drew ?_ | refine blk_alloc ?_ _)); exact BK199.out) hb); have n6_ := am13_ (blk_below (g := gb204) (o := .cells #[.int .i64 t200, .slice Ao31 t201.length co31] 26 (0, 0)) (by (with_reducible repeat (first | refine blk_drewN ?_ _ | refine blk_drew ?_ | refine blk_alloc ?_ _)); refine blk_far ?_ NB204_210.out _; (with_reducible repeat (first | refine blk_drewN ?_ _ | refine blk_drew ?_ | refine blk_alloc ?_ _)); refine blk_far ?_ NB204_210.out _; (with_reducible repeat (first | refine blk_drewN ?_ _ | refine blk_drew ?_ | refine blk_alloc ?_ _)); exact BK204.out) hb); have n7_ := am13_ (blk_below (g := gb210) (o := .cells #[.int .i64 t205, .slice Ao38 t206.length co38] 26 (0, 0)) (by (with_reducible repeat (first | refine blk_drewN ?_ _ | refine blk_drew ?_ | refine blk_alloc ?_ _)); refine blk_put (cs := #[.int .i64 t205, .slice none 0 0]) ?_ 1 _ rfl; (with_reducible repeat (first | refine blk_drewN ?_ _ | refine blk_drew ?_ | refine blk_alloc ?_ _)); refine blk_put (cs := #[.int .i64 0, .slice none 0 0]) ?_ 0 _ rfl; (with_reducible repeat (first | refine blk_drewN ?_ _ | refine blk_drew ?_ | refine blk_alloc ?_ _)); exact BK210.out) hb); have n8_ := am13_ (below_step (lw13_ HB) hb); clear HO193; clear HO197; clear HO203; clear HO208; clear BK188; clear BK199; clear BK204; clear BK210; clear HB; have HO193 := n0_; have HO197 := n1_; have HO203 := n2_; have HO208 := n3_; have BK188 := n4_; have BK199 := n5_; have BK204 := n6_; have BK210 := n7_; have HB := n8_; clear n0_ n1_ n2_ n3_ n4_ n5_ n6_ n7_ n8_; (try clear hb); (try clear hb2); (try clear hk); (try clear hi)))
    go_meet
    case rel => exact ⟨_, ((t209 != t198)), (by first | rfl | (simp; done) | (simp [*]; done)), H', ⟨by first | omega | exact Nat.le_refl _⟩, ⟨by (with_reducible repeat (first | apply Kd.R_alloc | apply Kd.R_drewN | apply Kd.R_drew)); exact Kd.R_mono HO197.out (fun _ hk => ⟨hk.1.2, hk.2⟩)⟩, ⟨by (with_reducible repeat (first | apply Kd.R_alloc | apply Kd.R_drewN | apply Kd.R_drew)); exact Kd.R_mono HO203.out (fun _ hk => ⟨hk.1.2, hk.2⟩)⟩, ⟨by (with_reducible repeat (first | apply Kd.R_alloc | apply Kd.R_drewN | apply Kd.R_drew)); exact Kd.R_mono HO208.out (fun _ hk => ⟨hk.1.2, hk.2⟩)⟩, ⟨lb13_ BK188⟩, ⟨lb13_ BK199⟩, ⟨lb13_ BK204⟩, ⟨lb13_ BK210⟩, ⟨lw13_ HB⟩⟩
   ·replace c40 := Bool.eq_false_iff.mpr c40
    subst c40
    have H1 : (none) = some r := by rw [if_neg (show ¬ (false = true) by decide)] at H; exact H
    clear H
    have H := H1
    clear H1
    exact absurd H (by simp)
  case rest =>
   clear HC13
   try clear c1
   try clear c2
   try clear p2
   try clear c3
   try clear c4
   try clear c5
   try clear c5b0
   try clear c16
   try clear c18
   try clear c20
   try clear c22
   try clear c23
   try clear c24
   try clear c28
   try clear c29
   try clear c34
   try clear c35
   try clear c36
   try clear c40
   try clear c41
   try clear c42
   try clear c43
   try clear c45
   try clear c46
   try clear hcz15_0
   try clear hcz15_1
   try clear hcz17_0
   try clear hcz17_1
   try clear hcz23_0
   try clear hcz23_1
   try clear hcz25_0
   try clear hcz25_1
   try clear hcz30_0
   try clear hcz30_1
   try clear hcz37_0
   try clear hcz37_1
   try clear hcz44_0
   try clear hcz44_1
   try clear hcz47_0
   try clear hcz47_1
   try clear hcz7_0
   try clear hcz7_1
   try clear hfz15_0
   try clear hfz15_1
   try clear hfz17_0
   try clear hfz17_1
   try clear hfz23_0
   try clear hfz23_1
   try clear hfz25_0
   try clear hfz25_1
   try clear hfz30_0
   try clear hfz30_1
   try clear hfz37_0
   try clear hfz37_1
   try clear hfz44_0
   try clear hfz44_1
   try clear hfz47_0
   try clear hfz47_1
   try clear hfz7_0
   try clear hfz7_1
   obtain ⟨kq, x48_12, rfl, HA, HJ12, HO_200001, HO_205001, HO_211001, BK188, BK199, BK204, BK210, HB⟩ := hcut
   cases kq with
   | zero => exact absurd HA.out (by simp [laws_FnExactCutBits.j0])
   | succ kj12 =>
    have H := HA.out
    clear HA
    simp only [laws_FnExactCutBits.j0] at H
    by_cases c49 : x48_12 = true
    ·subst c49
     have H1 : (none) = some r := by rw [if_pos rfl] at H; exact H
     clear H
     have H := H1
     clear H1
     exact absurd H (by simp)
    ·replace c49 := Bool.eq_false_iff.mpr c49
     subst c49
     have H1 : ((laws_toBits.f kj12 a0_0 l0_1).bind fun bt212 => ((laws_eqBits.f kj12 t200 t201 bt212.1 bt212.2).bind fun t216 => (if t216 = true then ((laws_markBits.f kj12 t200 t201 1).bind fun bt217 => (if bt217.1 < 0 then (none) else ((laws_eqBits.f kj12 t205 t206 t194 t195).bind fun t219 => (if t219 = true then (laws_FnExactCutBits.j1 kj12 a1 a2 t198 (t209 != t198) a0_0 l0_1 t194 t195 t205 t206) else (none))))) else (none)))) = some r := by rw [if_neg (show ¬ (false = true) by decide)] at H; exact H
     clear H
     have H := H1
     clear H1
     replace H := Option.bind_eq_some_iff.mp H
     obtain ⟨⟨t212, t213⟩, A500, H⟩ := H
     replace H : ((laws_eqBits.f kj12 t200 t201 t212 t213).bind fun t216 => (if t216 = true then ((laws_markBits.f kj12 t200 t201 1).bind fun bt217 => (if bt217.1 < 0 then (none) else ((laws_eqBits.f kj12 t205 t206 t194 t195).bind fun t219 => (if t219 = true then (laws_FnExactCutBits.j1 kj12 a1 a2 t198 (t209 != t198) a0_0 l0_1 t194 t195 t205 t206) else (none))))) else (none))) = some r := H
     have A50 := am13_ A500
     clear A500
     replace H := Option.bind_eq_some_iff.mp H
     obtain ⟨t216, A510, H⟩ := H
     replace H : (if t216 = true then ((laws_markBits.f kj12 t200 t201 1).bind fun bt217 => (if bt217.1 < 0 then (none) else ((laws_eqBits.f kj12 t205 t206 t194 t195).bind fun t219 => (if t219 = true then (laws_FnExactCutBits.j1 kj12 a1 a2 t198 (t209 != t198) a0_0 l0_1 t194 t195 t205 t206) else (none))))) else (none)) = some r := H
     have A51 := am13_ A510
     clear A510
     by_cases c52 : t216 = true
     ·subst c52
      have H1 : ((laws_markBits.f kj12 t200 t201 1).bind fun bt217 => (if bt217.1 < 0 then (none) else ((laws_eqBits.f kj12 t205 t206 t194 t195).bind fun t219 => (if t219 = true then (laws_FnExactCutBits.j1 kj12 a1 a2 t198 (t209 != t198) a0_0 l0_1 t194 t195 t205 t206) else (none))))) = some r := by rw [if_pos rfl] at H; exact H
      clear H
      have H := H1
      clear H1
      replace H := Option.bind_eq_some_iff.mp H
      obtain ⟨⟨t217, t218⟩, A530, H⟩ := H
      replace H : (if t217 < 0 then (none) else ((laws_eqBits.f kj12 t205 t206 t194 t195).bind fun t219 => (if t219 = true then (laws_FnExactCutBits.j1 kj12 a1 a2 t198 (t209 != t198) a0_0 l0_1 t194 t195 t205 t206) else (none)))) = some r := H
      have A53 := am13_ A530
      clear A530
      have HC54 := am13_ H
      clear H
      try go_wp2
      have n0_ := am13_ (Kd.R_drew HO_200001.out)
      have n1_ := am13_ (Kd.R_drew HO_205001.out)
      have n2_ := am13_ (Kd.R_drew HO_211001.out)
      have n3_ := am13_ (blk_drew BK188.out)
      have n4_ := am13_ (blk_drew BK199.out)
      have n5_ := am13_ (blk_drew BK204.out)
      have n6_ := am13_ (blk_drew BK210.out)
      have n7_ := am13_ (below_drew1 HB.out)
      clear HO_200001
      clear HO_205001
      clear HO_211001
      clear BK188
      clear BK199
      clear BK204
      clear BK210
      clear HB
      have HO_200001 := n0_
      have HO_205001 := n1_
      have HO_211001 := n2_
      have BK188 := n3_
      have BK199 := n4_
      have BK204 := n5_
      have BK210 := n6_
      have HB := n7_
      clear n0_ n1_ n2_ n3_ n4_ n5_ n6_ n7_
      refine start_ (n := 5) (S := fun w' => w'.cell? ⟨gb204, 0, none⟩ = some (.int .i64 t200) ∧ w'.cell? ⟨gb204, 1, none⟩ = some (.slice Ao31 t201.length co31) ∧ w'.cell? ⟨gb188, 0, none⟩ = some (.int .i64 a0_0) ∧ w'.cell? ⟨gb188, 1, none⟩ = some (.slice A0_1 l0_1.length c0_1)) (ds := []) #[false, false, false, false, false] (by kernel_rfl) rfl rfl ⟨(blk_cell BK204.out 0).trans rfl, (blk_cell BK204.out 1).trans rfl, (blk_cell BK188.out 0).trans rfl, (blk_cell BK188.out 1).trans rfl⟩ (fun hHeld => ?_)
      generalize wc.drew = w55 at HO_200001 HO_205001 HO_211001 BK188 BK199 BK204 BK210 HB hHeld ⊢
      refine take_ (i := 0) (N := some 49) (v := ?_) (a' := ?_) #[true, false, false, false, false] rfl rfl (by kernel_rfl) (fun _ _ _ h => h) (Or.inl ⟨by rfl, ?_⟩) hHeld ?_ ?_
      rotate_left
      ·rintro w' ⟨s0, s1, s2, s3⟩
       go_simp
       with_reducible rfl
      rotate_left
      ·simp only [Act.put, List.setIfInBounds_toArray, List.set_cons_zero, List.set_cons_succ, i64_w, i32_w]
       rfl
      refine take_ (i := 1) (N := some 50) (v := ?_) (a' := ?_) #[true, true, false, false, false] rfl rfl (by kernel_rfl) (fun _ _ _ h => h) (Or.inl ⟨by rfl, ?_⟩) hHeld ?_ ?_
      rotate_left
      ·rintro w' ⟨s0, s1, s2, s3⟩
       go_simp
       with_reducible rfl
      rotate_left
      ·simp only [Act.put, List.setIfInBounds_toArray, List.set_cons_zero, List.set_cons_succ, i64_w, i32_w]
       rfl
      refine one_ (i := 2) (N := some 51) #[true, true, true, false, false] rfl rfl (by kernel_rfl) (by decide) (fun K hK => ?_)
      refine goes_ Try.func18 (by kernel_rfl) rfl #[.agg #[.int .i64 a0_0, .slice A0_1 l0_1.length c0_1]] (by rfl) rfl rfl lm13_ ?_
      with_reducible refine (laws_toBits.calls kj12 a0_0 _ _ l0_1 t212 t213 _ ?side1 ?side2 A50.out).mono ?_
      (case side1 => exact lc13_ (Kd.C_below HR0_1.out HB.out))
      (case side2 => exact HC0_1.out)
      rintro e w56 ⟨v214, rfl, ho0, hb⟩
      refine ⟨_, rfl, ?_⟩
      have n0_ := am13_ (Kd.R_elder' (lf13_ HO_200001) (Kd.R_base ho0) hb)
      have n1_ := am13_ (Kd.R_elder' (lf13_ HO_205001) (Kd.R_base ho0) hb)
      have n2_ := am13_ (Kd.R_elder' (lf13_ HO_211001) (Kd.R_base ho0) hb)
      have n3_ := am13_ (Kd.R_lower (Kd.R_new' (Kd.R_new' (Kd.R_new' ho0 (Kd.R_lt (lf13_ HO_200001))) (Kd.R_lt (lf13_ HO_205001))) (Kd.R_lt (lf13_ HO_211001))) (below_size (lw13_ HB)))
      have n4_ := am13_ (blk_below (g := gb188) (o := .cells #[.int .i64 a0_0, .slice A0_1 l0_1.length c0_1] 24 (0, 0)) (lb13_ BK188) hb)
      have n5_ := am13_ (blk_below (g := gb199) (o := .cells #[.int .i64 t194, .slice Ao24 t195.length co24] 26 (0, 0)) (lb13_ BK199) hb)
      have n6_ := am13_ (blk_below (g := gb204) (o := .cells #[.int .i64 t200, .slice Ao31 t201.length co31] 26 (0, 0)) (lb13_ BK204) hb)
      have n7_ := am13_ (blk_below (g := gb210) (o := .cells #[.int .i64 t205, .slice Ao38 t206.length co38] 26 (0, 0)) (lb13_ BK210) hb)
      have n8_ := am13_ (below_step (lw13_ HB) hb)
      clear HO_200001
      clear HO_205001
      clear HO_211001
      clear BK188
      clear BK199
      clear BK204
      clear BK210
      clear HB
      have HO_200001 := n0_
      have HO_205001 := n1_
      have HO_211001 := n2_
      have HO215 := n3_
      have BK188 := n4_
      have BK199 := n5_
      have BK204 := n6_
      have BK210 := n7_
      have HB := n8_
      clear n0_ n1_ n2_ n3_ n4_ n5_ n6_ n7_ n8_
      (try clear hb)
      (try clear hb2)
      (try clear hk)
      (try clear hi)
      (try clear ho0)
      obtain ⟨Ao57, co57, eo57⟩ := Kd.R_slice HO215.out
      (first | subst eo57 | (injection eo57 with f1_ f2_ f3_; have f4_ := f1_.symm; have f5_ := f3_.symm; clear f1_ f2_ f3_; subst f4_; subst f5_))
      refine hK.out _ _ ⟨(blk_cell BK204.out 0).trans rfl, (blk_cell BK204.out 1).trans rfl, (blk_cell BK188.out 0).trans rfl, (blk_cell BK188.out 1).trans rfl⟩ (fun hHeld => ?_)
      clear hK K
      refine norm_ (a' := ?_) ?_ ?_
      rotate_left
      ·show Act.put _ (some 51) _ = _
       simp only [Act.put, List.setIfInBounds_toArray, List.set_cons_zero, List.set_cons_succ, i64_w, i32_w]
       rfl
      refine one_ (i := 3) (N := some 52) #[true, true, true, true, false] rfl rfl (by kernel_rfl) (by decide) (fun K hK => ?_)
      refine goes_ Try.func20 (by kernel_rfl) rfl #[.agg #[.int .i64 t200, .slice Ao31 t201.length co31], .agg #[.int .i64 t212, .slice Ao57 t213.length co57]] (by rfl) rfl rfl lm13_ ?_
      with_reducible refine (laws_eqBits.calls kj12 t200 _ _ t201 t212 _ _ t213 true _ ?side1 ?side2 ?side3 ?side4 A51.out).mono ?_
      (case side1 => exact lc13_ (Kd.R_reads' HO_205001.out).2.2)
      (case side2 => exact (Kd.R_reads' HO_205001.out).2.1)
      (case side3 => exact lc13_ (Kd.R_reads' HO215.out).2.2)
      (case side4 => exact (Kd.R_reads' HO215.out).2.1)
      rintro e w58 ⟨rfl, hb⟩
      refine ⟨_, rfl, ?_⟩
      have n0_ := am13_ (Kd.R_below (lf13_ HO_200001) hb)
      have n1_ := am13_ (Kd.R_below (lf13_ HO_205001) hb)
      have n2_ := am13_ (Kd.R_below (lf13_ HO_211001) hb)
      have n3_ := am13_ (Kd.R_below (lf13_ HO215) hb)
      have n4_ := am13_ (blk_below (g := gb188) (o := .cells #[.int .i64 a0_0, .slice A0_1 l0_1.length c0_1] 24 (0, 0)) (lb13_ BK188) hb)
      have n5_ := am13_ (blk_below (g := gb199) (o := .cells #[.int .i64 t194, .slice Ao24 t195.length co24] 26 (0, 0)) (lb13_ BK199) hb)
      have n6_ := am13_ (blk_below (g := gb204) (o := .cells #[.int .i64 t200, .slice Ao31 t201.length co31] 26 (0, 0)) (lb13_ BK204) hb)
      have n7_ := am13_ (blk_below (g := gb210) (o := .cells #[.int .i64 t205, .slice Ao38 t206.length co38] 26 (0, 0)) (lb13_ BK210) hb)
      have n8_ := am13_ (below_step (lw13_ HB) hb)
      clear HO_200001
      clear HO_205001
      clear HO_211001
      clear HO215
      clear BK188
      clear BK199
      clear BK204
      clear BK210
      clear HB
      have HO_200001 := n0_
      have HO_205001 := n1_
      have HO_211001 := n2_
      have HO215 := n3_
      have BK188 := n4_
      have BK199 := n5_
      have BK204 := n6_
      have BK210 := n7_
      have HB := n8_
      clear n0_ n1_ n2_ n3_ n4_ n5_ n6_ n7_ n8_
      (try clear hb)
      (try clear hb2)
      (try clear hk)
      (try clear hi)
      refine hK.out _ _ ⟨(blk_cell BK204.out 0).trans rfl, (blk_cell BK204.out 1).trans rfl, (blk_cell BK188.out 0).trans rfl, (blk_cell BK188.out 1).trans rfl⟩ (fun hHeld => ?_)
      clear hK K
      refine norm_ (a' := ?_) ?_ ?_
      rotate_left
      ·show Act.put _ (some 52) _ = _
       simp only [Act.put, List.setIfInBounds_toArray, List.set_cons_zero, List.set_cons_succ, i64_w, i32_w]
       rfl
      refine pure_ (i := 4) (N := some 53) (v := ?_) (a' := ?_) #[true, true, true, true, true] rfl rfl (by kernel_rfl) (fun _ _ _ h => h) (Or.inl ⟨by rfl, ?_⟩) ?_ ?_
      rotate_left
      ·intro w'
       go_simp
       with_reducible rfl
      rotate_left
      ·simp only [Act.put, List.setIfInBounds_toArray, List.set_cons_zero, List.set_cons_succ, i64_w, i32_w]
       rfl
      refine done_ (by kernel_rfl) ?_
      have hnb59 := NB204_188.out
      have hnc59 := NB188_204.out
      have hnb60 := NB204_199.out
      have hnc60 := NB199_204.out
      have hnb61 := NB204_210.out
      have hnc61 := NB210_204.out
      have hcz62_0 : w58.cell? ⟨gb204, 0, none⟩ = some (.int .i64 t200) := (blk_cell BK204.out 0).trans rfl
      have hcz62_1 : w58.cell? ⟨gb204, 1, none⟩ = some (.slice Ao31 t201.length co31) := (blk_cell BK204.out 1).trans rfl
      have hfz62_0 := blk_frozen BK204.out 0
      have hfz62_1 := blk_frozen BK204.out 1
      go_upto_region 14 with (first | ((with_reducible refine gate_callee (f := 21) rfl ?_); refine goesL_ (some 56) rfl rfl Try.func21 (by kernel_rfl) rfl #[.agg #[.int .i64 t200, .slice Ao31 t201.length co31], .int .i64 1] rfl lm13_ ?_; (with_reducible refine (laws_markBits.calls kj12 t200 (fun k_ => some k_ = (.slice Ao31 t201.length co31 : Value).ownBlock) (.slice Ao31 t201.length co31) t201 1 t217 t218 w _ ?side1 ?side2 A53.out).mono ?_); (case side1 => repeat (first | (with_reducible first | exact HB.out | apply below_alloc | apply pw_below_drewN | apply below_drew1 | refine below_set ?_ GE188.out | refine below_set ?_ GE199.out | refine below_set ?_ GE204.out | refine below_set ?_ GE210.out) | exact HB.out)); (case side2 => exact Kd.R_tight rfl HO_205001.out); rintro e w63 ⟨rfl, hy0, hb, hkp⟩; refine ⟨_, rfl, ?_⟩; have n0_ := am13_ (Kd.R_mono (ok' := fun k_ => some k_ ≠ (.slice Ao31 t201.length co31 : Value).ownBlock ∧ some k_ ≠ (.slice Ao38 t206.length co38 : Value).ownBlock ∧ some k_ ≠ (.slice Ao57 t213.length co57 : Value).ownBlock) (Kd.R_keptB (HO_200001.out) hkp (fun k_ hk_ hs_ => (hk_.1.1) hs_)) (fun k_ hk_ => ⟨hk_.1.1.1, hk_.1.1.2, hk_.1.2⟩)); have n1_ := am13_ (Kd.R_reok rfl hy0 (fun k_ e_ => HO_205001.out.1 k_ e_)); have n2_ := am13_ (Kd.R_mono (ok' := fun k_ => some k_ ≠ (.slice Ao24 t195.length co24 : Value).ownBlock ∧ some k_ ≠ (.slice Ao31 t201.length co31 : Value).ownBlock ∧ some k_ ≠ (.slice Ao57 t213.length co57 : Value).ownBlock) (Kd.R_keptB (HO_211001.out) hkp (fun k_ hk_ hs_ => (hk_.1.2) hs_)) (fun k_ hk_ => ⟨hk_.1.1.1, hk_.1.1.2, hk_.1.2⟩)); have n3_ := am13_ (blk_kept (lb13_ BK188) hkp (fun hs_ => (fun e_ => (Kd.R_ne HO_205001.out BK188.out (by decide)) e_) hs_)); have n4_ := am13_ (blk_kept (lb13_ BK199) hkp (fun hs_ => (fun e_ => (Kd.R_ne HO_205001.out BK199.out (by decide)) e_) hs_)); have n5_ := am13_ (blk_kept (lb13_ BK204) hkp (fun hs_ => (fun e_ => (Kd.R_ne HO_205001.out BK204.out (by decide)) e_) hs_)); have n6_ := am13_ (blk_kept (lb13_ BK210) hkp (fun hs_ => (fun e_ => (Kd.R_ne HO_205001.out BK210.out (by decide)) e_) hs_)); have n7_ := am13_ (Kd.R_mono (ok' := fun k_ => some k_ ≠ (.slice Ao24 t195.length co24 : Value).ownBlock ∧ some k_ ≠ (.slice Ao31 t201.length co31 : Value).ownBlock ∧ some k_ ≠ (.slice Ao38 t206.length co38 : Value).ownBlock) (Kd.R_keptB (HO215.out) hkp (fun k_ hk_ hs_ => (hk_.1.2) hs_)) (fun k_ hk_ => ⟨hk_.1.1.1.2, hk_.1.1.2, hk_.1.2⟩)); have n8_ := am13_ (hb); clear HO_200001; clear HO_205001; clear HO_211001; clear BK188; clear BK199; clear BK204; clear BK210; clear HO215; clear HB; have HO_200001 := n0_; have HO_205001 := n1_; have HO_211001 := n2_; have BK188 := n3_; have BK199 := n4_; have BK204 := n5_; have BK210 := n6_; have HO215 := n7_; have HB := n8_; clear n0_ n1_ n2_ n3_ n4_ n5_ n6_ n7_ n8_; (try clear hb); (try clear hkp); (try clear hy0)))
      (try simp only [Act.put, List.setIfInBounds_toArray, List.set_cons_zero, List.set_cons_succ])
      go_cut [69] (fun v69 wc => ∃ (kq : Nat) (x69_53 : Bool), v69 = .bool x69_53 ∧ Aside0 (laws_FnExactCutBits.j1 kq a1 a2 t198 x69_53 a0_0 l0_1 t194 t195 t205 t206 = some r) ∧ Aside0 (kq ≤ kj12) ∧ Aside0 (Kd.R (Kd.int .i64) 3 wc w.heap.size (fun k_ => some k_ ≠ ((.slice Ao31 t201.length co31) : Value).ownBlock ∧ some k_ ≠ ((.slice Ao38 t206.length co38) : Value).ownBlock) (.slice Ao24 t195.length co24) t195) ∧ Aside0 (Kd.R (Kd.int .i64) 3 wc w.heap.size (fun k_ => some k_ ≠ ((.slice Ao24 t195.length co24) : Value).ownBlock ∧ some k_ ≠ ((.slice Ao38 t206.length co38) : Value).ownBlock) (.slice Ao31 t201.length co31) t218) ∧ Aside0 (Kd.R (Kd.int .i64) 3 wc w.heap.size (fun k_ => some k_ ≠ ((.slice Ao24 t195.length co24) : Value).ownBlock ∧ some k_ ≠ ((.slice Ao31 t201.length co31) : Value).ownBlock) (.slice Ao38 t206.length co38) t206) ∧ Aside0 (wc.heap[gb188]? = some (.cells #[.int .i64 a0_0, (.slice A0_1 l0_1.length c0_1)] 24 (0, 0))) ∧ Aside0 (wc.heap[gb199]? = some (.cells #[.int .i64 t194, (.slice Ao24 t195.length co24)] 26 (0, 0))) ∧ Aside0 (wc.heap[gb204]? = some (.cells #[.int .i64 t200, (.slice Ao31 t201.length co31)] 26 (0, 0))) ∧ Aside0 (wc.heap[gb210]? = some (.cells #[.int .i64 t205, (.slice Ao38 t206.length co38)] 26 (0, 0))) ∧ Aside0 (Below w.heap.size w wc))
      case first =>
       have H := HC54.out
       clear HC54
       by_cases c64 : t217 < 0
       ·rw [if_pos c64] at H
        exact absurd H (by simp)
       ·rw [if_neg c64] at H
        have c64b0 : decide (t217 < 0) = false := decide_eq_false c64
        clear c64
        (first | rw [c64b0] | (simp only [i64_w, i32_w]; rw [c64b0]) | skip)
        replace H := Option.bind_eq_some_iff.mp H
        obtain ⟨t219, A650, H⟩ := H
        replace H : (if t219 = true then (laws_FnExactCutBits.j1 kj12 a1 a2 t198 (t209 != t198) a0_0 l0_1 t194 t195 t205 t206) else (none)) = some r := H
        have A65 := am13_ A650
        clear A650
        by_cases c66 : t219 = true
        ·subst c66
         have H1 : (laws_FnExactCutBits.j1 kj12 a1 a2 t198 (t209 != t198) a0_0 l0_1 t194 t195 t205 t206) = some r := by rw [if_pos rfl] at H; exact H
         clear H
         have H := H1
         clear H1
         have H' := am13_ H
         clear H
         have hnb67 := NB210_188.out
         have hnc67 := NB188_210.out
         have hnb68 := NB210_199.out
         have hnc68 := NB199_210.out
         have hnb69 := NB210_204.out
         have hnc69 := NB204_210.out
         have hcz70_0 : w63.cell? ⟨gb210, 0, none⟩ = some (.int .i64 t205) := (blk_cell BK210.out 0).trans rfl
         have hcz70_1 : w63.cell? ⟨gb210, 1, none⟩ = some (.slice Ao38 t206.length co38) := (blk_cell BK210.out 1).trans rfl
         have hfz70_0 := blk_frozen BK210.out 0
         have hfz70_1 := blk_frozen BK210.out 1
         have hnb71 := NB199_188.out
         have hnc71 := NB188_199.out
         have hnb72 := NB199_204.out
         have hnc72 := NB204_199.out
         have hcz73_0 : w63.cell? ⟨gb199, 0, none⟩ = some (.int .i64 t194) := (blk_cell BK199.out 0).trans rfl
         have hcz73_1 : w63.cell? ⟨gb199, 1, none⟩ = some (.slice Ao24 t195.length co24) := (blk_cell BK199.out 1).trans rfl
         have hfz73_0 := blk_frozen BK199.out 0
         have hfz73_1 := blk_frozen BK199.out 1
         go_wp2_with (first | (go_at_call 20; (with_reducible refine (laws_eqBits.calls kj12 t205 _ _ t206 t194 _ _ t195 true _ ?side1 ?side2 ?side3 ?side4 A65.out).mono ?_); (case side1 => exact lc13_ (Kd.R_reads' HO_211001.out).2.2); (case side2 => exact (Kd.R_reads' HO_211001.out).2.1); (case side3 => exact lc13_ (Kd.R_reads' HO_200001.out).2.2); (case side4 => exact (Kd.R_reads' HO_200001.out).2.1); rintro e w74 ⟨rfl, hb⟩; have n0_ := am13_ (Kd.R_below (lf13_ HO_200001) hb); have n1_ := am13_ (Kd.R_below (lf13_ HO_205001) hb); have n2_ := am13_ (Kd.R_below (lf13_ HO_211001) hb); have n3_ := am13_ (Kd.R_below (lf13_ HO215) hb); have n4_ := am13_ (blk_below (g := gb188) (o := .cells #[.int .i64 a0_0, .slice A0_1 l0_1.length c0_1] 24 (0, 0)) (lb13_ BK188) hb); have n5_ := am13_ (blk_below (g := gb199) (o := .cells #[.int .i64 t194, .slice Ao24 t195.length co24] 26 (0, 0)) (lb13_ BK199) hb); have n6_ := am13_ (blk_below (g := gb204) (o := .cells #[.int .i64 t200, .slice Ao31 t201.length co31] 26 (0, 0)) (lb13_ BK204) hb); have n7_ := am13_ (blk_below (g := gb210) (o := .cells #[.int .i64 t205, .slice Ao38 t206.length co38] 26 (0, 0)) (lb13_ BK210) hb); have n8_ := am13_ (below_step (lw13_ HB) hb); clear HO_200001; clear HO_205001; clear HO_211001; clear HO215; clear BK188; clear BK199; clear BK204; clear BK210; clear HB; have HO_200001 := n0_; have HO_205001 := n1_; have HO_211001 := n2_; have HO215 := n3_; have BK188 := n4_; have BK199 := n5_; have BK204 := n6_; have BK210 := n7_; have HB := n8_; clear n0_ n1_ n2_ n3_ n4_ n5_ n6_ n7_ n8_; (try clear hb); (try clear hb2); (try clear hk); (try clear hi)))
         go_meet
         case rel => exact ⟨_, ((t209 != t198)), (by first | rfl | (simp; done) | (simp [*]; done)), H', ⟨by have := HJ12.out; first | omega | exact Nat.le_refl _⟩, ⟨by (with_reducible repeat (first | apply Kd.R_alloc | apply Kd.R_drewN | apply Kd.R_drew)); exact Kd.R_mono HO_200001.out (fun _ hk => ⟨hk.1, hk.2.1⟩)⟩, ⟨by (with_reducible repeat (first | apply Kd.R_alloc | apply Kd.R_drewN | apply Kd.R_drew)); exact Kd.R_mono HO_205001.out (fun _ hk => ⟨hk.1.1, hk.1.2⟩)⟩, ⟨by (with_reducible repeat (first | apply Kd.R_alloc | apply Kd.R_drewN | apply Kd.R_drew)); exact Kd.R_mono HO_211001.out (fun _ hk => ⟨hk.1, hk.2.1⟩)⟩, ⟨lb13_ BK188⟩, ⟨lb13_ BK199⟩, ⟨lb13_ BK204⟩, ⟨lb13_ BK210⟩, ⟨lw13_ HB⟩⟩
        ·replace c66 := Bool.eq_false_iff.mpr c66
         subst c66
         have H1 : (none) = some r := by rw [if_neg (show ¬ (false = true) by decide)] at H; exact H
         clear H
         have H := H1
         clear H1
         exact absurd H (by simp)
      case rest =>
       clear HC54
       try clear c1
       try clear c2
       try clear p2
       try clear c3
       try clear c4
       try clear c5
       try clear c5b0
       try clear c6
       try clear c7
       try clear c16
       try clear c18
       try clear c20
       try clear c21
       try clear c22
       try clear c23
       try clear c24
       try clear c28
       try clear c29
       try clear c34
       try clear c35
       try clear c36
       try clear c40
       try clear c41
       try clear c42
       try clear c43
       try clear c45
       try clear c46
       try clear c49
       try clear c52
       try clear c59
       try clear c60
       try clear c61
       try clear c64
       try clear c64b0
       try clear c66
       try clear c67
       try clear c68
       try clear c69
       try clear c71
       try clear c72
       try clear hcz15_0
       try clear hcz15_1
       try clear hcz17_0
       try clear hcz17_1
       try clear hcz23_0
       try clear hcz23_1
       try clear hcz25_0
       try clear hcz25_1
       try clear hcz30_0
       try clear hcz30_1
       try clear hcz37_0
       try clear hcz37_1
       try clear hcz44_0
       try clear hcz44_1
       try clear hcz47_0
       try clear hcz47_1
       try clear hcz62_0
       try clear hcz62_1
       try clear hcz70_0
       try clear hcz70_1
       try clear hcz73_0
       try clear hcz73_1
       try clear hcz7_0
       try clear hcz7_1
       try clear hfz15_0
       try clear hfz15_1
       try clear hfz17_0
       try clear hfz17_1
       try clear hfz23_0
       try clear hfz23_1
       try clear hfz25_0
       try clear hfz25_1
       try clear hfz30_0
       try clear hfz30_1
       try clear hfz37_0
       try clear hfz37_1
       try clear hfz44_0
       try clear hfz44_1
       try clear hfz47_0
       try clear hfz47_1
       try clear hfz62_0
       try clear hfz62_1
       try clear hfz70_0
       try clear hfz70_1
       try clear hfz73_0
       try clear hfz73_1
       try clear hfz7_0
       try clear hfz7_1
       try clear p2
       obtain ⟨kq, x69_53, rfl, HA, HJ53, HO_200001, HO_205001, HO_211001, BK188, BK199, BK204, BK210, HB⟩ := hcut
       have hl205001_53 := (Kd.R_reads' HO_205001.out).1
       rw [hl205001_53] at HO_205001
       (try simp only [hl205001_53])
       (try simp only [hl205001_53] at BK188)
       (try simp only [hl205001_53] at BK199)
       (try simp only [hl205001_53] at BK204)
       (try simp only [hl205001_53] at BK210)
       (try simp only [hl205001_53] at HO_200001)
       (try simp only [hl205001_53] at HO_211001)
       cases kq with
       | zero => exact absurd HA.out (by simp [laws_FnExactCutBits.j1])
       | succ kj53 =>
        have H := HA.out
        clear HA
        simp only [laws_FnExactCutBits.j1] at H
        by_cases c75 : x69_53 = true
        ·subst c75
         have H1 : (none) = some r := by rw [if_pos rfl] at H; exact H
         clear H
         have H := H1
         clear H1
         exact absurd H (by simp)
        ·replace c75 := Bool.eq_false_iff.mpr c75
         subst c75
         have H1 : ((laws_markBits.f kj53 t205 t206 1).bind fun bt220 => ((laws_heldBits.f kj53 t205 bt220.2 1).bind fun t222 => (if t222 < 0 then (none) else (if t222 = bt220.1 then ((laws_toBits.f kj53 a0_0 l0_1).bind fun bt223 => ((impl_CutBits.f kj53 bt223.1 bt223.2 a1 a2).bind fun bt227 => ((laws_eqBits.f kj53 bt227.1 bt227.2.1 t194 t195).bind fun t233 => (if t233 = true then (laws_FnExactCutBits.j2 kj53 bt220.1 (bt227.2.2 != t198) t205 bt220.2) else (none))))) else (none))))) = some r := by rw [if_neg (show ¬ (false = true) by decide)] at H; exact H
         clear H
         have H := H1
         clear H1
         replace H := Option.bind_eq_some_iff.mp H
         obtain ⟨⟨t220, t221⟩, A760, H⟩ := H
         replace H : ((laws_heldBits.f kj53 t205 t221 1).bind fun t222 => (if t222 < 0 then (none) else (if t222 = t220 then ((laws_toBits.f kj53 a0_0 l0_1).bind fun bt223 => ((impl_CutBits.f kj53 bt223.1 bt223.2 a1 a2).bind fun bt227 => ((laws_eqBits.f kj53 bt227.1 bt227.2.1 t194 t195).bind fun t233 => (if t233 = true then (laws_FnExactCutBits.j2 kj53 t220 (bt227.2.2 != t198) t205 t221) else (none))))) else (none)))) = some r := H
         have A76 := am13_ A760
         clear A760
         replace H := Option.bind_eq_some_iff.mp H
         obtain ⟨t222, A770, H⟩ := H
         replace H : (if t222 < 0 then (none) else (if t222 = t220 then ((laws_toBits.f kj53 a0_0 l0_1).bind fun bt223 => ((impl_CutBits.f kj53 bt223.1 bt223.2 a1 a2).bind fun bt227 => ((laws_eqBits.f kj53 bt227.1 bt227.2.1 t194 t195).bind fun t233 => (if t233 = true then (laws_FnExactCutBits.j2 kj53 t220 (bt227.2.2 != t198) t205 t221) else (none))))) else (none))) = some r := H
         have A77 := am13_ A770
         clear A770
         by_cases c78 : t222 < 0
         ·rw [if_pos c78] at H
          exact absurd H (by simp)
         ·rw [if_neg c78] at H
          have c78b0 : decide (t222 < 0) = false := decide_eq_false c78
          clear c78
          by_cases c79 : t222 = t220
          ·rw [if_pos c79] at H
           have c79b0 : (t222 == t220) = true := beq_iff_eq.mpr c79
           have c79b1 : (t222 != t220) = false := bne_eq_false_iff_eq.mpr c79
           clear c79
           replace H := Option.bind_eq_some_iff.mp H
           obtain ⟨⟨t223, t224⟩, A800, H⟩ := H
           replace H : ((impl_CutBits.f kj53 t223 t224 a1 a2).bind fun bt227 => ((laws_eqBits.f kj53 bt227.1 bt227.2.1 t194 t195).bind fun t233 => (if t233 = true then (laws_FnExactCutBits.j2 kj53 t220 (bt227.2.2 != t198) t205 t221) else (none)))) = some r := H
           have A80 := am13_ A800
           clear A800
           replace H := Option.bind_eq_some_iff.mp H
           obtain ⟨⟨t227, t228, t231⟩, A810, H⟩ := H
           replace H : ((laws_eqBits.f kj53 t227 t228 t194 t195).bind fun t233 => (if t233 = true then (laws_FnExactCutBits.j2 kj53 t220 (t231 != t198) t205 t221) else (none))) = some r := H
           have A81 := am13_ A810
           clear A810
           have HC82 := am13_ H
           clear H
           have hnb83 := NB210_188.out
           have hnc83 := NB188_210.out
           have hnb84 := NB210_199.out
           have hnc84 := NB199_210.out
           have hnb85 := NB210_204.out
           have hnc85 := NB204_210.out
           have hcz86_0 : wc.cell? ⟨gb210, 0, none⟩ = some (.int .i64 t205) := (blk_cell BK210.out 0).trans rfl
           have hcz86_1 : wc.cell? ⟨gb210, 1, none⟩ = some (.slice Ao38 t206.length co38) := (blk_cell BK210.out 1).trans rfl
           have hfz86_0 := blk_frozen BK210.out 0
           have hfz86_1 := blk_frozen BK210.out 1
           go_upto_region 25 with (first | ((with_reducible refine gate_callee (f := 21) rfl ?_); refine goesL_ (some 72) rfl rfl Try.func21 (by kernel_rfl) rfl #[.agg #[.int .i64 t205, .slice Ao38 t206.length co38], .int .i64 1] rfl lm13_ ?_; (with_reducible refine (laws_markBits.calls kj53 t205 (fun k_ => some k_ = (.slice Ao38 t206.length co38 : Value).ownBlock) (.slice Ao38 t206.length co38) t206 1 t220 t221 w _ ?side1 ?side2 A76.out).mono ?_); (case side1 => repeat (first | (with_reducible first | exact HB.out | apply below_alloc | apply pw_below_drewN | apply below_drew1 | refine below_set ?_ GE188.out | refine below_set ?_ GE199.out | refine below_set ?_ GE204.out | refine below_set ?_ GE210.out) | exact HB.out)); (case side2 => exact Kd.R_tight rfl HO_211001.out); rintro e w87 ⟨rfl, hy0, hb, hkp⟩; refine ⟨_, rfl, ?_⟩; have n0_ := am13_ (Kd.R_mono (ok' := fun k_ => some k_ ≠ (.slice Ao31 t218.length co31 : Value).ownBlock ∧ some k_ ≠ (.slice Ao38 t206.length co38 : Value).ownBlock) (Kd.R_keptB (HO_200001.out) hkp (fun k_ hk_ hs_ => (hk_.2) hs_)) (fun k_ hk_ => ⟨hk_.1.1, hk_.1.2⟩)); have n1_ := am13_ (Kd.R_mono (ok' := fun k_ => some k_ ≠ (.slice Ao24 t195.length co24 : Value).ownBlock ∧ some k_ ≠ (.slice Ao38 t206.length co38 : Value).ownBlock) (Kd.R_keptB (HO_205001.out) hkp (fun k_ hk_ hs_ => (hk_.2) hs_)) (fun k_ hk_ => ⟨hk_.1.1, hk_.1.2⟩)); have n2_ := am13_ (Kd.R_reok rfl hy0 (fun k_ e_ => HO_211001.out.1 k_ e_)); have n3_ := am13_ (blk_kept (lb13_ BK188) hkp (fun hs_ => (fun e_ => (Kd.R_ne HO_211001.out BK188.out (by decide)) e_) hs_)); have n4_ := am13_ (blk_kept (lb13_ BK199) hkp (fun hs_ => (fun e_ => (Kd.R_ne HO_211001.out BK199.out (by decide)) e_) hs_)); have n5_ := am13_ (blk_kept (lb13_ BK204) hkp (fun hs_ => (fun e_ => (Kd.R_ne HO_211001.out BK204.out (by decide)) e_) hs_)); have n6_ := am13_ (blk_kept (lb13_ BK210) hkp (fun hs_ => (fun e_ => (Kd.R_ne HO_211001.out BK210.out (by decide)) e_) hs_)); have n7_ := am13_ (hb); clear HO_200001; clear HO_205001; clear HO_211001; clear BK188; clear BK199; clear BK204; clear BK210; clear HB; have HO_200001 := n0_; have HO_205001 := n1_; have HO_211001 := n2_; have BK188 := n3_; have BK199 := n4_; have BK204 := n5_; have BK210 := n6_; have HB := n7_; clear n0_ n1_ n2_ n3_ n4_ n5_ n6_ n7_; (try clear hb); (try clear hkp); (try clear hy0); have hcz88_0 : w87.cell? ⟨gb210, 0, none⟩ = some (.int .i64 t205) := (blk_cell BK210.out 0).trans rfl; have hcz88_1 : w87.cell? ⟨gb210, 1, none⟩ = some (.slice Ao38 t206.length co38) := (blk_cell BK210.out 1).trans rfl; have hfz88_0 := blk_frozen BK210.out 0; have hfz88_1 := blk_frozen BK210.out 1) | ((with_reducible refine gate_callee (f := 22) rfl ?_); refine goesL_ (some 75) rfl rfl Try.func22 (by kernel_rfl) rfl #[.agg #[.int .i64 t205, .slice Ao38 t221.length co38], .int .i64 1] rfl (by (try simp only [List.map_toArray, List.map_cons, List.map_nil]); first | done | (rw [show t221.length = t206.length from (Kd.R_reads' HO_211001.out).1.symm] <;> rfl) | rfl | (simp only [List.length_drop, List.length_take]; rfl)) ?_; (with_reducible refine (laws_heldBits.calls kj53 t205 _ _ t221 1 t222 _ ?side1 ?side2 A77.out).mono ?_); (case side1 => exact lc13_ (Kd.R_reads' HO_211001.out).2.2); (case side2 => rw [show t221.length = t206.length from (Kd.R_reads' HO_211001.out).1.symm]; exact (Kd.R_reads' HO_211001.out).2.1); rintro e w89 ⟨rfl, hb⟩; refine ⟨_, rfl, ?_⟩; have n0_ := am13_ (Kd.R_below (lf13_ HO_200001) hb); have n1_ := am13_ (Kd.R_below (lf13_ HO_205001) hb); have n2_ := am13_ (Kd.R_below (lf13_ HO_211001) hb); have n3_ := am13_ (blk_below (g := gb188) (o := .cells #[.int .i64 a0_0, .slice A0_1 l0_1.length c0_1] 24 (0, 0)) (lb13_ BK188) hb); have n4_ := am13_ (blk_below (g := gb199) (o := .cells #[.int .i64 t194, .slice Ao24 t195.length co24] 26 (0, 0)) (lb13_ BK199) hb); have n5_ := am13_ (blk_below (g := gb204) (o := .cells #[.int .i64 t200, .slice Ao31 t218.length co31] 26 (0, 0)) (lb13_ BK204) hb); have n6_ := am13_ (blk_below (g := gb210) (o := .cells #[.int .i64 t205, .slice Ao38 t206.length co38] 26 (0, 0)) (lb13_ BK210) hb); have n7_ := am13_ (below_step (lw13_ HB) hb); clear HO_200001; clear HO_205001; clear HO_211001; clear BK188; clear BK199; clear BK204; clear BK210; clear HB; have HO_200001 := n0_; have HO_205001 := n1_; have HO_211001 := n2_; have BK188 := n3_; have BK199 := n4_; have BK204 := n5_; have BK210 := n6_; have HB := n7_; clear n0_ n1_ n2_ n3_ n4_ n5_ n6_ n7_; (try clear hb); (try clear hb2); (try clear hk); (try clear hi); have hnb90 := NB188_199.out; have hnc90 := NB199_188.out; have hnb91 := NB188_204.out; have hnc91 := NB204_188.out; have hcz92_0 : w89.cell? ⟨gb188, 0, none⟩ = some (.int .i64 a0_0) := (blk_cell BK188.out 0).trans rfl; have hcz92_1 : w89.cell? ⟨gb188, 1, none⟩ = some (.slice A0_1 l0_1.length c0_1) := (blk_cell BK188.out 1).trans rfl; have hfz92_0 := blk_frozen BK188.out 0; have hfz92_1 := blk_frozen BK188.out 1) | ((with_reducible refine gate_callee (f := 18) rfl ?_); refine goesL_ (some 83) rfl rfl Try.func18 (by kernel_rfl) rfl #[.agg #[.int .i64 a0_0, .slice A0_1 l0_1.length c0_1]] rfl lm13_ ?_; (with_reducible refine (laws_toBits.calls kj53 a0_0 _ _ l0_1 t223 t224 _ ?side1 ?side2 A80.out).mono ?_); (case side1 => exact lc13_ (Kd.C_below HR0_1.out HB.out)); (case side2 => exact HC0_1.out); rintro e w93 ⟨v225, rfl, ho0, hb⟩; refine ⟨_, rfl, ?_⟩; have n0_ := am13_ (Kd.R_elder' (lf13_ HO_200001) (Kd.R_base ho0) hb); have n1_ := am13_ (Kd.R_elder' (lf13_ HO_205001) (Kd.R_base ho0) hb); have n2_ := am13_ (Kd.R_elder' (lf13_ HO_211001) (Kd.R_base ho0) hb); have n3_ := am13_ (Kd.R_lower (Kd.R_new' (Kd.R_new' (Kd.R_new' ho0 (Kd.R_lt (lf13_ HO_200001))) (Kd.R_lt (lf13_ HO_205001))) (Kd.R_lt (lf13_ HO_211001))) (below_size (lw13_ HB))); have n4_ := am13_ (blk_below (g := gb188) (o := .cells #[.int .i64 a0_0, .slice A0_1 l0_1.length c0_1] 24 (0, 0)) (lb13_ BK188) hb); have n5_ := am13_ (blk_below (g := gb199) (o := .cells #[.int .i64 t194, .slice Ao24 t195.length co24] 26 (0, 0)) (lb13_ BK199) hb); have n6_ := am13_ (blk_below (g := gb204) (o := .cells #[.int .i64 t200, .slice Ao31 t218.length co31] 26 (0, 0)) (lb13_ BK204) hb); have n7_ := am13_ (blk_below (g := gb210) (o := .cells #[.int .i64 t205, .slice Ao38 t206.length co38] 26 (0, 0)) (lb13_ BK210) hb); have n8_ := am13_ (below_step (lw13_ HB) hb); clear HO_200001; clear HO_205001; clear HO_211001; clear BK188; clear BK199; clear BK204; clear BK210; clear HB; have HO_200001 := n0_; have HO_205001 := n1_; have HO_211001 := n2_; have HO226 := n3_; have BK188 := n4_; have BK199 := n5_; have BK204 := n6_; have BK210 := n7_; have HB := n8_; clear n0_ n1_ n2_ n3_ n4_ n5_ n6_ n7_ n8_; (try clear hb); (try clear hb2); (try clear hk); (try clear hi); (try clear ho0); obtain ⟨Ao94, co94, eo94⟩ := Kd.R_slice HO226.out; subst eo94) | ((with_reducible refine gate_callee (f := 24) rfl ?_); refine goesL_ (some 86) rfl rfl Try.func24 (by kernel_rfl) rfl #[.agg #[.int .i64 t223, .slice Ao94 t224.length co94], .int .i64 a1, .int .i64 a2] rfl lm13_ ?_; (with_reducible refine (impl_CutBits.calls kj53 t223 _ _ t224 a1 a2 t227 t228 t231 _ ?side1 ?side2 A81.out).mono ?_); (case side1 => exact lc13_ (Kd.R_reads' HO226.out).2.2); (case side2 => exact (Kd.R_reads' HO226.out).2.1); rintro e w95 ⟨v229, rfl, ho0, hb⟩; refine ⟨_, rfl, ?_⟩; have n0_ := am13_ (Kd.R_elder' (lf13_ HO_200001) (Kd.R_base ho0) hb); have n1_ := am13_ (Kd.R_elder' (lf13_ HO_205001) (Kd.R_base ho0) hb); have n2_ := am13_ (Kd.R_elder' (lf13_ HO_211001) (Kd.R_base ho0) hb); have n3_ := am13_ (Kd.R_elder' (lf13_ HO226) (Kd.R_base ho0) hb); have n4_ := am13_ (Kd.R_lower (Kd.R_new' (Kd.R_new' (Kd.R_new' (Kd.R_new' ho0 (Kd.R_lt (lf13_ HO_200001))) (Kd.R_lt (lf13_ HO_205001))) (Kd.R_lt (lf13_ HO_211001))) (Kd.R_lt (lf13_ HO226))) (below_size (lw13_ HB))); have n5_ := am13_ (blk_below (g := gb188) (o := .cells #[.int .i64 a0_0, .slice A0_1 l0_1.length c0_1] 24 (0, 0)) (lb13_ BK188) hb); have n6_ := am13_ (blk_below (g := gb199) (o := .cells #[.int .i64 t194, .slice Ao24 t195.length co24] 26 (0, 0)) (lb13_ BK199) hb); have n7_ := am13_ (blk_below (g := gb204) (o := .cells #[.int .i64 t200, .slice Ao31 t218.length co31] 26 (0, 0)) (lb13_ BK204) hb); have n8_ := am13_ (blk_below (g := gb210) (o := .cells #[.int .i64 t205, .slice Ao38 t206.length co38] 26 (0, 0)) (lb13_ BK210) hb); have n9_ := am13_ (below_step (lw13_ HB) hb); clear HO_200001; clear HO_205001; clear HO_211001; clear HO226; clear BK188; clear BK199; clear BK204; clear BK210; clear HB; have HO_200001 := n0_; have HO_205001 := n1_; have HO_211001 := n2_; have HO226 := n3_; have HO230 := n4_; have BK188 := n5_; have BK199 := n6_; have BK204 := n7_; have BK210 := n8_; have HB := n9_; clear n0_ n1_ n2_ n3_ n4_ n5_ n6_ n7_ n8_ n9_; (try clear hb); (try clear hb2); (try clear hk); (try clear hi); (try clear ho0)) | ((with_reducible refine gate_dst (N := 16) rfl ?_); refine box_event ?hg (N := 16) ?hd (cs := #[.int .i64 0, .slice none 0 0]) (t := 26) ?hr ?_; (case hd => rfl); (case hg => rfl); (case hr => first | (go_simp; done) | (go_simp; rfl)); intro gb232 hg w96 hbox hb; have n0_ := am13_ (Kd.R_below (lf13_ HO_200001) hb); have n1_ := am13_ (Kd.R_below (lf13_ HO_205001) hb); have n2_ := am13_ (Kd.R_below (lf13_ HO_211001) hb); have n3_ := am13_ (Kd.R_below (lf13_ HO226) hb); have n4_ := am13_ (Kd.R_below (lf13_ HO230) hb); have n5_ := am13_ (blk_below (g := gb188) (o := .cells #[.int .i64 a0_0, .slice A0_1 l0_1.length c0_1] 24 (0, 0)) (lb13_ BK188) hb); have n6_ := am13_ (blk_below (g := gb199) (o := .cells #[.int .i64 t194, .slice Ao24 t195.length co24] 26 (0, 0)) (lb13_ BK199) hb); have n7_ := am13_ (blk_below (g := gb204) (o := .cells #[.int .i64 t200, .slice Ao31 t218.length co31] 26 (0, 0)) (lb13_ BK204) hb); have n8_ := am13_ (blk_below (g := gb210) (o := .cells #[.int .i64 t205, .slice Ao38 t206.length co38] 26 (0, 0)) (lb13_ BK210) hb); have n9_ := am13_ (below_step (lw13_ HB) hb); have n10_ := am13_ (hbox); have n11_ := am13_ ((by rw [hg]; exact (below_size (lw13_ HB)) : w.heap.size ≤ gb232)); have n12_ := am13_ ((by rw [hg]; exact (below_size (lw13_ HB)) : w.heap.size ≤ gb232)); have n13_ := am13_ ((by rw [hg]; exact Nat.ne_of_lt (blk_lt (g := gb188) (lb13_ BK188)) : gb188 ≠ gb232)); have n14_ := am13_ ((by rw [hg]; exact Nat.ne_of_gt (blk_lt (g := gb188) (lb13_ BK188)) : gb232 ≠ gb188)); have n15_ := am13_ ((by rw [hg]; exact Nat.ne_of_lt (blk_lt (g := gb199) (lb13_ BK199)) : gb199 ≠ gb232)); have n16_ := am13_ ((by rw [hg]; exact Nat.ne_of_gt (blk_lt (g := gb199) (lb13_ BK199)) : gb232 ≠ gb199)); have n17_ := am13_ ((by rw [hg]; exact Nat.ne_of_lt (blk_lt (g := gb204) (lb13_ BK204)) : gb204 ≠ gb232)); have n18_ := am13_ ((by rw [hg]; exact Nat.ne_of_gt (blk_lt (g := gb204) (lb13_ BK204)) : gb232 ≠ gb204)); have n19_ := am13_ ((by rw [hg]; exact Nat.ne_of_lt (blk_lt (g := gb210) (lb13_ BK210)) : gb210 ≠ gb232)); have n20_ := am13_ ((by rw [hg]; exact Nat.ne_of_gt (blk_lt (g := gb210) (lb13_ BK210)) : gb232 ≠ gb210)); clear HO_200001; clear HO_205001; clear HO_211001; clear HO226; clear HO230; clear BK188; clear BK199; clear BK204; clear BK210; clear HB; have HO_200001 := n0_; have HO_205001 := n1_; have HO_211001 := n2_; have HO226 := n3_; have HO230 := n4_; have BK188 := n5_; have BK199 := n6_; have BK204 := n7_; have BK210 := n8_; have HB := n9_; have BK232 := n10_; have GW232 := n11_; have GE232 := n12_; have NB188_232 := n13_; have NB232_188 := n14_; have NB199_232 := n15_; have NB232_199 := n16_; have NB204_232 := n17_; have NB232_204 := n18_; have NB210_232 := n19_; have NB232_210 := n20_; clear n0_ n1_ n2_ n3_ n4_ n5_ n6_ n7_ n8_ n9_ n10_ n11_ n12_ n13_ n14_ n15_ n16_ n17_ n18_ n19_ n20_; clear hb hbox hg; have hnb97 := NB232_188.out; have hnc97 := NB188_232.out; have hnb98 := NB232_199.out; have hnc98 := NB199_232.out; have hnb99 := NB232_204.out; have hnc99 := NB204_232.out; have hnb100 := NB232_210.out; have hnc100 := NB210_232.out; have hcz101_0 : w96.cell? ⟨gb232, 0, none⟩ = some (.int .i64 0) := (blk_cell BK232.out 0).trans rfl; have hcz101_1 : w96.cell? ⟨gb232, 1, none⟩ = some (.slice none 0 0) := (blk_cell BK232.out 1).trans rfl; have hfz101_0 := blk_frozen BK232.out 0; have hfz101_1 := blk_frozen BK232.out 1; obtain ⟨Ao102, co102, eo102⟩ := Kd.R_slice HO230.out; subst eo102))
           (try simp only [Act.put, List.setIfInBounds_toArray, List.set_cons_zero, List.set_cons_succ])
           go_cut [97] (fun v97 wc => ∃ (kq : Nat) (x97_81 : Bool), v97 = .bool x97_81 ∧ Aside0 (laws_FnExactCutBits.j2 kq t220 x97_81 t205 t221 = some r) ∧ Aside0 (kq ≤ kj53) ∧ Aside0 (Kd.R (Kd.int .i64) 3 wc w.heap.size (fun k_ => some k_ ≠ ((.slice Ao31 t218.length co31) : Value).ownBlock ∧ some k_ ≠ ((.slice Ao38 t206.length co38) : Value).ownBlock ∧ some k_ ≠ ((.slice Ao102 t228.length co102) : Value).ownBlock) (.slice Ao24 t195.length co24) t195) ∧ Aside0 (Kd.R (Kd.int .i64) 3 wc w.heap.size (fun k_ => some k_ ≠ ((.slice Ao24 t195.length co24) : Value).ownBlock ∧ some k_ ≠ ((.slice Ao38 t206.length co38) : Value).ownBlock ∧ some k_ ≠ ((.slice Ao102 t228.length co102) : Value).ownBlock) (.slice Ao31 t218.length co31) t218) ∧ Aside0 (Kd.R (Kd.int .i64) 3 wc w.heap.size (fun k_ => some k_ ≠ ((.slice Ao24 t195.length co24) : Value).ownBlock ∧ some k_ ≠ ((.slice Ao31 t218.length co31) : Value).ownBlock ∧ some k_ ≠ ((.slice Ao102 t228.length co102) : Value).ownBlock) (.slice Ao38 t206.length co38) t221) ∧ Aside0 (Kd.R (Kd.int .i64) 3 wc w.heap.size (fun k_ => some k_ ≠ ((.slice Ao24 t195.length co24) : Value).ownBlock ∧ some k_ ≠ ((.slice Ao31 t218.length co31) : Value).ownBlock ∧ some k_ ≠ ((.slice Ao38 t206.length co38) : Value).ownBlock) (.slice Ao102 t228.length co102) t228) ∧ Aside0 (wc.heap[gb188]? = some (.cells #[.int .i64 a0_0, (.slice A0_1 l0_1.length c0_1)] 24 (0, 0))) ∧ Aside0 (wc.heap[gb199]? = some (.cells #[.int .i64 t194, (.slice Ao24 t195.length co24)] 26 (0, 0))) ∧ Aside0 (wc.heap[gb204]? = some (.cells #[.int .i64 t200, (.slice Ao31 t218.length co31)] 26 (0, 0))) ∧ Aside0 (wc.heap[gb210]? = some (.cells #[.int .i64 t205, (.slice Ao38 t206.length co38)] 26 (0, 0))) ∧ Aside0 (wc.heap[gb232]? = some (.cells #[.int .i64 t227, (.slice Ao102 t228.length co102)] 26 (0, 0))) ∧ Aside0 (Below w.heap.size w wc))
           case first =>
            have H := HC82.out
            clear HC82
            replace H := Option.bind_eq_some_iff.mp H
            obtain ⟨t233, A1030, H⟩ := H
            replace H : (if t233 = true then (laws_FnExactCutBits.j2 kj53 t220 (t231 != t198) t205 t221) else (none)) = some r := H
            have A103 := am13_ A1030
            clear A1030
            by_cases c104 : t233 = true
            ·subst c104
             have H1 : (laws_FnExactCutBits.j2 kj53 t220 (t231 != t198) t205 t221) = some r := by rw [if_pos rfl] at H; exact H
             clear H
             have H := H1
             clear H1
             have H' := am13_ H
             clear H
             have hnb105 := NB232_188.out
             have hnc105 := NB188_232.out
             have hnb106 := NB232_199.out
             have hnc106 := NB199_232.out
             have hnb107 := NB232_204.out
             have hnc107 := NB204_232.out
             have hnb108 := NB232_210.out
             have hnc108 := NB210_232.out
             have hcz109_0 : w96.cell? ⟨gb232, 0, none⟩ = some (.int .i64 0) := (blk_cell BK232.out 0).trans rfl
             have hcz109_1 : w96.cell? ⟨gb232, 1, none⟩ = some (.slice none 0 0) := (blk_cell BK232.out 1).trans rfl
             have hfz109_0 := blk_frozen BK232.out 0
             have hfz109_1 := blk_frozen BK232.out 1
             have hnb110 := NB199_188.out
             have hnc110 := NB188_199.out
             have hnb111 := NB199_204.out
             have hnc111 := NB204_199.out
             have hnb112 := NB199_210.out
             have hnc112 := NB210_199.out
             have hcz113_0 : w96.cell? ⟨gb199, 0, none⟩ = some (.int .i64 t194) := (blk_cell BK199.out 0).trans rfl
             have hcz113_1 : w96.cell? ⟨gb199, 1, none⟩ = some (.slice Ao24 t195.length co24) := (blk_cell BK199.out 1).trans rfl
             have hfz113_0 := blk_frozen BK199.out 0
             have hfz113_1 := blk_frozen BK199.out 1
             go_wp2_with (first | ((with_reducible refine gate_callee (f := 20) rfl ?_); refine goesL_ (some 91) rfl rfl Try.func20 (by kernel_rfl) rfl #[.agg #[.int .i64 t227, .slice Ao102 t228.length co102], .agg #[.int .i64 t194, .slice Ao24 t195.length co24]] rfl lm13_ ?_; (with_reducible refine (laws_eqBits.calls kj53 t227 _ _ t228 t194 _ _ t195 true _ ?side1 ?side2 ?side3 ?side4 A103.out).mono ?_); (case side1 => refine (Kd.R_reads' (e := 3) (base := w.heap.size) (ok := fun k_ => ((((True ∧ some k_ ≠ (.slice Ao24 t195.length co24 : Value).ownBlock) ∧ some k_ ≠ (.slice Ao31 t218.length co31 : Value).ownBlock) ∧ some k_ ≠ (.slice Ao38 t206.length co38 : Value).ownBlock) ∧ some k_ ≠ (.slice Ao94 t224.length co94 : Value).ownBlock)) (n := t228.length) (c := co102) ?_).2.2; exact (lt13_ (Kd.R_mono (Kd.R_far (p := ⟨gb232, 1, none⟩) (Kd.R_far (p := ⟨gb232, 0, none⟩) (Kd.R_types HO230.out BK232.out (by decide)) (fun _ hk => hk.2) (.int .i64 t227)) (fun _ hk => hk.2) (.slice Ao102 t228.length co102)) (fun _ h_ => h_.1)))); (case side2 => exact (Kd.R_reads' HO230.out).2.1); (case side3 => refine (Kd.R_reads' (e := 3) (base := w.heap.size) (ok := fun k_ => (((some k_ ≠ (.slice Ao31 t218.length co31 : Value).ownBlock ∧ some k_ ≠ (.slice Ao38 t206.length co38 : Value).ownBlock) ∧ some k_ ≠ (.slice Ao94 t224.length co94 : Value).ownBlock) ∧ some k_ ≠ (.slice Ao102 t228.length co102 : Value).ownBlock)) (n := t195.length) (c := co24) ?_).2.2; exact (lt13_ (Kd.R_mono (Kd.R_far (p := ⟨gb232, 1, none⟩) (Kd.R_far (p := ⟨gb232, 0, none⟩) (Kd.R_types HO_200001.out BK232.out (by decide)) (fun _ hk => hk.2) (.int .i64 t227)) (fun _ hk => hk.2) (.slice Ao102 t228.length co102)) (fun _ h_ => h_.1)))); (case side4 => exact (Kd.R_reads' HO_200001.out).2.1); rintro e w114 ⟨rfl, hb⟩; refine ⟨_, rfl, ?_⟩; have n0_ := am13_ (Kd.R_below (lt13_ (Kd.R_mono (Kd.R_far (p := ⟨gb232, 1, none⟩) (Kd.R_far (p := ⟨gb232, 0, none⟩) (Kd.R_types HO_200001.out BK232.out (by decide)) (fun _ hk => hk.2) (.int .i64 t227)) (fun _ hk => hk.2) (.slice Ao102 t228.length co102)) (fun _ h_ => h_.1))) hb); have n1_ := am13_ (Kd.R_below (lt13_ (Kd.R_mono (Kd.R_far (p := ⟨gb232, 1, none⟩) (Kd.R_far (p := ⟨gb232, 0, none⟩) (Kd.R_types HO_205001.out BK232.out (by decide)) (fun _ hk => hk.2) (.int .i64 t227)) (fun _ hk => hk.2) (.slice Ao102 t228.length co102)) (fun _ h_ => h_.1))) hb); have n2_ := am13_ (Kd.R_below (lt13_ (Kd.R_mono (Kd.R_far (p := ⟨gb232, 1, none⟩) (Kd.R_far (p := ⟨gb232, 0, none⟩) (Kd.R_types HO_211001.out BK232.out (by decide)) (fun _ hk => hk.2) (.int .i64 t227)) (fun _ hk => hk.2) (.slice Ao102 t228.length co102)) (fun _ h_ => h_.1))) hb); have n3_ := am13_ (Kd.R_below (lt13_ (Kd.R_mono (Kd.R_far (p := ⟨gb232, 1, none⟩) (Kd.R_far (p := ⟨gb232, 0, none⟩) (Kd.R_types HO226.out BK232.out (by decide)) (fun _ hk => hk.2) (.int .i64 t227)) (fun _ hk => hk.2) (.slice Ao102 t228.length co102)) (fun _ h_ => h_.1))) hb); have n4_ := am13_ (Kd.R_below (lt13_ (Kd.R_mono (Kd.R_far (p := ⟨gb232, 1, none⟩) (Kd.R_far (p := ⟨gb232, 0, none⟩) (Kd.R_types HO230.out BK232.out (by decide)) (fun _ hk => hk.2) (.int .i64 t227)) (fun _ hk => hk.2) (.slice Ao102 t228.length co102)) (fun _ h_ => h_.1))) hb); have n5_ := am13_ (blk_below (g := gb188) (o := .cells #[.int .i64 a0_0, .slice A0_1 l0_1.length c0_1] 24 (0, 0)) (by (with_reducible repeat (first | refine blk_drewN ?_ _ | refine blk_drew ?_ | refine blk_alloc ?_ _)); refine blk_far ?_ NB188_232.out _; (with_reducible repeat (first | refine blk_drewN ?_ _ | refine blk_drew ?_ | refine blk_alloc ?_ _)); refine blk_far ?_ NB188_232.out _; (with_reducible repeat (first | refine blk_drewN ?_ _ | refine blk_drew ?_ | refine blk_alloc ?_ _)); exact BK188.out) hb); have n6_ := am13_ (blk_below (g := gb199) (o := .cells #[.int .i64 t194, .slice Ao24 t195.length co24] 26 (0, 0)) (by (with_reducible repeat (first | refine blk_drewN ?_ _ | refine blk_drew ?_ | refine blk_alloc ?_ _)); refine blk_far ?_ NB199_232.out _; (with_reducible repeat (first | refine blk_drewN ?_ _ | refine blk_drew ?_ | refine blk_alloc ?_ _)); refine blk_far ?_ NB199_232.out _; (with_reducible repeat (first | refine blk_drewN ?_ _ | refine blk_drew ?_ | refine blk_alloc ?_ _)); exact BK199.out) hb); have n7_ := am13_ (blk_below (g := gb204) (o := .cells #[.int .i64 t200, .slice Ao31 t218.length co31] 26 (0, 0)) (by (with_reducible repeat (first | refine blk_drewN ?_ _ | refine blk_drew ?_ | refine blk_alloc ?_ _)); refine blk_far ?_ NB204_232.out _; (with_reducible repeat (first | refine blk_drewN ?_ _ | refine blk_drew ?_ | refine blk_alloc ?_ _)); refine blk_far ?_ NB204_232.out _; (with_reducible repeat (first | refine blk_drewN ?_ _ | refine blk_drew ?_ | refine blk_alloc ?_ _)); exact BK204.out) hb); have n8_ := am13_ (blk_below (g := gb210) (o := .cells #[.int .i64 t205, .slice Ao38 t206.length co38] 26 (0, 0)) (by (with_reducible repeat (first | refine blk_drewN ?_ _ | refine blk_drew ?_ | refine blk_alloc ?_ _)); refine blk_far ?_ NB210_232.out _; (with_reducible repeat (first | refine blk_drewN ?_ _ | refine blk_drew ?_ | refine blk_alloc ?_ _)); refine blk_far ?_ NB210_232.out _; (with_reducible repeat (first | refine blk_drewN ?_ _ | refine blk_drew ?_ | refine blk_alloc ?_ _)); exact BK210.out) hb); have n9_ := am13_ (blk_below (g := gb232) (o := .cells #[.int .i64 t227, .slice Ao102 t228.length co102] 26 (0, 0)) (by (with_reducible repeat (first | refine blk_drewN ?_ _ | refine blk_drew ?_ | refine blk_alloc ?_ _)); refine blk_put (cs := #[.int .i64 t227, .slice none 0 0]) ?_ 1 _ rfl; (with_reducible repeat (first | refine blk_drewN ?_ _ | refine blk_drew ?_ | refine blk_alloc ?_ _)); refine blk_put (cs := #[.int .i64 0, .slice none 0 0]) ?_ 0 _ rfl; (with_reducible repeat (first | refine blk_drewN ?_ _ | refine blk_drew ?_ | refine blk_alloc ?_ _)); exact BK232.out) hb); have n10_ := am13_ (below_step (lw13_ HB) hb); clear HO_200001; clear HO_205001; clear HO_211001; clear HO226; clear HO230; clear BK188; clear BK199; clear BK204; clear BK210; clear BK232; clear HB; have HO_200001 := n0_; have HO_205001 := n1_; have HO_211001 := n2_; have HO226 := n3_; have HO230 := n4_; have BK188 := n5_; have BK199 := n6_; have BK204 := n7_; have BK210 := n8_; have BK232 := n9_; have HB := n10_; clear n0_ n1_ n2_ n3_ n4_ n5_ n6_ n7_ n8_ n9_ n10_; (try clear hb); (try clear hb2); (try clear hk); (try clear hi)))
             go_meet
             case rel => exact ⟨_, ((t231 != t198)), (by first | rfl | (simp; done) | (simp [*]; done)), H', ⟨by have := HJ12.out; have := HJ53.out; first | omega | exact Nat.le_refl _⟩, ⟨by (try simp only [hl205001_53]); (with_reducible repeat (first | apply Kd.R_alloc | apply Kd.R_drewN | apply Kd.R_drew)); exact Kd.R_mono HO_200001.out (fun _ hk => ⟨hk.1.1.1, ⟨hk.1.1.2, hk.2⟩⟩)⟩, ⟨by (try simp only [hl205001_53]); (with_reducible repeat (first | apply Kd.R_alloc | apply Kd.R_drewN | apply Kd.R_drew)); exact Kd.R_mono HO_205001.out (fun _ hk => ⟨hk.1.1.1, ⟨hk.1.1.2, hk.2⟩⟩)⟩, ⟨by (try simp only [hl205001_53]); (with_reducible repeat (first | apply Kd.R_alloc | apply Kd.R_drewN | apply Kd.R_drew)); exact Kd.R_mono HO_211001.out (fun _ hk => ⟨hk.1.1.1, ⟨hk.1.1.2, hk.2⟩⟩)⟩, ⟨by (try simp only [hl205001_53]); (with_reducible repeat (first | apply Kd.R_alloc | apply Kd.R_drewN | apply Kd.R_drew)); exact Kd.R_mono HO230.out (fun _ hk => ⟨hk.1.1.1.2, ⟨hk.1.1.2, hk.1.2⟩⟩)⟩, ⟨by (try simp only [hl205001_53]); (with_reducible repeat (first | refine blk_drewN ?_ _ | refine blk_drew ?_ | refine blk_alloc ?_ _)); exact BK188.out⟩, ⟨by (try simp only [hl205001_53]); (with_reducible repeat (first | refine blk_drewN ?_ _ | refine blk_drew ?_ | refine blk_alloc ?_ _)); exact BK199.out⟩, ⟨by (try simp only [hl205001_53]); (with_reducible repeat (first | refine blk_drewN ?_ _ | refine blk_drew ?_ | refine blk_alloc ?_ _)); exact BK204.out⟩, ⟨by (try simp only [hl205001_53]); (with_reducible repeat (first | refine blk_drewN ?_ _ | refine blk_drew ?_ | refine blk_alloc ?_ _)); exact BK210.out⟩, ⟨by (try simp only [hl205001_53]); (with_reducible repeat (first | refine blk_drewN ?_ _ | refine blk_drew ?_ | refine blk_alloc ?_ _)); exact BK232.out⟩, ⟨lw13_ HB⟩⟩
            ·replace c104 := Bool.eq_false_iff.mpr c104
             subst c104
             have H1 : (none) = some r := by rw [if_neg (show ¬ (false = true) by decide)] at H; exact H
             clear H
             have H := H1
             clear H1
             exact absurd H (by simp)
           case rest =>
            clear HC82
            try clear c1
            try clear c2
            try clear p2
            try clear c3
            try clear c4
            try clear c5
            try clear c5b0
            try clear c6
            try clear c7
            try clear c8
            try clear c9
            try clear c10
            try clear c11
            try clear c16
            try clear c18
            try clear c20
            try clear c21
            try clear c22
            try clear c23
            try clear c24
            try clear c28
            try clear c29
            try clear c34
            try clear c35
            try clear c36
            try clear c40
            try clear c41
            try clear c42
            try clear c43
            try clear c45
            try clear c46
            try clear c49
            try clear c52
            try clear c59
            try clear c60
            try clear c61
            try clear c64
            try clear c64b0
            try clear c66
            try clear c67
            try clear c68
            try clear c69
            try clear c71
            try clear c72
            try clear c75
            try clear c78
            try clear c78b0
            try clear c79
            try clear c79b0
            try clear c79b1
            try clear c83
            try clear c84
            try clear c85
            try clear c90
            try clear c91
            try clear c97
            try clear c98
            try clear c99
            try clear c100
            try clear c104
            try clear c105
            try clear c106
            try clear c107
            try clear c108
            try clear c110
            try clear c111
            try clear c112
            try clear hcz101_0
            try clear hcz101_1
            try clear hcz109_0
            try clear hcz109_1
            try clear hcz113_0
            try clear hcz113_1
            try clear hcz15_0
            try clear hcz15_1
            try clear hcz17_0
            try clear hcz17_1
            try clear hcz23_0
            try clear hcz23_1
            try clear hcz25_0
            try clear hcz25_1
            try clear hcz30_0
            try clear hcz30_1
            try clear hcz37_0
            try clear hcz37_1
            try clear hcz44_0
            try clear hcz44_1
            try clear hcz47_0
            try clear hcz47_1
            try clear hcz62_0
            try clear hcz62_1
            try clear hcz70_0
            try clear hcz70_1
            try clear hcz73_0
            try clear hcz73_1
            try clear hcz7_0
            try clear hcz7_1
            try clear hcz86_0
            try clear hcz86_1
            try clear hcz88_0
            try clear hcz88_1
            try clear hcz92_0
            try clear hcz92_1
            try clear hfz101_0
            try clear hfz101_1
            try clear hfz109_0
            try clear hfz109_1
            try clear hfz113_0
            try clear hfz113_1
            try clear hfz15_0
            try clear hfz15_1
            try clear hfz17_0
            try clear hfz17_1
            try clear hfz23_0
            try clear hfz23_1
            try clear hfz25_0
            try clear hfz25_1
            try clear hfz30_0
            try clear hfz30_1
            try clear hfz37_0
            try clear hfz37_1
            try clear hfz44_0
            try clear hfz44_1
            try clear hfz47_0
            try clear hfz47_1
            try clear hfz62_0
            try clear hfz62_1
            try clear hfz70_0
            try clear hfz70_1
            try clear hfz73_0
            try clear hfz73_1
            try clear hfz7_0
            try clear hfz7_1
            try clear hfz86_0
            try clear hfz86_1
            try clear hfz88_0
            try clear hfz88_1
            try clear hfz92_0
            try clear hfz92_1
            try clear p2
            obtain ⟨kq, x97_81, rfl, HA, HJ81, HO_200001, HO_205001, HO_211001, HO_233001, BK188, BK199, BK204, BK210, BK232, HB⟩ := hcut
            have hl211001_81 := (Kd.R_reads' HO_211001.out).1
            rw [hl211001_81] at HO_211001
            (try simp only [hl211001_81])
            (try simp only [hl211001_81] at BK188)
            (try simp only [hl211001_81] at BK199)
            (try simp only [hl211001_81] at BK204)
            (try simp only [hl211001_81] at BK210)
            (try simp only [hl211001_81] at BK232)
            (try simp only [hl211001_81] at HO_200001)
            (try simp only [hl211001_81] at HO_205001)
            (try simp only [hl211001_81] at HO_233001)
            cases kq with
            | zero => exact absurd HA.out (by simp [laws_FnExactCutBits.j2])
            | succ kj81 =>
             have H := HA.out
             clear HA
             simp only [laws_FnExactCutBits.j2] at H
             by_cases c115 : x97_81 = true
             ·subst c115
              have H1 : (none) = some r := by rw [if_pos rfl] at H; exact H
              clear H
              have H := H1
              clear H1
              exact absurd H (by simp)
             ·replace c115 := Bool.eq_false_iff.mpr c115
              subst c115
              have H1 : ((laws_heldBits.f kj81 t205 t221 1).bind fun t234 => (if t234 < 0 then (none) else (if t234 = t220 then (some true) else (none)))) = some r := by rw [if_neg (show ¬ (false = true) by decide)] at H; exact H
              clear H
              have H := H1
              clear H1
              replace H := Option.bind_eq_some_iff.mp H
              obtain ⟨t234, A1160, H⟩ := H
              replace H : (if t234 < 0 then (none) else (if t234 = t220 then (some true) else (none))) = some r := H
              have A116 := am13_ A1160
              clear A1160
              by_cases c117 : t234 < 0
              ·rw [if_pos c117] at H
               exact absurd H (by simp)
              ·rw [if_neg c117] at H
               have c117b0 : decide (t234 < 0) = false := decide_eq_false c117
               clear c117
               by_cases c118 : t234 = t220
               ·rw [if_pos c118] at H
                have c118b0 : (t234 == t220) = true := beq_iff_eq.mpr c118
                have c118b1 : (t234 != t220) = false := bne_eq_false_iff_eq.mpr c118
                clear c118
                obtain rfl := Option.some.inj H
                have hnb119 := NB210_188.out
                have hnc119 := NB188_210.out
                have hnb120 := NB210_199.out
                have hnc120 := NB199_210.out
                have hnb121 := NB210_204.out
                have hnc121 := NB204_210.out
                have hnb122 := NB210_232.out
                have hnc122 := NB232_210.out
                have hcz123_0 : wc.cell? ⟨gb210, 0, none⟩ = some (.int .i64 t205) := (blk_cell BK210.out 0).trans rfl
                have hcz123_1 : wc.cell? ⟨gb210, 1, none⟩ = some (.slice Ao38 t221.length co38) := (blk_cell BK210.out 1).trans rfl
                have hfz123_0 := blk_frozen BK210.out 0
                have hfz123_1 := blk_frozen BK210.out 1
                go_wp2_with (first | ((with_reducible refine gate_callee (f := 22) rfl ?_); refine goesL_ (some 100) rfl rfl Try.func22 (by kernel_rfl) rfl #[.agg #[.int .i64 t205, .slice Ao38 t221.length co38], .int .i64 1] rfl lm13_ ?_; (with_reducible refine (laws_heldBits.calls kj81 t205 _ _ t221 1 t234 _ ?side1 ?side2 A116.out).mono ?_); (case side1 => exact lc13_ (Kd.R_reads' HO_211001.out).2.2); (case side2 => exact (Kd.R_reads' HO_211001.out).2.1); rintro e w124 ⟨rfl, hb⟩; refine ⟨_, rfl, ?_⟩; have n0_ := am13_ (Kd.R_below (lf13_ HO_200001) hb); have n1_ := am13_ (Kd.R_below (lf13_ HO_205001) hb); have n2_ := am13_ (Kd.R_below (lf13_ HO_211001) hb); have n3_ := am13_ (Kd.R_below (lf13_ HO_233001) hb); have n4_ := am13_ (blk_below (g := gb188) (o := .cells #[.int .i64 a0_0, .slice A0_1 l0_1.length c0_1] 24 (0, 0)) (lb13_ BK188) hb); have n5_ := am13_ (blk_below (g := gb199) (o := .cells #[.int .i64 t194, .slice Ao24 t195.length co24] 26 (0, 0)) (lb13_ BK199) hb); have n6_ := am13_ (blk_below (g := gb204) (o := .cells #[.int .i64 t200, .slice Ao31 t218.length co31] 26 (0, 0)) (lb13_ BK204) hb); have n7_ := am13_ (blk_below (g := gb210) (o := .cells #[.int .i64 t205, .slice Ao38 t221.length co38] 26 (0, 0)) (lb13_ BK210) hb); have n8_ := am13_ (blk_below (g := gb232) (o := .cells #[.int .i64 t227, .slice Ao102 t228.length co102] 26 (0, 0)) (lb13_ BK232) hb); have n9_ := am13_ (below_step (lw13_ HB) hb); clear HO_200001; clear HO_205001; clear HO_211001; clear HO_233001; clear BK188; clear BK199; clear BK204; clear BK210; clear BK232; clear HB; have HO_200001 := n0_; have HO_205001 := n1_; have HO_211001 := n2_; have HO_233001 := n3_; have BK188 := n4_; have BK199 := n5_; have BK204 := n6_; have BK210 := n7_; have BK232 := n8_; have HB := n9_; clear n0_ n1_ n2_ n3_ n4_ n5_ n6_ n7_ n8_ n9_; (try clear hb); (try clear hb2); (try clear hk); (try clear hi)))
                go_ret
                exact ⟨by first | rfl | (simp [errW_none, errW_some] <;> rfl) | (simp [*, errW_none, errW_some] <;> rfl), lw13_ HB⟩
               ·rw [if_neg c118] at H
                exact absurd H (by simp)
          ·rw [if_neg c79] at H
           exact absurd H (by simp)
     ·replace c52 := Bool.eq_false_iff.mpr c52
      subst c52
      have H1 : (none) = some r := by rw [if_neg (show ¬ (false = true) by decide)] at H; exact H
      clear H
      have H := H1
      clear H1
      exact absurd H (by simp)

/-- The plain statement of laws_FnExactCutBits. -/
def laws_FnExactCutBits.Pure : Prop := ∀ (a0_0 : Int) (l0_1 : List Int) (a1 : Int) (a2 : Int), (Lit.int .i64 a0_0).wf = true → l0_1.length ≤ maxLen → (∀ x ∈ l0_1, (Lit.int .i64 x).wf = true) → (Lit.int .i64 a1).wf = true → (Lit.int .i64 a2).wf = true → ∃ k, laws_FnExactCutBits.f k a0_0 l0_1 a1 a2 = some true

end Go.Proofs.Ytkmhjgejficclaa.PFnExactCutBits
