-- Laid by a program of this session: the print of the kit with additions of ours (wip/tools/patchprint.py). Nothing of it is trusted: Lean checks it.
import Derived.Test.YtkmhjgejficclaaPFnExactJoinBitsx0
import Derived.Test.YtkmhjgejficclaaPFnExactJoinBitsx1
import Derived.Test.YtkmhjgejficclaaPFnExactJoinBitsx3
import Derived.Test.YtkmhjgejficclaaPFnExactJoinBitsx5
namespace Go.Proofs.Ytkmhjgejficclaa.PFnExactJoinBits
open Go.RowKit Go.Proofs.YtkmhjgejficclaaW.PrintWords Go.Proofs.YtkmhjgejficclaaW.PrintLast Go.Proofs.YtkmhjgejficclaaW.PrintMore
attribute [local go_sem] max2_int min2_int max_two min_two max_three min_three max_four min_four   -- for this text's walks alone
set_option linter.unusedVariables false
set_option linter.unusedSimpArgs false

theorem am12_ {p : Prop} (h : p) : Aside0 p := ⟨h⟩
theorem lm12_ {P : Prop} (h : P := by (try simp only [List.map_toArray, List.map_cons, List.map_nil]); first | done | rfl | (simp only [List.length_drop, List.length_take]; rfl)) : P := h
theorem lc12_ {P Q : Prop} (h : P) (f : P → Q := by intro h_; repeat (first | exact h_ | (with_reducible refine Kd.C_alloc ?_ _) | (with_reducible refine Kd.C_drewN ?_ _) | (with_reducible refine Kd.C_drew ?_))) : Q := f h
theorem lt12_ {P Q : Prop} (h : P) (f : P → Q := by intro h_; (with_reducible repeat (first | apply Kd.R_alloc | apply Kd.R_drewN | apply Kd.R_drew)); exact h_) : Q := f h
theorem lf12_ {P Q : Prop} (h : Aside0 P) (f : P → Q := by intro h_; (with_reducible repeat (first | apply Kd.R_alloc | apply Kd.R_drewN | apply Kd.R_drew)); exact h_) : Q := f h.out
theorem lb12_ {P Q : Prop} (h : Aside0 P) (f : P → Q := by intro h_; (with_reducible repeat (first | refine blk_drewN ?_ _ | refine blk_drew ?_ | refine blk_alloc ?_ _)); exact h_) : Q := f h.out
theorem lw12_ {P Q : Prop} (h : Aside0 P) (f : P → Q := by intro h_; repeat (first | (with_reducible first | exact h_ | apply below_alloc | apply pw_below_drewN | apply below_drew1 | refine below_set ?_ (Aside0.out (by assumption))) | exact h_)) : Q := f h.out
/-! ### laws_FnExactJoinBits: function 5 -/
mutual
def laws_FnExactJoinBits.j0 : Nat → Bool → Bool → Bool → Int → List Int → Int → List Int → Int → List Int → Int → List Int → Int → List Int → Int → List Int → Option (Bool)
 | 0, _, _, _, _, _, _, _, _, _, _, _, _, _, _, _ => none
 | k + 1, x7, x11, x53, x198000, x198001, x199000, x199001, x215000, x215001, x220000, x220001, x225000, x225001, x231000, x231001 => if x53 = true then (none) else ((laws_toBits.f k x198000 x198001).bind fun bt232 => ((laws_eqBits.f k x220000 x220001 bt232.1 bt232.2).bind fun t236 => (if t236 = true then ((laws_toBits.f k x199000 x199001).bind fun bt237 => ((laws_eqBits.f k x225000 x225001 bt237.1 bt237.2).bind fun t241 => (if t241 = true then ((laws_markBits.f k x220000 x220001 1).bind fun bt242 => ((laws_markBits.f k x225000 x225001 bt242.1).bind fun bt244 => (if bt244.1 < 0 then (none) else ((laws_eqBits.f k x231000 x231001 x215000 x215001).bind fun t246 => (if t246 = true then (laws_FnExactJoinBits.j1 k x7 (x11 != x7) x198000 x198001 x199000 x199001 x215000 x215001 x231000 x231001) else (none)))))) else (none)))) else (none))))
def laws_FnExactJoinBits.j1 : Nat → Bool → Bool → Int → List Int → Int → List Int → Int → List Int → Int → List Int → Option (Bool)
 | 0, _, _, _, _, _, _, _, _, _, _ => none
 | k + 1, x7, x82, x198000, x198001, x199000, x199001, x215000, x215001, x231000, x231001 => if x82 = true then (none) else ((laws_markBits.f k x231000 x231001 1).bind fun bt247 => ((laws_heldBits.f k x231000 bt247.2 1).bind fun t249 => (if t249 < 0 then (none) else (if t249 = bt247.1 then ((laws_toBits.f k x198000 x198001).bind fun bt250 => ((laws_toBits.f k x199000 x199001).bind fun bt254 => ((impl_JoinBits.f k bt250.1 bt250.2 bt254.1 bt254.2).bind fun bt258 => ((laws_eqBits.f k bt258.1 bt258.2.1 x215000 x215001).bind fun t264 => (if t264 = true then (laws_FnExactJoinBits.j2 k bt247.1 (bt258.2.2 != x7) x231000 bt247.2) else (none)))))) else (none)))))
def laws_FnExactJoinBits.j2 : Nat → Int → Bool → Int → List Int → Option (Bool)
 | 0, _, _, _, _ => none
 | k + 1, x13, x110, x231000, x231001 => if x110 = true then (none) else ((laws_heldBits.f k x231000 x231001 1).bind fun t265 => (if t265 < 0 then (none) else (if t265 = x13 then (some true) else (none))))
end
def laws_FnExactJoinBits.f (k : Nat) (a0_0 : Int) (l0_1 : List Int) (a1_0 : Int) (l1_1 : List Int) : Option (Bool) := (laws_szBits.f a0_0 l0_1 1048576).bind fun t199 => (if t199 < 0 then (some true) else ((laws_szBits.f a1_0 l1_1 t199).bind fun t200 => (if t200 < 0 then (some true) else ((laws_toBits.f k a0_0 l0_1).bind fun bt201 => ((laws_toBits.f k a1_0 l1_1).bind fun bt205 => ((spec_JoinBits.f k bt201.1 bt201.2 bt205.1 bt205.2).bind fun bt209 => ((laws_toBits.f k a0_0 l0_1).bind fun bt215 => ((laws_toBits.f k a1_0 l1_1).bind fun bt220 => ((impl_JoinBits.f k bt215.1 bt215.2 bt220.1 bt220.2).bind fun bt225 => ((laws_eqBits.f k bt225.1 bt225.2.1 bt209.1 bt209.2.1).bind fun t231 => (if t231 = true then (laws_FnExactJoinBits.j0 k bt209.2.2 bt225.2.2 (bt225.2.2 != bt209.2.2) a0_0 l0_1 a1_0 l1_1 bt209.1 bt209.2.1 bt215.1 bt215.2 bt220.1 bt220.2 bt225.1 bt225.2.1) else (none))))))))))))
theorem laws_FnExactJoinBits.mono_l : ∀ k, (∀ y0 y1 y2 y3 y4 y5 y6 y7 y8 y9 y10 y11 y12 y13 y14, LeO (laws_FnExactJoinBits.j0 k y0 y1 y2 y3 y4 y5 y6 y7 y8 y9 y10 y11 y12 y13 y14) (laws_FnExactJoinBits.j0 (k + 1) y0 y1 y2 y3 y4 y5 y6 y7 y8 y9 y10 y11 y12 y13 y14)) ∧ (∀ y0 y1 y2 y3 y4 y5 y6 y7 y8 y9, LeO (laws_FnExactJoinBits.j1 k y0 y1 y2 y3 y4 y5 y6 y7 y8 y9) (laws_FnExactJoinBits.j1 (k + 1) y0 y1 y2 y3 y4 y5 y6 y7 y8 y9)) ∧ (∀ y0 y1 y2 y3, LeO (laws_FnExactJoinBits.j2 k y0 y1 y2 y3) (laws_FnExactJoinBits.j2 (k + 1) y0 y1 y2 y3))
 | 0 => ⟨fun _ _ _ _ _ _ _ _ _ _ _ _ _ _ _ r h => by simp [laws_FnExactJoinBits.j0] at h, fun _ _ _ _ _ _ _ _ _ _ r h => by simp [laws_FnExactJoinBits.j1] at h, fun _ _ _ _ r h => by simp [laws_FnExactJoinBits.j2] at h⟩
 | k + 1 => by
  obtain ⟨ih0, ih1, ih2⟩ := laws_FnExactJoinBits.mono_l k
  refine ⟨?_, ?_, ?_⟩
  ·intro y0 y1 y2 y3 y4 y5 y6 y7 y8 y9 y10 y11 y12 y13 y14
   unfold laws_FnExactJoinBits.j0
   repeat' first
   | (with_reducible exact ih0 _ _ _ _ _ _ _ _ _ _ _ _ _ _ _)
   | (with_reducible exact ih1 _ _ _ _ _ _ _ _ _ _)
   | (with_reducible exact ih2 _ _ _ _)
   | (with_reducible exact impl_JoinBits.mono _ _ _ _ _)
   | (with_reducible exact laws_eqBits.mono _ _ _ _ _)
   | (with_reducible exact laws_heldBits.mono _ _ _ _)
   | (with_reducible exact laws_markBits.mono _ _ _ _)
   | (with_reducible exact laws_toBits.mono _ _ _)
   | (with_reducible exact spec_JoinBits.mono _ _ _ _ _)
   | (with_reducible exact LeO.refl _)
   | (with_reducible exact LeO.none _)
   | (with_reducible refine LeO.ite ?_ ?_)
   | (with_reducible refine LeO.bind ?_ (fun _ => ?_))
   | exact ih0 _ _ _ _ _ _ _ _ _ _ _ _ _ _ _
   | exact ih1 _ _ _ _ _ _ _ _ _ _
   | exact ih2 _ _ _ _
   | exact impl_JoinBits.mono _ _ _ _ _
   | exact laws_eqBits.mono _ _ _ _ _
   | exact laws_heldBits.mono _ _ _ _
   | exact laws_markBits.mono _ _ _ _
   | exact laws_toBits.mono _ _ _
   | exact spec_JoinBits.mono _ _ _ _ _
   | exact LeO.none _
   | refine LeO.ite ?_ ?_
   | refine LeO.bind ?_ (fun _ => ?_)
  ·intro y0 y1 y2 y3 y4 y5 y6 y7 y8 y9
   unfold laws_FnExactJoinBits.j1
   repeat' first
   | (with_reducible exact ih0 _ _ _ _ _ _ _ _ _ _ _ _ _ _ _)
   | (with_reducible exact ih1 _ _ _ _ _ _ _ _ _ _)
   | (with_reducible exact ih2 _ _ _ _)
   | (with_reducible exact impl_JoinBits.mono _ _ _ _ _)
   | (with_reducible exact laws_eqBits.mono _ _ _ _ _)
   | (with_reducible exact laws_heldBits.mono _ _ _ _)
   | (with_reducible exact laws_markBits.mono _ _ _ _)
   | (with_reducible exact laws_toBits.mono _ _ _)
   | (with_reducible exact spec_JoinBits.mono _ _ _ _ _)
   | (with_reducible exact LeO.refl _)
   | (with_reducible exact LeO.none _)
   | (with_reducible refine LeO.ite ?_ ?_)
   | (with_reducible refine LeO.bind ?_ (fun _ => ?_))
   | exact ih0 _ _ _ _ _ _ _ _ _ _ _ _ _ _ _
   | exact ih1 _ _ _ _ _ _ _ _ _ _
   | exact ih2 _ _ _ _
   | exact impl_JoinBits.mono _ _ _ _ _
   | exact laws_eqBits.mono _ _ _ _ _
   | exact laws_heldBits.mono _ _ _ _
   | exact laws_markBits.mono _ _ _ _
   | exact laws_toBits.mono _ _ _
   | exact spec_JoinBits.mono _ _ _ _ _
   | exact LeO.none _
   | refine LeO.ite ?_ ?_
   | refine LeO.bind ?_ (fun _ => ?_)
  ·intro y0 y1 y2 y3
   unfold laws_FnExactJoinBits.j2
   repeat' first
   | (with_reducible exact ih0 _ _ _ _ _ _ _ _ _ _ _ _ _ _ _)
   | (with_reducible exact ih1 _ _ _ _ _ _ _ _ _ _)
   | (with_reducible exact ih2 _ _ _ _)
   | (with_reducible exact impl_JoinBits.mono _ _ _ _ _)
   | (with_reducible exact laws_eqBits.mono _ _ _ _ _)
   | (with_reducible exact laws_heldBits.mono _ _ _ _)
   | (with_reducible exact laws_markBits.mono _ _ _ _)
   | (with_reducible exact laws_toBits.mono _ _ _)
   | (with_reducible exact spec_JoinBits.mono _ _ _ _ _)
   | (with_reducible exact LeO.refl _)
   | (with_reducible exact LeO.none _)
   | (with_reducible refine LeO.ite ?_ ?_)
   | (with_reducible refine LeO.bind ?_ (fun _ => ?_))
   | exact ih0 _ _ _ _ _ _ _ _ _ _ _ _ _ _ _
   | exact ih1 _ _ _ _ _ _ _ _ _ _
   | exact ih2 _ _ _ _
   | exact impl_JoinBits.mono _ _ _ _ _
   | exact laws_eqBits.mono _ _ _ _ _
   | exact laws_heldBits.mono _ _ _ _
   | exact laws_markBits.mono _ _ _ _
   | exact laws_toBits.mono _ _ _
   | exact spec_JoinBits.mono _ _ _ _ _
   | exact LeO.none _
   | refine LeO.ite ?_ ?_
   | refine LeO.bind ?_ (fun _ => ?_)
theorem laws_FnExactJoinBits.mono : ∀ a0 a1 a2 a3 k, LeO (laws_FnExactJoinBits.f k a0 a1 a2 a3) (laws_FnExactJoinBits.f (k + 1) a0 a1 a2 a3) := by
 intro a0 a1 a2 a3 k
 obtain ⟨ih0, ih1, ih2⟩ := laws_FnExactJoinBits.mono_l k
 unfold laws_FnExactJoinBits.f
 repeat' first
   | (with_reducible exact ih0 _ _ _ _ _ _ _ _ _ _ _ _ _ _ _)
   | (with_reducible exact ih1 _ _ _ _ _ _ _ _ _ _)
   | (with_reducible exact ih2 _ _ _ _)
   | (with_reducible exact impl_JoinBits.mono _ _ _ _ _)
   | (with_reducible exact laws_eqBits.mono _ _ _ _ _)
   | (with_reducible exact laws_heldBits.mono _ _ _ _)
   | (with_reducible exact laws_markBits.mono _ _ _ _)
   | (with_reducible exact laws_toBits.mono _ _ _)
   | (with_reducible exact spec_JoinBits.mono _ _ _ _ _)
   | (with_reducible exact LeO.refl _)
   | (with_reducible exact LeO.none _)
   | (with_reducible refine LeO.ite ?_ ?_)
   | (with_reducible refine LeO.bind ?_ (fun _ => ?_))
   | exact ih0 _ _ _ _ _ _ _ _ _ _ _ _ _ _ _
   | exact ih1 _ _ _ _ _ _ _ _ _ _
   | exact ih2 _ _ _ _
   | exact impl_JoinBits.mono _ _ _ _ _
   | exact laws_eqBits.mono _ _ _ _ _
   | exact laws_heldBits.mono _ _ _ _
   | exact laws_markBits.mono _ _ _ _
   | exact laws_toBits.mono _ _ _
   | exact spec_JoinBits.mono _ _ _ _ _
   | exact LeO.none _
   | refine LeO.ite ?_ ?_
   | refine LeO.bind ?_ (fun _ => ?_)
def laws_FnExactJoinBits.T8 : Bool × List (List Nat × List Nat) := (true, [([], []), ([0], [0]), ([], []), ([2, 1], [2]), ([1, 3, 3], [1, 3]), ([4], [4]), ([5], [5]), ([5], [5]), ([], []), ([8, 6, 4, 0, 1, 2, 3, 4, 5, 6, 8], [6, 8]), ([7, 9, 0, 1, 2, 3, 4, 5, 6, 7, 8, 9], [7])])
def laws_FnExactJoinBits.B8 : List Nat := [0, 1, 0, 7, 15, 31, 63, 63, 0, 383, 1023]
theorem laws_FnExactJoinBits.tab8 : rtab .any (opsOf Try.f5 8) = laws_FnExactJoinBits.T8 := by kernel_rfl
theorem laws_FnExactJoinBits.bits8 : waitsOk laws_FnExactJoinBits.T8.2 laws_FnExactJoinBits.B8 = true := by kernel_rfl
def laws_FnExactJoinBits.T31 : Bool × List (List Nat × List Nat) := (true, [([], []), ([0], [0]), ([], []), ([2, 1], [2]), ([1, 3, 3], [1, 3]), ([4], [4]), ([5], [5]), ([5], [5]), ([], []), ([8, 6, 4, 0, 1, 2, 3, 4, 5, 6, 8], [6, 8]), ([7, 9, 0, 1, 2, 3, 4, 5, 6, 7, 8, 9], [7])])
def laws_FnExactJoinBits.B31 : List Nat := [0, 1, 0, 7, 15, 31, 63, 63, 0, 383, 1023]
theorem laws_FnExactJoinBits.tab31 : rtab .any (opsOf Try.f5 31) = laws_FnExactJoinBits.T31 := by kernel_rfl
theorem laws_FnExactJoinBits.bits31 : waitsOk laws_FnExactJoinBits.T31.2 laws_FnExactJoinBits.B31 = true := by kernel_rfl
set_option maxHeartbeats 8000000 in
set_option maxRecDepth 100000 in
theorem laws_FnExactJoinBits.calls (k : Nat) (a0_0 : Int) (A0_1 : Option Addr) (c0_1 : Nat) (l0_1 : List Int) (a1_0 : Int) (A1_1 : Option Addr) (c1_1 : Nat) (l1_1 : List Int) (r : Bool) (w : World) (hr0_1 : Kd.C (Kd.int .i64) w A0_1 l0_1.length l0_1) (hc0_1 : l0_1.length ≤ c0_1) (hr1_1 : Kd.C (Kd.int .i64) w A1_1 l1_1.length l1_1) (hc1_1 : l1_1.length ≤ c1_1) (h : laws_FnExactJoinBits.f k a0_0 l0_1 a1_0 l1_1 = some r) :
  Calls Try.prog 5 #[.agg #[.int .i64 a0_0, .slice A0_1 l0_1.length c0_1], .agg #[.int .i64 a1_0, .slice A1_1 l1_1.length c1_1]] w fun e w' => e = .returned (.bool r) ∧ Below w.heap.size w w' := by
 have hu24 := Try.underlying24
 have hu26 := Try.underlying26
 have HR0_1 := am12_ hr0_1
 have HC0_1 := am12_ hc0_1
 clear hr0_1 hc0_1
 have HR1_1 := am12_ hr1_1
 have HC1_1 := am12_ hc1_1
 clear hr1_1 hc1_1
 have HB := am12_ (Below.refl w.heap.size w)
 have H : ((laws_szBits.f a0_0 l0_1 1048576).bind fun t199 => (if t199 < 0 then (some true) else ((laws_szBits.f a1_0 l1_1 t199).bind fun t200 => (if t200 < 0 then (some true) else ((laws_toBits.f k a0_0 l0_1).bind fun bt201 => ((laws_toBits.f k a1_0 l1_1).bind fun bt205 => ((spec_JoinBits.f k bt201.1 bt201.2 bt205.1 bt205.2).bind fun bt209 => ((laws_toBits.f k a0_0 l0_1).bind fun bt215 => ((laws_toBits.f k a1_0 l1_1).bind fun bt220 => ((impl_JoinBits.f k bt215.1 bt215.2 bt220.1 bt220.2).bind fun bt225 => ((laws_eqBits.f k bt225.1 bt225.2.1 bt209.1 bt209.2.1).bind fun t231 => (if t231 = true then (laws_FnExactJoinBits.j0 k bt209.2.2 bt225.2.2 (bt225.2.2 != bt209.2.2) a0_0 l0_1 a1_0 l1_1 bt209.1 bt209.2.1 bt215.1 bt215.2 bt220.1 bt220.2 bt225.1 bt225.2.1) else (none))))))))))))) = some r := h
 clear h
 replace H := Option.bind_eq_some_iff.mp H
 obtain ⟨t199, A30, H⟩ := H
 replace H : (if t199 < 0 then (some true) else ((laws_szBits.f a1_0 l1_1 t199).bind fun t200 => (if t200 < 0 then (some true) else ((laws_toBits.f k a0_0 l0_1).bind fun bt201 => ((laws_toBits.f k a1_0 l1_1).bind fun bt205 => ((spec_JoinBits.f k bt201.1 bt201.2 bt205.1 bt205.2).bind fun bt209 => ((laws_toBits.f k a0_0 l0_1).bind fun bt215 => ((laws_toBits.f k a1_0 l1_1).bind fun bt220 => ((impl_JoinBits.f k bt215.1 bt215.2 bt220.1 bt220.2).bind fun bt225 => ((laws_eqBits.f k bt225.1 bt225.2.1 bt209.1 bt209.2.1).bind fun t231 => (if t231 = true then (laws_FnExactJoinBits.j0 k bt209.2.2 bt225.2.2 (bt225.2.2 != bt209.2.2) a0_0 l0_1 a1_0 l1_1 bt209.1 bt209.2.1 bt215.1 bt215.2 bt220.1 bt220.2 bt225.1 bt225.2.1) else (none)))))))))))) = some r := H
 have A3 := am12_ A30
 clear A30
 by_cases c4 : t199 < 0
 ·rw [if_pos c4] at H
  have c4b0 : decide (t199 < 0) = true := decide_eq_true c4
  clear c4
  obtain rfl := Option.some.inj H
  go_enter Try.func5, Try.ntmps5
  go_wp2_with (first | ((with_reducible refine gate_dst (N := 2) rfl ?_); refine box_event ?hg (N := 2) ?hd (cs := #[.int .i64 a0_0, .slice A0_1 l0_1.length c0_1]) (t := 24) ?hr ?_; (case hd => rfl); (case hg => rfl); (case hr => first | (go_simp; done) | (go_simp; rfl)); intro gb197 hg w5 hbox hb; have n0_ := am12_ (below_step (lw12_ HB) hb); have n1_ := am12_ (hbox); have n2_ := am12_ ((by rw [hg]; exact (below_size (lw12_ HB)) : w.heap.size ≤ gb197)); have n3_ := am12_ ((by rw [hg]; exact (below_size (lw12_ HB)) : w.heap.size ≤ gb197)); clear HB; have HB := n0_; have BK197 := n1_; have GW197 := n2_; have GE197 := n3_; clear n0_ n1_ n2_ n3_; clear hb hbox hg) | ((with_reducible refine gate_dst (N := 3) rfl ?_); refine box_event ?hg (N := 3) ?hd (cs := #[.int .i64 a1_0, .slice A1_1 l1_1.length c1_1]) (t := 24) ?hr ?_; (case hd => rfl); (case hg => rfl); (case hr => first | (go_simp; done) | (go_simp; rfl)); intro gb198 hg w6 hbox hb; have n0_ := am12_ (blk_below (g := gb197) (o := .cells #[.int .i64 a0_0, .slice A0_1 l0_1.length c0_1] 24 (0, 0)) (lb12_ BK197) hb); have n1_ := am12_ (below_step (lw12_ HB) hb); have n2_ := am12_ (hbox); have n3_ := am12_ ((by rw [hg]; exact (below_size (lw12_ HB)) : w.heap.size ≤ gb198)); have n4_ := am12_ ((by rw [hg]; exact (below_size (lw12_ HB)) : w.heap.size ≤ gb198)); have n5_ := am12_ ((by rw [hg]; exact Nat.ne_of_lt (blk_lt (g := gb197) (lb12_ BK197)) : gb197 ≠ gb198)); have n6_ := am12_ ((by rw [hg]; exact Nat.ne_of_gt (blk_lt (g := gb197) (lb12_ BK197)) : gb198 ≠ gb197)); clear BK197; clear HB; have BK197 := n0_; have HB := n1_; have BK198 := n2_; have GW198 := n3_; have GE198 := n4_; have NB197_198 := n5_; have NB198_197 := n6_; clear n0_ n1_ n2_ n3_ n4_ n5_ n6_; clear hb hbox hg; have hnb7 := NB197_198.out; have hnc7 := NB198_197.out; have hcz8_0 : w6.cell? ⟨gb197, 0, none⟩ = some (.int .i64 a0_0) := (blk_cell BK197.out 0).trans rfl; have hcz8_1 : w6.cell? ⟨gb197, 1, none⟩ = some (.slice A0_1 l0_1.length c0_1) := (blk_cell BK197.out 1).trans rfl; have hfz8_0 := blk_frozen BK197.out 0; have hfz8_1 := blk_frozen BK197.out 1) | ((with_reducible refine gate_callee (f := 16) rfl ?_); refine goesL_ (some 19) rfl rfl Try.func16 (by kernel_rfl) rfl #[.agg #[.int .i64 a0_0, .slice A0_1 l0_1.length c0_1], .int .i64 1048576] rfl lm12_ ?_; (with_reducible refine (laws_szBits.calls a0_0 _ _ l0_1 1048576 t199 _ ?side1 ?side2 A3.out).mono ?_); (case side1 => exact lc12_ (Kd.C_below HR0_1.out HB.out)); (case side2 => exact HC0_1.out); rintro e w9 ⟨rfl, hb⟩; refine ⟨_, rfl, ?_⟩; have n0_ := am12_ (blk_below (g := gb197) (o := .cells #[.int .i64 a0_0, .slice A0_1 l0_1.length c0_1] 24 (0, 0)) (lb12_ BK197) hb); have n1_ := am12_ (blk_below (g := gb198) (o := .cells #[.int .i64 a1_0, .slice A1_1 l1_1.length c1_1] 24 (0, 0)) (lb12_ BK198) hb); have n2_ := am12_ (below_step (lw12_ HB) hb); clear BK197; clear BK198; clear HB; have BK197 := n0_; have BK198 := n1_; have HB := n2_; clear n0_ n1_ n2_; (try clear hb); (try clear hb2); (try clear hk); (try clear hi)))
  go_ret
  exact ⟨by first | rfl | (simp [errW_none, errW_some] <;> rfl) | (simp [*, errW_none, errW_some] <;> rfl), lw12_ HB⟩
 ·rw [if_neg c4] at H
  have c4b0 : decide (t199 < 0) = false := decide_eq_false c4
  clear c4
  replace H := Option.bind_eq_some_iff.mp H
  obtain ⟨t200, A100, H⟩ := H
  replace H : (if t200 < 0 then (some true) else ((laws_toBits.f k a0_0 l0_1).bind fun bt201 => ((laws_toBits.f k a1_0 l1_1).bind fun bt205 => ((spec_JoinBits.f k bt201.1 bt201.2 bt205.1 bt205.2).bind fun bt209 => ((laws_toBits.f k a0_0 l0_1).bind fun bt215 => ((laws_toBits.f k a1_0 l1_1).bind fun bt220 => ((impl_JoinBits.f k bt215.1 bt215.2 bt220.1 bt220.2).bind fun bt225 => ((laws_eqBits.f k bt225.1 bt225.2.1 bt209.1 bt209.2.1).bind fun t231 => (if t231 = true then (laws_FnExactJoinBits.j0 k bt209.2.2 bt225.2.2 (bt225.2.2 != bt209.2.2) a0_0 l0_1 a1_0 l1_1 bt209.1 bt209.2.1 bt215.1 bt215.2 bt220.1 bt220.2 bt225.1 bt225.2.1) else (none)))))))))) = some r := H
  have A10 := am12_ A100
  clear A100
  by_cases c11 : t200 < 0
  ·rw [if_pos c11] at H
   have c11b0 : decide (t200 < 0) = true := decide_eq_true c11
   clear c11
   obtain rfl := Option.some.inj H
   go_enter Try.func5, Try.ntmps5
   go_wp2_with (first | ((with_reducible refine gate_dst (N := 2) rfl ?_); refine box_event ?hg (N := 2) ?hd (cs := #[.int .i64 a0_0, .slice A0_1 l0_1.length c0_1]) (t := 24) ?hr ?_; (case hd => rfl); (case hg => rfl); (case hr => first | (go_simp; done) | (go_simp; rfl)); intro gb197 hg w12 hbox hb; have n0_ := am12_ (below_step (lw12_ HB) hb); have n1_ := am12_ (hbox); have n2_ := am12_ ((by rw [hg]; exact (below_size (lw12_ HB)) : w.heap.size ≤ gb197)); have n3_ := am12_ ((by rw [hg]; exact (below_size (lw12_ HB)) : w.heap.size ≤ gb197)); clear HB; have HB := n0_; have BK197 := n1_; have GW197 := n2_; have GE197 := n3_; clear n0_ n1_ n2_ n3_; clear hb hbox hg) | ((with_reducible refine gate_dst (N := 3) rfl ?_); refine box_event ?hg (N := 3) ?hd (cs := #[.int .i64 a1_0, .slice A1_1 l1_1.length c1_1]) (t := 24) ?hr ?_; (case hd => rfl); (case hg => rfl); (case hr => first | (go_simp; done) | (go_simp; rfl)); intro gb198 hg w13 hbox hb; have n0_ := am12_ (blk_below (g := gb197) (o := .cells #[.int .i64 a0_0, .slice A0_1 l0_1.length c0_1] 24 (0, 0)) (lb12_ BK197) hb); have n1_ := am12_ (below_step (lw12_ HB) hb); have n2_ := am12_ (hbox); have n3_ := am12_ ((by rw [hg]; exact (below_size (lw12_ HB)) : w.heap.size ≤ gb198)); have n4_ := am12_ ((by rw [hg]; exact (below_size (lw12_ HB)) : w.heap.size ≤ gb198)); have n5_ := am12_ ((by rw [hg]; exact Nat.ne_of_lt (blk_lt (g := gb197) (lb12_ BK197)) : gb197 ≠ gb198)); have n6_ := am12_ ((by rw [hg]; exact Nat.ne_of_gt (blk_lt (g := gb197) (lb12_ BK197)) : gb198 ≠ gb197)); clear BK197; clear HB; have BK197 := n0_; have HB := n1_; have BK198 := n2_; have GW198 := n3_; have GE198 := n4_; have NB197_198 := n5_; have NB198_197 := n6_; clear n0_ n1_ n2_ n3_ n4_ n5_ n6_; clear hb hbox hg; have hnb14 := NB197_198.out; have hnc14 := NB198_197.out; have hcz15_0 : w13.cell? ⟨gb197, 0, none⟩ = some (.int .i64 a0_0) := (blk_cell BK197.out 0).trans rfl; have hcz15_1 : w13.cell? ⟨gb197, 1, none⟩ = some (.slice A0_1 l0_1.length c0_1) := (blk_cell BK197.out 1).trans rfl; have hfz15_0 := blk_frozen BK197.out 0; have hfz15_1 := blk_frozen BK197.out 1) | ((with_reducible refine gate_callee (f := 16) rfl ?_); refine goesL_ (some 19) rfl rfl Try.func16 (by kernel_rfl) rfl #[.agg #[.int .i64 a0_0, .slice A0_1 l0_1.length c0_1], .int .i64 1048576] rfl lm12_ ?_; (with_reducible refine (laws_szBits.calls a0_0 _ _ l0_1 1048576 t199 _ ?side1 ?side2 A3.out).mono ?_); (case side1 => exact lc12_ (Kd.C_below HR0_1.out HB.out)); (case side2 => exact HC0_1.out); rintro e w16 ⟨rfl, hb⟩; refine ⟨_, rfl, ?_⟩; have n0_ := am12_ (blk_below (g := gb197) (o := .cells #[.int .i64 a0_0, .slice A0_1 l0_1.length c0_1] 24 (0, 0)) (lb12_ BK197) hb); have n1_ := am12_ (blk_below (g := gb198) (o := .cells #[.int .i64 a1_0, .slice A1_1 l1_1.length c1_1] 24 (0, 0)) (lb12_ BK198) hb); have n2_ := am12_ (below_step (lw12_ HB) hb); clear BK197; clear BK198; clear HB; have BK197 := n0_; have BK198 := n1_; have HB := n2_; clear n0_ n1_ n2_; (try clear hb); (try clear hb2); (try clear hk); (try clear hi); have hcz17_0 : w16.cell? ⟨gb198, 0, none⟩ = some (.int .i64 a1_0) := (blk_cell BK198.out 0).trans rfl; have hcz17_1 : w16.cell? ⟨gb198, 1, none⟩ = some (.slice A1_1 l1_1.length c1_1) := (blk_cell BK198.out 1).trans rfl; have hfz17_0 := blk_frozen BK198.out 0; have hfz17_1 := blk_frozen BK198.out 1) | ((with_reducible refine gate_callee (f := 16) rfl ?_); refine goesL_ (some 24) rfl rfl Try.func16 (by kernel_rfl) rfl #[.agg #[.int .i64 a1_0, .slice A1_1 l1_1.length c1_1], .int .i64 t199] rfl lm12_ ?_; (with_reducible refine (laws_szBits.calls a1_0 _ _ l1_1 t199 t200 _ ?side1 ?side2 A10.out).mono ?_); (case side1 => exact lc12_ (Kd.C_below HR1_1.out HB.out)); (case side2 => exact HC1_1.out); rintro e w18 ⟨rfl, hb⟩; refine ⟨_, rfl, ?_⟩; have n0_ := am12_ (blk_below (g := gb197) (o := .cells #[.int .i64 a0_0, .slice A0_1 l0_1.length c0_1] 24 (0, 0)) (lb12_ BK197) hb); have n1_ := am12_ (blk_below (g := gb198) (o := .cells #[.int .i64 a1_0, .slice A1_1 l1_1.length c1_1] 24 (0, 0)) (lb12_ BK198) hb); have n2_ := am12_ (below_step (lw12_ HB) hb); clear BK197; clear BK198; clear HB; have BK197 := n0_; have BK198 := n1_; have HB := n2_; clear n0_ n1_ n2_; (try clear hb); (try clear hb2); (try clear hk); (try clear hi)))
   go_ret
   exact ⟨by first | rfl | (simp [errW_none, errW_some] <;> rfl) | (simp [*, errW_none, errW_some] <;> rfl), lw12_ HB⟩
  ·rw [if_neg c11] at H
   have c11b0 : decide (t200 < 0) = false := decide_eq_false c11
   clear c11
   replace H := Option.bind_eq_some_iff.mp H
   obtain ⟨⟨t201, t202⟩, A190, H⟩ := H
   replace H : ((laws_toBits.f k a1_0 l1_1).bind fun bt205 => ((spec_JoinBits.f k t201 t202 bt205.1 bt205.2).bind fun bt209 => ((laws_toBits.f k a0_0 l0_1).bind fun bt215 => ((laws_toBits.f k a1_0 l1_1).bind fun bt220 => ((impl_JoinBits.f k bt215.1 bt215.2 bt220.1 bt220.2).bind fun bt225 => ((laws_eqBits.f k bt225.1 bt225.2.1 bt209.1 bt209.2.1).bind fun t231 => (if t231 = true then (laws_FnExactJoinBits.j0 k bt209.2.2 bt225.2.2 (bt225.2.2 != bt209.2.2) a0_0 l0_1 a1_0 l1_1 bt209.1 bt209.2.1 bt215.1 bt215.2 bt220.1 bt220.2 bt225.1 bt225.2.1) else (none)))))))) = some r := H
   have A19 := am12_ A190
   clear A190
   replace H := Option.bind_eq_some_iff.mp H
   obtain ⟨⟨t205, t206⟩, A200, H⟩ := H
   replace H : ((spec_JoinBits.f k t201 t202 t205 t206).bind fun bt209 => ((laws_toBits.f k a0_0 l0_1).bind fun bt215 => ((laws_toBits.f k a1_0 l1_1).bind fun bt220 => ((impl_JoinBits.f k bt215.1 bt215.2 bt220.1 bt220.2).bind fun bt225 => ((laws_eqBits.f k bt225.1 bt225.2.1 bt209.1 bt209.2.1).bind fun t231 => (if t231 = true then (laws_FnExactJoinBits.j0 k bt209.2.2 bt225.2.2 (bt225.2.2 != bt209.2.2) a0_0 l0_1 a1_0 l1_1 bt209.1 bt209.2.1 bt215.1 bt215.2 bt220.1 bt220.2 bt225.1 bt225.2.1) else (none))))))) = some r := H
   have A20 := am12_ A200
   clear A200
   replace H := Option.bind_eq_some_iff.mp H
   obtain ⟨⟨t209, t210, t213⟩, A210, H⟩ := H
   replace H : ((laws_toBits.f k a0_0 l0_1).bind fun bt215 => ((laws_toBits.f k a1_0 l1_1).bind fun bt220 => ((impl_JoinBits.f k bt215.1 bt215.2 bt220.1 bt220.2).bind fun bt225 => ((laws_eqBits.f k bt225.1 bt225.2.1 t209 t210).bind fun t231 => (if t231 = true then (laws_FnExactJoinBits.j0 k t213 bt225.2.2 (bt225.2.2 != t213) a0_0 l0_1 a1_0 l1_1 t209 t210 bt215.1 bt215.2 bt220.1 bt220.2 bt225.1 bt225.2.1) else (none)))))) = some r := H
   have A21 := am12_ A210
   clear A210
   replace H := Option.bind_eq_some_iff.mp H
   obtain ⟨⟨t215, t216⟩, A220, H⟩ := H
   replace H : ((laws_toBits.f k a1_0 l1_1).bind fun bt220 => ((impl_JoinBits.f k t215 t216 bt220.1 bt220.2).bind fun bt225 => ((laws_eqBits.f k bt225.1 bt225.2.1 t209 t210).bind fun t231 => (if t231 = true then (laws_FnExactJoinBits.j0 k t213 bt225.2.2 (bt225.2.2 != t213) a0_0 l0_1 a1_0 l1_1 t209 t210 t215 t216 bt220.1 bt220.2 bt225.1 bt225.2.1) else (none))))) = some r := H
   have A22 := am12_ A220
   clear A220
   replace H := Option.bind_eq_some_iff.mp H
   obtain ⟨⟨t220, t221⟩, A230, H⟩ := H
   replace H : ((impl_JoinBits.f k t215 t216 t220 t221).bind fun bt225 => ((laws_eqBits.f k bt225.1 bt225.2.1 t209 t210).bind fun t231 => (if t231 = true then (laws_FnExactJoinBits.j0 k t213 bt225.2.2 (bt225.2.2 != t213) a0_0 l0_1 a1_0 l1_1 t209 t210 t215 t216 t220 t221 bt225.1 bt225.2.1) else (none)))) = some r := H
   have A23 := am12_ A230
   clear A230
   replace H := Option.bind_eq_some_iff.mp H
   obtain ⟨⟨t225, t226, t229⟩, A240, H⟩ := H
   replace H : ((laws_eqBits.f k t225 t226 t209 t210).bind fun t231 => (if t231 = true then (laws_FnExactJoinBits.j0 k t213 t229 (t229 != t213) a0_0 l0_1 a1_0 l1_1 t209 t210 t215 t216 t220 t221 t225 t226) else (none))) = some r := H
   have A24 := am12_ A240
   clear A240
   have HC25 := am12_ H
   clear H
   go_enter Try.func5, Try.ntmps5
   try go_wp2_with (first | ((with_reducible refine gate_dst (N := 2) rfl ?_); refine box_event ?hg (N := 2) ?hd (cs := #[.int .i64 a0_0, .slice A0_1 l0_1.length c0_1]) (t := 24) ?hr ?_; (case hd => rfl); (case hg => rfl); (case hr => first | (go_simp; done) | (go_simp; rfl)); intro gb197 hg w26 hbox hb; have n0_ := am12_ (below_step (lw12_ HB) hb); have n1_ := am12_ (hbox); have n2_ := am12_ ((by rw [hg]; exact (below_size (lw12_ HB)) : w.heap.size ≤ gb197)); have n3_ := am12_ ((by rw [hg]; exact (below_size (lw12_ HB)) : w.heap.size ≤ gb197)); clear HB; have HB := n0_; have BK197 := n1_; have GW197 := n2_; have GE197 := n3_; clear n0_ n1_ n2_ n3_; clear hb hbox hg) | ((with_reducible refine gate_dst (N := 3) rfl ?_); refine box_event ?hg (N := 3) ?hd (cs := #[.int .i64 a1_0, .slice A1_1 l1_1.length c1_1]) (t := 24) ?hr ?_; (case hd => rfl); (case hg => rfl); (case hr => first | (go_simp; done) | (go_simp; rfl)); intro gb198 hg w27 hbox hb; have n0_ := am12_ (blk_below (g := gb197) (o := .cells #[.int .i64 a0_0, .slice A0_1 l0_1.length c0_1] 24 (0, 0)) (lb12_ BK197) hb); have n1_ := am12_ (below_step (lw12_ HB) hb); have n2_ := am12_ (hbox); have n3_ := am12_ ((by rw [hg]; exact (below_size (lw12_ HB)) : w.heap.size ≤ gb198)); have n4_ := am12_ ((by rw [hg]; exact (below_size (lw12_ HB)) : w.heap.size ≤ gb198)); have n5_ := am12_ ((by rw [hg]; exact Nat.ne_of_lt (blk_lt (g := gb197) (lb12_ BK197)) : gb197 ≠ gb198)); have n6_ := am12_ ((by rw [hg]; exact Nat.ne_of_gt (blk_lt (g := gb197) (lb12_ BK197)) : gb198 ≠ gb197)); clear BK197; clear HB; have BK197 := n0_; have HB := n1_; have BK198 := n2_; have GW198 := n3_; have GE198 := n4_; have NB197_198 := n5_; have NB198_197 := n6_; clear n0_ n1_ n2_ n3_ n4_ n5_ n6_; clear hb hbox hg; have hnb28 := NB197_198.out; have hnc28 := NB198_197.out; have hcz29_0 : w27.cell? ⟨gb197, 0, none⟩ = some (.int .i64 a0_0) := (blk_cell BK197.out 0).trans rfl; have hcz29_1 : w27.cell? ⟨gb197, 1, none⟩ = some (.slice A0_1 l0_1.length c0_1) := (blk_cell BK197.out 1).trans rfl; have hfz29_0 := blk_frozen BK197.out 0; have hfz29_1 := blk_frozen BK197.out 1) | ((with_reducible refine gate_callee (f := 16) rfl ?_); refine goesL_ (some 19) rfl rfl Try.func16 (by kernel_rfl) rfl #[.agg #[.int .i64 a0_0, .slice A0_1 l0_1.length c0_1], .int .i64 1048576] rfl lm12_ ?_; (with_reducible refine (laws_szBits.calls a0_0 _ _ l0_1 1048576 t199 _ ?side1 ?side2 A3.out).mono ?_); (case side1 => exact lc12_ (Kd.C_below HR0_1.out HB.out)); (case side2 => exact HC0_1.out); rintro e w30 ⟨rfl, hb⟩; refine ⟨_, rfl, ?_⟩; have n0_ := am12_ (blk_below (g := gb197) (o := .cells #[.int .i64 a0_0, .slice A0_1 l0_1.length c0_1] 24 (0, 0)) (lb12_ BK197) hb); have n1_ := am12_ (blk_below (g := gb198) (o := .cells #[.int .i64 a1_0, .slice A1_1 l1_1.length c1_1] 24 (0, 0)) (lb12_ BK198) hb); have n2_ := am12_ (below_step (lw12_ HB) hb); clear BK197; clear BK198; clear HB; have BK197 := n0_; have BK198 := n1_; have HB := n2_; clear n0_ n1_ n2_; (try clear hb); (try clear hb2); (try clear hk); (try clear hi); have hcz31_0 : w30.cell? ⟨gb198, 0, none⟩ = some (.int .i64 a1_0) := (blk_cell BK198.out 0).trans rfl; have hcz31_1 : w30.cell? ⟨gb198, 1, none⟩ = some (.slice A1_1 l1_1.length c1_1) := (blk_cell BK198.out 1).trans rfl; have hfz31_0 := blk_frozen BK198.out 0; have hfz31_1 := blk_frozen BK198.out 1) | ((with_reducible refine gate_callee (f := 16) rfl ?_); refine goesL_ (some 24) rfl rfl Try.func16 (by kernel_rfl) rfl #[.agg #[.int .i64 a1_0, .slice A1_1 l1_1.length c1_1], .int .i64 t199] rfl lm12_ ?_; (with_reducible refine (laws_szBits.calls a1_0 _ _ l1_1 t199 t200 _ ?side1 ?side2 A10.out).mono ?_); (case side1 => exact lc12_ (Kd.C_below HR1_1.out HB.out)); (case side2 => exact HC1_1.out); rintro e w32 ⟨rfl, hb⟩; refine ⟨_, rfl, ?_⟩; have n0_ := am12_ (blk_below (g := gb197) (o := .cells #[.int .i64 a0_0, .slice A0_1 l0_1.length c0_1] 24 (0, 0)) (lb12_ BK197) hb); have n1_ := am12_ (blk_below (g := gb198) (o := .cells #[.int .i64 a1_0, .slice A1_1 l1_1.length c1_1] 24 (0, 0)) (lb12_ BK198) hb); have n2_ := am12_ (below_step (lw12_ HB) hb); clear BK197; clear BK198; clear HB; have BK197 := n0_; have BK198 := n1_; have HB := n2_; clear n0_ n1_ n2_; (try clear hb); (try clear hb2); (try clear hk); (try clear hi)))
   have n0_ := am12_ (blk_drew BK197.out)
   have n1_ := am12_ (blk_drew BK198.out)
   have n2_ := am12_ (below_drew1 HB.out)
   clear BK197
   clear BK198
   clear HB
   have BK197 := n0_
   have BK198 := n1_
   have HB := n2_
   clear n0_ n1_ n2_
   refine start_ (n := 11) (S := fun w' => w'.cell? ⟨gb197, 0, none⟩ = some (.int .i64 a0_0) ∧ w'.cell? ⟨gb197, 1, none⟩ = some (.slice A0_1 l0_1.length c0_1) ∧ w'.cell? ⟨gb198, 0, none⟩ = some (.int .i64 a1_0) ∧ w'.cell? ⟨gb198, 1, none⟩ = some (.slice A1_1 l1_1.length c1_1)) (ds := []) #[false, false, false, false, false, false, false, false, false, false, false] (by kernel_rfl) rfl rfl ⟨(blk_cell BK197.out 0).trans rfl, (blk_cell BK197.out 1).trans rfl, (blk_cell BK198.out 0).trans rfl, (blk_cell BK198.out 1).trans rfl⟩ (fun hHeld => ?_); refine with_tabW laws_FnExactJoinBits.tab8 laws_FnExactJoinBits.bits8 (fun HT_ HW_ => ?_)
   generalize w32.drew = w33 at BK197 BK198 HB hHeld ⊢
   refine take_ (i := 0) (N := some 28) (v := ?_) (a' := ?_) #[true, false, false, false, false, false, false, false, false, false, false] rfl rfl (take_ofW HT_.out HW_.out (by kernel_rfl)) (fun _ _ _ h => h) (Or.inl ⟨by rfl, ?_⟩) hHeld ?_ ?_
   rotate_left
   ·rintro w' ⟨s0, s1, s2, s3⟩
    go_simp
    with_reducible rfl
   rotate_left
   ·simp only [Act.put, List.setIfInBounds_toArray, List.set_cons_zero, List.set_cons_succ, i64_w, i32_w]
    rfl
   refine take_ (i := 2) (N := some 30) (v := ?_) (a' := ?_) #[true, false, true, false, false, false, false, false, false, false, false] rfl rfl (take_ofW HT_.out HW_.out (by kernel_rfl)) (fun _ _ _ h => h) (Or.inl ⟨by rfl, ?_⟩) hHeld ?_ ?_
   rotate_left
   ·rintro w' ⟨s0, s1, s2, s3⟩
    go_simp
    with_reducible rfl
   rotate_left
   ·simp only [Act.put, List.setIfInBounds_toArray, List.set_cons_zero, List.set_cons_succ, i64_w, i32_w]
    rfl
   refine join_ (σ := Value × Value × Value × Nat) 2 #[true, true, true, true, true, true, true, true, true, false, false] (fun s_ => [(29, .agg #[.int .i64 t201, s_.1]), (31, .agg #[.int .i64 t205, s_.2.1]), (32, .tuple #[.agg #[.int .i64 t209, s_.2.2.1], .bool t213]), (6, .pointer (some ⟨s_.2.2.2, 0, none⟩)), (27, .tuple #[.agg #[.int .i64 t209, s_.2.2.1], .bool t213]), (33, .agg #[.int .i64 t209, s_.2.2.1]), (34, .bool t213)]) (fun s_ w' => (w'.cell? ⟨gb197, 0, none⟩ = some (.int .i64 a0_0) ∧ w'.cell? ⟨gb197, 1, none⟩ = some (.slice A0_1 l0_1.length c0_1) ∧ w'.cell? ⟨gb198, 0, none⟩ = some (.int .i64 a1_0) ∧ w'.cell? ⟨gb198, 1, none⟩ = some (.slice A1_1 l1_1.length c1_1)) ∧ (Kd.R (Kd.int .i64) 3 w' w.heap.size (fun k_ => some k_ ≠ (s_.2.1 : Value).ownBlock ∧ some k_ ≠ (s_.2.2.1 : Value).ownBlock) s_.1 t202) ∧ (Kd.R (Kd.int .i64) 3 w' w.heap.size (fun k_ => some k_ ≠ (s_.1 : Value).ownBlock ∧ some k_ ≠ (s_.2.2.1 : Value).ownBlock) s_.2.1 t206) ∧ (Kd.R (Kd.int .i64) 3 w' w.heap.size (fun k_ => some k_ ≠ (s_.1 : Value).ownBlock ∧ some k_ ≠ (s_.2.1 : Value).ownBlock) s_.2.2.1 t210) ∧ (w'.heap[gb197]? = some (.cells #[.int .i64 a0_0, .slice A0_1 l0_1.length c0_1] 24 (0, 0))) ∧ (w'.heap[gb198]? = some (.cells #[.int .i64 a1_0, .slice A1_1 l1_1.length c1_1] 24 (0, 0))) ∧ (w'.heap[s_.2.2.2]? = some (.cells #[.int .i64 0, .slice none 0 0] 26 (0, 0))) ∧ (w.heap.size ≤ s_.2.2.2) ∧ (w.heap.size ≤ s_.2.2.2) ∧ (gb197 ≠ s_.2.2.2) ∧ (s_.2.2.2 ≠ gb197) ∧ (gb198 ≠ s_.2.2.2) ∧ (s_.2.2.2 ≠ gb198) ∧ (Below w.heap.size w w')) ?_ ?_
   rotate_left
   ·intro hCont
    refine two_ (i := 1) (j := 8) (Ni := some 29) (Nj := some 6) #[true, true, true, false, false, false, false, false, false, false, false] #[true, false, true, false, false, false, false, false, true, false, false] rfl rfl rfl rfl (two_of HT_.out (by kernel_rfl)) (by decide) (by decide) (fun K hK => ?_) (fun K hK => ?_)
    ·skip
     refine goes_ Try.func18 (by kernel_rfl) rfl #[.agg #[.int .i64 a0_0, .slice A0_1 l0_1.length c0_1]] (by rfl) rfl rfl lm12_ ?_
     with_reducible refine (laws_toBits.calls k a0_0 _ _ l0_1 t201 t202 _ ?side1 ?side2 A19.out).mono ?_
     (case side1 => exact lc12_ (Kd.C_below HR0_1.out HB.out))
     (case side2 => exact HC0_1.out)
     rintro e w34 ⟨v203, rfl, ho0, hb⟩
     refine ⟨_, rfl, ?_⟩
     have n0_ := am12_ (Kd.R_lower ho0 (below_size (lw12_ HB)))
     have n1_ := am12_ (blk_below (g := gb197) (o := .cells #[.int .i64 a0_0, .slice A0_1 l0_1.length c0_1] 24 (0, 0)) (lb12_ BK197) hb)
     have n2_ := am12_ (blk_below (g := gb198) (o := .cells #[.int .i64 a1_0, .slice A1_1 l1_1.length c1_1] 24 (0, 0)) (lb12_ BK198) hb)
     have n3_ := am12_ (below_step (lw12_ HB) hb)
     clear BK197
     clear BK198
     clear HB
     have HO204 := n0_
     have BK197 := n1_
     have BK198 := n2_
     have HB := n3_
     clear n0_ n1_ n2_ n3_
     (try clear hb)
     (try clear hb2)
     (try clear hk)
     (try clear hi)
     (try clear ho0)
     refine hK.out _ _ ⟨(blk_cell BK197.out 0).trans rfl, (blk_cell BK197.out 1).trans rfl, (blk_cell BK198.out 0).trans rfl, (blk_cell BK198.out 1).trans rfl⟩ (fun hHeld => ?_)
     clear hK K
     refine norm_ (a' := ?_) ?_ ?_
     rotate_left
     ·show Act.put _ (some 29) _ = _
      simp only [Act.put, List.setIfInBounds_toArray, List.set_cons_zero, List.set_cons_succ, i64_w, i32_w]
      rfl
     refine two_ (i := 3) (j := 8) (Ni := some 31) (Nj := some 6) #[true, true, true, true, false, false, false, false, false, false, false] #[true, true, true, false, false, false, false, false, true, false, false] rfl rfl rfl rfl (two_of HT_.out (by kernel_rfl)) (by decide) (by decide) (fun K hK => ?_) (fun K hK => ?_)
     ·skip
      refine goes_ Try.func18 (by kernel_rfl) rfl #[.agg #[.int .i64 a1_0, .slice A1_1 l1_1.length c1_1]] (by rfl) rfl rfl lm12_ ?_
      with_reducible refine (laws_toBits.calls k a1_0 _ _ l1_1 t205 t206 _ ?side1 ?side2 A20.out).mono ?_
      (case side1 => exact lc12_ (Kd.C_below HR1_1.out HB.out))
      (case side2 => exact HC1_1.out)
      rintro e w35 ⟨v207, rfl, ho0, hb⟩
      refine ⟨_, rfl, ?_⟩
      have n0_ := am12_ (Kd.R_elder' (lf12_ HO204) (Kd.R_base ho0) hb)
      have n1_ := am12_ (Kd.R_lower (Kd.R_new' ho0 (Kd.R_lt (lf12_ HO204))) (below_size (lw12_ HB)))
      have n2_ := am12_ (blk_below (g := gb197) (o := .cells #[.int .i64 a0_0, .slice A0_1 l0_1.length c0_1] 24 (0, 0)) (lb12_ BK197) hb)
      have n3_ := am12_ (blk_below (g := gb198) (o := .cells #[.int .i64 a1_0, .slice A1_1 l1_1.length c1_1] 24 (0, 0)) (lb12_ BK198) hb)
      have n4_ := am12_ (below_step (lw12_ HB) hb)
      clear HO204
      clear BK197
      clear BK198
      clear HB
      have HO204 := n0_
      have HO208 := n1_
      have BK197 := n2_
      have BK198 := n3_
      have HB := n4_
      clear n0_ n1_ n2_ n3_ n4_
      (try clear hb)
      (try clear hb2)
      (try clear hk)
      (try clear hi)
      (try clear ho0)
      obtain ⟨Ao36, co36, eo36⟩ := Kd.R_slice HO204.out
      (first | subst eo36 | (injection eo36 with f1_ f2_ f3_; have f4_ := f1_.symm; have f5_ := f3_.symm; clear f1_ f2_ f3_; subst f4_; subst f5_))
      obtain ⟨Ao37, co37, eo37⟩ := Kd.R_slice HO208.out
      (first | subst eo37 | (injection eo37 with f1_ f2_ f3_; have f4_ := f1_.symm; have f5_ := f3_.symm; clear f1_ f2_ f3_; subst f4_; subst f5_))
      refine hK.out _ _ ⟨(blk_cell BK197.out 0).trans rfl, (blk_cell BK197.out 1).trans rfl, (blk_cell BK198.out 0).trans rfl, (blk_cell BK198.out 1).trans rfl⟩ (fun hHeld => ?_)
      clear hK K
      refine norm_ (a' := ?_) ?_ ?_
      rotate_left
      ·show Act.put _ (some 31) _ = _
       simp only [Act.put, List.setIfInBounds_toArray, List.set_cons_zero, List.set_cons_succ, i64_w, i32_w]
       rfl
      refine two_ (i := 4) (j := 8) (Ni := some 32) (Nj := some 6) #[true, true, true, true, true, false, false, false, false, false, false] #[true, true, true, true, false, false, false, false, true, false, false] rfl rfl rfl rfl (two_of HT_.out (by kernel_rfl)) (by decide) (by decide) (fun K hK => ?_) (fun K hK => ?_)
      ·skip
       refine goes_ Try.func25 (by kernel_rfl) rfl #[.agg #[.int .i64 t201, .slice Ao36 t202.length co36], .agg #[.int .i64 t205, .slice Ao37 t206.length co37]] (by rfl) rfl rfl lm12_ ?_
       with_reducible refine (spec_JoinBits.calls k t201 _ _ t202 t205 _ _ t206 t209 t210 t213 _ ?side1 ?side2 ?side3 ?side4 A21.out).mono ?_
       (case side1 => exact lc12_ (Kd.R_reads' HO204.out).2.2)
       (case side2 => exact (Kd.R_reads' HO204.out).2.1)
       (case side3 => exact lc12_ (Kd.R_reads' HO208.out).2.2)
       (case side4 => exact (Kd.R_reads' HO208.out).2.1)
       rintro e w38 ⟨v211, rfl, ho0, hb⟩
       refine ⟨_, rfl, ?_⟩
       have n0_ := am12_ (Kd.R_elder' (lf12_ HO204) (Kd.R_base ho0) hb)
       have n1_ := am12_ (Kd.R_elder' (lf12_ HO208) (Kd.R_base ho0) hb)
       have n2_ := am12_ (Kd.R_lower (Kd.R_new' (Kd.R_new' ho0 (Kd.R_lt (lf12_ HO204))) (Kd.R_lt (lf12_ HO208))) (below_size (lw12_ HB)))
       have n3_ := am12_ (blk_below (g := gb197) (o := .cells #[.int .i64 a0_0, .slice A0_1 l0_1.length c0_1] 24 (0, 0)) (lb12_ BK197) hb)
       have n4_ := am12_ (blk_below (g := gb198) (o := .cells #[.int .i64 a1_0, .slice A1_1 l1_1.length c1_1] 24 (0, 0)) (lb12_ BK198) hb)
       have n5_ := am12_ (below_step (lw12_ HB) hb)
       clear HO204
       clear HO208
       clear BK197
       clear BK198
       clear HB
       have HO204 := n0_
       have HO208 := n1_
       have HO212 := n2_
       have BK197 := n3_
       have BK198 := n4_
       have HB := n5_
       clear n0_ n1_ n2_ n3_ n4_ n5_
       (try clear hb)
       (try clear hb2)
       (try clear hk)
       (try clear hi)
       (try clear ho0)
       refine hK.out _ _ ⟨(blk_cell BK197.out 0).trans rfl, (blk_cell BK197.out 1).trans rfl, (blk_cell BK198.out 0).trans rfl, (blk_cell BK198.out 1).trans rfl⟩ (fun hHeld => ?_)
       clear hK K
       refine norm_ (a' := ?_) ?_ ?_
       rotate_left
       ·show Act.put _ (some 32) _ = _
        simp only [Act.put, List.setIfInBounds_toArray, List.set_cons_zero, List.set_cons_succ, i64_w, i32_w]
        rfl
       refine pure_ (i := 5) (N := some 27) (v := ?_) (a' := ?_) #[true, true, true, true, true, true, false, false, false, false, false] rfl rfl (any_of HT_.out (by kernel_rfl)) (fun _ _ _ h => h) (Or.inl ⟨by rfl, ?_⟩) ?_ ?_
       rotate_left
       ·intro w'
        go_simp
        with_reducible rfl
       rotate_left
       ·simp only [Act.put, List.setIfInBounds_toArray, List.set_cons_zero, List.set_cons_succ, i64_w, i32_w]
        rfl
       refine pure_ (i := 6) (N := some 33) (v := ?_) (a' := ?_) #[true, true, true, true, true, true, true, false, false, false, false] rfl rfl (any_of HT_.out (by kernel_rfl)) (fun _ _ _ h => h) (Or.inl ⟨by rfl, ?_⟩) ?_ ?_
       rotate_left
       ·intro w'
        go_simp
        with_reducible rfl
       rotate_left
       ·simp only [Act.put, List.setIfInBounds_toArray, List.set_cons_zero, List.set_cons_succ, i64_w, i32_w]
        rfl
       refine pure_ (i := 7) (N := some 34) (v := ?_) (a' := ?_) #[true, true, true, true, true, true, true, true, false, false, false] rfl rfl (any_of HT_.out (by kernel_rfl)) (fun _ _ _ h => h) (Or.inl ⟨by rfl, ?_⟩) ?_ ?_
       rotate_left
       ·intro w'
        go_simp
        with_reducible rfl
       rotate_left
       ·simp only [Act.put, List.setIfInBounds_toArray, List.set_cons_zero, List.set_cons_succ, i64_w, i32_w]
        rfl
       refine one_ (i := 8) (N := some 6) #[true, true, true, true, true, true, true, true, true, false, false] rfl rfl (one_of HT_.out (by kernel_rfl)) (by decide) (fun K hK => ?_)
       refine box_step ?hg (N := 6) ?hd (cs := #[.int .i64 0, .slice none 0 0]) (t := 26) ?hr ?_; (case hd => rfl); (case hg => rfl); (case hr => first | (go_simp; done) | (go_simp; rfl))
       intro gb214 hg w39 hbox hb
       have n0_ := am12_ (Kd.R_below (lf12_ HO204) hb)
       have n1_ := am12_ (Kd.R_below (lf12_ HO208) hb)
       have n2_ := am12_ (Kd.R_below (lf12_ HO212) hb)
       have n3_ := am12_ (blk_below (g := gb197) (o := .cells #[.int .i64 a0_0, .slice A0_1 l0_1.length c0_1] 24 (0, 0)) (lb12_ BK197) hb)
       have n4_ := am12_ (blk_below (g := gb198) (o := .cells #[.int .i64 a1_0, .slice A1_1 l1_1.length c1_1] 24 (0, 0)) (lb12_ BK198) hb)
       have n5_ := am12_ (below_step (lw12_ HB) hb)
       have n6_ := am12_ (hbox)
       have n7_ := am12_ ((by rw [hg]; exact (below_size (lw12_ HB)) : w.heap.size ≤ gb214))
       have n8_ := am12_ ((by rw [hg]; exact (below_size (lw12_ HB)) : w.heap.size ≤ gb214))
       have n9_ := am12_ ((by rw [hg]; exact Nat.ne_of_lt (blk_lt (g := gb197) (lb12_ BK197)) : gb197 ≠ gb214))
       have n10_ := am12_ ((by rw [hg]; exact Nat.ne_of_gt (blk_lt (g := gb197) (lb12_ BK197)) : gb214 ≠ gb197))
       have n11_ := am12_ ((by rw [hg]; exact Nat.ne_of_lt (blk_lt (g := gb198) (lb12_ BK198)) : gb198 ≠ gb214))
       have n12_ := am12_ ((by rw [hg]; exact Nat.ne_of_gt (blk_lt (g := gb198) (lb12_ BK198)) : gb214 ≠ gb198))
       clear HO204
       clear HO208
       clear HO212
       clear BK197
       clear BK198
       clear HB
       have HO204 := n0_
       have HO208 := n1_
       have HO212 := n2_
       have BK197 := n3_
       have BK198 := n4_
       have HB := n5_
       have BK214 := n6_
       have GW214 := n7_
       have GE214 := n8_
       have NB197_214 := n9_
       have NB214_197 := n10_
       have NB198_214 := n11_
       have NB214_198 := n12_
       clear n0_ n1_ n2_ n3_ n4_ n5_ n6_ n7_ n8_ n9_ n10_ n11_ n12_
       clear hb hbox hg
       refine hK.out _ _ ⟨(blk_cell BK197.out 0).trans rfl, (blk_cell BK197.out 1).trans rfl, (blk_cell BK198.out 0).trans rfl, (blk_cell BK198.out 1).trans rfl⟩ (fun hHeld => ?_)
       clear hK K
       refine norm_ (a' := ?_) ?_ ?_
       rotate_left
       ·show Act.put _ (some 6) _ = _
        simp only [Act.put, List.setIfInBounds_toArray, List.set_cons_zero, List.set_cons_succ, i64_w, i32_w]
        rfl
       exact norm_ (by simp only [putAll, Act.put, List.setIfInBounds_toArray, List.set_cons_zero, List.set_cons_succ]) (hCont (.slice Ao36 t202.length co36, .slice Ao37 t206.length co37, v211, gb214) _ ⟨hHeld, (by (with_reducible repeat (first | apply Kd.R_alloc | apply Kd.R_drewN | apply Kd.R_drew)); exact Kd.R_mono HO204.out (fun _ hk => ⟨hk.1.2, hk.2⟩)), (by (with_reducible repeat (first | apply Kd.R_alloc | apply Kd.R_drewN | apply Kd.R_drew)); exact Kd.R_mono HO208.out (fun _ hk => ⟨hk.1.2, hk.2⟩)), (by (with_reducible repeat (first | apply Kd.R_alloc | apply Kd.R_drewN | apply Kd.R_drew)); exact Kd.R_mono HO212.out (fun _ hk => ⟨hk.1.2, hk.2⟩)), (lb12_ BK197), (lb12_ BK198), (lb12_ BK214), GW214.out, GE214.out, NB197_214.out, NB214_197.out, NB198_214.out, NB214_198.out, (lw12_ HB)⟩)
      ·skip
       refine box_step ?hg (N := 6) ?hd (cs := #[.int .i64 0, .slice none 0 0]) (t := 26) ?hr ?_; (case hd => rfl); (case hg => rfl); (case hr => first | (go_simp; done) | (go_simp; rfl))
       intro gb214 hg w36 hbox hb
       have n0_ := am12_ (Kd.R_below (lf12_ HO204) hb)
       have n1_ := am12_ (Kd.R_below (lf12_ HO208) hb)
       have n2_ := am12_ (blk_below (g := gb197) (o := .cells #[.int .i64 a0_0, .slice A0_1 l0_1.length c0_1] 24 (0, 0)) (lb12_ BK197) hb)
       have n3_ := am12_ (blk_below (g := gb198) (o := .cells #[.int .i64 a1_0, .slice A1_1 l1_1.length c1_1] 24 (0, 0)) (lb12_ BK198) hb)
       have n4_ := am12_ (below_step (lw12_ HB) hb)
       have n5_ := am12_ (hbox)
       have n6_ := am12_ ((by rw [hg]; exact (below_size (lw12_ HB)) : w.heap.size ≤ gb214))
       have n7_ := am12_ ((by rw [hg]; exact (below_size (lw12_ HB)) : w.heap.size ≤ gb214))
       have n8_ := am12_ ((by rw [hg]; exact Nat.ne_of_lt (blk_lt (g := gb197) (lb12_ BK197)) : gb197 ≠ gb214))
       have n9_ := am12_ ((by rw [hg]; exact Nat.ne_of_gt (blk_lt (g := gb197) (lb12_ BK197)) : gb214 ≠ gb197))
       have n10_ := am12_ ((by rw [hg]; exact Nat.ne_of_lt (blk_lt (g := gb198) (lb12_ BK198)) : gb198 ≠ gb214))
       have n11_ := am12_ ((by rw [hg]; exact Nat.ne_of_gt (blk_lt (g := gb198) (lb12_ BK198)) : gb214 ≠ gb198))
       clear HO204
       clear HO208
       clear BK197
       clear BK198
       clear HB
       have HO204 := n0_
       have HO208 := n1_
       have BK197 := n2_
       have BK198 := n3_
       have HB := n4_
       have BK214 := n5_
       have GW214 := n6_
       have GE214 := n7_
       have NB197_214 := n8_
       have NB214_197 := n9_
       have NB198_214 := n10_
       have NB214_198 := n11_
       clear n0_ n1_ n2_ n3_ n4_ n5_ n6_ n7_ n8_ n9_ n10_ n11_
       clear hb hbox hg
       obtain ⟨Ao37, co37, eo37⟩ := Kd.R_slice HO204.out
       (first | subst eo37 | (injection eo37 with f1_ f2_ f3_; have f4_ := f1_.symm; have f5_ := f3_.symm; clear f1_ f2_ f3_; subst f4_; subst f5_))
       obtain ⟨Ao38, co38, eo38⟩ := Kd.R_slice HO208.out
       (first | subst eo38 | (injection eo38 with f1_ f2_ f3_; have f4_ := f1_.symm; have f5_ := f3_.symm; clear f1_ f2_ f3_; subst f4_; subst f5_))
       refine hK.out _ _ ⟨(blk_cell BK197.out 0).trans rfl, (blk_cell BK197.out 1).trans rfl, (blk_cell BK198.out 0).trans rfl, (blk_cell BK198.out 1).trans rfl⟩ (fun hHeld => ?_)
       clear hK K
       refine norm_ (a' := ?_) ?_ ?_
       rotate_left
       ·show Act.put _ (some 6) _ = _
        simp only [Act.put, List.setIfInBounds_toArray, List.set_cons_zero, List.set_cons_succ, i64_w, i32_w]
        rfl
       refine one_ (i := 4) (N := some 32) #[true, true, true, true, true, false, false, false, true, false, false] rfl rfl (one_of HT_.out (by kernel_rfl)) (by decide) (fun K hK => ?_)
       refine goes_ Try.func25 (by kernel_rfl) rfl #[.agg #[.int .i64 t201, .slice Ao37 t202.length co37], .agg #[.int .i64 t205, .slice Ao38 t206.length co38]] (by rfl) rfl rfl lm12_ ?_
       with_reducible refine (spec_JoinBits.calls k t201 _ _ t202 t205 _ _ t206 t209 t210 t213 _ ?side1 ?side2 ?side3 ?side4 A21.out).mono ?_
       (case side1 => exact lc12_ (Kd.R_reads' HO204.out).2.2)
       (case side2 => exact (Kd.R_reads' HO204.out).2.1)
       (case side3 => exact lc12_ (Kd.R_reads' HO208.out).2.2)
       (case side4 => exact (Kd.R_reads' HO208.out).2.1)
       rintro e w39 ⟨v211, rfl, ho0, hb⟩
       refine ⟨_, rfl, ?_⟩
       have n0_ := am12_ (Kd.R_elder' (lf12_ HO204) (Kd.R_base ho0) hb)
       have n1_ := am12_ (Kd.R_elder' (lf12_ HO208) (Kd.R_base ho0) hb)
       have n2_ := am12_ (Kd.R_lower (Kd.R_new' (Kd.R_new' ho0 (Kd.R_lt (lf12_ HO204))) (Kd.R_lt (lf12_ HO208))) (below_size (lw12_ HB)))
       have n3_ := am12_ (blk_below (g := gb197) (o := .cells #[.int .i64 a0_0, .slice A0_1 l0_1.length c0_1] 24 (0, 0)) (lb12_ BK197) hb)
       have n4_ := am12_ (blk_below (g := gb198) (o := .cells #[.int .i64 a1_0, .slice A1_1 l1_1.length c1_1] 24 (0, 0)) (lb12_ BK198) hb)
       have n5_ := am12_ (blk_below (g := gb214) (o := .cells #[.int .i64 0, .slice none 0 0] 26 (0, 0)) (lb12_ BK214) hb)
       have n6_ := am12_ (below_step (lw12_ HB) hb)
       clear HO204
       clear HO208
       clear BK197
       clear BK198
       clear BK214
       clear HB
       have HO204 := n0_
       have HO208 := n1_
       have HO212 := n2_
       have BK197 := n3_
       have BK198 := n4_
       have BK214 := n5_
       have HB := n6_
       clear n0_ n1_ n2_ n3_ n4_ n5_ n6_
       (try clear hb)
       (try clear hb2)
       (try clear hk)
       (try clear hi)
       (try clear ho0)
       refine hK.out _ _ ⟨(blk_cell BK197.out 0).trans rfl, (blk_cell BK197.out 1).trans rfl, (blk_cell BK198.out 0).trans rfl, (blk_cell BK198.out 1).trans rfl⟩ (fun hHeld => ?_)
       clear hK K
       refine norm_ (a' := ?_) ?_ ?_
       rotate_left
       ·show Act.put _ (some 32) _ = _
        simp only [Act.put, List.setIfInBounds_toArray, List.set_cons_zero, List.set_cons_succ, i64_w, i32_w]
        rfl
       refine pure_ (i := 5) (N := some 27) (v := ?_) (a' := ?_) #[true, true, true, true, true, true, false, false, true, false, false] rfl rfl (any_of HT_.out (by kernel_rfl)) (fun _ _ _ h => h) (Or.inl ⟨by rfl, ?_⟩) ?_ ?_
       rotate_left
       ·intro w'
        go_simp
        with_reducible rfl
       rotate_left
       ·simp only [Act.put, List.setIfInBounds_toArray, List.set_cons_zero, List.set_cons_succ, i64_w, i32_w]
        rfl
       refine pure_ (i := 6) (N := some 33) (v := ?_) (a' := ?_) #[true, true, true, true, true, true, true, false, true, false, false] rfl rfl (any_of HT_.out (by kernel_rfl)) (fun _ _ _ h => h) (Or.inl ⟨by rfl, ?_⟩) ?_ ?_
       rotate_left
       ·intro w'
        go_simp
        with_reducible rfl
       rotate_left
       ·simp only [Act.put, List.setIfInBounds_toArray, List.set_cons_zero, List.set_cons_succ, i64_w, i32_w]
        rfl
       refine pure_ (i := 7) (N := some 34) (v := ?_) (a' := ?_) #[true, true, true, true, true, true, true, true, true, false, false] rfl rfl (any_of HT_.out (by kernel_rfl)) (fun _ _ _ h => h) (Or.inl ⟨by rfl, ?_⟩) ?_ ?_
       rotate_left
       ·intro w'
        go_simp
        with_reducible rfl
       rotate_left
       ·simp only [Act.put, List.setIfInBounds_toArray, List.set_cons_zero, List.set_cons_succ, i64_w, i32_w]
        rfl
       exact norm_ (by simp only [putAll, Act.put, List.setIfInBounds_toArray, List.set_cons_zero, List.set_cons_succ]) (hCont (.slice Ao37 t202.length co37, .slice Ao38 t206.length co38, v211, gb214) _ ⟨hHeld, (by (with_reducible repeat (first | apply Kd.R_alloc | apply Kd.R_drewN | apply Kd.R_drew)); exact Kd.R_mono HO204.out (fun _ hk => ⟨hk.1.2, hk.2⟩)), (by (with_reducible repeat (first | apply Kd.R_alloc | apply Kd.R_drewN | apply Kd.R_drew)); exact Kd.R_mono HO208.out (fun _ hk => ⟨hk.1.2, hk.2⟩)), (by (with_reducible repeat (first | apply Kd.R_alloc | apply Kd.R_drewN | apply Kd.R_drew)); exact Kd.R_mono HO212.out (fun _ hk => ⟨hk.1.2, hk.2⟩)), (lb12_ BK197), (lb12_ BK198), (lb12_ BK214), GW214.out, GE214.out, NB197_214.out, NB214_197.out, NB198_214.out, NB214_198.out, (lw12_ HB)⟩)
     ·skip
      refine box_step ?hg (N := 6) ?hd (cs := #[.int .i64 0, .slice none 0 0]) (t := 26) ?hr ?_; (case hd => rfl); (case hg => rfl); (case hr => first | (go_simp; done) | (go_simp; rfl))
      intro gb214 hg w35 hbox hb
      have n0_ := am12_ (Kd.R_below (lf12_ HO204) hb)
      have n1_ := am12_ (blk_below (g := gb197) (o := .cells #[.int .i64 a0_0, .slice A0_1 l0_1.length c0_1] 24 (0, 0)) (lb12_ BK197) hb)
      have n2_ := am12_ (blk_below (g := gb198) (o := .cells #[.int .i64 a1_0, .slice A1_1 l1_1.length c1_1] 24 (0, 0)) (lb12_ BK198) hb)
      have n3_ := am12_ (below_step (lw12_ HB) hb)
      have n4_ := am12_ (hbox)
      have n5_ := am12_ ((by rw [hg]; exact (below_size (lw12_ HB)) : w.heap.size ≤ gb214))
      have n6_ := am12_ ((by rw [hg]; exact (below_size (lw12_ HB)) : w.heap.size ≤ gb214))
      have n7_ := am12_ ((by rw [hg]; exact Nat.ne_of_lt (blk_lt (g := gb197) (lb12_ BK197)) : gb197 ≠ gb214))
      have n8_ := am12_ ((by rw [hg]; exact Nat.ne_of_gt (blk_lt (g := gb197) (lb12_ BK197)) : gb214 ≠ gb197))
      have n9_ := am12_ ((by rw [hg]; exact Nat.ne_of_lt (blk_lt (g := gb198) (lb12_ BK198)) : gb198 ≠ gb214))
      have n10_ := am12_ ((by rw [hg]; exact Nat.ne_of_gt (blk_lt (g := gb198) (lb12_ BK198)) : gb214 ≠ gb198))
      clear HO204
      clear BK197
      clear BK198
      clear HB
      have HO204 := n0_
      have BK197 := n1_
      have BK198 := n2_
      have HB := n3_
      have BK214 := n4_
      have GW214 := n5_
      have GE214 := n6_
      have NB197_214 := n7_
      have NB214_197 := n8_
      have NB198_214 := n9_
      have NB214_198 := n10_
      clear n0_ n1_ n2_ n3_ n4_ n5_ n6_ n7_ n8_ n9_ n10_
      clear hb hbox hg
      refine hK.out _ _ ⟨(blk_cell BK197.out 0).trans rfl, (blk_cell BK197.out 1).trans rfl, (blk_cell BK198.out 0).trans rfl, (blk_cell BK198.out 1).trans rfl⟩ (fun hHeld => ?_)
      clear hK K
      refine norm_ (a' := ?_) ?_ ?_
      rotate_left
      ·show Act.put _ (some 6) _ = _
       simp only [Act.put, List.setIfInBounds_toArray, List.set_cons_zero, List.set_cons_succ, i64_w, i32_w]
       rfl
      refine one_ (i := 3) (N := some 31) #[true, true, true, true, false, false, false, false, true, false, false] rfl rfl (one_of HT_.out (by kernel_rfl)) (by decide) (fun K hK => ?_)
      refine goes_ Try.func18 (by kernel_rfl) rfl #[.agg #[.int .i64 a1_0, .slice A1_1 l1_1.length c1_1]] (by rfl) rfl rfl lm12_ ?_
      with_reducible refine (laws_toBits.calls k a1_0 _ _ l1_1 t205 t206 _ ?side1 ?side2 A20.out).mono ?_
      (case side1 => exact lc12_ (Kd.C_below HR1_1.out HB.out))
      (case side2 => exact HC1_1.out)
      rintro e w36 ⟨v207, rfl, ho0, hb⟩
      refine ⟨_, rfl, ?_⟩
      have n0_ := am12_ (Kd.R_elder' (lf12_ HO204) (Kd.R_base ho0) hb)
      have n1_ := am12_ (Kd.R_lower (Kd.R_new' ho0 (Kd.R_lt (lf12_ HO204))) (below_size (lw12_ HB)))
      have n2_ := am12_ (blk_below (g := gb197) (o := .cells #[.int .i64 a0_0, .slice A0_1 l0_1.length c0_1] 24 (0, 0)) (lb12_ BK197) hb)
      have n3_ := am12_ (blk_below (g := gb198) (o := .cells #[.int .i64 a1_0, .slice A1_1 l1_1.length c1_1] 24 (0, 0)) (lb12_ BK198) hb)
      have n4_ := am12_ (blk_below (g := gb214) (o := .cells #[.int .i64 0, .slice none 0 0] 26 (0, 0)) (lb12_ BK214) hb)
      have n5_ := am12_ (below_step (lw12_ HB) hb)
      clear HO204
      clear BK197
      clear BK198
      clear BK214
      clear HB
      have HO204 := n0_
      have HO208 := n1_
      have BK197 := n2_
      have BK198 := n3_
      have BK214 := n4_
      have HB := n5_
      clear n0_ n1_ n2_ n3_ n4_ n5_
      (try clear hb)
      (try clear hb2)
      (try clear hk)
      (try clear hi)
      (try clear ho0)
      obtain ⟨Ao37, co37, eo37⟩ := Kd.R_slice HO204.out
      (first | subst eo37 | (injection eo37 with f1_ f2_ f3_; have f4_ := f1_.symm; have f5_ := f3_.symm; clear f1_ f2_ f3_; subst f4_; subst f5_))
      obtain ⟨Ao38, co38, eo38⟩ := Kd.R_slice HO208.out
      (first | subst eo38 | (injection eo38 with f1_ f2_ f3_; have f4_ := f1_.symm; have f5_ := f3_.symm; clear f1_ f2_ f3_; subst f4_; subst f5_))
      refine hK.out _ _ ⟨(blk_cell BK197.out 0).trans rfl, (blk_cell BK197.out 1).trans rfl, (blk_cell BK198.out 0).trans rfl, (blk_cell BK198.out 1).trans rfl⟩ (fun hHeld => ?_)
      clear hK K
      refine norm_ (a' := ?_) ?_ ?_
      rotate_left
      ·show Act.put _ (some 31) _ = _
       simp only [Act.put, List.setIfInBounds_toArray, List.set_cons_zero, List.set_cons_succ, i64_w, i32_w]
       rfl
      refine one_ (i := 4) (N := some 32) #[true, true, true, true, true, false, false, false, true, false, false] rfl rfl (one_of HT_.out (by kernel_rfl)) (by decide) (fun K hK => ?_)
      refine goes_ Try.func25 (by kernel_rfl) rfl #[.agg #[.int .i64 t201, .slice Ao37 t202.length co37], .agg #[.int .i64 t205, .slice Ao38 t206.length co38]] (by rfl) rfl rfl lm12_ ?_
      with_reducible refine (spec_JoinBits.calls k t201 _ _ t202 t205 _ _ t206 t209 t210 t213 _ ?side1 ?side2 ?side3 ?side4 A21.out).mono ?_
      (case side1 => exact lc12_ (Kd.R_reads' HO204.out).2.2)
      (case side2 => exact (Kd.R_reads' HO204.out).2.1)
      (case side3 => exact lc12_ (Kd.R_reads' HO208.out).2.2)
      (case side4 => exact (Kd.R_reads' HO208.out).2.1)
      rintro e w39 ⟨v211, rfl, ho0, hb⟩
      refine ⟨_, rfl, ?_⟩
      have n0_ := am12_ (Kd.R_elder' (lf12_ HO204) (Kd.R_base ho0) hb)
      have n1_ := am12_ (Kd.R_elder' (lf12_ HO208) (Kd.R_base ho0) hb)
      have n2_ := am12_ (Kd.R_lower (Kd.R_new' (Kd.R_new' ho0 (Kd.R_lt (lf12_ HO204))) (Kd.R_lt (lf12_ HO208))) (below_size (lw12_ HB)))
      have n3_ := am12_ (blk_below (g := gb197) (o := .cells #[.int .i64 a0_0, .slice A0_1 l0_1.length c0_1] 24 (0, 0)) (lb12_ BK197) hb)
      have n4_ := am12_ (blk_below (g := gb198) (o := .cells #[.int .i64 a1_0, .slice A1_1 l1_1.length c1_1] 24 (0, 0)) (lb12_ BK198) hb)
      have n5_ := am12_ (blk_below (g := gb214) (o := .cells #[.int .i64 0, .slice none 0 0] 26 (0, 0)) (lb12_ BK214) hb)
      have n6_ := am12_ (below_step (lw12_ HB) hb)
      clear HO204
      clear HO208
      clear BK197
      clear BK198
      clear BK214
      clear HB
      have HO204 := n0_
      have HO208 := n1_
      have HO212 := n2_
      have BK197 := n3_
      have BK198 := n4_
      have BK214 := n5_
      have HB := n6_
      clear n0_ n1_ n2_ n3_ n4_ n5_ n6_
      (try clear hb)
      (try clear hb2)
      (try clear hk)
      (try clear hi)
      (try clear ho0)
      refine hK.out _ _ ⟨(blk_cell BK197.out 0).trans rfl, (blk_cell BK197.out 1).trans rfl, (blk_cell BK198.out 0).trans rfl, (blk_cell BK198.out 1).trans rfl⟩ (fun hHeld => ?_)
      clear hK K
      refine norm_ (a' := ?_) ?_ ?_
      rotate_left
      ·show Act.put _ (some 32) _ = _
       simp only [Act.put, List.setIfInBounds_toArray, List.set_cons_zero, List.set_cons_succ, i64_w, i32_w]
       rfl
      refine pure_ (i := 5) (N := some 27) (v := ?_) (a' := ?_) #[true, true, true, true, true, true, false, false, true, false, false] rfl rfl (any_of HT_.out (by kernel_rfl)) (fun _ _ _ h => h) (Or.inl ⟨by rfl, ?_⟩) ?_ ?_
      rotate_left
      ·intro w'
       go_simp
       with_reducible rfl
      rotate_left
      ·simp only [Act.put, List.setIfInBounds_toArray, List.set_cons_zero, List.set_cons_succ, i64_w, i32_w]
       rfl
      refine pure_ (i := 6) (N := some 33) (v := ?_) (a' := ?_) #[true, true, true, true, true, true, true, false, true, false, false] rfl rfl (any_of HT_.out (by kernel_rfl)) (fun _ _ _ h => h) (Or.inl ⟨by rfl, ?_⟩) ?_ ?_
      rotate_left
      ·intro w'
       go_simp
       with_reducible rfl
      rotate_left
      ·simp only [Act.put, List.setIfInBounds_toArray, List.set_cons_zero, List.set_cons_succ, i64_w, i32_w]
       rfl
      refine pure_ (i := 7) (N := some 34) (v := ?_) (a' := ?_) #[true, true, true, true, true, true, true, true, true, false, false] rfl rfl (any_of HT_.out (by kernel_rfl)) (fun _ _ _ h => h) (Or.inl ⟨by rfl, ?_⟩) ?_ ?_
      rotate_left
      ·intro w'
       go_simp
       with_reducible rfl
      rotate_left
      ·simp only [Act.put, List.setIfInBounds_toArray, List.set_cons_zero, List.set_cons_succ, i64_w, i32_w]
       rfl
      exact norm_ (by simp only [putAll, Act.put, List.setIfInBounds_toArray, List.set_cons_zero, List.set_cons_succ]) (hCont (.slice Ao37 t202.length co37, .slice Ao38 t206.length co38, v211, gb214) _ ⟨hHeld, (by (with_reducible repeat (first | apply Kd.R_alloc | apply Kd.R_drewN | apply Kd.R_drew)); exact Kd.R_mono HO204.out (fun _ hk => ⟨hk.1.2, hk.2⟩)), (by (with_reducible repeat (first | apply Kd.R_alloc | apply Kd.R_drewN | apply Kd.R_drew)); exact Kd.R_mono HO208.out (fun _ hk => ⟨hk.1.2, hk.2⟩)), (by (with_reducible repeat (first | apply Kd.R_alloc | apply Kd.R_drewN | apply Kd.R_drew)); exact Kd.R_mono HO212.out (fun _ hk => ⟨hk.1.2, hk.2⟩)), (lb12_ BK197), (lb12_ BK198), (lb12_ BK214), GW214.out, GE214.out, NB197_214.out, NB214_197.out, NB198_214.out, NB214_198.out, (lw12_ HB)⟩)
    ·skip
     refine box_step ?hg (N := 6) ?hd (cs := #[.int .i64 0, .slice none 0 0]) (t := 26) ?hr ?_; (case hd => rfl); (case hg => rfl); (case hr => first | (go_simp; done) | (go_simp; rfl))
     intro gb214 hg w34 hbox hb
     have n0_ := am12_ (blk_below (g := gb197) (o := .cells #[.int .i64 a0_0, .slice A0_1 l0_1.length c0_1] 24 (0, 0)) (lb12_ BK197) hb)
     have n1_ := am12_ (blk_below (g := gb198) (o := .cells #[.int .i64 a1_0, .slice A1_1 l1_1.length c1_1] 24 (0, 0)) (lb12_ BK198) hb)
     have n2_ := am12_ (below_step (lw12_ HB) hb)
     have n3_ := am12_ (hbox)
     have n4_ := am12_ ((by rw [hg]; exact (below_size (lw12_ HB)) : w.heap.size ≤ gb214))
     have n5_ := am12_ ((by rw [hg]; exact (below_size (lw12_ HB)) : w.heap.size ≤ gb214))
     have n6_ := am12_ ((by rw [hg]; exact Nat.ne_of_lt (blk_lt (g := gb197) (lb12_ BK197)) : gb197 ≠ gb214))
     have n7_ := am12_ ((by rw [hg]; exact Nat.ne_of_gt (blk_lt (g := gb197) (lb12_ BK197)) : gb214 ≠ gb197))
     have n8_ := am12_ ((by rw [hg]; exact Nat.ne_of_lt (blk_lt (g := gb198) (lb12_ BK198)) : gb198 ≠ gb214))
     have n9_ := am12_ ((by rw [hg]; exact Nat.ne_of_gt (blk_lt (g := gb198) (lb12_ BK198)) : gb214 ≠ gb198))
     clear BK197
     clear BK198
     clear HB
     have BK197 := n0_
     have BK198 := n1_
     have HB := n2_
     have BK214 := n3_
     have GW214 := n4_
     have GE214 := n5_
     have NB197_214 := n6_
     have NB214_197 := n7_
     have NB198_214 := n8_
     have NB214_198 := n9_
     clear n0_ n1_ n2_ n3_ n4_ n5_ n6_ n7_ n8_ n9_
     clear hb hbox hg
     refine hK.out _ _ ⟨(blk_cell BK197.out 0).trans rfl, (blk_cell BK197.out 1).trans rfl, (blk_cell BK198.out 0).trans rfl, (blk_cell BK198.out 1).trans rfl⟩ (fun hHeld => ?_)
     clear hK K
     refine norm_ (a' := ?_) ?_ ?_
     rotate_left
     ·show Act.put _ (some 6) _ = _
      simp only [Act.put, List.setIfInBounds_toArray, List.set_cons_zero, List.set_cons_succ, i64_w, i32_w]
      rfl
     refine one_ (i := 1) (N := some 29) #[true, true, true, false, false, false, false, false, true, false, false] rfl rfl (one_of HT_.out (by kernel_rfl)) (by decide) (fun K hK => ?_)
     refine goes_ Try.func18 (by kernel_rfl) rfl #[.agg #[.int .i64 a0_0, .slice A0_1 l0_1.length c0_1]] (by rfl) rfl rfl lm12_ ?_
     with_reducible refine (laws_toBits.calls k a0_0 _ _ l0_1 t201 t202 _ ?side1 ?side2 A19.out).mono ?_
     (case side1 => exact lc12_ (Kd.C_below HR0_1.out HB.out))
     (case side2 => exact HC0_1.out)
     rintro e w35 ⟨v203, rfl, ho0, hb⟩
     refine ⟨_, rfl, ?_⟩
     have n0_ := am12_ (Kd.R_lower ho0 (below_size (lw12_ HB)))
     have n1_ := am12_ (blk_below (g := gb197) (o := .cells #[.int .i64 a0_0, .slice A0_1 l0_1.length c0_1] 24 (0, 0)) (lb12_ BK197) hb)
     have n2_ := am12_ (blk_below (g := gb198) (o := .cells #[.int .i64 a1_0, .slice A1_1 l1_1.length c1_1] 24 (0, 0)) (lb12_ BK198) hb)
     have n3_ := am12_ (blk_below (g := gb214) (o := .cells #[.int .i64 0, .slice none 0 0] 26 (0, 0)) (lb12_ BK214) hb)
     have n4_ := am12_ (below_step (lw12_ HB) hb)
     clear BK197
     clear BK198
     clear BK214
     clear HB
     have HO204 := n0_
     have BK197 := n1_
     have BK198 := n2_
     have BK214 := n3_
     have HB := n4_
     clear n0_ n1_ n2_ n3_ n4_
     (try clear hb)
     (try clear hb2)
     (try clear hk)
     (try clear hi)
     (try clear ho0)
     refine hK.out _ _ ⟨(blk_cell BK197.out 0).trans rfl, (blk_cell BK197.out 1).trans rfl, (blk_cell BK198.out 0).trans rfl, (blk_cell BK198.out 1).trans rfl⟩ (fun hHeld => ?_)
     clear hK K
     refine norm_ (a' := ?_) ?_ ?_
     rotate_left
     ·show Act.put _ (some 29) _ = _
      simp only [Act.put, List.setIfInBounds_toArray, List.set_cons_zero, List.set_cons_succ, i64_w, i32_w]
      rfl
     refine one_ (i := 3) (N := some 31) #[true, true, true, true, false, false, false, false, true, false, false] rfl rfl (one_of HT_.out (by kernel_rfl)) (by decide) (fun K hK => ?_)
     refine goes_ Try.func18 (by kernel_rfl) rfl #[.agg #[.int .i64 a1_0, .slice A1_1 l1_1.length c1_1]] (by rfl) rfl rfl lm12_ ?_
     with_reducible refine (laws_toBits.calls k a1_0 _ _ l1_1 t205 t206 _ ?side1 ?side2 A20.out).mono ?_
     (case side1 => exact lc12_ (Kd.C_below HR1_1.out HB.out))
     (case side2 => exact HC1_1.out)
     rintro e w36 ⟨v207, rfl, ho0, hb⟩
     refine ⟨_, rfl, ?_⟩
     have n0_ := am12_ (Kd.R_elder' (lf12_ HO204) (Kd.R_base ho0) hb)
     have n1_ := am12_ (Kd.R_lower (Kd.R_new' ho0 (Kd.R_lt (lf12_ HO204))) (below_size (lw12_ HB)))
     have n2_ := am12_ (blk_below (g := gb197) (o := .cells #[.int .i64 a0_0, .slice A0_1 l0_1.length c0_1] 24 (0, 0)) (lb12_ BK197) hb)
     have n3_ := am12_ (blk_below (g := gb198) (o := .cells #[.int .i64 a1_0, .slice A1_1 l1_1.length c1_1] 24 (0, 0)) (lb12_ BK198) hb)
     have n4_ := am12_ (blk_below (g := gb214) (o := .cells #[.int .i64 0, .slice none 0 0] 26 (0, 0)) (lb12_ BK214) hb)
     have n5_ := am12_ (below_step (lw12_ HB) hb)
     clear HO204
     clear BK197
     clear BK198
     clear BK214
     clear HB
     have HO204 := n0_
     have HO208 := n1_
     have BK197 := n2_
     have BK198 := n3_
     have BK214 := n4_
     have HB := n5_
     clear n0_ n1_ n2_ n3_ n4_ n5_
     (try clear hb)
     (try clear hb2)
     (try clear hk)
     (try clear hi)
     (try clear ho0)
     obtain ⟨Ao37, co37, eo37⟩ := Kd.R_slice HO204.out
     (first | subst eo37 | (injection eo37 with f1_ f2_ f3_; have f4_ := f1_.symm; have f5_ := f3_.symm; clear f1_ f2_ f3_; subst f4_; subst f5_))
     obtain ⟨Ao38, co38, eo38⟩ := Kd.R_slice HO208.out
     (first | subst eo38 | (injection eo38 with f1_ f2_ f3_; have f4_ := f1_.symm; have f5_ := f3_.symm; clear f1_ f2_ f3_; subst f4_; subst f5_))
     refine hK.out _ _ ⟨(blk_cell BK197.out 0).trans rfl, (blk_cell BK197.out 1).trans rfl, (blk_cell BK198.out 0).trans rfl, (blk_cell BK198.out 1).trans rfl⟩ (fun hHeld => ?_)
     clear hK K
     refine norm_ (a' := ?_) ?_ ?_
     rotate_left
     ·show Act.put _ (some 31) _ = _
      simp only [Act.put, List.setIfInBounds_toArray, List.set_cons_zero, List.set_cons_succ, i64_w, i32_w]
      rfl
     refine one_ (i := 4) (N := some 32) #[true, true, true, true, true, false, false, false, true, false, false] rfl rfl (one_of HT_.out (by kernel_rfl)) (by decide) (fun K hK => ?_)
     refine goes_ Try.func25 (by kernel_rfl) rfl #[.agg #[.int .i64 t201, .slice Ao37 t202.length co37], .agg #[.int .i64 t205, .slice Ao38 t206.length co38]] (by rfl) rfl rfl lm12_ ?_
     with_reducible refine (spec_JoinBits.calls k t201 _ _ t202 t205 _ _ t206 t209 t210 t213 _ ?side1 ?side2 ?side3 ?side4 A21.out).mono ?_
     (case side1 => exact lc12_ (Kd.R_reads' HO204.out).2.2)
     (case side2 => exact (Kd.R_reads' HO204.out).2.1)
     (case side3 => exact lc12_ (Kd.R_reads' HO208.out).2.2)
     (case side4 => exact (Kd.R_reads' HO208.out).2.1)
     rintro e w39 ⟨v211, rfl, ho0, hb⟩
     refine ⟨_, rfl, ?_⟩
     have n0_ := am12_ (Kd.R_elder' (lf12_ HO204) (Kd.R_base ho0) hb)
     have n1_ := am12_ (Kd.R_elder' (lf12_ HO208) (Kd.R_base ho0) hb)
     have n2_ := am12_ (Kd.R_lower (Kd.R_new' (Kd.R_new' ho0 (Kd.R_lt (lf12_ HO204))) (Kd.R_lt (lf12_ HO208))) (below_size (lw12_ HB)))
     have n3_ := am12_ (blk_below (g := gb197) (o := .cells #[.int .i64 a0_0, .slice A0_1 l0_1.length c0_1] 24 (0, 0)) (lb12_ BK197) hb)
     have n4_ := am12_ (blk_below (g := gb198) (o := .cells #[.int .i64 a1_0, .slice A1_1 l1_1.length c1_1] 24 (0, 0)) (lb12_ BK198) hb)
     have n5_ := am12_ (blk_below (g := gb214) (o := .cells #[.int .i64 0, .slice none 0 0] 26 (0, 0)) (lb12_ BK214) hb)
     have n6_ := am12_ (below_step (lw12_ HB) hb)
     clear HO204
     clear HO208
     clear BK197
     clear BK198
     clear BK214
     clear HB
     have HO204 := n0_
     have HO208 := n1_
     have HO212 := n2_
     have BK197 := n3_
     have BK198 := n4_
     have BK214 := n5_
     have HB := n6_
     clear n0_ n1_ n2_ n3_ n4_ n5_ n6_
     (try clear hb)
     (try clear hb2)
     (try clear hk)
     (try clear hi)
     (try clear ho0)
     refine hK.out _ _ ⟨(blk_cell BK197.out 0).trans rfl, (blk_cell BK197.out 1).trans rfl, (blk_cell BK198.out 0).trans rfl, (blk_cell BK198.out 1).trans rfl⟩ (fun hHeld => ?_)
     clear hK K
     refine norm_ (a' := ?_) ?_ ?_
     rotate_left
     ·show Act.put _ (some 32) _ = _
      simp only [Act.put, List.setIfInBounds_toArray, List.set_cons_zero, List.set_cons_succ, i64_w, i32_w]
      rfl
     refine pure_ (i := 5) (N := some 27) (v := ?_) (a' := ?_) #[true, true, true, true, true, true, false, false, true, false, false] rfl rfl (any_of HT_.out (by kernel_rfl)) (fun _ _ _ h => h) (Or.inl ⟨by rfl, ?_⟩) ?_ ?_
     rotate_left
     ·intro w'
      go_simp
      with_reducible rfl
     rotate_left
     ·simp only [Act.put, List.setIfInBounds_toArray, List.set_cons_zero, List.set_cons_succ, i64_w, i32_w]
      rfl
     refine pure_ (i := 6) (N := some 33) (v := ?_) (a' := ?_) #[true, true, true, true, true, true, true, false, true, false, false] rfl rfl (any_of HT_.out (by kernel_rfl)) (fun _ _ _ h => h) (Or.inl ⟨by rfl, ?_⟩) ?_ ?_
     rotate_left
     ·intro w'
      go_simp
      with_reducible rfl
     rotate_left
     ·simp only [Act.put, List.setIfInBounds_toArray, List.set_cons_zero, List.set_cons_succ, i64_w, i32_w]
      rfl
     refine pure_ (i := 7) (N := some 34) (v := ?_) (a' := ?_) #[true, true, true, true, true, true, true, true, true, false, false] rfl rfl (any_of HT_.out (by kernel_rfl)) (fun _ _ _ h => h) (Or.inl ⟨by rfl, ?_⟩) ?_ ?_
     rotate_left
     ·intro w'
      go_simp
      with_reducible rfl
     rotate_left
     ·simp only [Act.put, List.setIfInBounds_toArray, List.set_cons_zero, List.set_cons_succ, i64_w, i32_w]
      rfl
     exact norm_ (by simp only [putAll, Act.put, List.setIfInBounds_toArray, List.set_cons_zero, List.set_cons_succ]) (hCont (.slice Ao37 t202.length co37, .slice Ao38 t206.length co38, v211, gb214) _ ⟨hHeld, (by (with_reducible repeat (first | apply Kd.R_alloc | apply Kd.R_drewN | apply Kd.R_drew)); exact Kd.R_mono HO204.out (fun _ hk => ⟨hk.1.2, hk.2⟩)), (by (with_reducible repeat (first | apply Kd.R_alloc | apply Kd.R_drewN | apply Kd.R_drew)); exact Kd.R_mono HO208.out (fun _ hk => ⟨hk.1.2, hk.2⟩)), (by (with_reducible repeat (first | apply Kd.R_alloc | apply Kd.R_drewN | apply Kd.R_drew)); exact Kd.R_mono HO212.out (fun _ hk => ⟨hk.1.2, hk.2⟩)), (lb12_ BK197), (lb12_ BK198), (lb12_ BK214), GW214.out, GE214.out, NB197_214.out, NB214_197.out, NB198_214.out, NB214_198.out, (lw12_ HB)⟩)
   rintro ⟨v203, v207, v211, gb214⟩ w40 ⟨hS_, h0_, h1_, h2_, h3_, h4_, h5_, h6_, h7_, h8_, h9_, h10_, h11_, h12_⟩
   have n0_ : Aside0 (Kd.R (Kd.int .i64) 3 w40 w.heap.size (fun k_ => some k_ ≠ (v207 : Value).ownBlock ∧ some k_ ≠ (v211 : Value).ownBlock) v203 t202) := ⟨h0_⟩
   have n1_ : Aside0 (Kd.R (Kd.int .i64) 3 w40 w.heap.size (fun k_ => some k_ ≠ (v203 : Value).ownBlock ∧ some k_ ≠ (v211 : Value).ownBlock) v207 t206) := ⟨h1_⟩
   have n2_ : Aside0 (Kd.R (Kd.int .i64) 3 w40 w.heap.size (fun k_ => some k_ ≠ (v203 : Value).ownBlock ∧ some k_ ≠ (v207 : Value).ownBlock) v211 t210) := ⟨h2_⟩
   have n3_ : Aside0 (w40.heap[gb197]? = some (.cells #[.int .i64 a0_0, .slice A0_1 l0_1.length c0_1] 24 (0, 0))) := ⟨h3_⟩
   have n4_ : Aside0 (w40.heap[gb198]? = some (.cells #[.int .i64 a1_0, .slice A1_1 l1_1.length c1_1] 24 (0, 0))) := ⟨h4_⟩
   have n5_ : Aside0 (w40.heap[gb214]? = some (.cells #[.int .i64 0, .slice none 0 0] 26 (0, 0))) := ⟨h5_⟩
   have n6_ : Aside0 (w.heap.size ≤ gb214) := ⟨h6_⟩
   have n7_ : Aside0 (w.heap.size ≤ gb214) := ⟨h7_⟩
   have n8_ : Aside0 (gb197 ≠ gb214) := ⟨h8_⟩
   have n9_ : Aside0 (gb214 ≠ gb197) := ⟨h9_⟩
   have n10_ : Aside0 (gb198 ≠ gb214) := ⟨h10_⟩
   have n11_ : Aside0 (gb214 ≠ gb198) := ⟨h11_⟩
   have n12_ : Aside0 (Below w.heap.size w w40) := ⟨h12_⟩
   clear BK197
   clear BK198
   clear HB
   clear h0_ h1_ h2_ h3_ h4_ h5_ h6_ h7_ h8_ h9_ h10_ h11_ h12_
   have HO204 := n0_
   have HO208 := n1_
   have HO212 := n2_
   have BK197 := n3_
   have BK198 := n4_
   have BK214 := n5_
   have GW214 := n6_
   have GE214 := n7_
   have NB197_214 := n8_
   have NB214_197 := n9_
   have NB198_214 := n10_
   have NB214_198 := n11_
   have HB := n12_
   clear n0_ n1_ n2_ n3_ n4_ n5_ n6_ n7_ n8_ n9_ n10_ n11_ n12_
   have hHeld : w40.cell? ⟨gb197, 0, none⟩ = some (.int .i64 a0_0) ∧ w40.cell? ⟨gb197, 1, none⟩ = some (.slice A0_1 l0_1.length c0_1) ∧ w40.cell? ⟨gb198, 0, none⟩ = some (.int .i64 a1_0) ∧ w40.cell? ⟨gb198, 1, none⟩ = some (.slice A1_1 l1_1.length c1_1) := hS_
   obtain ⟨Ao42, co42, eo42⟩ := Kd.R_slice HO212.out
   (first | subst eo42 | (injection eo42 with f1_ f2_ f3_; have f4_ := f1_.symm; have f5_ := f3_.symm; clear f1_ f2_ f3_; subst f4_; subst f5_))
   refine norm_ (a' := ?_) ?_ ?_
   rotate_left
   ·simp only [putAll, Act.put, List.setIfInBounds_toArray, List.set_cons_zero, List.set_cons_succ]
    rfl
   refine one_ (i := 9) (N := none) #[true, true, true, true, true, true, true, true, true, true, false] rfl rfl (one_of HT_.out (by kernel_rfl)) (by decide) (fun K hK => ?_)
   have hs41 : w40.cell? ⟨gb214, 0, none⟩ = some (.int .i64 0) := (blk_cell BK214.out 0).trans rfl
   have hfs41 := blk_frozen BK214.out 0
   have hns41_0 := NB197_214.out
   have hns41_1 := NB198_214.out
   have hms41_0 := NB214_197.out
   have hms41_1 := NB214_198.out
   have hs43 : w40.cell? ⟨gb214, 1, none⟩ = some (.slice none 0 0) := (blk_cell BK214.out 1).trans rfl
   have hfs43 := blk_frozen BK214.out 1
   have hns43_0 := NB197_214.out
   have hns43_1 := NB198_214.out
   have hms43_0 := NB214_197.out
   have hms43_1 := NB214_198.out
   refine skip_ (w1 := ?_) (by rfl) rfl ?_ ?_
   rotate_left
   ·go_simp
    rfl
   refine hK.out _ _ ⟨((cell_far (p := ⟨gb214, _, none⟩) NB197_214.out _).trans (((cell_far (p := ⟨gb214, _, none⟩) NB197_214.out _).trans (hHeld.1)))), ((cell_far (p := ⟨gb214, _, none⟩) NB197_214.out _).trans (((cell_far (p := ⟨gb214, _, none⟩) NB197_214.out _).trans (hHeld.2.1)))), ((cell_far (p := ⟨gb214, _, none⟩) NB198_214.out _).trans (((cell_far (p := ⟨gb214, _, none⟩) NB198_214.out _).trans (hHeld.2.2.1)))), ((cell_far (p := ⟨gb214, _, none⟩) NB198_214.out _).trans (((cell_far (p := ⟨gb214, _, none⟩) NB198_214.out _).trans (hHeld.2.2.2))))⟩ (fun hHeld => ?_)
   clear hK K
   refine pure_ (i := 10) (N := some 7) (v := ?_) (a' := ?_) #[true, true, true, true, true, true, true, true, true, true, true] rfl rfl (any_of HT_.out (by kernel_rfl)) (fun _ _ _ h => h) (Or.inl ⟨by rfl, ?_⟩) ?_ ?_
   rotate_left
   ·intro w'
    go_simp
    with_reducible rfl
   rotate_left
   ·simp only [Act.put, List.setIfInBounds_toArray, List.set_cons_zero, List.set_cons_succ, i64_w, i32_w]
    rfl
   refine done_ (done_of HT_.out (by kernel_rfl)) ?_
   have hnb44 := NB197_214.out
   have hnc44 := NB214_197.out
   have hcz45_0 : w40.cell? ⟨gb197, 0, none⟩ = some (.int .i64 a0_0) := (blk_cell BK197.out 0).trans rfl
   have hcz45_1 : w40.cell? ⟨gb197, 1, none⟩ = some (.slice A0_1 l0_1.length c0_1) := (blk_cell BK197.out 1).trans rfl
   have hfz45_0 := blk_frozen BK197.out 0
   have hfz45_1 := blk_frozen BK197.out 1
   have Z3_ := am12_ (Kd.R_far (p := ⟨gb214, 1, none⟩) (Kd.R_far (p := ⟨gb214, 0, none⟩) (Kd.R_types HO212.out BK214.out (by decide)) (fun _ hk => hk.2) (.int .i64 t209)) (fun _ hk => hk.2) (.slice Ao42 t210.length co42))
   have Z2_ := am12_ (Kd.R_far (p := ⟨gb214, 1, none⟩) (Kd.R_far (p := ⟨gb214, 0, none⟩) (Kd.R_types HO208.out BK214.out (by decide)) (fun _ hk => hk.2) (.int .i64 t209)) (fun _ hk => hk.2) (.slice Ao42 t210.length co42))
   have Z1_ := am12_ (Kd.R_far (p := ⟨gb214, 1, none⟩) (Kd.R_far (p := ⟨gb214, 0, none⟩) (Kd.R_types HO204.out BK214.out (by decide)) (fun _ hk => hk.2) (.int .i64 t209)) (fun _ hk => hk.2) (.slice Ao42 t210.length co42))
   go_upto_region 12 with (first | ((with_reducible refine gate_callee (f := 18) rfl ?_); refine goesL_ (some 36) rfl rfl Try.func18 (by kernel_rfl) rfl #[.agg #[.int .i64 a0_0, .slice A0_1 l0_1.length c0_1]] rfl lm12_ ?_; (with_reducible refine (laws_toBits.calls k a0_0 _ _ l0_1 t215 t216 _ ?side1 ?side2 A22.out).mono ?_); (case side1 => exact Kd.C_below HR0_1.out (lw12_ HB)); (case side2 => exact HC0_1.out); rintro e w46 ⟨v217, rfl, ho0, hb⟩; refine ⟨_, rfl, ?_⟩; have n0_ := am12_ (Kd.R_elder' (lt12_ (Kd.R_mono Z1_.out (fun _ h_ => h_.1))) (Kd.R_base ho0) hb); have n1_ := am12_ (Kd.R_elder' (lt12_ (Kd.R_mono Z2_.out (fun _ h_ => h_.1))) (Kd.R_base ho0) hb); have n2_ := am12_ (Kd.R_elder' (lt12_ (Kd.R_mono Z3_.out (fun _ h_ => h_.1))) (Kd.R_base ho0) hb); have n3_ := am12_ (Kd.R_lower (Kd.R_new' (Kd.R_new' (Kd.R_new' ho0 (Kd.R_lt (lt12_ (Kd.R_mono Z1_.out (fun _ h_ => h_.1))))) (Kd.R_lt (lt12_ (Kd.R_mono Z2_.out (fun _ h_ => h_.1))))) (Kd.R_lt (lt12_ (Kd.R_mono Z3_.out (fun _ h_ => h_.1))))) (below_size (lw12_ HB))); have n4_ := am12_ (blk_below (g := gb197) (o := .cells #[.int .i64 a0_0, .slice A0_1 l0_1.length c0_1] 24 (0, 0)) (by (with_reducible repeat (first | refine blk_drewN ?_ _ | refine blk_drew ?_ | refine blk_alloc ?_ _)); refine blk_far ?_ NB197_214.out _; (with_reducible repeat (first | refine blk_drewN ?_ _ | refine blk_drew ?_ | refine blk_alloc ?_ _)); refine blk_far ?_ NB197_214.out _; (with_reducible repeat (first | refine blk_drewN ?_ _ | refine blk_drew ?_ | refine blk_alloc ?_ _)); exact BK197.out) hb); have n5_ := am12_ (blk_below (g := gb198) (o := .cells #[.int .i64 a1_0, .slice A1_1 l1_1.length c1_1] 24 (0, 0)) (by (with_reducible repeat (first | refine blk_drewN ?_ _ | refine blk_drew ?_ | refine blk_alloc ?_ _)); refine blk_far ?_ NB198_214.out _; (with_reducible repeat (first | refine blk_drewN ?_ _ | refine blk_drew ?_ | refine blk_alloc ?_ _)); refine blk_far ?_ NB198_214.out _; (with_reducible repeat (first | refine blk_drewN ?_ _ | refine blk_drew ?_ | refine blk_alloc ?_ _)); exact BK198.out) hb); have n6_ := am12_ (blk_below (g := gb214) (o := .cells #[.int .i64 t209, .slice Ao42 t210.length co42] 26 (0, 0)) (by (with_reducible repeat (first | refine blk_drewN ?_ _ | refine blk_drew ?_ | refine blk_alloc ?_ _)); refine blk_put (cs := #[.int .i64 t209, .slice none 0 0]) ?_ 1 _ rfl; (with_reducible repeat (first | refine blk_drewN ?_ _ | refine blk_drew ?_ | refine blk_alloc ?_ _)); refine blk_put (cs := #[.int .i64 0, .slice none 0 0]) ?_ 0 _ rfl; (with_reducible repeat (first | refine blk_drewN ?_ _ | refine blk_drew ?_ | refine blk_alloc ?_ _)); exact BK214.out) hb); have n7_ := am12_ (below_step (lw12_ HB) hb); clear HO204; clear HO208; clear HO212; clear BK197; clear BK198; clear BK214; clear HB; have HO204 := n0_; have HO208 := n1_; have HO212 := n2_; have HO218 := n3_; have BK197 := n4_; have BK198 := n5_; have BK214 := n6_; have HB := n7_; clear n0_ n1_ n2_ n3_ n4_ n5_ n6_ n7_; (try clear hb); (try clear hb2); (try clear hk); (try clear hi); (try clear ho0)) | ((with_reducible refine gate_dst (N := 8) rfl ?_); refine box_event ?hg (N := 8) ?hd (cs := #[.int .i64 0, .slice none 0 0]) (t := 26) ?hr ?_; (case hd => rfl); (case hg => rfl); (case hr => first | (go_simp; done) | (go_simp; rfl)); intro gb219 hg w47 hbox hb; have n0_ := am12_ (Kd.R_below (lf12_ HO204) hb); have n1_ := am12_ (Kd.R_below (lf12_ HO208) hb); have n2_ := am12_ (Kd.R_below (lf12_ HO212) hb); have n3_ := am12_ (Kd.R_below (lf12_ HO218) hb); have n4_ := am12_ (blk_below (g := gb197) (o := .cells #[.int .i64 a0_0, .slice A0_1 l0_1.length c0_1] 24 (0, 0)) (lb12_ BK197) hb); have n5_ := am12_ (blk_below (g := gb198) (o := .cells #[.int .i64 a1_0, .slice A1_1 l1_1.length c1_1] 24 (0, 0)) (lb12_ BK198) hb); have n6_ := am12_ (blk_below (g := gb214) (o := .cells #[.int .i64 t209, .slice Ao42 t210.length co42] 26 (0, 0)) (lb12_ BK214) hb); have n7_ := am12_ (below_step (lw12_ HB) hb); have n8_ := am12_ (hbox); have n9_ := am12_ ((by rw [hg]; exact (below_size (lw12_ HB)) : w.heap.size ≤ gb219)); have n10_ := am12_ ((by rw [hg]; exact (below_size (lw12_ HB)) : w.heap.size ≤ gb219)); have n11_ := am12_ ((by rw [hg]; exact Nat.ne_of_lt (blk_lt (g := gb197) (lb12_ BK197)) : gb197 ≠ gb219)); have n12_ := am12_ ((by rw [hg]; exact Nat.ne_of_gt (blk_lt (g := gb197) (lb12_ BK197)) : gb219 ≠ gb197)); have n13_ := am12_ ((by rw [hg]; exact Nat.ne_of_lt (blk_lt (g := gb198) (lb12_ BK198)) : gb198 ≠ gb219)); have n14_ := am12_ ((by rw [hg]; exact Nat.ne_of_gt (blk_lt (g := gb198) (lb12_ BK198)) : gb219 ≠ gb198)); have n15_ := am12_ ((by rw [hg]; exact Nat.ne_of_lt (blk_lt (g := gb214) (lb12_ BK214)) : gb214 ≠ gb219)); have n16_ := am12_ ((by rw [hg]; exact Nat.ne_of_gt (blk_lt (g := gb214) (lb12_ BK214)) : gb219 ≠ gb214)); clear HO204; clear HO208; clear HO212; clear HO218; clear BK197; clear BK198; clear BK214; clear HB; have HO204 := n0_; have HO208 := n1_; have HO212 := n2_; have HO218 := n3_; have BK197 := n4_; have BK198 := n5_; have BK214 := n6_; have HB := n7_; have BK219 := n8_; have GW219 := n9_; have GE219 := n10_; have NB197_219 := n11_; have NB219_197 := n12_; have NB198_219 := n13_; have NB219_198 := n14_; have NB214_219 := n15_; have NB219_214 := n16_; clear n0_ n1_ n2_ n3_ n4_ n5_ n6_ n7_ n8_ n9_ n10_ n11_ n12_ n13_ n14_ n15_ n16_; clear hb hbox hg; have hnb48 := NB219_197.out; have hnc48 := NB197_219.out; have hnb49 := NB219_198.out; have hnc49 := NB198_219.out; have hnb50 := NB219_214.out; have hnc50 := NB214_219.out; have hcz51_0 : w47.cell? ⟨gb219, 0, none⟩ = some (.int .i64 0) := (blk_cell BK219.out 0).trans rfl; have hcz51_1 : w47.cell? ⟨gb219, 1, none⟩ = some (.slice none 0 0) := (blk_cell BK219.out 1).trans rfl; have hfz51_0 := blk_frozen BK219.out 0; have hfz51_1 := blk_frozen BK219.out 1; obtain ⟨Ao52, co52, eo52⟩ := Kd.R_slice HO218.out; subst eo52; have hnb53 := NB198_214.out; have hnc53 := NB214_198.out; have hcz54_0 : w47.cell? ⟨gb198, 0, none⟩ = some (.int .i64 a1_0) := (blk_cell BK198.out 0).trans rfl; have hcz54_1 : w47.cell? ⟨gb198, 1, none⟩ = some (.slice A1_1 l1_1.length c1_1) := (blk_cell BK198.out 1).trans rfl; have hfz54_0 := blk_frozen BK198.out 0; have hfz54_1 := blk_frozen BK198.out 1) | ((with_reducible refine gate_callee (f := 18) rfl ?_); refine goesL_ (some 38) rfl rfl Try.func18 (by kernel_rfl) rfl #[.agg #[.int .i64 a1_0, .slice A1_1 l1_1.length c1_1]] rfl lm12_ ?_; (with_reducible refine (laws_toBits.calls k a1_0 _ _ l1_1 t220 t221 _ ?side1 ?side2 A23.out).mono ?_); (case side1 => exact Kd.C_below HR1_1.out (lw12_ HB)); (case side2 => exact HC1_1.out); rintro e w55 ⟨v222, rfl, ho0, hb⟩; refine ⟨_, rfl, ?_⟩; have n0_ := am12_ (Kd.R_elder' (lt12_ (Kd.R_mono (Kd.R_far (p := ⟨gb219, 1, none⟩) (Kd.R_far (p := ⟨gb219, 0, none⟩) (Kd.R_types HO204.out BK219.out (by decide)) (fun _ hk => hk.2) (.int .i64 t215)) (fun _ hk => hk.2) (.slice Ao52 t216.length co52)) (fun _ h_ => h_.1))) (Kd.R_base ho0) hb); have n1_ := am12_ (Kd.R_elder' (lt12_ (Kd.R_mono (Kd.R_far (p := ⟨gb219, 1, none⟩) (Kd.R_far (p := ⟨gb219, 0, none⟩) (Kd.R_types HO208.out BK219.out (by decide)) (fun _ hk => hk.2) (.int .i64 t215)) (fun _ hk => hk.2) (.slice Ao52 t216.length co52)) (fun _ h_ => h_.1))) (Kd.R_base ho0) hb); have n2_ := am12_ (Kd.R_elder' (lt12_ (Kd.R_mono (Kd.R_far (p := ⟨gb219, 1, none⟩) (Kd.R_far (p := ⟨gb219, 0, none⟩) (Kd.R_types HO212.out BK219.out (by decide)) (fun _ hk => hk.2) (.int .i64 t215)) (fun _ hk => hk.2) (.slice Ao52 t216.length co52)) (fun _ h_ => h_.1))) (Kd.R_base ho0) hb); have n3_ := am12_ (Kd.R_elder' (lt12_ (Kd.R_mono (Kd.R_far (p := ⟨gb219, 1, none⟩) (Kd.R_far (p := ⟨gb219, 0, none⟩) (Kd.R_types HO218.out BK219.out (by decide)) (fun _ hk => hk.2) (.int .i64 t215)) (fun _ hk => hk.2) (.slice Ao52 t216.length co52)) (fun _ h_ => h_.1))) (Kd.R_base ho0) hb); have n4_ := am12_ (Kd.R_lower (Kd.R_new' (Kd.R_new' (Kd.R_new' (Kd.R_new' ho0 (Kd.R_lt (lt12_ (Kd.R_mono (Kd.R_far (p := ⟨gb219, 1, none⟩) (Kd.R_far (p := ⟨gb219, 0, none⟩) (Kd.R_types HO204.out BK219.out (by decide)) (fun _ hk => hk.2) (.int .i64 t215)) (fun _ hk => hk.2) (.slice Ao52 t216.length co52)) (fun _ h_ => h_.1))))) (Kd.R_lt (lt12_ (Kd.R_mono (Kd.R_far (p := ⟨gb219, 1, none⟩) (Kd.R_far (p := ⟨gb219, 0, none⟩) (Kd.R_types HO208.out BK219.out (by decide)) (fun _ hk => hk.2) (.int .i64 t215)) (fun _ hk => hk.2) (.slice Ao52 t216.length co52)) (fun _ h_ => h_.1))))) (Kd.R_lt (lt12_ (Kd.R_mono (Kd.R_far (p := ⟨gb219, 1, none⟩) (Kd.R_far (p := ⟨gb219, 0, none⟩) (Kd.R_types HO212.out BK219.out (by decide)) (fun _ hk => hk.2) (.int .i64 t215)) (fun _ hk => hk.2) (.slice Ao52 t216.length co52)) (fun _ h_ => h_.1))))) (Kd.R_lt (lt12_ (Kd.R_mono (Kd.R_far (p := ⟨gb219, 1, none⟩) (Kd.R_far (p := ⟨gb219, 0, none⟩) (Kd.R_types HO218.out BK219.out (by decide)) (fun _ hk => hk.2) (.int .i64 t215)) (fun _ hk => hk.2) (.slice Ao52 t216.length co52)) (fun _ h_ => h_.1))))) (below_size (lw12_ HB))); have n5_ := am12_ (blk_below (g := gb197) (o := .cells #[.int .i64 a0_0, .slice A0_1 l0_1.length c0_1] 24 (0, 0)) (by (with_reducible repeat (first | refine blk_drewN ?_ _ | refine blk_drew ?_ | refine blk_alloc ?_ _)); refine blk_far ?_ NB197_219.out _; (with_reducible repeat (first | refine blk_drewN ?_ _ | refine blk_drew ?_ | refine blk_alloc ?_ _)); refine blk_far ?_ NB197_219.out _; (with_reducible repeat (first | refine blk_drewN ?_ _ | refine blk_drew ?_ | refine blk_alloc ?_ _)); exact BK197.out) hb); have n6_ := am12_ (blk_below (g := gb198) (o := .cells #[.int .i64 a1_0, .slice A1_1 l1_1.length c1_1] 24 (0, 0)) (by (with_reducible repeat (first | refine blk_drewN ?_ _ | refine blk_drew ?_ | refine blk_alloc ?_ _)); refine blk_far ?_ NB198_219.out _; (with_reducible repeat (first | refine blk_drewN ?_ _ | refine blk_drew ?_ | refine blk_alloc ?_ _)); refine blk_far ?_ NB198_219.out _; (with_reducible repeat (first | refine blk_drewN ?_ _ | refine blk_drew ?_ | refine blk_alloc ?_ _)); exact BK198.out) hb); have n7_ := am12_ (blk_below (g := gb214) (o := .cells #[.int .i64 t209, .slice Ao42 t210.length co42] 26 (0, 0)) (by (with_reducible repeat (first | refine blk_drewN ?_ _ | refine blk_drew ?_ | refine blk_alloc ?_ _)); refine blk_far ?_ NB214_219.out _; (with_reducible repeat (first | refine blk_drewN ?_ _ | refine blk_drew ?_ | refine blk_alloc ?_ _)); refine blk_far ?_ NB214_219.out _; (with_reducible repeat (first | refine blk_drewN ?_ _ | refine blk_drew ?_ | refine blk_alloc ?_ _)); exact BK214.out) hb); have n8_ := am12_ (blk_below (g := gb219) (o := .cells #[.int .i64 t215, .slice Ao52 t216.length co52] 26 (0, 0)) (by (with_reducible repeat (first | refine blk_drewN ?_ _ | refine blk_drew ?_ | refine blk_alloc ?_ _)); refine blk_put (cs := #[.int .i64 t215, .slice none 0 0]) ?_ 1 _ rfl; (with_reducible repeat (first | refine blk_drewN ?_ _ | refine blk_drew ?_ | refine blk_alloc ?_ _)); refine blk_put (cs := #[.int .i64 0, .slice none 0 0]) ?_ 0 _ rfl; (with_reducible repeat (first | refine blk_drewN ?_ _ | refine blk_drew ?_ | refine blk_alloc ?_ _)); exact BK219.out) hb); have n9_ := am12_ (below_step (lw12_ HB) hb); clear HO204; clear HO208; clear HO212; clear HO218; clear BK197; clear BK198; clear BK214; clear BK219; clear HB; have HO204 := n0_; have HO208 := n1_; have HO212 := n2_; have HO218 := n3_; have HO223 := n4_; have BK197 := n5_; have BK198 := n6_; have BK214 := n7_; have BK219 := n8_; have HB := n9_; clear n0_ n1_ n2_ n3_ n4_ n5_ n6_ n7_ n8_ n9_; (try clear hb); (try clear hb2); (try clear hk); (try clear hi); (try clear ho0)) | ((with_reducible refine gate_dst (N := 9) rfl ?_); refine box_event ?hg (N := 9) ?hd (cs := #[.int .i64 0, .slice none 0 0]) (t := 26) ?hr ?_; (case hd => rfl); (case hg => rfl); (case hr => first | (go_simp; done) | (go_simp; rfl)); intro gb224 hg w56 hbox hb; have n0_ := am12_ (Kd.R_below (lf12_ HO204) hb); have n1_ := am12_ (Kd.R_below (lf12_ HO208) hb); have n2_ := am12_ (Kd.R_below (lf12_ HO212) hb); have n3_ := am12_ (Kd.R_below (lf12_ HO218) hb); have n4_ := am12_ (Kd.R_below (lf12_ HO223) hb); have n5_ := am12_ (blk_below (g := gb197) (o := .cells #[.int .i64 a0_0, .slice A0_1 l0_1.length c0_1] 24 (0, 0)) (lb12_ BK197) hb); have n6_ := am12_ (blk_below (g := gb198) (o := .cells #[.int .i64 a1_0, .slice A1_1 l1_1.length c1_1] 24 (0, 0)) (lb12_ BK198) hb); have n7_ := am12_ (blk_below (g := gb214) (o := .cells #[.int .i64 t209, .slice Ao42 t210.length co42] 26 (0, 0)) (lb12_ BK214) hb); have n8_ := am12_ (blk_below (g := gb219) (o := .cells #[.int .i64 t215, .slice Ao52 t216.length co52] 26 (0, 0)) (lb12_ BK219) hb); have n9_ := am12_ (below_step (lw12_ HB) hb); have n10_ := am12_ (hbox); have n11_ := am12_ ((by rw [hg]; exact (below_size (lw12_ HB)) : w.heap.size ≤ gb224)); have n12_ := am12_ ((by rw [hg]; exact (below_size (lw12_ HB)) : w.heap.size ≤ gb224)); have n13_ := am12_ ((by rw [hg]; exact Nat.ne_of_lt (blk_lt (g := gb197) (lb12_ BK197)) : gb197 ≠ gb224)); have n14_ := am12_ ((by rw [hg]; exact Nat.ne_of_gt (blk_lt (g := gb197) (lb12_ BK197)) : gb224 ≠ gb197)); have n15_ := am12_ ((by rw [hg]; exact Nat.ne_of_lt (blk_lt (g := gb198) (lb12_ BK198)) : gb198 ≠ gb224)); have n16_ := am12_ ((by rw [hg]; exact Nat.ne_of_gt (blk_lt (g := gb198) (lb12_ BK198)) : gb224 ≠ gb198)); have n17_ := am12_ ((by rw [hg]; exact Nat.ne_of_lt (blk_lt (g := gb214) (lb12_ BK214)) : gb214 ≠ gb224)); have n18_ := am12_ ((by rw [hg]; exact Nat.ne_of_gt (blk_lt (g := gb214) (lb12_ BK214)) : gb224 ≠ gb214)); have n19_ := am12_ ((by rw [hg]; exact Nat.ne_of_lt (blk_lt (g := gb219) (lb12_ BK219)) : gb219 ≠ gb224)); have n20_ := am12_ ((by rw [hg]; exact Nat.ne_of_gt (blk_lt (g := gb219) (lb12_ BK219)) : gb224 ≠ gb219)); clear HO204; clear HO208; clear HO212; clear HO218; clear HO223; clear BK197; clear BK198; clear BK214; clear BK219; clear HB; have HO204 := n0_; have HO208 := n1_; have HO212 := n2_; have HO218 := n3_; have HO223 := n4_; have BK197 := n5_; have BK198 := n6_; have BK214 := n7_; have BK219 := n8_; have HB := n9_; have BK224 := n10_; have GW224 := n11_; have GE224 := n12_; have NB197_224 := n13_; have NB224_197 := n14_; have NB198_224 := n15_; have NB224_198 := n16_; have NB214_224 := n17_; have NB224_214 := n18_; have NB219_224 := n19_; have NB224_219 := n20_; clear n0_ n1_ n2_ n3_ n4_ n5_ n6_ n7_ n8_ n9_ n10_ n11_ n12_ n13_ n14_ n15_ n16_ n17_ n18_ n19_ n20_; clear hb hbox hg; have hnb57 := NB224_197.out; have hnc57 := NB197_224.out; have hnb58 := NB224_198.out; have hnc58 := NB198_224.out; have hnb59 := NB224_214.out; have hnc59 := NB214_224.out; have hnb60 := NB224_219.out; have hnc60 := NB219_224.out; have hcz61_0 : w56.cell? ⟨gb224, 0, none⟩ = some (.int .i64 0) := (blk_cell BK224.out 0).trans rfl; have hcz61_1 : w56.cell? ⟨gb224, 1, none⟩ = some (.slice none 0 0) := (blk_cell BK224.out 1).trans rfl; have hfz61_0 := blk_frozen BK224.out 0; have hfz61_1 := blk_frozen BK224.out 1; obtain ⟨Ao62, co62, eo62⟩ := Kd.R_slice HO223.out; subst eo62; have hcz63_0 : w56.cell? ⟨gb219, 0, none⟩ = some (.int .i64 t215) := (blk_cell BK219.out 0).trans rfl; have hcz63_1 : w56.cell? ⟨gb219, 1, none⟩ = some (.slice Ao52 t216.length co52) := (blk_cell BK219.out 1).trans rfl; have hfz63_0 := blk_frozen BK219.out 0; have hfz63_1 := blk_frozen BK219.out 1) | ((with_reducible refine gate_callee (f := 26) rfl ?_); refine goesL_ (some 42) rfl rfl Try.func26 (by kernel_rfl) rfl #[.agg #[.int .i64 t215, .slice Ao52 t216.length co52], .agg #[.int .i64 t220, .slice Ao62 t221.length co62]] rfl lm12_ ?_; (with_reducible refine (impl_JoinBits.calls k t215 _ _ t216 t220 _ _ t221 t225 t226 t229 _ ?side1 ?side2 ?side3 ?side4 A24.out).mono ?_); (case side1 => refine (Kd.R_reads' (e := 3) (base := w.heap.size) (ok := fun k_ => ((((True ∧ some k_ ≠ (v203 : Value).ownBlock) ∧ some k_ ≠ (v207 : Value).ownBlock) ∧ some k_ ≠ (.slice Ao42 t210.length co42 : Value).ownBlock) ∧ some k_ ≠ (.slice Ao62 t221.length co62 : Value).ownBlock)) (n := t216.length) (c := co52) ?_).2.2; exact (lt12_ (Kd.R_mono (Kd.R_far (p := ⟨gb224, 1, none⟩) (Kd.R_far (p := ⟨gb224, 0, none⟩) (Kd.R_types HO218.out BK224.out (by decide)) (fun _ hk => hk.2) (.int .i64 t220)) (fun _ hk => hk.2) (.slice Ao62 t221.length co62)) (fun _ h_ => h_.1)))); (case side2 => exact (Kd.R_reads' HO218.out).2.1); (case side3 => refine (Kd.R_reads' (e := 3) (base := w.heap.size) (ok := fun k_ => ((((True ∧ some k_ ≠ (v203 : Value).ownBlock) ∧ some k_ ≠ (v207 : Value).ownBlock) ∧ some k_ ≠ (.slice Ao42 t210.length co42 : Value).ownBlock) ∧ some k_ ≠ (.slice Ao52 t216.length co52 : Value).ownBlock)) (n := t221.length) (c := co62) ?_).2.2; exact (lt12_ (Kd.R_mono (Kd.R_far (p := ⟨gb224, 1, none⟩) (Kd.R_far (p := ⟨gb224, 0, none⟩) (Kd.R_types HO223.out BK224.out (by decide)) (fun _ hk => hk.2) (.int .i64 t220)) (fun _ hk => hk.2) (.slice Ao62 t221.length co62)) (fun _ h_ => h_.1)))); (case side4 => exact (Kd.R_reads' HO223.out).2.1); rintro e w64 ⟨v227, rfl, ho0, hb⟩; refine ⟨_, rfl, ?_⟩; have n0_ := am12_ (Kd.R_elder' (lt12_ (Kd.R_mono (Kd.R_far (p := ⟨gb224, 1, none⟩) (Kd.R_far (p := ⟨gb224, 0, none⟩) (Kd.R_types HO204.out BK224.out (by decide)) (fun _ hk => hk.2) (.int .i64 t220)) (fun _ hk => hk.2) (.slice Ao62 t221.length co62)) (fun _ h_ => h_.1))) (Kd.R_base ho0) hb); have n1_ := am12_ (Kd.R_elder' (lt12_ (Kd.R_mono (Kd.R_far (p := ⟨gb224, 1, none⟩) (Kd.R_far (p := ⟨gb224, 0, none⟩) (Kd.R_types HO208.out BK224.out (by decide)) (fun _ hk => hk.2) (.int .i64 t220)) (fun _ hk => hk.2) (.slice Ao62 t221.length co62)) (fun _ h_ => h_.1))) (Kd.R_base ho0) hb); have n2_ := am12_ (Kd.R_elder' (lt12_ (Kd.R_mono (Kd.R_far (p := ⟨gb224, 1, none⟩) (Kd.R_far (p := ⟨gb224, 0, none⟩) (Kd.R_types HO212.out BK224.out (by decide)) (fun _ hk => hk.2) (.int .i64 t220)) (fun _ hk => hk.2) (.slice Ao62 t221.length co62)) (fun _ h_ => h_.1))) (Kd.R_base ho0) hb); have n3_ := am12_ (Kd.R_elder' (lt12_ (Kd.R_mono (Kd.R_far (p := ⟨gb224, 1, none⟩) (Kd.R_far (p := ⟨gb224, 0, none⟩) (Kd.R_types HO218.out BK224.out (by decide)) (fun _ hk => hk.2) (.int .i64 t220)) (fun _ hk => hk.2) (.slice Ao62 t221.length co62)) (fun _ h_ => h_.1))) (Kd.R_base ho0) hb); have n4_ := am12_ (Kd.R_elder' (lt12_ (Kd.R_mono (Kd.R_far (p := ⟨gb224, 1, none⟩) (Kd.R_far (p := ⟨gb224, 0, none⟩) (Kd.R_types HO223.out BK224.out (by decide)) (fun _ hk => hk.2) (.int .i64 t220)) (fun _ hk => hk.2) (.slice Ao62 t221.length co62)) (fun _ h_ => h_.1))) (Kd.R_base ho0) hb); have n5_ := am12_ (Kd.R_lower (Kd.R_new' (Kd.R_new' (Kd.R_new' (Kd.R_new' (Kd.R_new' ho0 (Kd.R_lt (lt12_ (Kd.R_mono (Kd.R_far (p := ⟨gb224, 1, none⟩) (Kd.R_far (p := ⟨gb224, 0, none⟩) (Kd.R_types HO204.out BK224.out (by decide)) (fun _ hk => hk.2) (.int .i64 t220)) (fun _ hk => hk.2) (.slice Ao62 t221.length co62)) (fun _ h_ => h_.1))))) (Kd.R_lt (lt12_ (Kd.R_mono (Kd.R_far (p := ⟨gb224, 1, none⟩) (Kd.R_far (p := ⟨gb224, 0, none⟩) (Kd.R_types HO208.out BK224.out (by decide)) (fun _ hk => hk.2) (.int .i64 t220)) (fun _ hk => hk.2) (.slice Ao62 t221.length co62)) (fun _ h_ => h_.1))))) (Kd.R_lt (lt12_ (Kd.R_mono (Kd.R_far (p := ⟨gb224, 1, none⟩) (Kd.R_far (p := ⟨gb224, 0, none⟩) (Kd.R_types HO212.out BK224.out (by decide)) (fun _ hk => hk.2) (.int .i64 t220)) (fun _ hk => hk.2) (.slice Ao62 t221.length co62)) (fun _ h_ => h_.1))))) (Kd.R_lt (lt12_ (Kd.R_mono (Kd.R_far (p := ⟨gb224, 1, none⟩) (Kd.R_far (p := ⟨gb224, 0, none⟩) (Kd.R_types HO218.out BK224.out (by decide)) (fun _ hk => hk.2) (.int .i64 t220)) (fun _ hk => hk.2) (.slice Ao62 t221.length co62)) (fun _ h_ => h_.1))))) (Kd.R_lt (lt12_ (Kd.R_mono (Kd.R_far (p := ⟨gb224, 1, none⟩) (Kd.R_far (p := ⟨gb224, 0, none⟩) (Kd.R_types HO223.out BK224.out (by decide)) (fun _ hk => hk.2) (.int .i64 t220)) (fun _ hk => hk.2) (.slice Ao62 t221.length co62)) (fun _ h_ => h_.1))))) (below_size (lw12_ HB))); have n6_ := am12_ (blk_below (g := gb197) (o := .cells #[.int .i64 a0_0, .slice A0_1 l0_1.length c0_1] 24 (0, 0)) (by (with_reducible repeat (first | refine blk_drewN ?_ _ | refine blk_drew ?_ | refine blk_alloc ?_ _)); refine blk_far ?_ NB197_224.out _; (with_reducible repeat (first | refine blk_drewN ?_ _ | refine blk_drew ?_ | refine blk_alloc ?_ _)); refine blk_far ?_ NB197_224.out _; (with_reducible repeat (first | refine blk_drewN ?_ _ | refine blk_drew ?_ | refine blk_alloc ?_ _)); exact BK197.out) hb); have n7_ := am12_ (blk_below (g := gb198) (o := .cells #[.int .i64 a1_0, .slice A1_1 l1_1.length c1_1] 24 (0, 0)) (by (with_reducible repeat (first | refine blk_drewN ?_ _ | refine blk_drew ?_ | refine blk_alloc ?_ _)); refine blk_far ?_ NB198_224.out _; (with_reducible repeat (first | refine blk_drewN ?_ _ | refine blk_drew ?_ | refine blk_alloc ?_ _)); refine blk_far ?_ NB198_224.out _; (with_reducible repeat (first | refine blk_drewN ?_ _ | refine blk_drew ?_ | refine blk_alloc ?_ _)); exact BK198.out) hb); have n8_ := am12_ (blk_below (g := gb214) (o := .cells #[.int .i64 t209, .slice Ao42 t210.length co42] 26 (0, 0)) (by (with_reducible repeat (first | refine blk_drewN ?_ _ | refine blk_drew ?_ | refine blk_alloc ?_ _)); refine blk_far ?_ NB214_224.out _; (with_reducible repeat (first | refine blk_drewN ?_ _ | refine blk_drew ?_ | refine blk_alloc ?_ _)); refine blk_far ?_ NB214_224.out _; (with_reducible repeat (first | refine blk_drewN ?_ _ | refine blk_drew ?_ | refine blk_alloc ?_ _)); exact BK214.out) hb); have n9_ := am12_ (blk_below (g := gb219) (o := .cells #[.int .i64 t215, .slice Ao52 t216.length co52] 26 (0, 0)) (by (with_reducible repeat (first | refine blk_drewN ?_ _ | refine blk_drew ?_ | refine blk_alloc ?_ _)); refine blk_far ?_ NB219_224.out _; (with_reducible repeat (first | refine blk_drewN ?_ _ | refine blk_drew ?_ | refine blk_alloc ?_ _)); refine blk_far ?_ NB219_224.out _; (with_reducible repeat (first | refine blk_drewN ?_ _ | refine blk_drew ?_ | refine blk_alloc ?_ _)); exact BK219.out) hb); have n10_ := am12_ (blk_below (g := gb224) (o := .cells #[.int .i64 t220, .slice Ao62 t221.length co62] 26 (0, 0)) (by (with_reducible repeat (first | refine blk_drewN ?_ _ | refine blk_drew ?_ | refine blk_alloc ?_ _)); refine blk_put (cs := #[.int .i64 t220, .slice none 0 0]) ?_ 1 _ rfl; (with_reducible repeat (first | refine blk_drewN ?_ _ | refine blk_drew ?_ | refine blk_alloc ?_ _)); refine blk_put (cs := #[.int .i64 0, .slice none 0 0]) ?_ 0 _ rfl; (with_reducible repeat (first | refine blk_drewN ?_ _ | refine blk_drew ?_ | refine blk_alloc ?_ _)); exact BK224.out) hb); have n11_ := am12_ (below_step (lw12_ HB) hb); clear HO204; clear HO208; clear HO212; clear HO218; clear HO223; clear BK197; clear BK198; clear BK214; clear BK219; clear BK224; clear HB; have HO204 := n0_; have HO208 := n1_; have HO212 := n2_; have HO218 := n3_; have HO223 := n4_; have HO228 := n5_; have BK197 := n6_; have BK198 := n7_; have BK214 := n8_; have BK219 := n9_; have BK224 := n10_; have HB := n11_; clear n0_ n1_ n2_ n3_ n4_ n5_ n6_ n7_ n8_ n9_ n10_ n11_; (try clear hb); (try clear hb2); (try clear hk); (try clear hi); (try clear ho0)) | ((with_reducible refine gate_dst (N := 10) rfl ?_); refine box_event ?hg (N := 10) ?hd (cs := #[.int .i64 0, .slice none 0 0]) (t := 26) ?hr ?_; (case hd => rfl); (case hg => rfl); (case hr => first | (go_simp; done) | (go_simp; rfl)); intro gb230 hg w65 hbox hb; have n0_ := am12_ (Kd.R_below (lf12_ HO204) hb); have n1_ := am12_ (Kd.R_below (lf12_ HO208) hb); have n2_ := am12_ (Kd.R_below (lf12_ HO212) hb); have n3_ := am12_ (Kd.R_below (lf12_ HO218) hb); have n4_ := am12_ (Kd.R_below (lf12_ HO223) hb); have n5_ := am12_ (Kd.R_below (lf12_ HO228) hb); have n6_ := am12_ (blk_below (g := gb197) (o := .cells #[.int .i64 a0_0, .slice A0_1 l0_1.length c0_1] 24 (0, 0)) (lb12_ BK197) hb); have n7_ := am12_ (blk_below (g := gb198) (o := .cells #[.int .i64 a1_0, .slice A1_1 l1_1.length c1_1] 24 (0, 0)) (lb12_ BK198) hb); have n8_ := am12_ (blk_below (g := gb214) (o := .cells #[.int .i64 t209, .slice Ao42 t210.length co42] 26 (0, 0)) (lb12_ BK214) hb); have n9_ := am12_ (blk_below (g := gb219) (o := .cells #[.int .i64 t215, .slice Ao52 t216.length co52] 26 (0, 0)) (lb12_ BK219) hb); have n10_ := am12_ (blk_below (g := gb224) (o := .cells #[.int .i64 t220, .slice Ao62 t221.length co62] 26 (0, 0)) (lb12_ BK224) hb); have n11_ := am12_ (below_step (lw12_ HB) hb); have n12_ := am12_ (hbox); have n13_ := am12_ ((by rw [hg]; exact (below_size (lw12_ HB)) : w.heap.size ≤ gb230)); have n14_ := am12_ ((by rw [hg]; exact (below_size (lw12_ HB)) : w.heap.size ≤ gb230)); have n15_ := am12_ ((by rw [hg]; exact Nat.ne_of_lt (blk_lt (g := gb197) (lb12_ BK197)) : gb197 ≠ gb230)); have n16_ := am12_ ((by rw [hg]; exact Nat.ne_of_gt (blk_lt (g := gb197) (lb12_ BK197)) : gb230 ≠ gb197)); have n17_ := am12_ ((by rw [hg]; exact Nat.ne_of_lt (blk_lt (g := gb198) (lb12_ BK198)) : gb198 ≠ gb230)); have n18_ := am12_ ((by rw [hg]; exact Nat.ne_of_gt (blk_lt (g := gb198) (lb12_ BK198)) : gb230 ≠ gb198)); have n19_ := am12_ ((by rw [hg]; exact Nat.ne_of_lt (blk_lt (g := gb214) (lb12_ BK214)) : gb214 ≠ gb230)); have n20_ := am12_ ((by rw [hg]; exact Nat.ne_of_gt (blk_lt (g := gb214) (lb12_ BK214)) : gb230 ≠ gb214)); have n21_ := am12_ ((by rw [hg]; exact Nat.ne_of_lt (blk_lt (g := gb219) (lb12_ BK219)) : gb219 ≠ gb230)); have n22_ := am12_ ((by rw [hg]; exact Nat.ne_of_gt (blk_lt (g := gb219) (lb12_ BK219)) : gb230 ≠ gb219)); have n23_ := am12_ ((by rw [hg]; exact Nat.ne_of_lt (blk_lt (g := gb224) (lb12_ BK224)) : gb224 ≠ gb230)); have n24_ := am12_ ((by rw [hg]; exact Nat.ne_of_gt (blk_lt (g := gb224) (lb12_ BK224)) : gb230 ≠ gb224)); clear HO204; clear HO208; clear HO212; clear HO218; clear HO223; clear HO228; clear BK197; clear BK198; clear BK214; clear BK219; clear BK224; clear HB; have HO204 := n0_; have HO208 := n1_; have HO212 := n2_; have HO218 := n3_; have HO223 := n4_; have HO228 := n5_; have BK197 := n6_; have BK198 := n7_; have BK214 := n8_; have BK219 := n9_; have BK224 := n10_; have HB := n11_; have BK230 := n12_; have GW230 := n13_; have GE230 := n14_; have NB197_230 := n15_; have NB230_197 := n16_; have NB198_230 := n17_; have NB230_198 := n18_; have NB214_230 := n19_; have NB230_214 := n20_; have NB219_230 := n21_; have NB230_219 := n22_; have NB224_230 := n23_; have NB230_224 := n24_; clear n0_ n1_ n2_ n3_ n4_ n5_ n6_ n7_ n8_ n9_ n10_ n11_ n12_ n13_ n14_ n15_ n16_ n17_ n18_ n19_ n20_ n21_ n22_ n23_ n24_; clear hb hbox hg; have hnb66 := NB230_197.out; have hnc66 := NB197_230.out; have hnb67 := NB230_198.out; have hnc67 := NB198_230.out; have hnb68 := NB230_214.out; have hnc68 := NB214_230.out; have hnb69 := NB230_219.out; have hnc69 := NB219_230.out; have hnb70 := NB230_224.out; have hnc70 := NB224_230.out; have hcz71_0 : w65.cell? ⟨gb230, 0, none⟩ = some (.int .i64 0) := (blk_cell BK230.out 0).trans rfl; have hcz71_1 : w65.cell? ⟨gb230, 1, none⟩ = some (.slice none 0 0) := (blk_cell BK230.out 1).trans rfl; have hfz71_0 := blk_frozen BK230.out 0; have hfz71_1 := blk_frozen BK230.out 1; obtain ⟨Ao72, co72, eo72⟩ := Kd.R_slice HO228.out; subst eo72))
   (try simp only [Act.put, List.setIfInBounds_toArray, List.set_cons_zero, List.set_cons_succ])
   go_cut [53] (fun v53 wc => ∃ (kq : Nat) (x53_24 : Bool), v53 = .bool x53_24 ∧ Aside0 (laws_FnExactJoinBits.j0 kq t213 t229 x53_24 a0_0 l0_1 a1_0 l1_1 t209 t210 t215 t216 t220 t221 t225 t226 = some r) ∧ Aside0 (kq ≤ k) ∧ Aside0 (Kd.R (Kd.int .i64) 3 wc w.heap.size (fun k_ => some k_ ≠ ((.slice Ao52 t216.length co52) : Value).ownBlock ∧ some k_ ≠ ((.slice Ao62 t221.length co62) : Value).ownBlock ∧ some k_ ≠ ((.slice Ao72 t226.length co72) : Value).ownBlock) (.slice Ao42 t210.length co42) t210) ∧ Aside0 (Kd.R (Kd.int .i64) 3 wc w.heap.size (fun k_ => some k_ ≠ ((.slice Ao42 t210.length co42) : Value).ownBlock ∧ some k_ ≠ ((.slice Ao62 t221.length co62) : Value).ownBlock ∧ some k_ ≠ ((.slice Ao72 t226.length co72) : Value).ownBlock) (.slice Ao52 t216.length co52) t216) ∧ Aside0 (Kd.R (Kd.int .i64) 3 wc w.heap.size (fun k_ => some k_ ≠ ((.slice Ao42 t210.length co42) : Value).ownBlock ∧ some k_ ≠ ((.slice Ao52 t216.length co52) : Value).ownBlock ∧ some k_ ≠ ((.slice Ao72 t226.length co72) : Value).ownBlock) (.slice Ao62 t221.length co62) t221) ∧ Aside0 (Kd.R (Kd.int .i64) 3 wc w.heap.size (fun k_ => some k_ ≠ ((.slice Ao42 t210.length co42) : Value).ownBlock ∧ some k_ ≠ ((.slice Ao52 t216.length co52) : Value).ownBlock ∧ some k_ ≠ ((.slice Ao62 t221.length co62) : Value).ownBlock) (.slice Ao72 t226.length co72) t226) ∧ Aside0 (wc.heap[gb197]? = some (.cells #[.int .i64 a0_0, (.slice A0_1 l0_1.length c0_1)] 24 (0, 0))) ∧ Aside0 (wc.heap[gb198]? = some (.cells #[.int .i64 a1_0, (.slice A1_1 l1_1.length c1_1)] 24 (0, 0))) ∧ Aside0 (wc.heap[gb214]? = some (.cells #[.int .i64 t209, (.slice Ao42 t210.length co42)] 26 (0, 0))) ∧ Aside0 (wc.heap[gb219]? = some (.cells #[.int .i64 t215, (.slice Ao52 t216.length co52)] 26 (0, 0))) ∧ Aside0 (wc.heap[gb224]? = some (.cells #[.int .i64 t220, (.slice Ao62 t221.length co62)] 26 (0, 0))) ∧ Aside0 (wc.heap[gb230]? = some (.cells #[.int .i64 t225, (.slice Ao72 t226.length co72)] 26 (0, 0))) ∧ Aside0 (Below w.heap.size w wc))
   case first =>
    have H := HC25.out
    clear HC25
    replace H := Option.bind_eq_some_iff.mp H
    obtain ⟨t231, A730, H⟩ := H
    replace H : (if t231 = true then (laws_FnExactJoinBits.j0 k t213 t229 (t229 != t213) a0_0 l0_1 a1_0 l1_1 t209 t210 t215 t216 t220 t221 t225 t226) else (none)) = some r := H
    have A73 := am12_ A730
    clear A730
    by_cases c74 : t231 = true
    ·subst c74
     have H1 : (laws_FnExactJoinBits.j0 k t213 t229 (t229 != t213) a0_0 l0_1 a1_0 l1_1 t209 t210 t215 t216 t220 t221 t225 t226) = some r := by rw [if_pos rfl] at H; exact H
     clear H
     have H := H1
     clear H1
     have H' := am12_ H
     clear H
     have hnb75 := NB230_197.out
     have hnc75 := NB197_230.out
     have hnb76 := NB230_198.out
     have hnc76 := NB198_230.out
     have hnb77 := NB230_214.out
     have hnc77 := NB214_230.out
     have hnb78 := NB230_219.out
     have hnc78 := NB219_230.out
     have hnb79 := NB230_224.out
     have hnc79 := NB224_230.out
     have hcz80_0 : w65.cell? ⟨gb230, 0, none⟩ = some (.int .i64 0) := (blk_cell BK230.out 0).trans rfl
     have hcz80_1 : w65.cell? ⟨gb230, 1, none⟩ = some (.slice none 0 0) := (blk_cell BK230.out 1).trans rfl
     have hfz80_0 := blk_frozen BK230.out 0
     have hfz80_1 := blk_frozen BK230.out 1
     have hnb81 := NB214_197.out
     have hnc81 := NB197_214.out
     have hnb82 := NB214_198.out
     have hnc82 := NB198_214.out
     have hnb83 := NB214_219.out
     have hnc83 := NB219_214.out
     have hnb84 := NB214_224.out
     have hnc84 := NB224_214.out
     have hcz85_0 : w65.cell? ⟨gb214, 0, none⟩ = some (.int .i64 t209) := (blk_cell BK214.out 0).trans rfl
     have hcz85_1 : w65.cell? ⟨gb214, 1, none⟩ = some (.slice Ao42 t210.length co42) := (blk_cell BK214.out 1).trans rfl
     have hfz85_0 := blk_frozen BK214.out 0
     have hfz85_1 := blk_frozen BK214.out 1
     go_wp2_with (first | ((with_reducible refine gate_callee (f := 20) rfl ?_); refine goesL_ (some 47) rfl rfl Try.func20 (by kernel_rfl) rfl #[.agg #[.int .i64 t225, .slice Ao72 t226.length co72], .agg #[.int .i64 t209, .slice Ao42 t210.length co42]] rfl lm12_ ?_; (with_reducible refine (laws_eqBits.calls k t225 _ _ t226 t209 _ _ t210 true _ ?side1 ?side2 ?side3 ?side4 A73.out).mono ?_); (case side1 => refine (Kd.R_reads' (e := 3) (base := w.heap.size) (ok := fun k_ => (((((True ∧ some k_ ≠ (v203 : Value).ownBlock) ∧ some k_ ≠ (v207 : Value).ownBlock) ∧ some k_ ≠ (.slice Ao42 t210.length co42 : Value).ownBlock) ∧ some k_ ≠ (.slice Ao52 t216.length co52 : Value).ownBlock) ∧ some k_ ≠ (.slice Ao62 t221.length co62 : Value).ownBlock)) (n := t226.length) (c := co72) ?_).2.2; exact (lt12_ (Kd.R_mono (Kd.R_far (p := ⟨gb230, 1, none⟩) (Kd.R_far (p := ⟨gb230, 0, none⟩) (Kd.R_types HO228.out BK230.out (by decide)) (fun _ hk => hk.2) (.int .i64 t225)) (fun _ hk => hk.2) (.slice Ao72 t226.length co72)) (fun _ h_ => h_.1)))); (case side2 => exact (Kd.R_reads' HO228.out).2.1); (case side3 => refine (Kd.R_reads' (e := 3) (base := w.heap.size) (ok := fun k_ => ((((some k_ ≠ (v203 : Value).ownBlock ∧ some k_ ≠ (v207 : Value).ownBlock) ∧ some k_ ≠ (.slice Ao52 t216.length co52 : Value).ownBlock) ∧ some k_ ≠ (.slice Ao62 t221.length co62 : Value).ownBlock) ∧ some k_ ≠ (.slice Ao72 t226.length co72 : Value).ownBlock)) (n := t210.length) (c := co42) ?_).2.2; exact (lt12_ (Kd.R_mono (Kd.R_far (p := ⟨gb230, 1, none⟩) (Kd.R_far (p := ⟨gb230, 0, none⟩) (Kd.R_types HO212.out BK230.out (by decide)) (fun _ hk => hk.2) (.int .i64 t225)) (fun _ hk => hk.2) (.slice Ao72 t226.length co72)) (fun _ h_ => h_.1)))); (case side4 => exact (Kd.R_reads' HO212.out).2.1); rintro e w86 ⟨rfl, hb⟩; refine ⟨_, rfl, ?_⟩; have n0_ := am12_ (Kd.R_below (lt12_ (Kd.R_mono (Kd.R_far (p := ⟨gb230, 1, none⟩) (Kd.R_far (p := ⟨gb230, 0, none⟩) (Kd.R_types HO204.out BK230.out (by decide)) (fun _ hk => hk.2) (.int .i64 t225)) (fun _ hk => hk.2) (.slice Ao72 t226.length co72)) (fun _ h_ => h_.1))) hb); have n1_ := am12_ (Kd.R_below (lt12_ (Kd.R_mono (Kd.R_far (p := ⟨gb230, 1, none⟩) (Kd.R_far (p := ⟨gb230, 0, none⟩) (Kd.R_types HO208.out BK230.out (by decide)) (fun _ hk => hk.2) (.int .i64 t225)) (fun _ hk => hk.2) (.slice Ao72 t226.length co72)) (fun _ h_ => h_.1))) hb); have n2_ := am12_ (Kd.R_below (lt12_ (Kd.R_mono (Kd.R_far (p := ⟨gb230, 1, none⟩) (Kd.R_far (p := ⟨gb230, 0, none⟩) (Kd.R_types HO212.out BK230.out (by decide)) (fun _ hk => hk.2) (.int .i64 t225)) (fun _ hk => hk.2) (.slice Ao72 t226.length co72)) (fun _ h_ => h_.1))) hb); have n3_ := am12_ (Kd.R_below (lt12_ (Kd.R_mono (Kd.R_far (p := ⟨gb230, 1, none⟩) (Kd.R_far (p := ⟨gb230, 0, none⟩) (Kd.R_types HO218.out BK230.out (by decide)) (fun _ hk => hk.2) (.int .i64 t225)) (fun _ hk => hk.2) (.slice Ao72 t226.length co72)) (fun _ h_ => h_.1))) hb); have n4_ := am12_ (Kd.R_below (lt12_ (Kd.R_mono (Kd.R_far (p := ⟨gb230, 1, none⟩) (Kd.R_far (p := ⟨gb230, 0, none⟩) (Kd.R_types HO223.out BK230.out (by decide)) (fun _ hk => hk.2) (.int .i64 t225)) (fun _ hk => hk.2) (.slice Ao72 t226.length co72)) (fun _ h_ => h_.1))) hb); have n5_ := am12_ (Kd.R_below (lt12_ (Kd.R_mono (Kd.R_far (p := ⟨gb230, 1, none⟩) (Kd.R_far (p := ⟨gb230, 0, none⟩) (Kd.R_types HO228.out BK230.out (by decide)) (fun _ hk => hk.2) (.int .i64 t225)) (fun _ hk => hk.2) (.slice Ao72 t226.length co72)) (fun _ h_ => h_.1))) hb); have n6_ := am12_ (blk_below (g := gb197) (o := .cells #[.int .i64 a0_0, .slice A0_1 l0_1.length c0_1] 24 (0, 0)) (by (with_reducible repeat (first | refine blk_drewN ?_ _ | refine blk_drew ?_ | refine blk_alloc ?_ _)); refine blk_far ?_ NB197_230.out _; (with_reducible repeat (first | refine blk_drewN ?_ _ | refine blk_drew ?_ | refine blk_alloc ?_ _)); refine blk_far ?_ NB197_230.out _; (with_reducible repeat (first | refine blk_drewN ?_ _ | refine blk_drew ?_ | refine blk_alloc ?_ _)); exact BK197.out) hb); have n7_ := am12_ (blk_below (g := gb198) (o := .cells #[.int .i64 a1_0, .slice A1_1 l1_1.length c1_1] 24 (0, 0)) (by (with_reducible repeat (first | refine blk_drewN ?_ _ | refine blk_drew ?_ | refine blk_alloc ?_ _)); refine blk_far ?_ NB198_230.out _; (with_reducible repeat (first | refine blk_drewN ?_ _ | refine blk_drew ?_ | refine blk_alloc ?_ _)); refine blk_far ?_ NB198_230.out _; (with_reducible repeat (first | refine blk_drewN ?_ _ | refine blk_drew ?_ | refine blk_alloc ?_ _)); exact BK198.out) hb); have n8_ := am12_ (blk_below (g := gb214) (o := .cells #[.int .i64 t209, .slice Ao42 t210.length co42] 26 (0, 0)) (by (with_reducible repeat (first | refine blk_drewN ?_ _ | refine blk_drew ?_ | refine blk_alloc ?_ _)); refine blk_far ?_ NB214_230.out _; (with_reducible repeat (first | refine blk_drewN ?_ _ | refine blk_drew ?_ | refine blk_alloc ?_ _)); refine blk_far ?_ NB214_230.out _; (with_reducible repeat (first | refine blk_drewN ?_ _ | refine blk_drew ?_ | refine blk_alloc ?_ _)); exact BK214.out) hb); have n9_ := am12_ (blk_below (g := gb219) (o := .cells #[.int .i64 t215, .slice Ao52 t216.length co52] 26 (0, 0)) (by (with_reducible repeat (first | refine blk_drewN ?_ _ | refine blk_drew ?_ | refine blk_alloc ?_ _)); refine blk_far ?_ NB219_230.out _; (with_reducible repeat (first | refine blk_drewN ?_ _ | refine blk_drew ?_ | refine blk_alloc ?_ _)); refine blk_far ?_ NB219_230.out _; (with_reducible repeat (first | refine blk_drewN ?_ _ | refine blk_drew ?_ | refine blk_alloc ?_ _)); exact BK219.out) hb); have n10_ := am12_ (blk_below (g := gb224) (o := .cells #[.int .i64 t220, .slice Ao62 t221.length co62] 26 (0, 0)) (by (with_reducible repeat (first | refine blk_drewN ?_ _ | refine blk_drew ?_ | refine blk_alloc ?_ _)); refine blk_far ?_ NB224_230.out _; (with_reducible repeat (first | refine blk_drewN ?_ _ | refine blk_drew ?_ | refine blk_alloc ?_ _)); refine blk_far ?_ NB224_230.out _; (with_reducible repeat (first | refine blk_drewN ?_ _ | refine blk_drew ?_ | refine blk_alloc ?_ _)); exact BK224.out) hb); have n11_ := am12_ (blk_below (g := gb230) (o := .cells #[.int .i64 t225, .slice Ao72 t226.length co72] 26 (0, 0)) (by (with_reducible repeat (first | refine blk_drewN ?_ _ | refine blk_drew ?_ | refine blk_alloc ?_ _)); refine blk_put (cs := #[.int .i64 t225, .slice none 0 0]) ?_ 1 _ rfl; (with_reducible repeat (first | refine blk_drewN ?_ _ | refine blk_drew ?_ | refine blk_alloc ?_ _)); refine blk_put (cs := #[.int .i64 0, .slice none 0 0]) ?_ 0 _ rfl; (with_reducible repeat (first | refine blk_drewN ?_ _ | refine blk_drew ?_ | refine blk_alloc ?_ _)); exact BK230.out) hb); have n12_ := am12_ (below_step (lw12_ HB) hb); clear HO204; clear HO208; clear HO212; clear HO218; clear HO223; clear HO228; clear BK197; clear BK198; clear BK214; clear BK219; clear BK224; clear BK230; clear HB; have HO204 := n0_; have HO208 := n1_; have HO212 := n2_; have HO218 := n3_; have HO223 := n4_; have HO228 := n5_; have BK197 := n6_; have BK198 := n7_; have BK214 := n8_; have BK219 := n9_; have BK224 := n10_; have BK230 := n11_; have HB := n12_; clear n0_ n1_ n2_ n3_ n4_ n5_ n6_ n7_ n8_ n9_ n10_ n11_ n12_; (try clear hb); (try clear hb2); (try clear hk); (try clear hi)))
     go_meet
     case rel => exact ⟨_, ((t229 != t213)), (by first | rfl | (simp; done) | (simp [*]; done)), H', ⟨by first | omega | exact Nat.le_refl _⟩, ⟨by (with_reducible repeat (first | apply Kd.R_alloc | apply Kd.R_drewN | apply Kd.R_drew)); exact Kd.R_mono HO212.out (fun _ hk => ⟨hk.1.1.2, ⟨hk.1.2, hk.2⟩⟩)⟩, ⟨by (with_reducible repeat (first | apply Kd.R_alloc | apply Kd.R_drewN | apply Kd.R_drew)); exact Kd.R_mono HO218.out (fun _ hk => ⟨hk.1.1.2, ⟨hk.1.2, hk.2⟩⟩)⟩, ⟨by (with_reducible repeat (first | apply Kd.R_alloc | apply Kd.R_drewN | apply Kd.R_drew)); exact Kd.R_mono HO223.out (fun _ hk => ⟨hk.1.1.2, ⟨hk.1.2, hk.2⟩⟩)⟩, ⟨by (with_reducible repeat (first | apply Kd.R_alloc | apply Kd.R_drewN | apply Kd.R_drew)); exact Kd.R_mono HO228.out (fun _ hk => ⟨hk.1.1.2, ⟨hk.1.2, hk.2⟩⟩)⟩, ⟨lb12_ BK197⟩, ⟨lb12_ BK198⟩, ⟨lb12_ BK214⟩, ⟨lb12_ BK219⟩, ⟨lb12_ BK224⟩, ⟨lb12_ BK230⟩, ⟨lw12_ HB⟩⟩
    ·replace c74 := Bool.eq_false_iff.mpr c74
     subst c74
     have H1 : (none) = some r := by rw [if_neg (show ¬ (false = true) by decide)] at H; exact H
     clear H
     have H := H1
     clear H1
     exact absurd H (by simp)
   case rest =>
    clear HC25
    try clear c1
    try clear c2
    try clear p2
    try clear c4
    try clear c5
    try clear c6
    try clear c7
    try clear c8
    try clear c18
    try clear c20
    try clear c25
    try clear c26
    try clear c44
    try clear c48
    try clear c49
    try clear c50
    try clear c53
    try clear c57
    try clear c58
    try clear c59
    try clear c60
    try clear c66
    try clear c67
    try clear c68
    try clear c69
    try clear c70
    try clear c74
    try clear c75
    try clear c76
    try clear c77
    try clear c78
    try clear c79
    try clear c81
    try clear c82
    try clear c83
    try clear c84
    try clear hcz45_0
    try clear hcz45_1
    try clear hcz51_0
    try clear hcz51_1
    try clear hcz54_0
    try clear hcz54_1
    try clear hcz61_0
    try clear hcz61_1
    try clear hcz63_0
    try clear hcz63_1
    try clear hcz71_0
    try clear hcz71_1
    try clear hcz80_0
    try clear hcz80_1
    try clear hcz85_0
    try clear hcz85_1
    try clear hfz45_0
    try clear hfz45_1
    try clear hfz51_0
    try clear hfz51_1
    try clear hfz54_0
    try clear hfz54_1
    try clear hfz61_0
    try clear hfz61_1
    try clear hfz63_0
    try clear hfz63_1
    try clear hfz71_0
    try clear hfz71_1
    try clear hfz80_0
    try clear hfz80_1
    try clear hfz85_0
    try clear hfz85_1
    obtain ⟨kq, x53_24, rfl, HA, HJ24, HO_215001, HO_220001, HO_225001, HO_231001, BK197, BK198, BK214, BK219, BK224, BK230, HB⟩ := hcut
    cases kq with
    | zero => exact absurd HA.out (by simp [laws_FnExactJoinBits.j0])
    | succ kj24 =>
     have H := HA.out
     clear HA
     simp only [laws_FnExactJoinBits.j0] at H
     by_cases c87 : x53_24 = true
     ·subst c87
      have H1 : (none) = some r := by rw [if_pos rfl] at H; exact H
      clear H
      have H := H1
      clear H1
      exact absurd H (by simp)
     ·replace c87 := Bool.eq_false_iff.mpr c87
      subst c87
      have H1 : ((laws_toBits.f kj24 a0_0 l0_1).bind fun bt232 => ((laws_eqBits.f kj24 t215 t216 bt232.1 bt232.2).bind fun t236 => (if t236 = true then ((laws_toBits.f kj24 a1_0 l1_1).bind fun bt237 => ((laws_eqBits.f kj24 t220 t221 bt237.1 bt237.2).bind fun t241 => (if t241 = true then ((laws_markBits.f kj24 t215 t216 1).bind fun bt242 => ((laws_markBits.f kj24 t220 t221 bt242.1).bind fun bt244 => (if bt244.1 < 0 then (none) else ((laws_eqBits.f kj24 t225 t226 t209 t210).bind fun t246 => (if t246 = true then (laws_FnExactJoinBits.j1 kj24 t213 (t229 != t213) a0_0 l0_1 a1_0 l1_1 t209 t210 t225 t226) else (none)))))) else (none)))) else (none)))) = some r := by rw [if_neg (show ¬ (false = true) by decide)] at H; exact H
      clear H
      have H := H1
      clear H1
      replace H := Option.bind_eq_some_iff.mp H
      obtain ⟨⟨t232, t233⟩, A880, H⟩ := H
      replace H : ((laws_eqBits.f kj24 t215 t216 t232 t233).bind fun t236 => (if t236 = true then ((laws_toBits.f kj24 a1_0 l1_1).bind fun bt237 => ((laws_eqBits.f kj24 t220 t221 bt237.1 bt237.2).bind fun t241 => (if t241 = true then ((laws_markBits.f kj24 t215 t216 1).bind fun bt242 => ((laws_markBits.f kj24 t220 t221 bt242.1).bind fun bt244 => (if bt244.1 < 0 then (none) else ((laws_eqBits.f kj24 t225 t226 t209 t210).bind fun t246 => (if t246 = true then (laws_FnExactJoinBits.j1 kj24 t213 (t229 != t213) a0_0 l0_1 a1_0 l1_1 t209 t210 t225 t226) else (none)))))) else (none)))) else (none))) = some r := H
      have A88 := am12_ A880
      clear A880
      replace H := Option.bind_eq_some_iff.mp H
      obtain ⟨t236, A890, H⟩ := H
      replace H : (if t236 = true then ((laws_toBits.f kj24 a1_0 l1_1).bind fun bt237 => ((laws_eqBits.f kj24 t220 t221 bt237.1 bt237.2).bind fun t241 => (if t241 = true then ((laws_markBits.f kj24 t215 t216 1).bind fun bt242 => ((laws_markBits.f kj24 t220 t221 bt242.1).bind fun bt244 => (if bt244.1 < 0 then (none) else ((laws_eqBits.f kj24 t225 t226 t209 t210).bind fun t246 => (if t246 = true then (laws_FnExactJoinBits.j1 kj24 t213 (t229 != t213) a0_0 l0_1 a1_0 l1_1 t209 t210 t225 t226) else (none)))))) else (none)))) else (none)) = some r := H
      have A89 := am12_ A890
      clear A890
      by_cases c90 : t236 = true
      ·subst c90
       have H1 : ((laws_toBits.f kj24 a1_0 l1_1).bind fun bt237 => ((laws_eqBits.f kj24 t220 t221 bt237.1 bt237.2).bind fun t241 => (if t241 = true then ((laws_markBits.f kj24 t215 t216 1).bind fun bt242 => ((laws_markBits.f kj24 t220 t221 bt242.1).bind fun bt244 => (if bt244.1 < 0 then (none) else ((laws_eqBits.f kj24 t225 t226 t209 t210).bind fun t246 => (if t246 = true then (laws_FnExactJoinBits.j1 kj24 t213 (t229 != t213) a0_0 l0_1 a1_0 l1_1 t209 t210 t225 t226) else (none)))))) else (none)))) = some r := by rw [if_pos rfl] at H; exact H
       clear H
       have H := H1
       clear H1
       replace H := Option.bind_eq_some_iff.mp H
       obtain ⟨⟨t237, t238⟩, A910, H⟩ := H
       replace H : ((laws_eqBits.f kj24 t220 t221 t237 t238).bind fun t241 => (if t241 = true then ((laws_markBits.f kj24 t215 t216 1).bind fun bt242 => ((laws_markBits.f kj24 t220 t221 bt242.1).bind fun bt244 => (if bt244.1 < 0 then (none) else ((laws_eqBits.f kj24 t225 t226 t209 t210).bind fun t246 => (if t246 = true then (laws_FnExactJoinBits.j1 kj24 t213 (t229 != t213) a0_0 l0_1 a1_0 l1_1 t209 t210 t225 t226) else (none)))))) else (none))) = some r := H
       have A91 := am12_ A910
       clear A910
       replace H := Option.bind_eq_some_iff.mp H
       obtain ⟨t241, A920, H⟩ := H
       replace H : (if t241 = true then ((laws_markBits.f kj24 t215 t216 1).bind fun bt242 => ((laws_markBits.f kj24 t220 t221 bt242.1).bind fun bt244 => (if bt244.1 < 0 then (none) else ((laws_eqBits.f kj24 t225 t226 t209 t210).bind fun t246 => (if t246 = true then (laws_FnExactJoinBits.j1 kj24 t213 (t229 != t213) a0_0 l0_1 a1_0 l1_1 t209 t210 t225 t226) else (none)))))) else (none)) = some r := H
       have A92 := am12_ A920
       clear A920
       by_cases c93 : t241 = true
       ·subst c93
        have H1 : ((laws_markBits.f kj24 t215 t216 1).bind fun bt242 => ((laws_markBits.f kj24 t220 t221 bt242.1).bind fun bt244 => (if bt244.1 < 0 then (none) else ((laws_eqBits.f kj24 t225 t226 t209 t210).bind fun t246 => (if t246 = true then (laws_FnExactJoinBits.j1 kj24 t213 (t229 != t213) a0_0 l0_1 a1_0 l1_1 t209 t210 t225 t226) else (none)))))) = some r := by rw [if_pos rfl] at H; exact H
        clear H
        have H := H1
        clear H1
        replace H := Option.bind_eq_some_iff.mp H
        obtain ⟨⟨t242, t243⟩, A940, H⟩ := H
        replace H : ((laws_markBits.f kj24 t220 t221 t242).bind fun bt244 => (if bt244.1 < 0 then (none) else ((laws_eqBits.f kj24 t225 t226 t209 t210).bind fun t246 => (if t246 = true then (laws_FnExactJoinBits.j1 kj24 t213 (t229 != t213) a0_0 l0_1 a1_0 l1_1 t209 t210 t225 t226) else (none))))) = some r := H
        have A94 := am12_ A940
        clear A940
        replace H := Option.bind_eq_some_iff.mp H
        obtain ⟨⟨t244, t245⟩, A950, H⟩ := H
        replace H : (if t244 < 0 then (none) else ((laws_eqBits.f kj24 t225 t226 t209 t210).bind fun t246 => (if t246 = true then (laws_FnExactJoinBits.j1 kj24 t213 (t229 != t213) a0_0 l0_1 a1_0 l1_1 t209 t210 t225 t226) else (none)))) = some r := H
        have A95 := am12_ A950
        clear A950
        have HC96 := am12_ H
        clear H
        try go_wp2
        have n0_ := am12_ (Kd.R_drew HO_215001.out)
        have n1_ := am12_ (Kd.R_drew HO_220001.out)
        have n2_ := am12_ (Kd.R_drew HO_225001.out)
        have n3_ := am12_ (Kd.R_drew HO_231001.out)
        have n4_ := am12_ (blk_drew BK197.out)
        have n5_ := am12_ (blk_drew BK198.out)
        have n6_ := am12_ (blk_drew BK214.out)
        have n7_ := am12_ (blk_drew BK219.out)
        have n8_ := am12_ (blk_drew BK224.out)
        have n9_ := am12_ (blk_drew BK230.out)
        have n10_ := am12_ (below_drew1 HB.out)
        clear HO_215001
        clear HO_220001
        clear HO_225001
        clear HO_231001
        clear BK197
        clear BK198
        clear BK214
        clear BK219
        clear BK224
        clear BK230
        clear HB
        have HO_215001 := n0_
        have HO_220001 := n1_
        have HO_225001 := n2_
        have HO_231001 := n3_
        have BK197 := n4_
        have BK198 := n5_
        have BK214 := n6_
        have BK219 := n7_
        have BK224 := n8_
        have BK230 := n9_
        have HB := n10_
        clear n0_ n1_ n2_ n3_ n4_ n5_ n6_ n7_ n8_ n9_ n10_
        refine start_ (n := 5) (S := fun w' => w'.cell? ⟨gb219, 0, none⟩ = some (.int .i64 t215) ∧ w'.cell? ⟨gb219, 1, none⟩ = some (.slice Ao52 t216.length co52) ∧ w'.cell? ⟨gb197, 0, none⟩ = some (.int .i64 a0_0) ∧ w'.cell? ⟨gb197, 1, none⟩ = some (.slice A0_1 l0_1.length c0_1)) (ds := []) #[false, false, false, false, false] (by kernel_rfl) rfl rfl ⟨(blk_cell BK219.out 0).trans rfl, (blk_cell BK219.out 1).trans rfl, (blk_cell BK197.out 0).trans rfl, (blk_cell BK197.out 1).trans rfl⟩ (fun hHeld => ?_)
        generalize wc.drew = w97 at HO_215001 HO_220001 HO_225001 HO_231001 BK197 BK198 BK214 BK219 BK224 BK230 HB hHeld ⊢
        refine take_ (i := 0) (N := some 54) (v := ?_) (a' := ?_) #[true, false, false, false, false] rfl rfl (by kernel_rfl) (fun _ _ _ h => h) (Or.inl ⟨by rfl, ?_⟩) hHeld ?_ ?_
        rotate_left
        ·rintro w' ⟨s0, s1, s2, s3⟩
         go_simp
         with_reducible rfl
        rotate_left
        ·simp only [Act.put, List.setIfInBounds_toArray, List.set_cons_zero, List.set_cons_succ, i64_w, i32_w]
         rfl
        refine take_ (i := 1) (N := some 55) (v := ?_) (a' := ?_) #[true, true, false, false, false] rfl rfl (by kernel_rfl) (fun _ _ _ h => h) (Or.inl ⟨by rfl, ?_⟩) hHeld ?_ ?_
        rotate_left
        ·rintro w' ⟨s0, s1, s2, s3⟩
         go_simp
         with_reducible rfl
        rotate_left
        ·simp only [Act.put, List.setIfInBounds_toArray, List.set_cons_zero, List.set_cons_succ, i64_w, i32_w]
         rfl
        refine one_ (i := 2) (N := some 56) #[true, true, true, false, false] rfl rfl (by kernel_rfl) (by decide) (fun K hK => ?_)
        refine goes_ Try.func18 (by kernel_rfl) rfl #[.agg #[.int .i64 a0_0, .slice A0_1 l0_1.length c0_1]] (by rfl) rfl rfl lm12_ ?_
        with_reducible refine (laws_toBits.calls kj24 a0_0 _ _ l0_1 t232 t233 _ ?side1 ?side2 A88.out).mono ?_
        (case side1 => exact lc12_ (Kd.C_below HR0_1.out HB.out))
        (case side2 => exact HC0_1.out)
        rintro e w98 ⟨v234, rfl, ho0, hb⟩
        refine ⟨_, rfl, ?_⟩
        have n0_ := am12_ (Kd.R_elder' (lf12_ HO_215001) (Kd.R_base ho0) hb)
        have n1_ := am12_ (Kd.R_elder' (lf12_ HO_220001) (Kd.R_base ho0) hb)
        have n2_ := am12_ (Kd.R_elder' (lf12_ HO_225001) (Kd.R_base ho0) hb)
        have n3_ := am12_ (Kd.R_elder' (lf12_ HO_231001) (Kd.R_base ho0) hb)
        have n4_ := am12_ (Kd.R_lower (Kd.R_new' (Kd.R_new' (Kd.R_new' (Kd.R_new' ho0 (Kd.R_lt (lf12_ HO_215001))) (Kd.R_lt (lf12_ HO_220001))) (Kd.R_lt (lf12_ HO_225001))) (Kd.R_lt (lf12_ HO_231001))) (below_size (lw12_ HB)))
        have n5_ := am12_ (blk_below (g := gb197) (o := .cells #[.int .i64 a0_0, .slice A0_1 l0_1.length c0_1] 24 (0, 0)) (lb12_ BK197) hb)
        have n6_ := am12_ (blk_below (g := gb198) (o := .cells #[.int .i64 a1_0, .slice A1_1 l1_1.length c1_1] 24 (0, 0)) (lb12_ BK198) hb)
        have n7_ := am12_ (blk_below (g := gb214) (o := .cells #[.int .i64 t209, .slice Ao42 t210.length co42] 26 (0, 0)) (lb12_ BK214) hb)
        have n8_ := am12_ (blk_below (g := gb219) (o := .cells #[.int .i64 t215, .slice Ao52 t216.length co52] 26 (0, 0)) (lb12_ BK219) hb)
        have n9_ := am12_ (blk_below (g := gb224) (o := .cells #[.int .i64 t220, .slice Ao62 t221.length co62] 26 (0, 0)) (lb12_ BK224) hb)
        have n10_ := am12_ (blk_below (g := gb230) (o := .cells #[.int .i64 t225, .slice Ao72 t226.length co72] 26 (0, 0)) (lb12_ BK230) hb)
        have n11_ := am12_ (below_step (lw12_ HB) hb)
        clear HO_215001
        clear HO_220001
        clear HO_225001
        clear HO_231001
        clear BK197
        clear BK198
        clear BK214
        clear BK219
        clear BK224
        clear BK230
        clear HB
        have HO_215001 := n0_
        have HO_220001 := n1_
        have HO_225001 := n2_
        have HO_231001 := n3_
        have HO235 := n4_
        have BK197 := n5_
        have BK198 := n6_
        have BK214 := n7_
        have BK219 := n8_
        have BK224 := n9_
        have BK230 := n10_
        have HB := n11_
        clear n0_ n1_ n2_ n3_ n4_ n5_ n6_ n7_ n8_ n9_ n10_ n11_
        (try clear hb)
        (try clear hb2)
        (try clear hk)
        (try clear hi)
        (try clear ho0)
        obtain ⟨Ao99, co99, eo99⟩ := Kd.R_slice HO235.out
        (first | subst eo99 | (injection eo99 with f1_ f2_ f3_; have f4_ := f1_.symm; have f5_ := f3_.symm; clear f1_ f2_ f3_; subst f4_; subst f5_))
        refine hK.out _ _ ⟨(blk_cell BK219.out 0).trans rfl, (blk_cell BK219.out 1).trans rfl, (blk_cell BK197.out 0).trans rfl, (blk_cell BK197.out 1).trans rfl⟩ (fun hHeld => ?_)
        clear hK K
        refine norm_ (a' := ?_) ?_ ?_
        rotate_left
        ·show Act.put _ (some 56) _ = _
         simp only [Act.put, List.setIfInBounds_toArray, List.set_cons_zero, List.set_cons_succ, i64_w, i32_w]
         rfl
        refine one_ (i := 3) (N := some 57) #[true, true, true, true, false] rfl rfl (by kernel_rfl) (by decide) (fun K hK => ?_)
        refine goes_ Try.func20 (by kernel_rfl) rfl #[.agg #[.int .i64 t215, .slice Ao52 t216.length co52], .agg #[.int .i64 t232, .slice Ao99 t233.length co99]] (by rfl) rfl rfl lm12_ ?_
        with_reducible refine (laws_eqBits.calls kj24 t215 _ _ t216 t232 _ _ t233 true _ ?side1 ?side2 ?side3 ?side4 A89.out).mono ?_
        (case side1 => exact lc12_ (Kd.R_reads' HO_220001.out).2.2)
        (case side2 => exact (Kd.R_reads' HO_220001.out).2.1)
        (case side3 => exact lc12_ (Kd.R_reads' HO235.out).2.2)
        (case side4 => exact (Kd.R_reads' HO235.out).2.1)
        rintro e w100 ⟨rfl, hb⟩
        refine ⟨_, rfl, ?_⟩
        have n0_ := am12_ (Kd.R_below (lf12_ HO_215001) hb)
        have n1_ := am12_ (Kd.R_below (lf12_ HO_220001) hb)
        have n2_ := am12_ (Kd.R_below (lf12_ HO_225001) hb)
        have n3_ := am12_ (Kd.R_below (lf12_ HO_231001) hb)
        have n4_ := am12_ (Kd.R_below (lf12_ HO235) hb)
        have n5_ := am12_ (blk_below (g := gb197) (o := .cells #[.int .i64 a0_0, .slice A0_1 l0_1.length c0_1] 24 (0, 0)) (lb12_ BK197) hb)
        have n6_ := am12_ (blk_below (g := gb198) (o := .cells #[.int .i64 a1_0, .slice A1_1 l1_1.length c1_1] 24 (0, 0)) (lb12_ BK198) hb)
        have n7_ := am12_ (blk_below (g := gb214) (o := .cells #[.int .i64 t209, .slice Ao42 t210.length co42] 26 (0, 0)) (lb12_ BK214) hb)
        have n8_ := am12_ (blk_below (g := gb219) (o := .cells #[.int .i64 t215, .slice Ao52 t216.length co52] 26 (0, 0)) (lb12_ BK219) hb)
        have n9_ := am12_ (blk_below (g := gb224) (o := .cells #[.int .i64 t220, .slice Ao62 t221.length co62] 26 (0, 0)) (lb12_ BK224) hb)
        have n10_ := am12_ (blk_below (g := gb230) (o := .cells #[.int .i64 t225, .slice Ao72 t226.length co72] 26 (0, 0)) (lb12_ BK230) hb)
        have n11_ := am12_ (below_step (lw12_ HB) hb)
        clear HO_215001
        clear HO_220001
        clear HO_225001
        clear HO_231001
        clear HO235
        clear BK197
        clear BK198
        clear BK214
        clear BK219
        clear BK224
        clear BK230
        clear HB
        have HO_215001 := n0_
        have HO_220001 := n1_
        have HO_225001 := n2_
        have HO_231001 := n3_
        have HO235 := n4_
        have BK197 := n5_
        have BK198 := n6_
        have BK214 := n7_
        have BK219 := n8_
        have BK224 := n9_
        have BK230 := n10_
        have HB := n11_
        clear n0_ n1_ n2_ n3_ n4_ n5_ n6_ n7_ n8_ n9_ n10_ n11_
        (try clear hb)
        (try clear hb2)
        (try clear hk)
        (try clear hi)
        refine hK.out _ _ ⟨(blk_cell BK219.out 0).trans rfl, (blk_cell BK219.out 1).trans rfl, (blk_cell BK197.out 0).trans rfl, (blk_cell BK197.out 1).trans rfl⟩ (fun hHeld => ?_)
        clear hK K
        refine norm_ (a' := ?_) ?_ ?_
        rotate_left
        ·show Act.put _ (some 57) _ = _
         simp only [Act.put, List.setIfInBounds_toArray, List.set_cons_zero, List.set_cons_succ, i64_w, i32_w]
         rfl
        refine pure_ (i := 4) (N := some 58) (v := ?_) (a' := ?_) #[true, true, true, true, true] rfl rfl (by kernel_rfl) (fun _ _ _ h => h) (Or.inl ⟨by rfl, ?_⟩) ?_ ?_
        rotate_left
        ·intro w'
         go_simp
         with_reducible rfl
        rotate_left
        ·simp only [Act.put, List.setIfInBounds_toArray, List.set_cons_zero, List.set_cons_succ, i64_w, i32_w]
         rfl
        refine done_ (by kernel_rfl) ?_
        try go_wp2
        have n0_ := am12_ (Kd.R_drew HO_215001.out)
        have n1_ := am12_ (Kd.R_drew HO_220001.out)
        have n2_ := am12_ (Kd.R_drew HO_225001.out)
        have n3_ := am12_ (Kd.R_drew HO_231001.out)
        have n4_ := am12_ (Kd.R_drew HO235.out)
        have n5_ := am12_ (blk_drew BK197.out)
        have n6_ := am12_ (blk_drew BK198.out)
        have n7_ := am12_ (blk_drew BK214.out)
        have n8_ := am12_ (blk_drew BK219.out)
        have n9_ := am12_ (blk_drew BK224.out)
        have n10_ := am12_ (blk_drew BK230.out)
        have n11_ := am12_ (below_drew1 HB.out)
        clear HO_215001
        clear HO_220001
        clear HO_225001
        clear HO_231001
        clear HO235
        clear BK197
        clear BK198
        clear BK214
        clear BK219
        clear BK224
        clear BK230
        clear HB
        have HO_215001 := n0_
        have HO_220001 := n1_
        have HO_225001 := n2_
        have HO_231001 := n3_
        have HO235 := n4_
        have BK197 := n5_
        have BK198 := n6_
        have BK214 := n7_
        have BK219 := n8_
        have BK224 := n9_
        have BK230 := n10_
        have HB := n11_
        clear n0_ n1_ n2_ n3_ n4_ n5_ n6_ n7_ n8_ n9_ n10_ n11_
        refine start_ (n := 5) (S := fun w' => w'.cell? ⟨gb224, 0, none⟩ = some (.int .i64 t220) ∧ w'.cell? ⟨gb224, 1, none⟩ = some (.slice Ao62 t221.length co62) ∧ w'.cell? ⟨gb198, 0, none⟩ = some (.int .i64 a1_0) ∧ w'.cell? ⟨gb198, 1, none⟩ = some (.slice A1_1 l1_1.length c1_1)) (ds := []) #[false, false, false, false, false] (by kernel_rfl) rfl rfl ⟨(blk_cell BK224.out 0).trans rfl, (blk_cell BK224.out 1).trans rfl, (blk_cell BK198.out 0).trans rfl, (blk_cell BK198.out 1).trans rfl⟩ (fun hHeld => ?_)
        generalize w100.drew = w101 at HO_215001 HO_220001 HO_225001 HO_231001 HO235 BK197 BK198 BK214 BK219 BK224 BK230 HB hHeld ⊢
        refine take_ (i := 0) (N := some 59) (v := ?_) (a' := ?_) #[true, false, false, false, false] rfl rfl (by kernel_rfl) (fun _ _ _ h => h) (Or.inl ⟨by rfl, ?_⟩) hHeld ?_ ?_
        rotate_left
        ·rintro w' ⟨s0, s1, s2, s3⟩
         go_simp
         with_reducible rfl
        rotate_left
        ·simp only [Act.put, List.setIfInBounds_toArray, List.set_cons_zero, List.set_cons_succ, i64_w, i32_w]
         rfl
        refine take_ (i := 1) (N := some 60) (v := ?_) (a' := ?_) #[true, true, false, false, false] rfl rfl (by kernel_rfl) (fun _ _ _ h => h) (Or.inl ⟨by rfl, ?_⟩) hHeld ?_ ?_
        rotate_left
        ·rintro w' ⟨s0, s1, s2, s3⟩
         go_simp
         with_reducible rfl
        rotate_left
        ·simp only [Act.put, List.setIfInBounds_toArray, List.set_cons_zero, List.set_cons_succ, i64_w, i32_w]
         rfl
        refine one_ (i := 2) (N := some 61) #[true, true, true, false, false] rfl rfl (by kernel_rfl) (by decide) (fun K hK => ?_)
        refine goes_ Try.func18 (by kernel_rfl) rfl #[.agg #[.int .i64 a1_0, .slice A1_1 l1_1.length c1_1]] (by rfl) rfl rfl lm12_ ?_
        with_reducible refine (laws_toBits.calls kj24 a1_0 _ _ l1_1 t237 t238 _ ?side1 ?side2 A91.out).mono ?_
        (case side1 => exact lc12_ (Kd.C_below HR1_1.out HB.out))
        (case side2 => exact HC1_1.out)
        rintro e w102 ⟨v239, rfl, ho0, hb⟩
        refine ⟨_, rfl, ?_⟩
        have n0_ := am12_ (Kd.R_elder' (lf12_ HO_215001) (Kd.R_base ho0) hb)
        have n1_ := am12_ (Kd.R_elder' (lf12_ HO_220001) (Kd.R_base ho0) hb)
        have n2_ := am12_ (Kd.R_elder' (lf12_ HO_225001) (Kd.R_base ho0) hb)
        have n3_ := am12_ (Kd.R_elder' (lf12_ HO_231001) (Kd.R_base ho0) hb)
        have n4_ := am12_ (Kd.R_elder' (lf12_ HO235) (Kd.R_base ho0) hb)
        have n5_ := am12_ (Kd.R_lower (Kd.R_new' (Kd.R_new' (Kd.R_new' (Kd.R_new' (Kd.R_new' ho0 (Kd.R_lt (lf12_ HO_215001))) (Kd.R_lt (lf12_ HO_220001))) (Kd.R_lt (lf12_ HO_225001))) (Kd.R_lt (lf12_ HO_231001))) (Kd.R_lt (lf12_ HO235))) (below_size (lw12_ HB)))
        have n6_ := am12_ (blk_below (g := gb197) (o := .cells #[.int .i64 a0_0, .slice A0_1 l0_1.length c0_1] 24 (0, 0)) (lb12_ BK197) hb)
        have n7_ := am12_ (blk_below (g := gb198) (o := .cells #[.int .i64 a1_0, .slice A1_1 l1_1.length c1_1] 24 (0, 0)) (lb12_ BK198) hb)
        have n8_ := am12_ (blk_below (g := gb214) (o := .cells #[.int .i64 t209, .slice Ao42 t210.length co42] 26 (0, 0)) (lb12_ BK214) hb)
        have n9_ := am12_ (blk_below (g := gb219) (o := .cells #[.int .i64 t215, .slice Ao52 t216.length co52] 26 (0, 0)) (lb12_ BK219) hb)
        have n10_ := am12_ (blk_below (g := gb224) (o := .cells #[.int .i64 t220, .slice Ao62 t221.length co62] 26 (0, 0)) (lb12_ BK224) hb)
        have n11_ := am12_ (blk_below (g := gb230) (o := .cells #[.int .i64 t225, .slice Ao72 t226.length co72] 26 (0, 0)) (lb12_ BK230) hb)
        have n12_ := am12_ (below_step (lw12_ HB) hb)
        clear HO_215001
        clear HO_220001
        clear HO_225001
        clear HO_231001
        clear HO235
        clear BK197
        clear BK198
        clear BK214
        clear BK219
        clear BK224
        clear BK230
        clear HB
        have HO_215001 := n0_
        have HO_220001 := n1_
        have HO_225001 := n2_
        have HO_231001 := n3_
        have HO235 := n4_
        have HO240 := n5_
        have BK197 := n6_
        have BK198 := n7_
        have BK214 := n8_
        have BK219 := n9_
        have BK224 := n10_
        have BK230 := n11_
        have HB := n12_
        clear n0_ n1_ n2_ n3_ n4_ n5_ n6_ n7_ n8_ n9_ n10_ n11_ n12_
        (try clear hb)
        (try clear hb2)
        (try clear hk)
        (try clear hi)
        (try clear ho0)
        obtain ⟨Ao103, co103, eo103⟩ := Kd.R_slice HO240.out
        (first | subst eo103 | (injection eo103 with f1_ f2_ f3_; have f4_ := f1_.symm; have f5_ := f3_.symm; clear f1_ f2_ f3_; subst f4_; subst f5_))
        refine hK.out _ _ ⟨(blk_cell BK224.out 0).trans rfl, (blk_cell BK224.out 1).trans rfl, (blk_cell BK198.out 0).trans rfl, (blk_cell BK198.out 1).trans rfl⟩ (fun hHeld => ?_)
        clear hK K
        refine norm_ (a' := ?_) ?_ ?_
        rotate_left
        ·show Act.put _ (some 61) _ = _
         simp only [Act.put, List.setIfInBounds_toArray, List.set_cons_zero, List.set_cons_succ, i64_w, i32_w]
         rfl
        refine one_ (i := 3) (N := some 62) #[true, true, true, true, false] rfl rfl (by kernel_rfl) (by decide) (fun K hK => ?_)
        refine goes_ Try.func20 (by kernel_rfl) rfl #[.agg #[.int .i64 t220, .slice Ao62 t221.length co62], .agg #[.int .i64 t237, .slice Ao103 t238.length co103]] (by rfl) rfl rfl lm12_ ?_
        with_reducible refine (laws_eqBits.calls kj24 t220 _ _ t221 t237 _ _ t238 true _ ?side1 ?side2 ?side3 ?side4 A92.out).mono ?_
        (case side1 => exact lc12_ (Kd.R_reads' HO_225001.out).2.2)
        (case side2 => exact (Kd.R_reads' HO_225001.out).2.1)
        (case side3 => exact lc12_ (Kd.R_reads' HO240.out).2.2)
        (case side4 => exact (Kd.R_reads' HO240.out).2.1)
        rintro e w104 ⟨rfl, hb⟩
        refine ⟨_, rfl, ?_⟩
        have n0_ := am12_ (Kd.R_below (lf12_ HO_215001) hb)
        have n1_ := am12_ (Kd.R_below (lf12_ HO_220001) hb)
        have n2_ := am12_ (Kd.R_below (lf12_ HO_225001) hb)
        have n3_ := am12_ (Kd.R_below (lf12_ HO_231001) hb)
        have n4_ := am12_ (Kd.R_below (lf12_ HO235) hb)
        have n5_ := am12_ (Kd.R_below (lf12_ HO240) hb)
        have n6_ := am12_ (blk_below (g := gb197) (o := .cells #[.int .i64 a0_0, .slice A0_1 l0_1.length c0_1] 24 (0, 0)) (lb12_ BK197) hb)
        have n7_ := am12_ (blk_below (g := gb198) (o := .cells #[.int .i64 a1_0, .slice A1_1 l1_1.length c1_1] 24 (0, 0)) (lb12_ BK198) hb)
        have n8_ := am12_ (blk_below (g := gb214) (o := .cells #[.int .i64 t209, .slice Ao42 t210.length co42] 26 (0, 0)) (lb12_ BK214) hb)
        have n9_ := am12_ (blk_below (g := gb219) (o := .cells #[.int .i64 t215, .slice Ao52 t216.length co52] 26 (0, 0)) (lb12_ BK219) hb)
        have n10_ := am12_ (blk_below (g := gb224) (o := .cells #[.int .i64 t220, .slice Ao62 t221.length co62] 26 (0, 0)) (lb12_ BK224) hb)
        have n11_ := am12_ (blk_below (g := gb230) (o := .cells #[.int .i64 t225, .slice Ao72 t226.length co72] 26 (0, 0)) (lb12_ BK230) hb)
        have n12_ := am12_ (below_step (lw12_ HB) hb)
        clear HO_215001
        clear HO_220001
        clear HO_225001
        clear HO_231001
        clear HO235
        clear HO240
        clear BK197
        clear BK198
        clear BK214
        clear BK219
        clear BK224
        clear BK230
        clear HB
        have HO_215001 := n0_
        have HO_220001 := n1_
        have HO_225001 := n2_
        have HO_231001 := n3_
        have HO235 := n4_
        have HO240 := n5_
        have BK197 := n6_
        have BK198 := n7_
        have BK214 := n8_
        have BK219 := n9_
        have BK224 := n10_
        have BK230 := n11_
        have HB := n12_
        clear n0_ n1_ n2_ n3_ n4_ n5_ n6_ n7_ n8_ n9_ n10_ n11_ n12_
        (try clear hb)
        (try clear hb2)
        (try clear hk)
        (try clear hi)
        refine hK.out _ _ ⟨(blk_cell BK224.out 0).trans rfl, (blk_cell BK224.out 1).trans rfl, (blk_cell BK198.out 0).trans rfl, (blk_cell BK198.out 1).trans rfl⟩ (fun hHeld => ?_)
        clear hK K
        refine norm_ (a' := ?_) ?_ ?_
        rotate_left
        ·show Act.put _ (some 62) _ = _
         simp only [Act.put, List.setIfInBounds_toArray, List.set_cons_zero, List.set_cons_succ, i64_w, i32_w]
         rfl
        refine pure_ (i := 4) (N := some 63) (v := ?_) (a' := ?_) #[true, true, true, true, true] rfl rfl (by kernel_rfl) (fun _ _ _ h => h) (Or.inl ⟨by rfl, ?_⟩) ?_ ?_
        rotate_left
        ·intro w'
         go_simp
         with_reducible rfl
        rotate_left
        ·simp only [Act.put, List.setIfInBounds_toArray, List.set_cons_zero, List.set_cons_succ, i64_w, i32_w]
         rfl
        refine done_ (by kernel_rfl) ?_
        have hnb105 := NB219_197.out
        have hnc105 := NB197_219.out
        have hnb106 := NB219_198.out
        have hnc106 := NB198_219.out
        have hnb107 := NB219_214.out
        have hnc107 := NB214_219.out
        have hnb108 := NB219_224.out
        have hnc108 := NB224_219.out
        have hnb109 := NB219_230.out
        have hnc109 := NB230_219.out
        have hcz110_0 : w104.cell? ⟨gb219, 0, none⟩ = some (.int .i64 t215) := (blk_cell BK219.out 0).trans rfl
        have hcz110_1 : w104.cell? ⟨gb219, 1, none⟩ = some (.slice Ao52 t216.length co52) := (blk_cell BK219.out 1).trans rfl
        have hfz110_0 := blk_frozen BK219.out 0
        have hfz110_1 := blk_frozen BK219.out 1
        go_upto_region 21 with (first | ((with_reducible refine gate_callee (f := 21) rfl ?_); refine goesL_ (some 66) rfl rfl Try.func21 (by kernel_rfl) rfl #[.agg #[.int .i64 t215, .slice Ao52 t216.length co52], .int .i64 1] rfl lm12_ ?_; (with_reducible refine (laws_markBits.calls kj24 t215 (fun k_ => some k_ = (.slice Ao52 t216.length co52 : Value).ownBlock) (.slice Ao52 t216.length co52) t216 1 t242 t243 w _ ?side1 ?side2 A94.out).mono ?_); (case side1 => repeat (first | (with_reducible first | exact HB.out | apply below_alloc | apply pw_below_drewN | apply below_drew1 | refine below_set ?_ GE197.out | refine below_set ?_ GE198.out | refine below_set ?_ GE214.out | refine below_set ?_ GE219.out | refine below_set ?_ GE224.out | refine below_set ?_ GE230.out) | exact HB.out)); (case side2 => exact Kd.R_tight rfl HO_220001.out); rintro e w111 ⟨rfl, hy0, hb, hkp⟩; refine ⟨_, rfl, ?_⟩; have n0_ := am12_ (Kd.R_mono (ok' := fun k_ => some k_ ≠ (.slice Ao52 t216.length co52 : Value).ownBlock ∧ some k_ ≠ (.slice Ao62 t221.length co62 : Value).ownBlock ∧ some k_ ≠ (.slice Ao72 t226.length co72 : Value).ownBlock ∧ some k_ ≠ (.slice Ao99 t233.length co99 : Value).ownBlock ∧ some k_ ≠ (.slice Ao103 t238.length co103 : Value).ownBlock) (Kd.R_keptB (HO_215001.out) hkp (fun k_ hk_ hs_ => (hk_.1.1.1) hs_)) (fun k_ hk_ => ⟨hk_.1.1.1.1, hk_.1.1.1.2.1, hk_.1.1.1.2.2, hk_.1.1.2, hk_.1.2⟩)); have n1_ := am12_ (Kd.R_reok rfl hy0 (fun k_ e_ => HO_220001.out.1 k_ e_)); have n2_ := am12_ (Kd.R_mono (ok' := fun k_ => some k_ ≠ (.slice Ao42 t210.length co42 : Value).ownBlock ∧ some k_ ≠ (.slice Ao52 t216.length co52 : Value).ownBlock ∧ some k_ ≠ (.slice Ao72 t226.length co72 : Value).ownBlock ∧ some k_ ≠ (.slice Ao99 t233.length co99 : Value).ownBlock ∧ some k_ ≠ (.slice Ao103 t238.length co103 : Value).ownBlock) (Kd.R_keptB (HO_225001.out) hkp (fun k_ hk_ hs_ => (hk_.1.1.2.1) hs_)) (fun k_ hk_ => ⟨hk_.1.1.1.1, hk_.1.1.1.2.1, hk_.1.1.1.2.2, hk_.1.1.2, hk_.1.2⟩)); have n3_ := am12_ (Kd.R_mono (ok' := fun k_ => some k_ ≠ (.slice Ao42 t210.length co42 : Value).ownBlock ∧ some k_ ≠ (.slice Ao52 t216.length co52 : Value).ownBlock ∧ some k_ ≠ (.slice Ao62 t221.length co62 : Value).ownBlock ∧ some k_ ≠ (.slice Ao99 t233.length co99 : Value).ownBlock ∧ some k_ ≠ (.slice Ao103 t238.length co103 : Value).ownBlock) (Kd.R_keptB (HO_231001.out) hkp (fun k_ hk_ hs_ => (hk_.1.1.2.1) hs_)) (fun k_ hk_ => ⟨hk_.1.1.1.1, hk_.1.1.1.2.1, hk_.1.1.1.2.2, hk_.1.1.2, hk_.1.2⟩)); have n4_ := am12_ (blk_kept (lb12_ BK197) hkp (fun hs_ => (fun e_ => (Kd.R_ne HO_220001.out BK197.out (by decide)) e_) hs_)); have n5_ := am12_ (blk_kept (lb12_ BK198) hkp (fun hs_ => (fun e_ => (Kd.R_ne HO_220001.out BK198.out (by decide)) e_) hs_)); have n6_ := am12_ (blk_kept (lb12_ BK214) hkp (fun hs_ => (fun e_ => (Kd.R_ne HO_220001.out BK214.out (by decide)) e_) hs_)); have n7_ := am12_ (blk_kept (lb12_ BK219) hkp (fun hs_ => (fun e_ => (Kd.R_ne HO_220001.out BK219.out (by decide)) e_) hs_)); have n8_ := am12_ (blk_kept (lb12_ BK224) hkp (fun hs_ => (fun e_ => (Kd.R_ne HO_220001.out BK224.out (by decide)) e_) hs_)); have n9_ := am12_ (blk_kept (lb12_ BK230) hkp (fun hs_ => (fun e_ => (Kd.R_ne HO_220001.out BK230.out (by decide)) e_) hs_)); have n10_ := am12_ (Kd.R_mono (ok' := fun k_ => some k_ ≠ (.slice Ao42 t210.length co42 : Value).ownBlock ∧ some k_ ≠ (.slice Ao52 t216.length co52 : Value).ownBlock ∧ some k_ ≠ (.slice Ao62 t221.length co62 : Value).ownBlock ∧ some k_ ≠ (.slice Ao72 t226.length co72 : Value).ownBlock ∧ some k_ ≠ (.slice Ao103 t238.length co103 : Value).ownBlock) (Kd.R_keptB (HO235.out) hkp (fun k_ hk_ hs_ => (hk_.1.1.1.2) hs_)) (fun k_ hk_ => ⟨hk_.1.1.1.1.1.2, hk_.1.1.1.1.2, hk_.1.1.1.2, hk_.1.1.2, hk_.1.2⟩)); have n11_ := am12_ (Kd.R_mono (ok' := fun k_ => some k_ ≠ (.slice Ao42 t210.length co42 : Value).ownBlock ∧ some k_ ≠ (.slice Ao52 t216.length co52 : Value).ownBlock ∧ some k_ ≠ (.slice Ao62 t221.length co62 : Value).ownBlock ∧ some k_ ≠ (.slice Ao72 t226.length co72 : Value).ownBlock ∧ some k_ ≠ (.slice Ao99 t233.length co99 : Value).ownBlock) (Kd.R_keptB (HO240.out) hkp (fun k_ hk_ hs_ => (hk_.1.1.1.2) hs_)) (fun k_ hk_ => ⟨hk_.1.1.1.1.1.2, hk_.1.1.1.1.2, hk_.1.1.1.2, hk_.1.1.2, hk_.1.2⟩)); have n12_ := am12_ (hb); clear HO_215001; clear HO_220001; clear HO_225001; clear HO_231001; clear BK197; clear BK198; clear BK214; clear BK219; clear BK224; clear BK230; clear HO235; clear HO240; clear HB; have HO_215001 := n0_; have HO_220001 := n1_; have HO_225001 := n2_; have HO_231001 := n3_; have BK197 := n4_; have BK198 := n5_; have BK214 := n6_; have BK219 := n7_; have BK224 := n8_; have BK230 := n9_; have HO235 := n10_; have HO240 := n11_; have HB := n12_; clear n0_ n1_ n2_ n3_ n4_ n5_ n6_ n7_ n8_ n9_ n10_ n11_ n12_; (try clear hb); (try clear hkp); (try clear hy0); have hnb112 := NB224_197.out; have hnc112 := NB197_224.out; have hnb113 := NB224_198.out; have hnc113 := NB198_224.out; have hnb114 := NB224_214.out; have hnc114 := NB214_224.out; have hnb115 := NB224_230.out; have hnc115 := NB230_224.out; have hcz116_0 : w111.cell? ⟨gb224, 0, none⟩ = some (.int .i64 t220) := (blk_cell BK224.out 0).trans rfl; have hcz116_1 : w111.cell? ⟨gb224, 1, none⟩ = some (.slice Ao62 t221.length co62) := (blk_cell BK224.out 1).trans rfl; have hfz116_0 := blk_frozen BK224.out 0; have hfz116_1 := blk_frozen BK224.out 1) | ((with_reducible refine gate_callee (f := 21) rfl ?_); refine goesL_ (some 69) rfl rfl Try.func21 (by kernel_rfl) rfl #[.agg #[.int .i64 t220, .slice Ao62 t221.length co62], .int .i64 t242] rfl lm12_ ?_; (with_reducible refine (laws_markBits.calls kj24 t220 (fun k_ => some k_ = (.slice Ao62 t221.length co62 : Value).ownBlock) (.slice Ao62 t221.length co62) t221 t242 t244 t245 w _ ?side1 ?side2 A95.out).mono ?_); (case side1 => repeat (first | (with_reducible first | exact HB.out | apply below_alloc | apply pw_below_drewN | apply below_drew1 | refine below_set ?_ GE197.out | refine below_set ?_ GE198.out | refine below_set ?_ GE214.out | refine below_set ?_ GE219.out | refine below_set ?_ GE224.out | refine below_set ?_ GE230.out) | exact HB.out)); (case side2 => exact Kd.R_tight rfl HO_225001.out); rintro e w117 ⟨rfl, hy0, hb, hkp⟩; refine ⟨_, rfl, ?_⟩; have n0_ := am12_ (Kd.R_mono (ok' := fun k_ => some k_ ≠ (.slice Ao52 t216.length co52 : Value).ownBlock ∧ some k_ ≠ (.slice Ao62 t221.length co62 : Value).ownBlock ∧ some k_ ≠ (.slice Ao72 t226.length co72 : Value).ownBlock ∧ some k_ ≠ (.slice Ao99 t233.length co99 : Value).ownBlock ∧ some k_ ≠ (.slice Ao103 t238.length co103 : Value).ownBlock) (Kd.R_keptB (HO_215001.out) hkp (fun k_ hk_ hs_ => (hk_.2.1) hs_)) (fun k_ hk_ => ⟨hk_.1.1, hk_.1.2.1, hk_.1.2.2.1, hk_.1.2.2.2.1, hk_.1.2.2.2.2⟩)); have n1_ := am12_ (Kd.R_mono (ok' := fun k_ => some k_ ≠ (.slice Ao42 t210.length co42 : Value).ownBlock ∧ some k_ ≠ (.slice Ao62 t221.length co62 : Value).ownBlock ∧ some k_ ≠ (.slice Ao72 t226.length co72 : Value).ownBlock ∧ some k_ ≠ (.slice Ao99 t233.length co99 : Value).ownBlock ∧ some k_ ≠ (.slice Ao103 t238.length co103 : Value).ownBlock) (Kd.R_keptB (HO_220001.out) hkp (fun k_ hk_ hs_ => (hk_.1.1.2.1) hs_)) (fun k_ hk_ => ⟨hk_.1.1.1.1, hk_.1.1.1.2.1, hk_.1.1.1.2.2, hk_.1.1.2, hk_.1.2⟩)); have n2_ := am12_ (Kd.R_reok rfl hy0 (fun k_ e_ => HO_225001.out.1 k_ e_)); have n3_ := am12_ (Kd.R_mono (ok' := fun k_ => some k_ ≠ (.slice Ao42 t210.length co42 : Value).ownBlock ∧ some k_ ≠ (.slice Ao52 t216.length co52 : Value).ownBlock ∧ some k_ ≠ (.slice Ao62 t221.length co62 : Value).ownBlock ∧ some k_ ≠ (.slice Ao99 t233.length co99 : Value).ownBlock ∧ some k_ ≠ (.slice Ao103 t238.length co103 : Value).ownBlock) (Kd.R_keptB (HO_231001.out) hkp (fun k_ hk_ hs_ => (hk_.2.2.1) hs_)) (fun k_ hk_ => ⟨hk_.1.1, hk_.1.2.1, hk_.1.2.2.1, hk_.1.2.2.2.1, hk_.1.2.2.2.2⟩)); have n4_ := am12_ (blk_kept (lb12_ BK197) hkp (fun hs_ => (fun e_ => (Kd.R_ne HO_225001.out BK197.out (by decide)) e_) hs_)); have n5_ := am12_ (blk_kept (lb12_ BK198) hkp (fun hs_ => (fun e_ => (Kd.R_ne HO_225001.out BK198.out (by decide)) e_) hs_)); have n6_ := am12_ (blk_kept (lb12_ BK214) hkp (fun hs_ => (fun e_ => (Kd.R_ne HO_225001.out BK214.out (by decide)) e_) hs_)); have n7_ := am12_ (blk_kept (lb12_ BK219) hkp (fun hs_ => (fun e_ => (Kd.R_ne HO_225001.out BK219.out (by decide)) e_) hs_)); have n8_ := am12_ (blk_kept (lb12_ BK224) hkp (fun hs_ => (fun e_ => (Kd.R_ne HO_225001.out BK224.out (by decide)) e_) hs_)); have n9_ := am12_ (blk_kept (lb12_ BK230) hkp (fun hs_ => (fun e_ => (Kd.R_ne HO_225001.out BK230.out (by decide)) e_) hs_)); have n10_ := am12_ (Kd.R_mono (ok' := fun k_ => some k_ ≠ (.slice Ao42 t210.length co42 : Value).ownBlock ∧ some k_ ≠ (.slice Ao52 t216.length co52 : Value).ownBlock ∧ some k_ ≠ (.slice Ao62 t221.length co62 : Value).ownBlock ∧ some k_ ≠ (.slice Ao72 t226.length co72 : Value).ownBlock ∧ some k_ ≠ (.slice Ao103 t238.length co103 : Value).ownBlock) (Kd.R_keptB (HO235.out) hkp (fun k_ hk_ hs_ => (hk_.2.2.1) hs_)) (fun k_ hk_ => ⟨hk_.1.1, hk_.1.2.1, hk_.1.2.2.1, hk_.1.2.2.2.1, hk_.1.2.2.2.2⟩)); have n11_ := am12_ (Kd.R_mono (ok' := fun k_ => some k_ ≠ (.slice Ao42 t210.length co42 : Value).ownBlock ∧ some k_ ≠ (.slice Ao52 t216.length co52 : Value).ownBlock ∧ some k_ ≠ (.slice Ao62 t221.length co62 : Value).ownBlock ∧ some k_ ≠ (.slice Ao72 t226.length co72 : Value).ownBlock ∧ some k_ ≠ (.slice Ao99 t233.length co99 : Value).ownBlock) (Kd.R_keptB (HO240.out) hkp (fun k_ hk_ hs_ => (hk_.2.2.1) hs_)) (fun k_ hk_ => ⟨hk_.1.1, hk_.1.2.1, hk_.1.2.2.1, hk_.1.2.2.2.1, hk_.1.2.2.2.2⟩)); have n12_ := am12_ (hb); clear HO_215001; clear HO_220001; clear HO_225001; clear HO_231001; clear BK197; clear BK198; clear BK214; clear BK219; clear BK224; clear BK230; clear HO235; clear HO240; clear HB; have HO_215001 := n0_; have HO_220001 := n1_; have HO_225001 := n2_; have HO_231001 := n3_; have BK197 := n4_; have BK198 := n5_; have BK214 := n6_; have BK219 := n7_; have BK224 := n8_; have BK230 := n9_; have HO235 := n10_; have HO240 := n11_; have HB := n12_; clear n0_ n1_ n2_ n3_ n4_ n5_ n6_ n7_ n8_ n9_ n10_ n11_ n12_; (try clear hb); (try clear hkp); (try clear hy0)))
        (try simp only [Act.put, List.setIfInBounds_toArray, List.set_cons_zero, List.set_cons_succ])
        go_cut [82] (fun v82 wc => ∃ (kq : Nat) (x82_95 : Bool), v82 = .bool x82_95 ∧ Aside0 (laws_FnExactJoinBits.j1 kq t213 x82_95 a0_0 l0_1 a1_0 l1_1 t209 t210 t225 t226 = some r) ∧ Aside0 (kq ≤ kj24) ∧ Aside0 (Kd.R (Kd.int .i64) 3 wc w.heap.size (fun k_ => some k_ ≠ ((.slice Ao52 t216.length co52) : Value).ownBlock ∧ some k_ ≠ ((.slice Ao62 t221.length co62) : Value).ownBlock ∧ some k_ ≠ ((.slice Ao72 t226.length co72) : Value).ownBlock) (.slice Ao42 t210.length co42) t210) ∧ Aside0 (Kd.R (Kd.int .i64) 3 wc w.heap.size (fun k_ => some k_ ≠ ((.slice Ao42 t210.length co42) : Value).ownBlock ∧ some k_ ≠ ((.slice Ao62 t221.length co62) : Value).ownBlock ∧ some k_ ≠ ((.slice Ao72 t226.length co72) : Value).ownBlock) (.slice Ao52 t216.length co52) t243) ∧ Aside0 (Kd.R (Kd.int .i64) 3 wc w.heap.size (fun k_ => some k_ ≠ ((.slice Ao42 t210.length co42) : Value).ownBlock ∧ some k_ ≠ ((.slice Ao52 t216.length co52) : Value).ownBlock ∧ some k_ ≠ ((.slice Ao72 t226.length co72) : Value).ownBlock) (.slice Ao62 t221.length co62) t245) ∧ Aside0 (Kd.R (Kd.int .i64) 3 wc w.heap.size (fun k_ => some k_ ≠ ((.slice Ao42 t210.length co42) : Value).ownBlock ∧ some k_ ≠ ((.slice Ao52 t216.length co52) : Value).ownBlock ∧ some k_ ≠ ((.slice Ao62 t221.length co62) : Value).ownBlock) (.slice Ao72 t226.length co72) t226) ∧ Aside0 (wc.heap[gb197]? = some (.cells #[.int .i64 a0_0, (.slice A0_1 l0_1.length c0_1)] 24 (0, 0))) ∧ Aside0 (wc.heap[gb198]? = some (.cells #[.int .i64 a1_0, (.slice A1_1 l1_1.length c1_1)] 24 (0, 0))) ∧ Aside0 (wc.heap[gb214]? = some (.cells #[.int .i64 t209, (.slice Ao42 t210.length co42)] 26 (0, 0))) ∧ Aside0 (wc.heap[gb219]? = some (.cells #[.int .i64 t215, (.slice Ao52 t216.length co52)] 26 (0, 0))) ∧ Aside0 (wc.heap[gb224]? = some (.cells #[.int .i64 t220, (.slice Ao62 t221.length co62)] 26 (0, 0))) ∧ Aside0 (wc.heap[gb230]? = some (.cells #[.int .i64 t225, (.slice Ao72 t226.length co72)] 26 (0, 0))) ∧ Aside0 (Below w.heap.size w wc))
        case first =>
         have H := HC96.out
         clear HC96
         by_cases c118 : t244 < 0
         ·rw [if_pos c118] at H
          exact absurd H (by simp)
         ·rw [if_neg c118] at H
          have c118b0 : decide (t244 < 0) = false := decide_eq_false c118
          clear c118
          (first | rw [c118b0] | (simp only [i64_w, i32_w]; rw [c118b0]) | skip)
          replace H := Option.bind_eq_some_iff.mp H
          obtain ⟨t246, A1190, H⟩ := H
          replace H : (if t246 = true then (laws_FnExactJoinBits.j1 kj24 t213 (t229 != t213) a0_0 l0_1 a1_0 l1_1 t209 t210 t225 t226) else (none)) = some r := H
          have A119 := am12_ A1190
          clear A1190
          by_cases c120 : t246 = true
          ·subst c120
           have H1 : (laws_FnExactJoinBits.j1 kj24 t213 (t229 != t213) a0_0 l0_1 a1_0 l1_1 t209 t210 t225 t226) = some r := by rw [if_pos rfl] at H; exact H
           clear H
           have H := H1
           clear H1
           have H' := am12_ H
           clear H
           have hnb121 := NB230_197.out
           have hnc121 := NB197_230.out
           have hnb122 := NB230_198.out
           have hnc122 := NB198_230.out
           have hnb123 := NB230_214.out
           have hnc123 := NB214_230.out
           have hnb124 := NB230_219.out
           have hnc124 := NB219_230.out
           have hnb125 := NB230_224.out
           have hnc125 := NB224_230.out
           have hcz126_0 : w117.cell? ⟨gb230, 0, none⟩ = some (.int .i64 t225) := (blk_cell BK230.out 0).trans rfl
           have hcz126_1 : w117.cell? ⟨gb230, 1, none⟩ = some (.slice Ao72 t226.length co72) := (blk_cell BK230.out 1).trans rfl
           have hfz126_0 := blk_frozen BK230.out 0
           have hfz126_1 := blk_frozen BK230.out 1
           have hnb127 := NB214_197.out
           have hnc127 := NB197_214.out
           have hnb128 := NB214_198.out
           have hnc128 := NB198_214.out
           have hnb129 := NB214_219.out
           have hnc129 := NB219_214.out
           have hnb130 := NB214_224.out
           have hnc130 := NB224_214.out
           have hcz131_0 : w117.cell? ⟨gb214, 0, none⟩ = some (.int .i64 t209) := (blk_cell BK214.out 0).trans rfl
           have hcz131_1 : w117.cell? ⟨gb214, 1, none⟩ = some (.slice Ao42 t210.length co42) := (blk_cell BK214.out 1).trans rfl
           have hfz131_0 := blk_frozen BK214.out 0
           have hfz131_1 := blk_frozen BK214.out 1
           go_wp2_with (first | (go_at_call 20; (with_reducible refine (laws_eqBits.calls kj24 t225 _ _ t226 t209 _ _ t210 true _ ?side1 ?side2 ?side3 ?side4 A119.out).mono ?_); (case side1 => exact lc12_ (Kd.R_reads' HO_231001.out).2.2); (case side2 => exact (Kd.R_reads' HO_231001.out).2.1); (case side3 => exact lc12_ (Kd.R_reads' HO_215001.out).2.2); (case side4 => exact (Kd.R_reads' HO_215001.out).2.1); rintro e w132 ⟨rfl, hb⟩; have n0_ := am12_ (Kd.R_below (lf12_ HO_215001) hb); have n1_ := am12_ (Kd.R_below (lf12_ HO_220001) hb); have n2_ := am12_ (Kd.R_below (lf12_ HO_225001) hb); have n3_ := am12_ (Kd.R_below (lf12_ HO_231001) hb); have n4_ := am12_ (Kd.R_below (lf12_ HO235) hb); have n5_ := am12_ (Kd.R_below (lf12_ HO240) hb); have n6_ := am12_ (blk_below (g := gb197) (o := .cells #[.int .i64 a0_0, .slice A0_1 l0_1.length c0_1] 24 (0, 0)) (lb12_ BK197) hb); have n7_ := am12_ (blk_below (g := gb198) (o := .cells #[.int .i64 a1_0, .slice A1_1 l1_1.length c1_1] 24 (0, 0)) (lb12_ BK198) hb); have n8_ := am12_ (blk_below (g := gb214) (o := .cells #[.int .i64 t209, .slice Ao42 t210.length co42] 26 (0, 0)) (lb12_ BK214) hb); have n9_ := am12_ (blk_below (g := gb219) (o := .cells #[.int .i64 t215, .slice Ao52 t216.length co52] 26 (0, 0)) (lb12_ BK219) hb); have n10_ := am12_ (blk_below (g := gb224) (o := .cells #[.int .i64 t220, .slice Ao62 t221.length co62] 26 (0, 0)) (lb12_ BK224) hb); have n11_ := am12_ (blk_below (g := gb230) (o := .cells #[.int .i64 t225, .slice Ao72 t226.length co72] 26 (0, 0)) (lb12_ BK230) hb); have n12_ := am12_ (below_step (lw12_ HB) hb); clear HO_215001; clear HO_220001; clear HO_225001; clear HO_231001; clear HO235; clear HO240; clear BK197; clear BK198; clear BK214; clear BK219; clear BK224; clear BK230; clear HB; have HO_215001 := n0_; have HO_220001 := n1_; have HO_225001 := n2_; have HO_231001 := n3_; have HO235 := n4_; have HO240 := n5_; have BK197 := n6_; have BK198 := n7_; have BK214 := n8_; have BK219 := n9_; have BK224 := n10_; have BK230 := n11_; have HB := n12_; clear n0_ n1_ n2_ n3_ n4_ n5_ n6_ n7_ n8_ n9_ n10_ n11_ n12_; (try clear hb); (try clear hb2); (try clear hk); (try clear hi)))
           go_meet
           case rel => exact ⟨_, ((t229 != t213)), (by first | rfl | (simp; done) | (simp [*]; done)), H', ⟨by have := HJ24.out; first | omega | exact Nat.le_refl _⟩, ⟨by (with_reducible repeat (first | apply Kd.R_alloc | apply Kd.R_drewN | apply Kd.R_drew)); exact Kd.R_mono HO_215001.out (fun _ hk => ⟨hk.1, ⟨hk.2.1, hk.2.2.1⟩⟩)⟩, ⟨by (with_reducible repeat (first | apply Kd.R_alloc | apply Kd.R_drewN | apply Kd.R_drew)); exact Kd.R_mono HO_220001.out (fun _ hk => ⟨hk.1, ⟨hk.2.1, hk.2.2.1⟩⟩)⟩, ⟨by (with_reducible repeat (first | apply Kd.R_alloc | apply Kd.R_drewN | apply Kd.R_drew)); exact Kd.R_mono HO_225001.out (fun _ hk => ⟨hk.1, ⟨hk.2.1, hk.2.2.1⟩⟩)⟩, ⟨by (with_reducible repeat (first | apply Kd.R_alloc | apply Kd.R_drewN | apply Kd.R_drew)); exact Kd.R_mono HO_231001.out (fun _ hk => ⟨hk.1, ⟨hk.2.1, hk.2.2.1⟩⟩)⟩, ⟨lb12_ BK197⟩, ⟨lb12_ BK198⟩, ⟨lb12_ BK214⟩, ⟨lb12_ BK219⟩, ⟨lb12_ BK224⟩, ⟨lb12_ BK230⟩, ⟨lw12_ HB⟩⟩
          ·replace c120 := Bool.eq_false_iff.mpr c120
           subst c120
           have H1 : (none) = some r := by rw [if_neg (show ¬ (false = true) by decide)] at H; exact H
           clear H
           have H := H1
           clear H1
           exact absurd H (by simp)
        case rest =>
         clear HC96
         try clear c1
         try clear c2
         try clear p2
         try clear c4
         try clear c5
         try clear c6
         try clear c7
         try clear c8
         try clear c9
         try clear c10
         try clear c11
         try clear c12
         try clear c13
         try clear c18
         try clear c20
         try clear c21
         try clear c25
         try clear c26
         try clear c44
         try clear c48
         try clear c49
         try clear c50
         try clear c53
         try clear c57
         try clear c58
         try clear c59
         try clear c60
         try clear c66
         try clear c67
         try clear c68
         try clear c69
         try clear c70
         try clear c74
         try clear c75
         try clear c76
         try clear c77
         try clear c78
         try clear c79
         try clear c81
         try clear c82
         try clear c83
         try clear c84
         try clear c87
         try clear c90
         try clear c93
         try clear c105
         try clear c106
         try clear c107
         try clear c108
         try clear c109
         try clear c112
         try clear c113
         try clear c114
         try clear c115
         try clear c118
         try clear c118b0
         try clear c120
         try clear c121
         try clear c122
         try clear c123
         try clear c124
         try clear c125
         try clear c127
         try clear c128
         try clear c129
         try clear c130
         try clear hcz110_0
         try clear hcz110_1
         try clear hcz116_0
         try clear hcz116_1
         try clear hcz126_0
         try clear hcz126_1
         try clear hcz131_0
         try clear hcz131_1
         try clear hcz45_0
         try clear hcz45_1
         try clear hcz51_0
         try clear hcz51_1
         try clear hcz54_0
         try clear hcz54_1
         try clear hcz61_0
         try clear hcz61_1
         try clear hcz63_0
         try clear hcz63_1
         try clear hcz71_0
         try clear hcz71_1
         try clear hcz80_0
         try clear hcz80_1
         try clear hcz85_0
         try clear hcz85_1
         try clear hfz110_0
         try clear hfz110_1
         try clear hfz116_0
         try clear hfz116_1
         try clear hfz126_0
         try clear hfz126_1
         try clear hfz131_0
         try clear hfz131_1
         try clear hfz45_0
         try clear hfz45_1
         try clear hfz51_0
         try clear hfz51_1
         try clear hfz54_0
         try clear hfz54_1
         try clear hfz61_0
         try clear hfz61_1
         try clear hfz63_0
         try clear hfz63_1
         try clear hfz71_0
         try clear hfz71_1
         try clear hfz80_0
         try clear hfz80_1
         try clear hfz85_0
         try clear hfz85_1
         try clear p2
         obtain ⟨kq, x82_95, rfl, HA, HJ95, HO_215001, HO_220001, HO_225001, HO_231001, BK197, BK198, BK214, BK219, BK224, BK230, HB⟩ := hcut
         have hl220001_95 := (Kd.R_reads' HO_220001.out).1
         rw [hl220001_95] at HO_220001
         (try simp only [hl220001_95])
         (try simp only [hl220001_95] at BK197)
         (try simp only [hl220001_95] at BK198)
         (try simp only [hl220001_95] at BK214)
         (try simp only [hl220001_95] at BK219)
         (try simp only [hl220001_95] at BK224)
         (try simp only [hl220001_95] at BK230)
         (try simp only [hl220001_95] at HO_215001)
         (try simp only [hl220001_95] at HO_225001)
         (try simp only [hl220001_95] at HO_231001)
         have hl225001_95 := (Kd.R_reads' HO_225001.out).1
         rw [hl225001_95] at HO_225001
         (try simp only [hl225001_95])
         (try simp only [hl225001_95] at BK197)
         (try simp only [hl225001_95] at BK198)
         (try simp only [hl225001_95] at BK214)
         (try simp only [hl225001_95] at BK219)
         (try simp only [hl225001_95] at BK224)
         (try simp only [hl225001_95] at BK230)
         (try simp only [hl225001_95] at HO_215001)
         (try simp only [hl225001_95] at HO_220001)
         (try simp only [hl225001_95] at HO_231001)
         cases kq with
         | zero => exact absurd HA.out (by simp [laws_FnExactJoinBits.j1])
         | succ kj95 =>
          have H := HA.out
          clear HA
          simp only [laws_FnExactJoinBits.j1] at H
          by_cases c133 : x82_95 = true
          ·subst c133
           have H1 : (none) = some r := by rw [if_pos rfl] at H; exact H
           clear H
           have H := H1
           clear H1
           exact absurd H (by simp)
          ·replace c133 := Bool.eq_false_iff.mpr c133
           subst c133
           have H1 : ((laws_markBits.f kj95 t225 t226 1).bind fun bt247 => ((laws_heldBits.f kj95 t225 bt247.2 1).bind fun t249 => (if t249 < 0 then (none) else (if t249 = bt247.1 then ((laws_toBits.f kj95 a0_0 l0_1).bind fun bt250 => ((laws_toBits.f kj95 a1_0 l1_1).bind fun bt254 => ((impl_JoinBits.f kj95 bt250.1 bt250.2 bt254.1 bt254.2).bind fun bt258 => ((laws_eqBits.f kj95 bt258.1 bt258.2.1 t209 t210).bind fun t264 => (if t264 = true then (laws_FnExactJoinBits.j2 kj95 bt247.1 (bt258.2.2 != t213) t225 bt247.2) else (none)))))) else (none))))) = some r := by rw [if_neg (show ¬ (false = true) by decide)] at H; exact H
           clear H
           have H := H1
           clear H1
           replace H := Option.bind_eq_some_iff.mp H
           obtain ⟨⟨t247, t248⟩, A1340, H⟩ := H
           replace H : ((laws_heldBits.f kj95 t225 t248 1).bind fun t249 => (if t249 < 0 then (none) else (if t249 = t247 then ((laws_toBits.f kj95 a0_0 l0_1).bind fun bt250 => ((laws_toBits.f kj95 a1_0 l1_1).bind fun bt254 => ((impl_JoinBits.f kj95 bt250.1 bt250.2 bt254.1 bt254.2).bind fun bt258 => ((laws_eqBits.f kj95 bt258.1 bt258.2.1 t209 t210).bind fun t264 => (if t264 = true then (laws_FnExactJoinBits.j2 kj95 t247 (bt258.2.2 != t213) t225 t248) else (none)))))) else (none)))) = some r := H
           have A134 := am12_ A1340
           clear A1340
           replace H := Option.bind_eq_some_iff.mp H
           obtain ⟨t249, A1350, H⟩ := H
           replace H : (if t249 < 0 then (none) else (if t249 = t247 then ((laws_toBits.f kj95 a0_0 l0_1).bind fun bt250 => ((laws_toBits.f kj95 a1_0 l1_1).bind fun bt254 => ((impl_JoinBits.f kj95 bt250.1 bt250.2 bt254.1 bt254.2).bind fun bt258 => ((laws_eqBits.f kj95 bt258.1 bt258.2.1 t209 t210).bind fun t264 => (if t264 = true then (laws_FnExactJoinBits.j2 kj95 t247 (bt258.2.2 != t213) t225 t248) else (none)))))) else (none))) = some r := H
           have A135 := am12_ A1350
           clear A1350
           by_cases c136 : t249 < 0
           ·rw [if_pos c136] at H
            exact absurd H (by simp)
           ·rw [if_neg c136] at H
            have c136b0 : decide (t249 < 0) = false := decide_eq_false c136
            clear c136
            by_cases c137 : t249 = t247
            ·rw [if_pos c137] at H
             have c137b0 : (t249 == t247) = true := beq_iff_eq.mpr c137
             have c137b1 : (t249 != t247) = false := bne_eq_false_iff_eq.mpr c137
             clear c137
             replace H := Option.bind_eq_some_iff.mp H
             obtain ⟨⟨t250, t251⟩, A1380, H⟩ := H
             replace H : ((laws_toBits.f kj95 a1_0 l1_1).bind fun bt254 => ((impl_JoinBits.f kj95 t250 t251 bt254.1 bt254.2).bind fun bt258 => ((laws_eqBits.f kj95 bt258.1 bt258.2.1 t209 t210).bind fun t264 => (if t264 = true then (laws_FnExactJoinBits.j2 kj95 t247 (bt258.2.2 != t213) t225 t248) else (none))))) = some r := H
             have A138 := am12_ A1380
             clear A1380
             replace H := Option.bind_eq_some_iff.mp H
             obtain ⟨⟨t254, t255⟩, A1390, H⟩ := H
             replace H : ((impl_JoinBits.f kj95 t250 t251 t254 t255).bind fun bt258 => ((laws_eqBits.f kj95 bt258.1 bt258.2.1 t209 t210).bind fun t264 => (if t264 = true then (laws_FnExactJoinBits.j2 kj95 t247 (bt258.2.2 != t213) t225 t248) else (none)))) = some r := H
             have A139 := am12_ A1390
             clear A1390
             replace H := Option.bind_eq_some_iff.mp H
             obtain ⟨⟨t258, t259, t262⟩, A1400, H⟩ := H
             replace H : ((laws_eqBits.f kj95 t258 t259 t209 t210).bind fun t264 => (if t264 = true then (laws_FnExactJoinBits.j2 kj95 t247 (t262 != t213) t225 t248) else (none))) = some r := H
             have A140 := am12_ A1400
             clear A1400
             have HC141 := am12_ H
             clear H
             have hnb142 := NB230_197.out
             have hnc142 := NB197_230.out
             have hnb143 := NB230_198.out
             have hnc143 := NB198_230.out
             have hnb144 := NB230_214.out
             have hnc144 := NB214_230.out
             have hnb145 := NB230_219.out
             have hnc145 := NB219_230.out
             have hnb146 := NB230_224.out
             have hnc146 := NB224_230.out
             have hcz147_0 : wc.cell? ⟨gb230, 0, none⟩ = some (.int .i64 t225) := (blk_cell BK230.out 0).trans rfl
             have hcz147_1 : wc.cell? ⟨gb230, 1, none⟩ = some (.slice Ao72 t226.length co72) := (blk_cell BK230.out 1).trans rfl
             have hfz147_0 := blk_frozen BK230.out 0
             have hfz147_1 := blk_frozen BK230.out 1
             try go_wp2_with (first | ((with_reducible refine gate_callee (f := 21) rfl ?_); refine goesL_ (some 85) rfl rfl Try.func21 (by kernel_rfl) rfl #[.agg #[.int .i64 t225, .slice Ao72 t226.length co72], .int .i64 1] rfl lm12_ ?_; (with_reducible refine (laws_markBits.calls kj95 t225 (fun k_ => some k_ = (.slice Ao72 t226.length co72 : Value).ownBlock) (.slice Ao72 t226.length co72) t226 1 t247 t248 w _ ?side1 ?side2 A134.out).mono ?_); (case side1 => repeat (first | (with_reducible first | exact HB.out | apply below_alloc | apply pw_below_drewN | apply below_drew1 | refine below_set ?_ GE197.out | refine below_set ?_ GE198.out | refine below_set ?_ GE214.out | refine below_set ?_ GE219.out | refine below_set ?_ GE224.out | refine below_set ?_ GE230.out) | exact HB.out)); (case side2 => exact Kd.R_tight rfl HO_231001.out); rintro e w148 ⟨rfl, hy0, hb, hkp⟩; refine ⟨_, rfl, ?_⟩; have n0_ := am12_ (Kd.R_mono (ok' := fun k_ => some k_ ≠ (.slice Ao52 t243.length co52 : Value).ownBlock ∧ some k_ ≠ (.slice Ao62 t245.length co62 : Value).ownBlock ∧ some k_ ≠ (.slice Ao72 t226.length co72 : Value).ownBlock) (Kd.R_keptB (HO_215001.out) hkp (fun k_ hk_ hs_ => (hk_.2.2) hs_)) (fun k_ hk_ => ⟨hk_.1.1, hk_.1.2.1, hk_.1.2.2⟩)); have n1_ := am12_ (Kd.R_mono (ok' := fun k_ => some k_ ≠ (.slice Ao42 t210.length co42 : Value).ownBlock ∧ some k_ ≠ (.slice Ao62 t245.length co62 : Value).ownBlock ∧ some k_ ≠ (.slice Ao72 t226.length co72 : Value).ownBlock) (Kd.R_keptB (HO_220001.out) hkp (fun k_ hk_ hs_ => (hk_.2.2) hs_)) (fun k_ hk_ => ⟨hk_.1.1, hk_.1.2.1, hk_.1.2.2⟩)); have n2_ := am12_ (Kd.R_mono (ok' := fun k_ => some k_ ≠ (.slice Ao42 t210.length co42 : Value).ownBlock ∧ some k_ ≠ (.slice Ao52 t243.length co52 : Value).ownBlock ∧ some k_ ≠ (.slice Ao72 t226.length co72 : Value).ownBlock) (Kd.R_keptB (HO_225001.out) hkp (fun k_ hk_ hs_ => (hk_.2.2) hs_)) (fun k_ hk_ => ⟨hk_.1.1, hk_.1.2.1, hk_.1.2.2⟩)); have n3_ := am12_ (Kd.R_reok rfl hy0 (fun k_ e_ => HO_231001.out.1 k_ e_)); have n4_ := am12_ (blk_kept (lb12_ BK197) hkp (fun hs_ => (fun e_ => (Kd.R_ne HO_231001.out BK197.out (by decide)) e_) hs_)); have n5_ := am12_ (blk_kept (lb12_ BK198) hkp (fun hs_ => (fun e_ => (Kd.R_ne HO_231001.out BK198.out (by decide)) e_) hs_)); have n6_ := am12_ (blk_kept (lb12_ BK214) hkp (fun hs_ => (fun e_ => (Kd.R_ne HO_231001.out BK214.out (by decide)) e_) hs_)); have n7_ := am12_ (blk_kept (lb12_ BK219) hkp (fun hs_ => (fun e_ => (Kd.R_ne HO_231001.out BK219.out (by decide)) e_) hs_)); have n8_ := am12_ (blk_kept (lb12_ BK224) hkp (fun hs_ => (fun e_ => (Kd.R_ne HO_231001.out BK224.out (by decide)) e_) hs_)); have n9_ := am12_ (blk_kept (lb12_ BK230) hkp (fun hs_ => (fun e_ => (Kd.R_ne HO_231001.out BK230.out (by decide)) e_) hs_)); have n10_ := am12_ (hb); clear HO_215001; clear HO_220001; clear HO_225001; clear HO_231001; clear BK197; clear BK198; clear BK214; clear BK219; clear BK224; clear BK230; clear HB; have HO_215001 := n0_; have HO_220001 := n1_; have HO_225001 := n2_; have HO_231001 := n3_; have BK197 := n4_; have BK198 := n5_; have BK214 := n6_; have BK219 := n7_; have BK224 := n8_; have BK230 := n9_; have HB := n10_; clear n0_ n1_ n2_ n3_ n4_ n5_ n6_ n7_ n8_ n9_ n10_; (try clear hb); (try clear hkp); (try clear hy0); have hcz149_0 : w148.cell? ⟨gb230, 0, none⟩ = some (.int .i64 t225) := (blk_cell BK230.out 0).trans rfl; have hcz149_1 : w148.cell? ⟨gb230, 1, none⟩ = some (.slice Ao72 t226.length co72) := (blk_cell BK230.out 1).trans rfl; have hfz149_0 := blk_frozen BK230.out 0; have hfz149_1 := blk_frozen BK230.out 1) | ((with_reducible refine gate_callee (f := 22) rfl ?_); refine goesL_ (some 88) rfl rfl Try.func22 (by kernel_rfl) rfl #[.agg #[.int .i64 t225, .slice Ao72 t248.length co72], .int .i64 1] rfl (by (try simp only [List.map_toArray, List.map_cons, List.map_nil]); first | done | (rw [show t248.length = t226.length from (Kd.R_reads' HO_231001.out).1.symm] <;> rfl) | rfl | (simp only [List.length_drop, List.length_take]; rfl)) ?_; (with_reducible refine (laws_heldBits.calls kj95 t225 _ _ t248 1 t249 _ ?side1 ?side2 A135.out).mono ?_); (case side1 => exact lc12_ (Kd.R_reads' HO_231001.out).2.2); (case side2 => rw [show t248.length = t226.length from (Kd.R_reads' HO_231001.out).1.symm]; exact (Kd.R_reads' HO_231001.out).2.1); rintro e w150 ⟨rfl, hb⟩; refine ⟨_, rfl, ?_⟩; have n0_ := am12_ (Kd.R_below (lf12_ HO_215001) hb); have n1_ := am12_ (Kd.R_below (lf12_ HO_220001) hb); have n2_ := am12_ (Kd.R_below (lf12_ HO_225001) hb); have n3_ := am12_ (Kd.R_below (lf12_ HO_231001) hb); have n4_ := am12_ (blk_below (g := gb197) (o := .cells #[.int .i64 a0_0, .slice A0_1 l0_1.length c0_1] 24 (0, 0)) (lb12_ BK197) hb); have n5_ := am12_ (blk_below (g := gb198) (o := .cells #[.int .i64 a1_0, .slice A1_1 l1_1.length c1_1] 24 (0, 0)) (lb12_ BK198) hb); have n6_ := am12_ (blk_below (g := gb214) (o := .cells #[.int .i64 t209, .slice Ao42 t210.length co42] 26 (0, 0)) (lb12_ BK214) hb); have n7_ := am12_ (blk_below (g := gb219) (o := .cells #[.int .i64 t215, .slice Ao52 t243.length co52] 26 (0, 0)) (lb12_ BK219) hb); have n8_ := am12_ (blk_below (g := gb224) (o := .cells #[.int .i64 t220, .slice Ao62 t245.length co62] 26 (0, 0)) (lb12_ BK224) hb); have n9_ := am12_ (blk_below (g := gb230) (o := .cells #[.int .i64 t225, .slice Ao72 t226.length co72] 26 (0, 0)) (lb12_ BK230) hb); have n10_ := am12_ (below_step (lw12_ HB) hb); clear HO_215001; clear HO_220001; clear HO_225001; clear HO_231001; clear BK197; clear BK198; clear BK214; clear BK219; clear BK224; clear BK230; clear HB; have HO_215001 := n0_; have HO_220001 := n1_; have HO_225001 := n2_; have HO_231001 := n3_; have BK197 := n4_; have BK198 := n5_; have BK214 := n6_; have BK219 := n7_; have BK224 := n8_; have BK230 := n9_; have HB := n10_; clear n0_ n1_ n2_ n3_ n4_ n5_ n6_ n7_ n8_ n9_ n10_; (try clear hb); (try clear hb2); (try clear hk); (try clear hi)))
             have n0_ := am12_ (Kd.R_drew HO_215001.out)
             have n1_ := am12_ (Kd.R_drew HO_220001.out)
             have n2_ := am12_ (Kd.R_drew HO_225001.out)
             have n3_ := am12_ (Kd.R_drew HO_231001.out)
             have n4_ := am12_ (blk_drew BK197.out)
             have n5_ := am12_ (blk_drew BK198.out)
             have n6_ := am12_ (blk_drew BK214.out)
             have n7_ := am12_ (blk_drew BK219.out)
             have n8_ := am12_ (blk_drew BK224.out)
             have n9_ := am12_ (blk_drew BK230.out)
             have n10_ := am12_ (below_drew1 HB.out)
             clear HO_215001
             clear HO_220001
             clear HO_225001
             clear HO_231001
             clear BK197
             clear BK198
             clear BK214
             clear BK219
             clear BK224
             clear BK230
             clear HB
             have HO_215001 := n0_
             have HO_220001 := n1_
             have HO_225001 := n2_
             have HO_231001 := n3_
             have BK197 := n4_
             have BK198 := n5_
             have BK214 := n6_
             have BK219 := n7_
             have BK224 := n8_
             have BK230 := n9_
             have HB := n10_
             clear n0_ n1_ n2_ n3_ n4_ n5_ n6_ n7_ n8_ n9_ n10_
             refine start_ (n := 11) (S := fun w' => w'.cell? ⟨gb197, 0, none⟩ = some (.int .i64 a0_0) ∧ w'.cell? ⟨gb197, 1, none⟩ = some (.slice A0_1 l0_1.length c0_1) ∧ w'.cell? ⟨gb198, 0, none⟩ = some (.int .i64 a1_0) ∧ w'.cell? ⟨gb198, 1, none⟩ = some (.slice A1_1 l1_1.length c1_1)) (ds := []) #[false, false, false, false, false, false, false, false, false, false, false] (by kernel_rfl) rfl rfl ⟨(blk_cell BK197.out 0).trans rfl, (blk_cell BK197.out 1).trans rfl, (blk_cell BK198.out 0).trans rfl, (blk_cell BK198.out 1).trans rfl⟩ (fun hHeld => ?_); refine with_tabW laws_FnExactJoinBits.tab31 laws_FnExactJoinBits.bits31 (fun HT_ HW_ => ?_)
             generalize w150.drew = w151 at HO_215001 HO_220001 HO_225001 HO_231001 BK197 BK198 BK214 BK219 BK224 BK230 HB hHeld ⊢
             refine take_ (i := 0) (N := some 95) (v := ?_) (a' := ?_) #[true, false, false, false, false, false, false, false, false, false, false] rfl rfl (take_ofW HT_.out HW_.out (by kernel_rfl)) (fun _ _ _ h => h) (Or.inl ⟨by rfl, ?_⟩) hHeld ?_ ?_
             rotate_left
             ·rintro w' ⟨s0, s1, s2, s3⟩
              go_simp
              with_reducible rfl
             rotate_left
             ·simp only [Act.put, List.setIfInBounds_toArray, List.set_cons_zero, List.set_cons_succ, i64_w, i32_w]
              rfl
             refine take_ (i := 2) (N := some 97) (v := ?_) (a' := ?_) #[true, false, true, false, false, false, false, false, false, false, false] rfl rfl (take_ofW HT_.out HW_.out (by kernel_rfl)) (fun _ _ _ h => h) (Or.inl ⟨by rfl, ?_⟩) hHeld ?_ ?_
             rotate_left
             ·rintro w' ⟨s0, s1, s2, s3⟩
              go_simp
              with_reducible rfl
             rotate_left
             ·simp only [Act.put, List.setIfInBounds_toArray, List.set_cons_zero, List.set_cons_succ, i64_w, i32_w]
              rfl
             refine join_ (σ := Value × Value × Value × Nat) 2 #[true, true, true, true, true, true, true, true, true, false, false] (fun s_ => [(96, .agg #[.int .i64 t250, s_.1]), (98, .agg #[.int .i64 t254, s_.2.1]), (99, .tuple #[.agg #[.int .i64 t258, s_.2.2.1], .bool t262]), (15, .pointer (some ⟨s_.2.2.2, 0, none⟩)), (94, .tuple #[.agg #[.int .i64 t258, s_.2.2.1], .bool t262]), (100, .agg #[.int .i64 t258, s_.2.2.1]), (101, .bool t262)]) (fun s_ w' => (w'.cell? ⟨gb197, 0, none⟩ = some (.int .i64 a0_0) ∧ w'.cell? ⟨gb197, 1, none⟩ = some (.slice A0_1 l0_1.length c0_1) ∧ w'.cell? ⟨gb198, 0, none⟩ = some (.int .i64 a1_0) ∧ w'.cell? ⟨gb198, 1, none⟩ = some (.slice A1_1 l1_1.length c1_1)) ∧ (Kd.R (Kd.int .i64) 3 w' w.heap.size (fun k_ => some k_ ≠ (s_.2.1 : Value).ownBlock ∧ some k_ ≠ (s_.2.2.1 : Value).ownBlock ∧ some k_ ≠ (.slice Ao42 t210.length co42 : Value).ownBlock ∧ some k_ ≠ (.slice Ao52 t243.length co52 : Value).ownBlock ∧ some k_ ≠ (.slice Ao62 t245.length co62 : Value).ownBlock ∧ some k_ ≠ (.slice Ao72 t226.length co72 : Value).ownBlock) s_.1 t251) ∧ (Kd.R (Kd.int .i64) 3 w' w.heap.size (fun k_ => some k_ ≠ (s_.1 : Value).ownBlock ∧ some k_ ≠ (s_.2.2.1 : Value).ownBlock ∧ some k_ ≠ (.slice Ao42 t210.length co42 : Value).ownBlock ∧ some k_ ≠ (.slice Ao52 t243.length co52 : Value).ownBlock ∧ some k_ ≠ (.slice Ao62 t245.length co62 : Value).ownBlock ∧ some k_ ≠ (.slice Ao72 t226.length co72 : Value).ownBlock) s_.2.1 t255) ∧ (Kd.R (Kd.int .i64) 3 w' w.heap.size (fun k_ => some k_ ≠ (s_.1 : Value).ownBlock ∧ some k_ ≠ (s_.2.1 : Value).ownBlock ∧ some k_ ≠ (.slice Ao42 t210.length co42 : Value).ownBlock ∧ some k_ ≠ (.slice Ao52 t243.length co52 : Value).ownBlock ∧ some k_ ≠ (.slice Ao62 t245.length co62 : Value).ownBlock ∧ some k_ ≠ (.slice Ao72 t226.length co72 : Value).ownBlock) s_.2.2.1 t259) ∧ (Kd.R (Kd.int .i64) 3 w' w.heap.size (fun k_ => some k_ ≠ (s_.1 : Value).ownBlock ∧ some k_ ≠ (s_.2.1 : Value).ownBlock ∧ some k_ ≠ (s_.2.2.1 : Value).ownBlock ∧ some k_ ≠ (.slice Ao52 t243.length co52 : Value).ownBlock ∧ some k_ ≠ (.slice Ao62 t245.length co62 : Value).ownBlock ∧ some k_ ≠ (.slice Ao72 t226.length co72 : Value).ownBlock) (.slice Ao42 t210.length co42) t210) ∧ (Kd.R (Kd.int .i64) 3 w' w.heap.size (fun k_ => some k_ ≠ (s_.1 : Value).ownBlock ∧ some k_ ≠ (s_.2.1 : Value).ownBlock ∧ some k_ ≠ (s_.2.2.1 : Value).ownBlock ∧ some k_ ≠ (.slice Ao42 t210.length co42 : Value).ownBlock ∧ some k_ ≠ (.slice Ao62 t245.length co62 : Value).ownBlock ∧ some k_ ≠ (.slice Ao72 t226.length co72 : Value).ownBlock) (.slice Ao52 t243.length co52) t243) ∧ (Kd.R (Kd.int .i64) 3 w' w.heap.size (fun k_ => some k_ ≠ (s_.1 : Value).ownBlock ∧ some k_ ≠ (s_.2.1 : Value).ownBlock ∧ some k_ ≠ (s_.2.2.1 : Value).ownBlock ∧ some k_ ≠ (.slice Ao42 t210.length co42 : Value).ownBlock ∧ some k_ ≠ (.slice Ao52 t243.length co52 : Value).ownBlock ∧ some k_ ≠ (.slice Ao72 t226.length co72 : Value).ownBlock) (.slice Ao62 t245.length co62) t245) ∧ (Kd.R (Kd.int .i64) 3 w' w.heap.size (fun k_ => some k_ ≠ (s_.1 : Value).ownBlock ∧ some k_ ≠ (s_.2.1 : Value).ownBlock ∧ some k_ ≠ (s_.2.2.1 : Value).ownBlock ∧ some k_ ≠ (.slice Ao42 t210.length co42 : Value).ownBlock ∧ some k_ ≠ (.slice Ao52 t243.length co52 : Value).ownBlock ∧ some k_ ≠ (.slice Ao62 t245.length co62 : Value).ownBlock) (.slice Ao72 t226.length co72) t248) ∧ (w'.heap[gb197]? = some (.cells #[.int .i64 a0_0, .slice A0_1 l0_1.length c0_1] 24 (0, 0))) ∧ (w'.heap[gb198]? = some (.cells #[.int .i64 a1_0, .slice A1_1 l1_1.length c1_1] 24 (0, 0))) ∧ (w'.heap[gb214]? = some (.cells #[.int .i64 t209, .slice Ao42 t210.length co42] 26 (0, 0))) ∧ (w'.heap[gb219]? = some (.cells #[.int .i64 t215, .slice Ao52 t243.length co52] 26 (0, 0))) ∧ (w'.heap[gb224]? = some (.cells #[.int .i64 t220, .slice Ao62 t245.length co62] 26 (0, 0))) ∧ (w'.heap[gb230]? = some (.cells #[.int .i64 t225, .slice Ao72 t226.length co72] 26 (0, 0))) ∧ (w'.heap[s_.2.2.2]? = some (.cells #[.int .i64 0, .slice none 0 0] 26 (0, 0))) ∧ (w.heap.size ≤ s_.2.2.2) ∧ (w.heap.size ≤ s_.2.2.2) ∧ (gb197 ≠ s_.2.2.2) ∧ (s_.2.2.2 ≠ gb197) ∧ (gb198 ≠ s_.2.2.2) ∧ (s_.2.2.2 ≠ gb198) ∧ (gb214 ≠ s_.2.2.2) ∧ (s_.2.2.2 ≠ gb214) ∧ (gb219 ≠ s_.2.2.2) ∧ (s_.2.2.2 ≠ gb219) ∧ (gb224 ≠ s_.2.2.2) ∧ (s_.2.2.2 ≠ gb224) ∧ (gb230 ≠ s_.2.2.2) ∧ (s_.2.2.2 ≠ gb230) ∧ (Below w.heap.size w w')) ?_ ?_
             rotate_left
             ·intro hCont
              refine two_ (i := 1) (j := 8) (Ni := some 96) (Nj := some 15) #[true, true, true, false, false, false, false, false, false, false, false] #[true, false, true, false, false, false, false, false, true, false, false] rfl rfl rfl rfl (two_of HT_.out (by kernel_rfl)) (by decide) (by decide) (fun K hK => ?_) (fun K hK => ?_)
              ·skip
               refine goes_ Try.func18 (by kernel_rfl) rfl #[.agg #[.int .i64 a0_0, .slice A0_1 l0_1.length c0_1]] (by rfl) rfl rfl lm12_ ?_
               with_reducible refine (laws_toBits.calls kj95 a0_0 _ _ l0_1 t250 t251 _ ?side1 ?side2 A138.out).mono ?_
               (case side1 => exact lc12_ (Kd.C_below HR0_1.out HB.out))
               (case side2 => exact HC0_1.out)
               rintro e w152 ⟨v252, rfl, ho0, hb⟩
               refine ⟨_, rfl, ?_⟩
               have n0_ := am12_ (Kd.R_elder' (lf12_ HO_215001) (Kd.R_base ho0) hb)
               have n1_ := am12_ (Kd.R_elder' (lf12_ HO_220001) (Kd.R_base ho0) hb)
               have n2_ := am12_ (Kd.R_elder' (lf12_ HO_225001) (Kd.R_base ho0) hb)
               have n3_ := am12_ (Kd.R_elder' (lf12_ HO_231001) (Kd.R_base ho0) hb)
               have n4_ := am12_ (Kd.R_lower (Kd.R_new' (Kd.R_new' (Kd.R_new' (Kd.R_new' ho0 (Kd.R_lt (lf12_ HO_215001))) (Kd.R_lt (lf12_ HO_220001))) (Kd.R_lt (lf12_ HO_225001))) (Kd.R_lt (lf12_ HO_231001))) (below_size (lw12_ HB)))
               have n5_ := am12_ (blk_below (g := gb197) (o := .cells #[.int .i64 a0_0, .slice A0_1 l0_1.length c0_1] 24 (0, 0)) (lb12_ BK197) hb)
               have n6_ := am12_ (blk_below (g := gb198) (o := .cells #[.int .i64 a1_0, .slice A1_1 l1_1.length c1_1] 24 (0, 0)) (lb12_ BK198) hb)
               have n7_ := am12_ (blk_below (g := gb214) (o := .cells #[.int .i64 t209, .slice Ao42 t210.length co42] 26 (0, 0)) (lb12_ BK214) hb)
               have n8_ := am12_ (blk_below (g := gb219) (o := .cells #[.int .i64 t215, .slice Ao52 t243.length co52] 26 (0, 0)) (lb12_ BK219) hb)
               have n9_ := am12_ (blk_below (g := gb224) (o := .cells #[.int .i64 t220, .slice Ao62 t245.length co62] 26 (0, 0)) (lb12_ BK224) hb)
               have n10_ := am12_ (blk_below (g := gb230) (o := .cells #[.int .i64 t225, .slice Ao72 t226.length co72] 26 (0, 0)) (lb12_ BK230) hb)
               have n11_ := am12_ (below_step (lw12_ HB) hb)
               clear HO_215001
               clear HO_220001
               clear HO_225001
               clear HO_231001
               clear BK197
               clear BK198
               clear BK214
               clear BK219
               clear BK224
               clear BK230
               clear HB
               have HO_215001 := n0_
               have HO_220001 := n1_
               have HO_225001 := n2_
               have HO_231001 := n3_
               have HO253 := n4_
               have BK197 := n5_
               have BK198 := n6_
               have BK214 := n7_
               have BK219 := n8_
               have BK224 := n9_
               have BK230 := n10_
               have HB := n11_
               clear n0_ n1_ n2_ n3_ n4_ n5_ n6_ n7_ n8_ n9_ n10_ n11_
               (try clear hb)
               (try clear hb2)
               (try clear hk)
               (try clear hi)
               (try clear ho0)
               refine hK.out _ _ ⟨(blk_cell BK197.out 0).trans rfl, (blk_cell BK197.out 1).trans rfl, (blk_cell BK198.out 0).trans rfl, (blk_cell BK198.out 1).trans rfl⟩ (fun hHeld => ?_)
               clear hK K
               refine norm_ (a' := ?_) ?_ ?_
               rotate_left
               ·show Act.put _ (some 96) _ = _
                simp only [Act.put, List.setIfInBounds_toArray, List.set_cons_zero, List.set_cons_succ, i64_w, i32_w]
                rfl
               refine two_ (i := 3) (j := 8) (Ni := some 98) (Nj := some 15) #[true, true, true, true, false, false, false, false, false, false, false] #[true, true, true, false, false, false, false, false, true, false, false] rfl rfl rfl rfl (two_of HT_.out (by kernel_rfl)) (by decide) (by decide) (fun K hK => ?_) (fun K hK => ?_)
               ·skip
                refine goes_ Try.func18 (by kernel_rfl) rfl #[.agg #[.int .i64 a1_0, .slice A1_1 l1_1.length c1_1]] (by rfl) rfl rfl lm12_ ?_
                with_reducible refine (laws_toBits.calls kj95 a1_0 _ _ l1_1 t254 t255 _ ?side1 ?side2 A139.out).mono ?_
                (case side1 => exact lc12_ (Kd.C_below HR1_1.out HB.out))
                (case side2 => exact HC1_1.out)
                rintro e w153 ⟨v256, rfl, ho0, hb⟩
                refine ⟨_, rfl, ?_⟩
                have n0_ := am12_ (Kd.R_elder' (lf12_ HO_215001) (Kd.R_base ho0) hb)
                have n1_ := am12_ (Kd.R_elder' (lf12_ HO_220001) (Kd.R_base ho0) hb)
                have n2_ := am12_ (Kd.R_elder' (lf12_ HO_225001) (Kd.R_base ho0) hb)
                have n3_ := am12_ (Kd.R_elder' (lf12_ HO_231001) (Kd.R_base ho0) hb)
                have n4_ := am12_ (Kd.R_elder' (lf12_ HO253) (Kd.R_base ho0) hb)
                have n5_ := am12_ (Kd.R_lower (Kd.R_new' (Kd.R_new' (Kd.R_new' (Kd.R_new' (Kd.R_new' ho0 (Kd.R_lt (lf12_ HO_215001))) (Kd.R_lt (lf12_ HO_220001))) (Kd.R_lt (lf12_ HO_225001))) (Kd.R_lt (lf12_ HO_231001))) (Kd.R_lt (lf12_ HO253))) (below_size (lw12_ HB)))
                have n6_ := am12_ (blk_below (g := gb197) (o := .cells #[.int .i64 a0_0, .slice A0_1 l0_1.length c0_1] 24 (0, 0)) (lb12_ BK197) hb)
                have n7_ := am12_ (blk_below (g := gb198) (o := .cells #[.int .i64 a1_0, .slice A1_1 l1_1.length c1_1] 24 (0, 0)) (lb12_ BK198) hb)
                have n8_ := am12_ (blk_below (g := gb214) (o := .cells #[.int .i64 t209, .slice Ao42 t210.length co42] 26 (0, 0)) (lb12_ BK214) hb)
                have n9_ := am12_ (blk_below (g := gb219) (o := .cells #[.int .i64 t215, .slice Ao52 t243.length co52] 26 (0, 0)) (lb12_ BK219) hb)
                have n10_ := am12_ (blk_below (g := gb224) (o := .cells #[.int .i64 t220, .slice Ao62 t245.length co62] 26 (0, 0)) (lb12_ BK224) hb)
                have n11_ := am12_ (blk_below (g := gb230) (o := .cells #[.int .i64 t225, .slice Ao72 t226.length co72] 26 (0, 0)) (lb12_ BK230) hb)
                have n12_ := am12_ (below_step (lw12_ HB) hb)
                clear HO_215001
                clear HO_220001
                clear HO_225001
                clear HO_231001
                clear HO253
                clear BK197
                clear BK198
                clear BK214
                clear BK219
                clear BK224
                clear BK230
                clear HB
                have HO_215001 := n0_
                have HO_220001 := n1_
                have HO_225001 := n2_
                have HO_231001 := n3_
                have HO253 := n4_
                have HO257 := n5_
                have BK197 := n6_
                have BK198 := n7_
                have BK214 := n8_
                have BK219 := n9_
                have BK224 := n10_
                have BK230 := n11_
                have HB := n12_
                clear n0_ n1_ n2_ n3_ n4_ n5_ n6_ n7_ n8_ n9_ n10_ n11_ n12_
                (try clear hb)
                (try clear hb2)
                (try clear hk)
                (try clear hi)
                (try clear ho0)
                obtain ⟨Ao154, co154, eo154⟩ := Kd.R_slice HO253.out
                (first | subst eo154 | (injection eo154 with f1_ f2_ f3_; have f4_ := f1_.symm; have f5_ := f3_.symm; clear f1_ f2_ f3_; subst f4_; subst f5_))
                obtain ⟨Ao155, co155, eo155⟩ := Kd.R_slice HO257.out
                (first | subst eo155 | (injection eo155 with f1_ f2_ f3_; have f4_ := f1_.symm; have f5_ := f3_.symm; clear f1_ f2_ f3_; subst f4_; subst f5_))
                refine hK.out _ _ ⟨(blk_cell BK197.out 0).trans rfl, (blk_cell BK197.out 1).trans rfl, (blk_cell BK198.out 0).trans rfl, (blk_cell BK198.out 1).trans rfl⟩ (fun hHeld => ?_)
                clear hK K
                refine norm_ (a' := ?_) ?_ ?_
                rotate_left
                ·show Act.put _ (some 98) _ = _
                 simp only [Act.put, List.setIfInBounds_toArray, List.set_cons_zero, List.set_cons_succ, i64_w, i32_w]
                 rfl
                refine two_ (i := 4) (j := 8) (Ni := some 99) (Nj := some 15) #[true, true, true, true, true, false, false, false, false, false, false] #[true, true, true, true, false, false, false, false, true, false, false] rfl rfl rfl rfl (two_of HT_.out (by kernel_rfl)) (by decide) (by decide) (fun K hK => ?_) (fun K hK => ?_)
                ·skip
                 refine goes_ Try.func26 (by kernel_rfl) rfl #[.agg #[.int .i64 t250, .slice Ao154 t251.length co154], .agg #[.int .i64 t254, .slice Ao155 t255.length co155]] (by rfl) rfl rfl lm12_ ?_
                 with_reducible refine (impl_JoinBits.calls kj95 t250 _ _ t251 t254 _ _ t255 t258 t259 t262 _ ?side1 ?side2 ?side3 ?side4 A140.out).mono ?_
                 (case side1 => exact lc12_ (Kd.R_reads' HO253.out).2.2)
                 (case side2 => exact (Kd.R_reads' HO253.out).2.1)
                 (case side3 => exact lc12_ (Kd.R_reads' HO257.out).2.2)
                 (case side4 => exact (Kd.R_reads' HO257.out).2.1)
                 rintro e w156 ⟨v260, rfl, ho0, hb⟩
                 refine ⟨_, rfl, ?_⟩
                 have n0_ := am12_ (Kd.R_elder' (lf12_ HO_215001) (Kd.R_base ho0) hb)
                 have n1_ := am12_ (Kd.R_elder' (lf12_ HO_220001) (Kd.R_base ho0) hb)
                 have n2_ := am12_ (Kd.R_elder' (lf12_ HO_225001) (Kd.R_base ho0) hb)
                 have n3_ := am12_ (Kd.R_elder' (lf12_ HO_231001) (Kd.R_base ho0) hb)
                 have n4_ := am12_ (Kd.R_elder' (lf12_ HO253) (Kd.R_base ho0) hb)
                 have n5_ := am12_ (Kd.R_elder' (lf12_ HO257) (Kd.R_base ho0) hb)
                 have n6_ := am12_ (Kd.R_lower (Kd.R_new' (Kd.R_new' (Kd.R_new' (Kd.R_new' (Kd.R_new' (Kd.R_new' ho0 (Kd.R_lt (lf12_ HO_215001))) (Kd.R_lt (lf12_ HO_220001))) (Kd.R_lt (lf12_ HO_225001))) (Kd.R_lt (lf12_ HO_231001))) (Kd.R_lt (lf12_ HO253))) (Kd.R_lt (lf12_ HO257))) (below_size (lw12_ HB)))
                 have n7_ := am12_ (blk_below (g := gb197) (o := .cells #[.int .i64 a0_0, .slice A0_1 l0_1.length c0_1] 24 (0, 0)) (lb12_ BK197) hb)
                 have n8_ := am12_ (blk_below (g := gb198) (o := .cells #[.int .i64 a1_0, .slice A1_1 l1_1.length c1_1] 24 (0, 0)) (lb12_ BK198) hb)
                 have n9_ := am12_ (blk_below (g := gb214) (o := .cells #[.int .i64 t209, .slice Ao42 t210.length co42] 26 (0, 0)) (lb12_ BK214) hb)
                 have n10_ := am12_ (blk_below (g := gb219) (o := .cells #[.int .i64 t215, .slice Ao52 t243.length co52] 26 (0, 0)) (lb12_ BK219) hb)
                 have n11_ := am12_ (blk_below (g := gb224) (o := .cells #[.int .i64 t220, .slice Ao62 t245.length co62] 26 (0, 0)) (lb12_ BK224) hb)
                 have n12_ := am12_ (blk_below (g := gb230) (o := .cells #[.int .i64 t225, .slice Ao72 t226.length co72] 26 (0, 0)) (lb12_ BK230) hb)
                 have n13_ := am12_ (below_step (lw12_ HB) hb)
                 clear HO_215001
                 clear HO_220001
                 clear HO_225001
                 clear HO_231001
                 clear HO253
                 clear HO257
                 clear BK197
                 clear BK198
                 clear BK214
                 clear BK219
                 clear BK224
                 clear BK230
                 clear HB
                 have HO_215001 := n0_
                 have HO_220001 := n1_
                 have HO_225001 := n2_
                 have HO_231001 := n3_
                 have HO253 := n4_
                 have HO257 := n5_
                 have HO261 := n6_
                 have BK197 := n7_
                 have BK198 := n8_
                 have BK214 := n9_
                 have BK219 := n10_
                 have BK224 := n11_
                 have BK230 := n12_
                 have HB := n13_
                 clear n0_ n1_ n2_ n3_ n4_ n5_ n6_ n7_ n8_ n9_ n10_ n11_ n12_ n13_
                 (try clear hb)
                 (try clear hb2)
                 (try clear hk)
                 (try clear hi)
                 (try clear ho0)
                 refine hK.out _ _ ⟨(blk_cell BK197.out 0).trans rfl, (blk_cell BK197.out 1).trans rfl, (blk_cell BK198.out 0).trans rfl, (blk_cell BK198.out 1).trans rfl⟩ (fun hHeld => ?_)
                 clear hK K
                 refine norm_ (a' := ?_) ?_ ?_
                 rotate_left
                 ·show Act.put _ (some 99) _ = _
                  simp only [Act.put, List.setIfInBounds_toArray, List.set_cons_zero, List.set_cons_succ, i64_w, i32_w]
                  rfl
                 refine pure_ (i := 5) (N := some 94) (v := ?_) (a' := ?_) #[true, true, true, true, true, true, false, false, false, false, false] rfl rfl (any_of HT_.out (by kernel_rfl)) (fun _ _ _ h => h) (Or.inl ⟨by rfl, ?_⟩) ?_ ?_
                 rotate_left
                 ·intro w'
                  go_simp
                  with_reducible rfl
                 rotate_left
                 ·simp only [Act.put, List.setIfInBounds_toArray, List.set_cons_zero, List.set_cons_succ, i64_w, i32_w]
                  rfl
                 refine pure_ (i := 6) (N := some 100) (v := ?_) (a' := ?_) #[true, true, true, true, true, true, true, false, false, false, false] rfl rfl (any_of HT_.out (by kernel_rfl)) (fun _ _ _ h => h) (Or.inl ⟨by rfl, ?_⟩) ?_ ?_
                 rotate_left
                 ·intro w'
                  go_simp
                  with_reducible rfl
                 rotate_left
                 ·simp only [Act.put, List.setIfInBounds_toArray, List.set_cons_zero, List.set_cons_succ, i64_w, i32_w]
                  rfl
                 refine pure_ (i := 7) (N := some 101) (v := ?_) (a' := ?_) #[true, true, true, true, true, true, true, true, false, false, false] rfl rfl (any_of HT_.out (by kernel_rfl)) (fun _ _ _ h => h) (Or.inl ⟨by rfl, ?_⟩) ?_ ?_
                 rotate_left
                 ·intro w'
                  go_simp
                  with_reducible rfl
                 rotate_left
                 ·simp only [Act.put, List.setIfInBounds_toArray, List.set_cons_zero, List.set_cons_succ, i64_w, i32_w]
                  rfl
                 refine one_ (i := 8) (N := some 15) #[true, true, true, true, true, true, true, true, true, false, false] rfl rfl (one_of HT_.out (by kernel_rfl)) (by decide) (fun K hK => ?_)
                 refine box_step ?hg (N := 15) ?hd (cs := #[.int .i64 0, .slice none 0 0]) (t := 26) ?hr ?_; (case hd => rfl); (case hg => rfl); (case hr => first | (go_simp; done) | (go_simp; rfl))
                 intro gb263 hg w157 hbox hb
                 have n0_ := am12_ (Kd.R_below (lf12_ HO_215001) hb)
                 have n1_ := am12_ (Kd.R_below (lf12_ HO_220001) hb)
                 have n2_ := am12_ (Kd.R_below (lf12_ HO_225001) hb)
                 have n3_ := am12_ (Kd.R_below (lf12_ HO_231001) hb)
                 have n4_ := am12_ (Kd.R_below (lf12_ HO253) hb)
                 have n5_ := am12_ (Kd.R_below (lf12_ HO257) hb)
                 have n6_ := am12_ (Kd.R_below (lf12_ HO261) hb)
                 have n7_ := am12_ (blk_below (g := gb197) (o := .cells #[.int .i64 a0_0, .slice A0_1 l0_1.length c0_1] 24 (0, 0)) (lb12_ BK197) hb)
                 have n8_ := am12_ (blk_below (g := gb198) (o := .cells #[.int .i64 a1_0, .slice A1_1 l1_1.length c1_1] 24 (0, 0)) (lb12_ BK198) hb)
                 have n9_ := am12_ (blk_below (g := gb214) (o := .cells #[.int .i64 t209, .slice Ao42 t210.length co42] 26 (0, 0)) (lb12_ BK214) hb)
                 have n10_ := am12_ (blk_below (g := gb219) (o := .cells #[.int .i64 t215, .slice Ao52 t243.length co52] 26 (0, 0)) (lb12_ BK219) hb)
                 have n11_ := am12_ (blk_below (g := gb224) (o := .cells #[.int .i64 t220, .slice Ao62 t245.length co62] 26 (0, 0)) (lb12_ BK224) hb)
                 have n12_ := am12_ (blk_below (g := gb230) (o := .cells #[.int .i64 t225, .slice Ao72 t226.length co72] 26 (0, 0)) (lb12_ BK230) hb)
                 have n13_ := am12_ (below_step (lw12_ HB) hb)
                 have n14_ := am12_ (hbox)
                 have n15_ := am12_ ((by rw [hg]; exact (below_size (lw12_ HB)) : w.heap.size ≤ gb263))
                 have n16_ := am12_ ((by rw [hg]; exact (below_size (lw12_ HB)) : w.heap.size ≤ gb263))
                 have n17_ := am12_ ((by rw [hg]; exact Nat.ne_of_lt (blk_lt (g := gb197) (lb12_ BK197)) : gb197 ≠ gb263))
                 have n18_ := am12_ ((by rw [hg]; exact Nat.ne_of_gt (blk_lt (g := gb197) (lb12_ BK197)) : gb263 ≠ gb197))
                 have n19_ := am12_ ((by rw [hg]; exact Nat.ne_of_lt (blk_lt (g := gb198) (lb12_ BK198)) : gb198 ≠ gb263))
                 have n20_ := am12_ ((by rw [hg]; exact Nat.ne_of_gt (blk_lt (g := gb198) (lb12_ BK198)) : gb263 ≠ gb198))
                 have n21_ := am12_ ((by rw [hg]; exact Nat.ne_of_lt (blk_lt (g := gb214) (lb12_ BK214)) : gb214 ≠ gb263))
                 have n22_ := am12_ ((by rw [hg]; exact Nat.ne_of_gt (blk_lt (g := gb214) (lb12_ BK214)) : gb263 ≠ gb214))
                 have n23_ := am12_ ((by rw [hg]; exact Nat.ne_of_lt (blk_lt (g := gb219) (lb12_ BK219)) : gb219 ≠ gb263))
                 have n24_ := am12_ ((by rw [hg]; exact Nat.ne_of_gt (blk_lt (g := gb219) (lb12_ BK219)) : gb263 ≠ gb219))
                 have n25_ := am12_ ((by rw [hg]; exact Nat.ne_of_lt (blk_lt (g := gb224) (lb12_ BK224)) : gb224 ≠ gb263))
                 have n26_ := am12_ ((by rw [hg]; exact Nat.ne_of_gt (blk_lt (g := gb224) (lb12_ BK224)) : gb263 ≠ gb224))
                 have n27_ := am12_ ((by rw [hg]; exact Nat.ne_of_lt (blk_lt (g := gb230) (lb12_ BK230)) : gb230 ≠ gb263))
                 have n28_ := am12_ ((by rw [hg]; exact Nat.ne_of_gt (blk_lt (g := gb230) (lb12_ BK230)) : gb263 ≠ gb230))
                 clear HO_215001
                 clear HO_220001
                 clear HO_225001
                 clear HO_231001
                 clear HO253
                 clear HO257
                 clear HO261
                 clear BK197
                 clear BK198
                 clear BK214
                 clear BK219
                 clear BK224
                 clear BK230
                 clear HB
                 have HO_215001 := n0_
                 have HO_220001 := n1_
                 have HO_225001 := n2_
                 have HO_231001 := n3_
                 have HO253 := n4_
                 have HO257 := n5_
                 have HO261 := n6_
                 have BK197 := n7_
                 have BK198 := n8_
                 have BK214 := n9_
                 have BK219 := n10_
                 have BK224 := n11_
                 have BK230 := n12_
                 have HB := n13_
                 have BK263 := n14_
                 have GW263 := n15_
                 have GE263 := n16_
                 have NB197_263 := n17_
                 have NB263_197 := n18_
                 have NB198_263 := n19_
                 have NB263_198 := n20_
                 have NB214_263 := n21_
                 have NB263_214 := n22_
                 have NB219_263 := n23_
                 have NB263_219 := n24_
                 have NB224_263 := n25_
                 have NB263_224 := n26_
                 have NB230_263 := n27_
                 have NB263_230 := n28_
                 clear n0_ n1_ n2_ n3_ n4_ n5_ n6_ n7_ n8_ n9_ n10_ n11_ n12_ n13_ n14_ n15_ n16_ n17_ n18_ n19_ n20_ n21_ n22_ n23_ n24_ n25_ n26_ n27_ n28_
                 clear hb hbox hg
                 refine hK.out _ _ ⟨(blk_cell BK197.out 0).trans rfl, (blk_cell BK197.out 1).trans rfl, (blk_cell BK198.out 0).trans rfl, (blk_cell BK198.out 1).trans rfl⟩ (fun hHeld => ?_)
                 clear hK K
                 refine norm_ (a' := ?_) ?_ ?_
                 rotate_left
                 ·show Act.put _ (some 15) _ = _
                  simp only [Act.put, List.setIfInBounds_toArray, List.set_cons_zero, List.set_cons_succ, i64_w, i32_w]
                  rfl
                 exact norm_ (by simp only [putAll, Act.put, List.setIfInBounds_toArray, List.set_cons_zero, List.set_cons_succ]) (hCont (.slice Ao154 t251.length co154, .slice Ao155 t255.length co155, v260, gb263) _ ⟨hHeld, (by (with_reducible repeat (first | apply Kd.R_alloc | apply Kd.R_drewN | apply Kd.R_drew)); exact Kd.R_mono HO253.out (fun _ hk => ⟨hk.1.2, ⟨hk.2, ⟨hk.1.1.1.1.1.2, ⟨hk.1.1.1.1.2, ⟨hk.1.1.1.2, hk.1.1.2⟩⟩⟩⟩⟩)), (by (with_reducible repeat (first | apply Kd.R_alloc | apply Kd.R_drewN | apply Kd.R_drew)); exact Kd.R_mono HO257.out (fun _ hk => ⟨hk.1.2, ⟨hk.2, ⟨hk.1.1.1.1.1.2, ⟨hk.1.1.1.1.2, ⟨hk.1.1.1.2, hk.1.1.2⟩⟩⟩⟩⟩)), (by (with_reducible repeat (first | apply Kd.R_alloc | apply Kd.R_drewN | apply Kd.R_drew)); exact Kd.R_mono HO261.out (fun _ hk => ⟨hk.1.2, ⟨hk.2, ⟨hk.1.1.1.1.1.2, ⟨hk.1.1.1.1.2, ⟨hk.1.1.1.2, hk.1.1.2⟩⟩⟩⟩⟩)), (by (with_reducible repeat (first | apply Kd.R_alloc | apply Kd.R_drewN | apply Kd.R_drew)); exact Kd.R_mono HO_215001.out (fun _ hk => ⟨hk.1.1.2, ⟨hk.1.2, ⟨hk.2, ⟨hk.1.1.1.1, ⟨hk.1.1.1.2.1, hk.1.1.1.2.2⟩⟩⟩⟩⟩)), (by (with_reducible repeat (first | apply Kd.R_alloc | apply Kd.R_drewN | apply Kd.R_drew)); exact Kd.R_mono HO_220001.out (fun _ hk => ⟨hk.1.1.2, ⟨hk.1.2, ⟨hk.2, ⟨hk.1.1.1.1, ⟨hk.1.1.1.2.1, hk.1.1.1.2.2⟩⟩⟩⟩⟩)), (by (with_reducible repeat (first | apply Kd.R_alloc | apply Kd.R_drewN | apply Kd.R_drew)); exact Kd.R_mono HO_225001.out (fun _ hk => ⟨hk.1.1.2, ⟨hk.1.2, ⟨hk.2, ⟨hk.1.1.1.1, ⟨hk.1.1.1.2.1, hk.1.1.1.2.2⟩⟩⟩⟩⟩)), (by (with_reducible repeat (first | apply Kd.R_alloc | apply Kd.R_drewN | apply Kd.R_drew)); exact Kd.R_mono HO_231001.out (fun _ hk => ⟨hk.1.1.2, ⟨hk.1.2, ⟨hk.2, ⟨hk.1.1.1.1, ⟨hk.1.1.1.2.1, hk.1.1.1.2.2⟩⟩⟩⟩⟩)), (lb12_ BK197), (lb12_ BK198), (lb12_ BK214), (lb12_ BK219), (lb12_ BK224), (lb12_ BK230), (lb12_ BK263), GW263.out, GE263.out, NB197_263.out, NB263_197.out, NB198_263.out, NB263_198.out, NB214_263.out, NB263_214.out, NB219_263.out, NB263_219.out, NB224_263.out, NB263_224.out, NB230_263.out, NB263_230.out, (lw12_ HB)⟩)
                ·skip
                 refine box_step ?hg (N := 15) ?hd (cs := #[.int .i64 0, .slice none 0 0]) (t := 26) ?hr ?_; (case hd => rfl); (case hg => rfl); (case hr => first | (go_simp; done) | (go_simp; rfl))
                 intro gb263 hg w154 hbox hb
                 have n0_ := am12_ (Kd.R_below (lf12_ HO_215001) hb)
                 have n1_ := am12_ (Kd.R_below (lf12_ HO_220001) hb)
                 have n2_ := am12_ (Kd.R_below (lf12_ HO_225001) hb)
                 have n3_ := am12_ (Kd.R_below (lf12_ HO_231001) hb)
                 have n4_ := am12_ (Kd.R_below (lf12_ HO253) hb)
                 have n5_ := am12_ (Kd.R_below (lf12_ HO257) hb)
                 have n6_ := am12_ (blk_below (g := gb197) (o := .cells #[.int .i64 a0_0, .slice A0_1 l0_1.length c0_1] 24 (0, 0)) (lb12_ BK197) hb)
                 have n7_ := am12_ (blk_below (g := gb198) (o := .cells #[.int .i64 a1_0, .slice A1_1 l1_1.length c1_1] 24 (0, 0)) (lb12_ BK198) hb)
                 have n8_ := am12_ (blk_below (g := gb214) (o := .cells #[.int .i64 t209, .slice Ao42 t210.length co42] 26 (0, 0)) (lb12_ BK214) hb)
                 have n9_ := am12_ (blk_below (g := gb219) (o := .cells #[.int .i64 t215, .slice Ao52 t243.length co52] 26 (0, 0)) (lb12_ BK219) hb)
                 have n10_ := am12_ (blk_below (g := gb224) (o := .cells #[.int .i64 t220, .slice Ao62 t245.length co62] 26 (0, 0)) (lb12_ BK224) hb)
                 have n11_ := am12_ (blk_below (g := gb230) (o := .cells #[.int .i64 t225, .slice Ao72 t226.length co72] 26 (0, 0)) (lb12_ BK230) hb)
                 have n12_ := am12_ (below_step (lw12_ HB) hb)
                 have n13_ := am12_ (hbox)
                 have n14_ := am12_ ((by rw [hg]; exact (below_size (lw12_ HB)) : w.heap.size ≤ gb263))
                 have n15_ := am12_ ((by rw [hg]; exact (below_size (lw12_ HB)) : w.heap.size ≤ gb263))
                 have n16_ := am12_ ((by rw [hg]; exact Nat.ne_of_lt (blk_lt (g := gb197) (lb12_ BK197)) : gb197 ≠ gb263))
                 have n17_ := am12_ ((by rw [hg]; exact Nat.ne_of_gt (blk_lt (g := gb197) (lb12_ BK197)) : gb263 ≠ gb197))
                 have n18_ := am12_ ((by rw [hg]; exact Nat.ne_of_lt (blk_lt (g := gb198) (lb12_ BK198)) : gb198 ≠ gb263))
                 have n19_ := am12_ ((by rw [hg]; exact Nat.ne_of_gt (blk_lt (g := gb198) (lb12_ BK198)) : gb263 ≠ gb198))
                 have n20_ := am12_ ((by rw [hg]; exact Nat.ne_of_lt (blk_lt (g := gb214) (lb12_ BK214)) : gb214 ≠ gb263))
                 have n21_ := am12_ ((by rw [hg]; exact Nat.ne_of_gt (blk_lt (g := gb214) (lb12_ BK214)) : gb263 ≠ gb214))
                 have n22_ := am12_ ((by rw [hg]; exact Nat.ne_of_lt (blk_lt (g := gb219) (lb12_ BK219)) : gb219 ≠ gb263))
                 have n23_ := am12_ ((by rw [hg]; exact Nat.ne_of_gt (blk_lt (g := gb219) (lb12_ BK219)) : gb263 ≠ gb219))
                 have n24_ := am12_ ((by rw [hg]; exact Nat.ne_of_lt (blk_lt (g := gb224) (lb12_ BK224)) : gb224 ≠ gb263))
                 have n25_ := am12_ ((by rw [hg]; exact Nat.ne_of_gt (blk_lt (g := gb224) (lb12_ BK224)) : gb263 ≠ gb224))
                 have n26_ := am12_ ((by rw [hg]; exact Nat.ne_of_lt (blk_lt (g := gb230) (lb12_ BK230)) : gb230 ≠ gb263))
                 have n27_ := am12_ ((by rw [hg]; exact Nat.ne_of_gt (blk_lt (g := gb230) (lb12_ BK230)) : gb263 ≠ gb230))
                 clear HO_215001
                 clear HO_220001
                 clear HO_225001
                 clear HO_231001
                 clear HO253
                 clear HO257
                 clear BK197
                 clear BK198
                 clear BK214
                 clear BK219
                 clear BK224
                 clear BK230
                 clear HB
                 have HO_215001 := n0_
                 have HO_220001 := n1_
                 have HO_225001 := n2_
                 have HO_231001 := n3_
                 have HO253 := n4_
                 have HO257 := n5_
                 have BK197 := n6_
                 have BK198 := n7_
                 have BK214 := n8_
                 have BK219 := n9_
                 have BK224 := n10_
                 have BK230 := n11_
                 have HB := n12_
                 have BK263 := n13_
                 have GW263 := n14_
                 have GE263 := n15_
                 have NB197_263 := n16_
                 have NB263_197 := n17_
                 have NB198_263 := n18_
                 have NB263_198 := n19_
                 have NB214_263 := n20_
                 have NB263_214 := n21_
                 have NB219_263 := n22_
                 have NB263_219 := n23_
                 have NB224_263 := n24_
                 have NB263_224 := n25_
                 have NB230_263 := n26_
                 have NB263_230 := n27_
                 clear n0_ n1_ n2_ n3_ n4_ n5_ n6_ n7_ n8_ n9_ n10_ n11_ n12_ n13_ n14_ n15_ n16_ n17_ n18_ n19_ n20_ n21_ n22_ n23_ n24_ n25_ n26_ n27_
                 clear hb hbox hg
                 obtain ⟨Ao155, co155, eo155⟩ := Kd.R_slice HO253.out
                 (first | subst eo155 | (injection eo155 with f1_ f2_ f3_; have f4_ := f1_.symm; have f5_ := f3_.symm; clear f1_ f2_ f3_; subst f4_; subst f5_))
                 obtain ⟨Ao156, co156, eo156⟩ := Kd.R_slice HO257.out
                 (first | subst eo156 | (injection eo156 with f1_ f2_ f3_; have f4_ := f1_.symm; have f5_ := f3_.symm; clear f1_ f2_ f3_; subst f4_; subst f5_))
                 refine hK.out _ _ ⟨(blk_cell BK197.out 0).trans rfl, (blk_cell BK197.out 1).trans rfl, (blk_cell BK198.out 0).trans rfl, (blk_cell BK198.out 1).trans rfl⟩ (fun hHeld => ?_)
                 clear hK K
                 refine norm_ (a' := ?_) ?_ ?_
                 rotate_left
                 ·show Act.put _ (some 15) _ = _
                  simp only [Act.put, List.setIfInBounds_toArray, List.set_cons_zero, List.set_cons_succ, i64_w, i32_w]
                  rfl
                 refine one_ (i := 4) (N := some 99) #[true, true, true, true, true, false, false, false, true, false, false] rfl rfl (one_of HT_.out (by kernel_rfl)) (by decide) (fun K hK => ?_)
                 refine goes_ Try.func26 (by kernel_rfl) rfl #[.agg #[.int .i64 t250, .slice Ao155 t251.length co155], .agg #[.int .i64 t254, .slice Ao156 t255.length co156]] (by rfl) rfl rfl lm12_ ?_
                 with_reducible refine (impl_JoinBits.calls kj95 t250 _ _ t251 t254 _ _ t255 t258 t259 t262 _ ?side1 ?side2 ?side3 ?side4 A140.out).mono ?_
                 (case side1 => exact lc12_ (Kd.R_reads' HO253.out).2.2)
                 (case side2 => exact (Kd.R_reads' HO253.out).2.1)
                 (case side3 => exact lc12_ (Kd.R_reads' HO257.out).2.2)
                 (case side4 => exact (Kd.R_reads' HO257.out).2.1)
                 rintro e w157 ⟨v260, rfl, ho0, hb⟩
                 refine ⟨_, rfl, ?_⟩
                 have n0_ := am12_ (Kd.R_elder' (lf12_ HO_215001) (Kd.R_base ho0) hb)
                 have n1_ := am12_ (Kd.R_elder' (lf12_ HO_220001) (Kd.R_base ho0) hb)
                 have n2_ := am12_ (Kd.R_elder' (lf12_ HO_225001) (Kd.R_base ho0) hb)
                 have n3_ := am12_ (Kd.R_elder' (lf12_ HO_231001) (Kd.R_base ho0) hb)
                 have n4_ := am12_ (Kd.R_elder' (lf12_ HO253) (Kd.R_base ho0) hb)
                 have n5_ := am12_ (Kd.R_elder' (lf12_ HO257) (Kd.R_base ho0) hb)
                 have n6_ := am12_ (Kd.R_lower (Kd.R_new' (Kd.R_new' (Kd.R_new' (Kd.R_new' (Kd.R_new' (Kd.R_new' ho0 (Kd.R_lt (lf12_ HO_215001))) (Kd.R_lt (lf12_ HO_220001))) (Kd.R_lt (lf12_ HO_225001))) (Kd.R_lt (lf12_ HO_231001))) (Kd.R_lt (lf12_ HO253))) (Kd.R_lt (lf12_ HO257))) (below_size (lw12_ HB)))
                 have n7_ := am12_ (blk_below (g := gb197) (o := .cells #[.int .i64 a0_0, .slice A0_1 l0_1.length c0_1] 24 (0, 0)) (lb12_ BK197) hb)
                 have n8_ := am12_ (blk_below (g := gb198) (o := .cells #[.int .i64 a1_0, .slice A1_1 l1_1.length c1_1] 24 (0, 0)) (lb12_ BK198) hb)
                 have n9_ := am12_ (blk_below (g := gb214) (o := .cells #[.int .i64 t209, .slice Ao42 t210.length co42] 26 (0, 0)) (lb12_ BK214) hb)
                 have n10_ := am12_ (blk_below (g := gb219) (o := .cells #[.int .i64 t215, .slice Ao52 t243.length co52] 26 (0, 0)) (lb12_ BK219) hb)
                 have n11_ := am12_ (blk_below (g := gb224) (o := .cells #[.int .i64 t220, .slice Ao62 t245.length co62] 26 (0, 0)) (lb12_ BK224) hb)
                 have n12_ := am12_ (blk_below (g := gb230) (o := .cells #[.int .i64 t225, .slice Ao72 t226.length co72] 26 (0, 0)) (lb12_ BK230) hb)
                 have n13_ := am12_ (blk_below (g := gb263) (o := .cells #[.int .i64 0, .slice none 0 0] 26 (0, 0)) (lb12_ BK263) hb)
                 have n14_ := am12_ (below_step (lw12_ HB) hb)
                 clear HO_215001
                 clear HO_220001
                 clear HO_225001
                 clear HO_231001
                 clear HO253
                 clear HO257
                 clear BK197
                 clear BK198
                 clear BK214
                 clear BK219
                 clear BK224
                 clear BK230
                 clear BK263
                 clear HB
                 have HO_215001 := n0_
                 have HO_220001 := n1_
                 have HO_225001 := n2_
                 have HO_231001 := n3_
                 have HO253 := n4_
                 have HO257 := n5_
                 have HO261 := n6_
                 have BK197 := n7_
                 have BK198 := n8_
                 have BK214 := n9_
                 have BK219 := n10_
                 have BK224 := n11_
                 have BK230 := n12_
                 have BK263 := n13_
                 have HB := n14_
                 clear n0_ n1_ n2_ n3_ n4_ n5_ n6_ n7_ n8_ n9_ n10_ n11_ n12_ n13_ n14_
                 (try clear hb)
                 (try clear hb2)
                 (try clear hk)
                 (try clear hi)
                 (try clear ho0)
                 refine hK.out _ _ ⟨(blk_cell BK197.out 0).trans rfl, (blk_cell BK197.out 1).trans rfl, (blk_cell BK198.out 0).trans rfl, (blk_cell BK198.out 1).trans rfl⟩ (fun hHeld => ?_)
                 clear hK K
                 refine norm_ (a' := ?_) ?_ ?_
                 rotate_left
                 ·show Act.put _ (some 99) _ = _
                  simp only [Act.put, List.setIfInBounds_toArray, List.set_cons_zero, List.set_cons_succ, i64_w, i32_w]
                  rfl
                 refine pure_ (i := 5) (N := some 94) (v := ?_) (a' := ?_) #[true, true, true, true, true, true, false, false, true, false, false] rfl rfl (any_of HT_.out (by kernel_rfl)) (fun _ _ _ h => h) (Or.inl ⟨by rfl, ?_⟩) ?_ ?_
                 rotate_left
                 ·intro w'
                  go_simp
                  with_reducible rfl
                 rotate_left
                 ·simp only [Act.put, List.setIfInBounds_toArray, List.set_cons_zero, List.set_cons_succ, i64_w, i32_w]
                  rfl
                 refine pure_ (i := 6) (N := some 100) (v := ?_) (a' := ?_) #[true, true, true, true, true, true, true, false, true, false, false] rfl rfl (any_of HT_.out (by kernel_rfl)) (fun _ _ _ h => h) (Or.inl ⟨by rfl, ?_⟩) ?_ ?_
                 rotate_left
                 ·intro w'
                  go_simp
                  with_reducible rfl
                 rotate_left
                 ·simp only [Act.put, List.setIfInBounds_toArray, List.set_cons_zero, List.set_cons_succ, i64_w, i32_w]
                  rfl
                 refine pure_ (i := 7) (N := some 101) (v := ?_) (a' := ?_) #[true, true, true, true, true, true, true, true, true, false, false] rfl rfl (any_of HT_.out (by kernel_rfl)) (fun _ _ _ h => h) (Or.inl ⟨by rfl, ?_⟩) ?_ ?_
                 rotate_left
                 ·intro w'
                  go_simp
                  with_reducible rfl
                 rotate_left
                 ·simp only [Act.put, List.setIfInBounds_toArray, List.set_cons_zero, List.set_cons_succ, i64_w, i32_w]
                  rfl
                 exact norm_ (by simp only [putAll, Act.put, List.setIfInBounds_toArray, List.set_cons_zero, List.set_cons_succ]) (hCont (.slice Ao155 t251.length co155, .slice Ao156 t255.length co156, v260, gb263) _ ⟨hHeld, (by (with_reducible repeat (first | apply Kd.R_alloc | apply Kd.R_drewN | apply Kd.R_drew)); exact Kd.R_mono HO253.out (fun _ hk => ⟨hk.1.2, ⟨hk.2, ⟨hk.1.1.1.1.1.2, ⟨hk.1.1.1.1.2, ⟨hk.1.1.1.2, hk.1.1.2⟩⟩⟩⟩⟩)), (by (with_reducible repeat (first | apply Kd.R_alloc | apply Kd.R_drewN | apply Kd.R_drew)); exact Kd.R_mono HO257.out (fun _ hk => ⟨hk.1.2, ⟨hk.2, ⟨hk.1.1.1.1.1.2, ⟨hk.1.1.1.1.2, ⟨hk.1.1.1.2, hk.1.1.2⟩⟩⟩⟩⟩)), (by (with_reducible repeat (first | apply Kd.R_alloc | apply Kd.R_drewN | apply Kd.R_drew)); exact Kd.R_mono HO261.out (fun _ hk => ⟨hk.1.2, ⟨hk.2, ⟨hk.1.1.1.1.1.2, ⟨hk.1.1.1.1.2, ⟨hk.1.1.1.2, hk.1.1.2⟩⟩⟩⟩⟩)), (by (with_reducible repeat (first | apply Kd.R_alloc | apply Kd.R_drewN | apply Kd.R_drew)); exact Kd.R_mono HO_215001.out (fun _ hk => ⟨hk.1.1.2, ⟨hk.1.2, ⟨hk.2, ⟨hk.1.1.1.1, ⟨hk.1.1.1.2.1, hk.1.1.1.2.2⟩⟩⟩⟩⟩)), (by (with_reducible repeat (first | apply Kd.R_alloc | apply Kd.R_drewN | apply Kd.R_drew)); exact Kd.R_mono HO_220001.out (fun _ hk => ⟨hk.1.1.2, ⟨hk.1.2, ⟨hk.2, ⟨hk.1.1.1.1, ⟨hk.1.1.1.2.1, hk.1.1.1.2.2⟩⟩⟩⟩⟩)), (by (with_reducible repeat (first | apply Kd.R_alloc | apply Kd.R_drewN | apply Kd.R_drew)); exact Kd.R_mono HO_225001.out (fun _ hk => ⟨hk.1.1.2, ⟨hk.1.2, ⟨hk.2, ⟨hk.1.1.1.1, ⟨hk.1.1.1.2.1, hk.1.1.1.2.2⟩⟩⟩⟩⟩)), (by (with_reducible repeat (first | apply Kd.R_alloc | apply Kd.R_drewN | apply Kd.R_drew)); exact Kd.R_mono HO_231001.out (fun _ hk => ⟨hk.1.1.2, ⟨hk.1.2, ⟨hk.2, ⟨hk.1.1.1.1, ⟨hk.1.1.1.2.1, hk.1.1.1.2.2⟩⟩⟩⟩⟩)), (lb12_ BK197), (lb12_ BK198), (lb12_ BK214), (lb12_ BK219), (lb12_ BK224), (lb12_ BK230), (lb12_ BK263), GW263.out, GE263.out, NB197_263.out, NB263_197.out, NB198_263.out, NB263_198.out, NB214_263.out, NB263_214.out, NB219_263.out, NB263_219.out, NB224_263.out, NB263_224.out, NB230_263.out, NB263_230.out, (lw12_ HB)⟩)
               ·skip
                refine box_step ?hg (N := 15) ?hd (cs := #[.int .i64 0, .slice none 0 0]) (t := 26) ?hr ?_; (case hd => rfl); (case hg => rfl); (case hr => first | (go_simp; done) | (go_simp; rfl))
                intro gb263 hg w153 hbox hb
                have n0_ := am12_ (Kd.R_below (lf12_ HO_215001) hb)
                have n1_ := am12_ (Kd.R_below (lf12_ HO_220001) hb)
                have n2_ := am12_ (Kd.R_below (lf12_ HO_225001) hb)
                have n3_ := am12_ (Kd.R_below (lf12_ HO_231001) hb)
                have n4_ := am12_ (Kd.R_below (lf12_ HO253) hb)
                have n5_ := am12_ (blk_below (g := gb197) (o := .cells #[.int .i64 a0_0, .slice A0_1 l0_1.length c0_1] 24 (0, 0)) (lb12_ BK197) hb)
                have n6_ := am12_ (blk_below (g := gb198) (o := .cells #[.int .i64 a1_0, .slice A1_1 l1_1.length c1_1] 24 (0, 0)) (lb12_ BK198) hb)
                have n7_ := am12_ (blk_below (g := gb214) (o := .cells #[.int .i64 t209, .slice Ao42 t210.length co42] 26 (0, 0)) (lb12_ BK214) hb)
                have n8_ := am12_ (blk_below (g := gb219) (o := .cells #[.int .i64 t215, .slice Ao52 t243.length co52] 26 (0, 0)) (lb12_ BK219) hb)
                have n9_ := am12_ (blk_below (g := gb224) (o := .cells #[.int .i64 t220, .slice Ao62 t245.length co62] 26 (0, 0)) (lb12_ BK224) hb)
                have n10_ := am12_ (blk_below (g := gb230) (o := .cells #[.int .i64 t225, .slice Ao72 t226.length co72] 26 (0, 0)) (lb12_ BK230) hb)
                have n11_ := am12_ (below_step (lw12_ HB) hb)
                have n12_ := am12_ (hbox)
                have n13_ := am12_ ((by rw [hg]; exact (below_size (lw12_ HB)) : w.heap.size ≤ gb263))
                have n14_ := am12_ ((by rw [hg]; exact (below_size (lw12_ HB)) : w.heap.size ≤ gb263))
                have n15_ := am12_ ((by rw [hg]; exact Nat.ne_of_lt (blk_lt (g := gb197) (lb12_ BK197)) : gb197 ≠ gb263))
                have n16_ := am12_ ((by rw [hg]; exact Nat.ne_of_gt (blk_lt (g := gb197) (lb12_ BK197)) : gb263 ≠ gb197))
                have n17_ := am12_ ((by rw [hg]; exact Nat.ne_of_lt (blk_lt (g := gb198) (lb12_ BK198)) : gb198 ≠ gb263))
                have n18_ := am12_ ((by rw [hg]; exact Nat.ne_of_gt (blk_lt (g := gb198) (lb12_ BK198)) : gb263 ≠ gb198))
                have n19_ := am12_ ((by rw [hg]; exact Nat.ne_of_lt (blk_lt (g := gb214) (lb12_ BK214)) : gb214 ≠ gb263))
                have n20_ := am12_ ((by rw [hg]; exact Nat.ne_of_gt (blk_lt (g := gb214) (lb12_ BK214)) : gb263 ≠ gb214))
                have n21_ := am12_ ((by rw [hg]; exact Nat.ne_of_lt (blk_lt (g := gb219) (lb12_ BK219)) : gb219 ≠ gb263))
                have n22_ := am12_ ((by rw [hg]; exact Nat.ne_of_gt (blk_lt (g := gb219) (lb12_ BK219)) : gb263 ≠ gb219))
                have n23_ := am12_ ((by rw [hg]; exact Nat.ne_of_lt (blk_lt (g := gb224) (lb12_ BK224)) : gb224 ≠ gb263))
                have n24_ := am12_ ((by rw [hg]; exact Nat.ne_of_gt (blk_lt (g := gb224) (lb12_ BK224)) : gb263 ≠ gb224))
                have n25_ := am12_ ((by rw [hg]; exact Nat.ne_of_lt (blk_lt (g := gb230) (lb12_ BK230)) : gb230 ≠ gb263))
                have n26_ := am12_ ((by rw [hg]; exact Nat.ne_of_gt (blk_lt (g := gb230) (lb12_ BK230)) : gb263 ≠ gb230))
                clear HO_215001
                clear HO_220001
                clear HO_225001
                clear HO_231001
                clear HO253
                clear BK197
                clear BK198
                clear BK214
                clear BK219
                clear BK224
                clear BK230
                clear HB
                have HO_215001 := n0_
                have HO_220001 := n1_
                have HO_225001 := n2_
                have HO_231001 := n3_
                have HO253 := n4_
                have BK197 := n5_
                have BK198 := n6_
                have BK214 := n7_
                have BK219 := n8_
                have BK224 := n9_
                have BK230 := n10_
                have HB := n11_
                have BK263 := n12_
                have GW263 := n13_
                have GE263 := n14_
                have NB197_263 := n15_
                have NB263_197 := n16_
                have NB198_263 := n17_
                have NB263_198 := n18_
                have NB214_263 := n19_
                have NB263_214 := n20_
                have NB219_263 := n21_
                have NB263_219 := n22_
                have NB224_263 := n23_
                have NB263_224 := n24_
                have NB230_263 := n25_
                have NB263_230 := n26_
                clear n0_ n1_ n2_ n3_ n4_ n5_ n6_ n7_ n8_ n9_ n10_ n11_ n12_ n13_ n14_ n15_ n16_ n17_ n18_ n19_ n20_ n21_ n22_ n23_ n24_ n25_ n26_
                clear hb hbox hg
                refine hK.out _ _ ⟨(blk_cell BK197.out 0).trans rfl, (blk_cell BK197.out 1).trans rfl, (blk_cell BK198.out 0).trans rfl, (blk_cell BK198.out 1).trans rfl⟩ (fun hHeld => ?_)
                clear hK K
                refine norm_ (a' := ?_) ?_ ?_
                rotate_left
                ·show Act.put _ (some 15) _ = _
                 simp only [Act.put, List.setIfInBounds_toArray, List.set_cons_zero, List.set_cons_succ, i64_w, i32_w]
                 rfl
                refine one_ (i := 3) (N := some 98) #[true, true, true, true, false, false, false, false, true, false, false] rfl rfl (one_of HT_.out (by kernel_rfl)) (by decide) (fun K hK => ?_)
                refine goes_ Try.func18 (by kernel_rfl) rfl #[.agg #[.int .i64 a1_0, .slice A1_1 l1_1.length c1_1]] (by rfl) rfl rfl lm12_ ?_
                with_reducible refine (laws_toBits.calls kj95 a1_0 _ _ l1_1 t254 t255 _ ?side1 ?side2 A139.out).mono ?_
                (case side1 => exact lc12_ (Kd.C_below HR1_1.out HB.out))
                (case side2 => exact HC1_1.out)
                rintro e w154 ⟨v256, rfl, ho0, hb⟩
                refine ⟨_, rfl, ?_⟩
                have n0_ := am12_ (Kd.R_elder' (lf12_ HO_215001) (Kd.R_base ho0) hb)
                have n1_ := am12_ (Kd.R_elder' (lf12_ HO_220001) (Kd.R_base ho0) hb)
                have n2_ := am12_ (Kd.R_elder' (lf12_ HO_225001) (Kd.R_base ho0) hb)
                have n3_ := am12_ (Kd.R_elder' (lf12_ HO_231001) (Kd.R_base ho0) hb)
                have n4_ := am12_ (Kd.R_elder' (lf12_ HO253) (Kd.R_base ho0) hb)
                have n5_ := am12_ (Kd.R_lower (Kd.R_new' (Kd.R_new' (Kd.R_new' (Kd.R_new' (Kd.R_new' ho0 (Kd.R_lt (lf12_ HO_215001))) (Kd.R_lt (lf12_ HO_220001))) (Kd.R_lt (lf12_ HO_225001))) (Kd.R_lt (lf12_ HO_231001))) (Kd.R_lt (lf12_ HO253))) (below_size (lw12_ HB)))
                have n6_ := am12_ (blk_below (g := gb197) (o := .cells #[.int .i64 a0_0, .slice A0_1 l0_1.length c0_1] 24 (0, 0)) (lb12_ BK197) hb)
                have n7_ := am12_ (blk_below (g := gb198) (o := .cells #[.int .i64 a1_0, .slice A1_1 l1_1.length c1_1] 24 (0, 0)) (lb12_ BK198) hb)
                have n8_ := am12_ (blk_below (g := gb214) (o := .cells #[.int .i64 t209, .slice Ao42 t210.length co42] 26 (0, 0)) (lb12_ BK214) hb)
                have n9_ := am12_ (blk_below (g := gb219) (o := .cells #[.int .i64 t215, .slice Ao52 t243.length co52] 26 (0, 0)) (lb12_ BK219) hb)
                have n10_ := am12_ (blk_below (g := gb224) (o := .cells #[.int .i64 t220, .slice Ao62 t245.length co62] 26 (0, 0)) (lb12_ BK224) hb)
                have n11_ := am12_ (blk_below (g := gb230) (o := .cells #[.int .i64 t225, .slice Ao72 t226.length co72] 26 (0, 0)) (lb12_ BK230) hb)
                have n12_ := am12_ (blk_below (g := gb263) (o := .cells #[.int .i64 0, .slice none 0 0] 26 (0, 0)) (lb12_ BK263) hb)
                have n13_ := am12_ (below_step (lw12_ HB) hb)
                clear HO_215001
                clear HO_220001
                clear HO_225001
                clear HO_231001
                clear HO253
                clear BK197
                clear BK198
                clear BK214
                clear BK219
                clear BK224
                clear BK230
                clear BK263
                clear HB
                have HO_215001 := n0_
                have HO_220001 := n1_
                have HO_225001 := n2_
                have HO_231001 := n3_
                have HO253 := n4_
                have HO257 := n5_
                have BK197 := n6_
                have BK198 := n7_
                have BK214 := n8_
                have BK219 := n9_
                have BK224 := n10_
                have BK230 := n11_
                have BK263 := n12_
                have HB := n13_
                clear n0_ n1_ n2_ n3_ n4_ n5_ n6_ n7_ n8_ n9_ n10_ n11_ n12_ n13_
                (try clear hb)
                (try clear hb2)
                (try clear hk)
                (try clear hi)
                (try clear ho0)
                obtain ⟨Ao155, co155, eo155⟩ := Kd.R_slice HO253.out
                (first | subst eo155 | (injection eo155 with f1_ f2_ f3_; have f4_ := f1_.symm; have f5_ := f3_.symm; clear f1_ f2_ f3_; subst f4_; subst f5_))
                obtain ⟨Ao156, co156, eo156⟩ := Kd.R_slice HO257.out
                (first | subst eo156 | (injection eo156 with f1_ f2_ f3_; have f4_ := f1_.symm; have f5_ := f3_.symm; clear f1_ f2_ f3_; subst f4_; subst f5_))
                refine hK.out _ _ ⟨(blk_cell BK197.out 0).trans rfl, (blk_cell BK197.out 1).trans rfl, (blk_cell BK198.out 0).trans rfl, (blk_cell BK198.out 1).trans rfl⟩ (fun hHeld => ?_)
                clear hK K
                refine norm_ (a' := ?_) ?_ ?_
                rotate_left
                ·show Act.put _ (some 98) _ = _
                 simp only [Act.put, List.setIfInBounds_toArray, List.set_cons_zero, List.set_cons_succ, i64_w, i32_w]
                 rfl
                refine one_ (i := 4) (N := some 99) #[true, true, true, true, true, false, false, false, true, false, false] rfl rfl (one_of HT_.out (by kernel_rfl)) (by decide) (fun K hK => ?_)
                refine goes_ Try.func26 (by kernel_rfl) rfl #[.agg #[.int .i64 t250, .slice Ao155 t251.length co155], .agg #[.int .i64 t254, .slice Ao156 t255.length co156]] (by rfl) rfl rfl lm12_ ?_
                with_reducible refine (impl_JoinBits.calls kj95 t250 _ _ t251 t254 _ _ t255 t258 t259 t262 _ ?side1 ?side2 ?side3 ?side4 A140.out).mono ?_
                (case side1 => exact lc12_ (Kd.R_reads' HO253.out).2.2)
                (case side2 => exact (Kd.R_reads' HO253.out).2.1)
                (case side3 => exact lc12_ (Kd.R_reads' HO257.out).2.2)
                (case side4 => exact (Kd.R_reads' HO257.out).2.1)
                rintro e w157 ⟨v260, rfl, ho0, hb⟩
                refine ⟨_, rfl, ?_⟩
                have n0_ := am12_ (Kd.R_elder' (lf12_ HO_215001) (Kd.R_base ho0) hb)
                have n1_ := am12_ (Kd.R_elder' (lf12_ HO_220001) (Kd.R_base ho0) hb)
                have n2_ := am12_ (Kd.R_elder' (lf12_ HO_225001) (Kd.R_base ho0) hb)
                have n3_ := am12_ (Kd.R_elder' (lf12_ HO_231001) (Kd.R_base ho0) hb)
                have n4_ := am12_ (Kd.R_elder' (lf12_ HO253) (Kd.R_base ho0) hb)
                have n5_ := am12_ (Kd.R_elder' (lf12_ HO257) (Kd.R_base ho0) hb)
                have n6_ := am12_ (Kd.R_lower (Kd.R_new' (Kd.R_new' (Kd.R_new' (Kd.R_new' (Kd.R_new' (Kd.R_new' ho0 (Kd.R_lt (lf12_ HO_215001))) (Kd.R_lt (lf12_ HO_220001))) (Kd.R_lt (lf12_ HO_225001))) (Kd.R_lt (lf12_ HO_231001))) (Kd.R_lt (lf12_ HO253))) (Kd.R_lt (lf12_ HO257))) (below_size (lw12_ HB)))
                have n7_ := am12_ (blk_below (g := gb197) (o := .cells #[.int .i64 a0_0, .slice A0_1 l0_1.length c0_1] 24 (0, 0)) (lb12_ BK197) hb)
                have n8_ := am12_ (blk_below (g := gb198) (o := .cells #[.int .i64 a1_0, .slice A1_1 l1_1.length c1_1] 24 (0, 0)) (lb12_ BK198) hb)
                have n9_ := am12_ (blk_below (g := gb214) (o := .cells #[.int .i64 t209, .slice Ao42 t210.length co42] 26 (0, 0)) (lb12_ BK214) hb)
                have n10_ := am12_ (blk_below (g := gb219) (o := .cells #[.int .i64 t215, .slice Ao52 t243.length co52] 26 (0, 0)) (lb12_ BK219) hb)
                have n11_ := am12_ (blk_below (g := gb224) (o := .cells #[.int .i64 t220, .slice Ao62 t245.length co62] 26 (0, 0)) (lb12_ BK224) hb)
                have n12_ := am12_ (blk_below (g := gb230) (o := .cells #[.int .i64 t225, .slice Ao72 t226.length co72] 26 (0, 0)) (lb12_ BK230) hb)
                have n13_ := am12_ (blk_below (g := gb263) (o := .cells #[.int .i64 0, .slice none 0 0] 26 (0, 0)) (lb12_ BK263) hb)
                have n14_ := am12_ (below_step (lw12_ HB) hb)
                clear HO_215001
                clear HO_220001
                clear HO_225001
                clear HO_231001
                clear HO253
                clear HO257
                clear BK197
                clear BK198
                clear BK214
                clear BK219
                clear BK224
                clear BK230
                clear BK263
                clear HB
                have HO_215001 := n0_
                have HO_220001 := n1_
                have HO_225001 := n2_
                have HO_231001 := n3_
                have HO253 := n4_
                have HO257 := n5_
                have HO261 := n6_
                have BK197 := n7_
                have BK198 := n8_
                have BK214 := n9_
                have BK219 := n10_
                have BK224 := n11_
                have BK230 := n12_
                have BK263 := n13_
                have HB := n14_
                clear n0_ n1_ n2_ n3_ n4_ n5_ n6_ n7_ n8_ n9_ n10_ n11_ n12_ n13_ n14_
                (try clear hb)
                (try clear hb2)
                (try clear hk)
                (try clear hi)
                (try clear ho0)
                refine hK.out _ _ ⟨(blk_cell BK197.out 0).trans rfl, (blk_cell BK197.out 1).trans rfl, (blk_cell BK198.out 0).trans rfl, (blk_cell BK198.out 1).trans rfl⟩ (fun hHeld => ?_)
                clear hK K
                refine norm_ (a' := ?_) ?_ ?_
                rotate_left
                ·show Act.put _ (some 99) _ = _
                 simp only [Act.put, List.setIfInBounds_toArray, List.set_cons_zero, List.set_cons_succ, i64_w, i32_w]
                 rfl
                refine pure_ (i := 5) (N := some 94) (v := ?_) (a' := ?_) #[true, true, true, true, true, true, false, false, true, false, false] rfl rfl (any_of HT_.out (by kernel_rfl)) (fun _ _ _ h => h) (Or.inl ⟨by rfl, ?_⟩) ?_ ?_
                rotate_left
                ·intro w'
                 go_simp
                 with_reducible rfl
                rotate_left
                ·simp only [Act.put, List.setIfInBounds_toArray, List.set_cons_zero, List.set_cons_succ, i64_w, i32_w]
                 rfl
                refine pure_ (i := 6) (N := some 100) (v := ?_) (a' := ?_) #[true, true, true, true, true, true, true, false, true, false, false] rfl rfl (any_of HT_.out (by kernel_rfl)) (fun _ _ _ h => h) (Or.inl ⟨by rfl, ?_⟩) ?_ ?_
                rotate_left
                ·intro w'
                 go_simp
                 with_reducible rfl
                rotate_left
                ·simp only [Act.put, List.setIfInBounds_toArray, List.set_cons_zero, List.set_cons_succ, i64_w, i32_w]
                 rfl
                refine pure_ (i := 7) (N := some 101) (v := ?_) (a' := ?_) #[true, true, true, true, true, true, true, true, true, false, false] rfl rfl (any_of HT_.out (by kernel_rfl)) (fun _ _ _ h => h) (Or.inl ⟨by rfl, ?_⟩) ?_ ?_
                rotate_left
                ·intro w'
                 go_simp
                 with_reducible rfl
                rotate_left
                ·simp only [Act.put, List.setIfInBounds_toArray, List.set_cons_zero, List.set_cons_succ, i64_w, i32_w]
                 rfl
                exact norm_ (by simp only [putAll, Act.put, List.setIfInBounds_toArray, List.set_cons_zero, List.set_cons_succ]) (hCont (.slice Ao155 t251.length co155, .slice Ao156 t255.length co156, v260, gb263) _ ⟨hHeld, (by (with_reducible repeat (first | apply Kd.R_alloc | apply Kd.R_drewN | apply Kd.R_drew)); exact Kd.R_mono HO253.out (fun _ hk => ⟨hk.1.2, ⟨hk.2, ⟨hk.1.1.1.1.1.2, ⟨hk.1.1.1.1.2, ⟨hk.1.1.1.2, hk.1.1.2⟩⟩⟩⟩⟩)), (by (with_reducible repeat (first | apply Kd.R_alloc | apply Kd.R_drewN | apply Kd.R_drew)); exact Kd.R_mono HO257.out (fun _ hk => ⟨hk.1.2, ⟨hk.2, ⟨hk.1.1.1.1.1.2, ⟨hk.1.1.1.1.2, ⟨hk.1.1.1.2, hk.1.1.2⟩⟩⟩⟩⟩)), (by (with_reducible repeat (first | apply Kd.R_alloc | apply Kd.R_drewN | apply Kd.R_drew)); exact Kd.R_mono HO261.out (fun _ hk => ⟨hk.1.2, ⟨hk.2, ⟨hk.1.1.1.1.1.2, ⟨hk.1.1.1.1.2, ⟨hk.1.1.1.2, hk.1.1.2⟩⟩⟩⟩⟩)), (by (with_reducible repeat (first | apply Kd.R_alloc | apply Kd.R_drewN | apply Kd.R_drew)); exact Kd.R_mono HO_215001.out (fun _ hk => ⟨hk.1.1.2, ⟨hk.1.2, ⟨hk.2, ⟨hk.1.1.1.1, ⟨hk.1.1.1.2.1, hk.1.1.1.2.2⟩⟩⟩⟩⟩)), (by (with_reducible repeat (first | apply Kd.R_alloc | apply Kd.R_drewN | apply Kd.R_drew)); exact Kd.R_mono HO_220001.out (fun _ hk => ⟨hk.1.1.2, ⟨hk.1.2, ⟨hk.2, ⟨hk.1.1.1.1, ⟨hk.1.1.1.2.1, hk.1.1.1.2.2⟩⟩⟩⟩⟩)), (by (with_reducible repeat (first | apply Kd.R_alloc | apply Kd.R_drewN | apply Kd.R_drew)); exact Kd.R_mono HO_225001.out (fun _ hk => ⟨hk.1.1.2, ⟨hk.1.2, ⟨hk.2, ⟨hk.1.1.1.1, ⟨hk.1.1.1.2.1, hk.1.1.1.2.2⟩⟩⟩⟩⟩)), (by (with_reducible repeat (first | apply Kd.R_alloc | apply Kd.R_drewN | apply Kd.R_drew)); exact Kd.R_mono HO_231001.out (fun _ hk => ⟨hk.1.1.2, ⟨hk.1.2, ⟨hk.2, ⟨hk.1.1.1.1, ⟨hk.1.1.1.2.1, hk.1.1.1.2.2⟩⟩⟩⟩⟩)), (lb12_ BK197), (lb12_ BK198), (lb12_ BK214), (lb12_ BK219), (lb12_ BK224), (lb12_ BK230), (lb12_ BK263), GW263.out, GE263.out, NB197_263.out, NB263_197.out, NB198_263.out, NB263_198.out, NB214_263.out, NB263_214.out, NB219_263.out, NB263_219.out, NB224_263.out, NB263_224.out, NB230_263.out, NB263_230.out, (lw12_ HB)⟩)
              ·skip
               refine box_step ?hg (N := 15) ?hd (cs := #[.int .i64 0, .slice none 0 0]) (t := 26) ?hr ?_; (case hd => rfl); (case hg => rfl); (case hr => first | (go_simp; done) | (go_simp; rfl))
               intro gb263 hg w152 hbox hb
               have n0_ := am12_ (Kd.R_below (lf12_ HO_215001) hb)
               have n1_ := am12_ (Kd.R_below (lf12_ HO_220001) hb)
               have n2_ := am12_ (Kd.R_below (lf12_ HO_225001) hb)
               have n3_ := am12_ (Kd.R_below (lf12_ HO_231001) hb)
               have n4_ := am12_ (blk_below (g := gb197) (o := .cells #[.int .i64 a0_0, .slice A0_1 l0_1.length c0_1] 24 (0, 0)) (lb12_ BK197) hb)
               have n5_ := am12_ (blk_below (g := gb198) (o := .cells #[.int .i64 a1_0, .slice A1_1 l1_1.length c1_1] 24 (0, 0)) (lb12_ BK198) hb)
               have n6_ := am12_ (blk_below (g := gb214) (o := .cells #[.int .i64 t209, .slice Ao42 t210.length co42] 26 (0, 0)) (lb12_ BK214) hb)
               have n7_ := am12_ (blk_below (g := gb219) (o := .cells #[.int .i64 t215, .slice Ao52 t243.length co52] 26 (0, 0)) (lb12_ BK219) hb)
               have n8_ := am12_ (blk_below (g := gb224) (o := .cells #[.int .i64 t220, .slice Ao62 t245.length co62] 26 (0, 0)) (lb12_ BK224) hb)
               have n9_ := am12_ (blk_below (g := gb230) (o := .cells #[.int .i64 t225, .slice Ao72 t226.length co72] 26 (0, 0)) (lb12_ BK230) hb)
               have n10_ := am12_ (below_step (lw12_ HB) hb)
               have n11_ := am12_ (hbox)
               have n12_ := am12_ ((by rw [hg]; exact (below_size (lw12_ HB)) : w.heap.size ≤ gb263))
               have n13_ := am12_ ((by rw [hg]; exact (below_size (lw12_ HB)) : w.heap.size ≤ gb263))
               have n14_ := am12_ ((by rw [hg]; exact Nat.ne_of_lt (blk_lt (g := gb197) (lb12_ BK197)) : gb197 ≠ gb263))
               have n15_ := am12_ ((by rw [hg]; exact Nat.ne_of_gt (blk_lt (g := gb197) (lb12_ BK197)) : gb263 ≠ gb197))
               have n16_ := am12_ ((by rw [hg]; exact Nat.ne_of_lt (blk_lt (g := gb198) (lb12_ BK198)) : gb198 ≠ gb263))
               have n17_ := am12_ ((by rw [hg]; exact Nat.ne_of_gt (blk_lt (g := gb198) (lb12_ BK198)) : gb263 ≠ gb198))
               have n18_ := am12_ ((by rw [hg]; exact Nat.ne_of_lt (blk_lt (g := gb214) (lb12_ BK214)) : gb214 ≠ gb263))
               have n19_ := am12_ ((by rw [hg]; exact Nat.ne_of_gt (blk_lt (g := gb214) (lb12_ BK214)) : gb263 ≠ gb214))
               have n20_ := am12_ ((by rw [hg]; exact Nat.ne_of_lt (blk_lt (g := gb219) (lb12_ BK219)) : gb219 ≠ gb263))
               have n21_ := am12_ ((by rw [hg]; exact Nat.ne_of_gt (blk_lt (g := gb219) (lb12_ BK219)) : gb263 ≠ gb219))
               have n22_ := am12_ ((by rw [hg]; exact Nat.ne_of_lt (blk_lt (g := gb224) (lb12_ BK224)) : gb224 ≠ gb263))
               have n23_ := am12_ ((by rw [hg]; exact Nat.ne_of_gt (blk_lt (g := gb224) (lb12_ BK224)) : gb263 ≠ gb224))
               have n24_ := am12_ ((by rw [hg]; exact Nat.ne_of_lt (blk_lt (g := gb230) (lb12_ BK230)) : gb230 ≠ gb263))
               have n25_ := am12_ ((by rw [hg]; exact Nat.ne_of_gt (blk_lt (g := gb230) (lb12_ BK230)) : gb263 ≠ gb230))
               clear HO_215001
               clear HO_220001
               clear HO_225001
               clear HO_231001
               clear BK197
               clear BK198
               clear BK214
               clear BK219
               clear BK224
               clear BK230
               clear HB
               have HO_215001 := n0_
               have HO_220001 := n1_
               have HO_225001 := n2_
               have HO_231001 := n3_
               have BK197 := n4_
               have BK198 := n5_
               have BK214 := n6_
               have BK219 := n7_
               have BK224 := n8_
               have BK230 := n9_
               have HB := n10_
               have BK263 := n11_
               have GW263 := n12_
               have GE263 := n13_
               have NB197_263 := n14_
               have NB263_197 := n15_
               have NB198_263 := n16_
               have NB263_198 := n17_
               have NB214_263 := n18_
               have NB263_214 := n19_
               have NB219_263 := n20_
               have NB263_219 := n21_
               have NB224_263 := n22_
               have NB263_224 := n23_
               have NB230_263 := n24_
               have NB263_230 := n25_
               clear n0_ n1_ n2_ n3_ n4_ n5_ n6_ n7_ n8_ n9_ n10_ n11_ n12_ n13_ n14_ n15_ n16_ n17_ n18_ n19_ n20_ n21_ n22_ n23_ n24_ n25_
               clear hb hbox hg
               refine hK.out _ _ ⟨(blk_cell BK197.out 0).trans rfl, (blk_cell BK197.out 1).trans rfl, (blk_cell BK198.out 0).trans rfl, (blk_cell BK198.out 1).trans rfl⟩ (fun hHeld => ?_)
               clear hK K
               refine norm_ (a' := ?_) ?_ ?_
               rotate_left
               ·show Act.put _ (some 15) _ = _
                simp only [Act.put, List.setIfInBounds_toArray, List.set_cons_zero, List.set_cons_succ, i64_w, i32_w]
                rfl
               refine one_ (i := 1) (N := some 96) #[true, true, true, false, false, false, false, false, true, false, false] rfl rfl (one_of HT_.out (by kernel_rfl)) (by decide) (fun K hK => ?_)
               refine goes_ Try.func18 (by kernel_rfl) rfl #[.agg #[.int .i64 a0_0, .slice A0_1 l0_1.length c0_1]] (by rfl) rfl rfl lm12_ ?_
               with_reducible refine (laws_toBits.calls kj95 a0_0 _ _ l0_1 t250 t251 _ ?side1 ?side2 A138.out).mono ?_
               (case side1 => exact lc12_ (Kd.C_below HR0_1.out HB.out))
               (case side2 => exact HC0_1.out)
               rintro e w153 ⟨v252, rfl, ho0, hb⟩
               refine ⟨_, rfl, ?_⟩
               have n0_ := am12_ (Kd.R_elder' (lf12_ HO_215001) (Kd.R_base ho0) hb)
               have n1_ := am12_ (Kd.R_elder' (lf12_ HO_220001) (Kd.R_base ho0) hb)
               have n2_ := am12_ (Kd.R_elder' (lf12_ HO_225001) (Kd.R_base ho0) hb)
               have n3_ := am12_ (Kd.R_elder' (lf12_ HO_231001) (Kd.R_base ho0) hb)
               have n4_ := am12_ (Kd.R_lower (Kd.R_new' (Kd.R_new' (Kd.R_new' (Kd.R_new' ho0 (Kd.R_lt (lf12_ HO_215001))) (Kd.R_lt (lf12_ HO_220001))) (Kd.R_lt (lf12_ HO_225001))) (Kd.R_lt (lf12_ HO_231001))) (below_size (lw12_ HB)))
               have n5_ := am12_ (blk_below (g := gb197) (o := .cells #[.int .i64 a0_0, .slice A0_1 l0_1.length c0_1] 24 (0, 0)) (lb12_ BK197) hb)
               have n6_ := am12_ (blk_below (g := gb198) (o := .cells #[.int .i64 a1_0, .slice A1_1 l1_1.length c1_1] 24 (0, 0)) (lb12_ BK198) hb)
               have n7_ := am12_ (blk_below (g := gb214) (o := .cells #[.int .i64 t209, .slice Ao42 t210.length co42] 26 (0, 0)) (lb12_ BK214) hb)
               have n8_ := am12_ (blk_below (g := gb219) (o := .cells #[.int .i64 t215, .slice Ao52 t243.length co52] 26 (0, 0)) (lb12_ BK219) hb)
               have n9_ := am12_ (blk_below (g := gb224) (o := .cells #[.int .i64 t220, .slice Ao62 t245.length co62] 26 (0, 0)) (lb12_ BK224) hb)
               have n10_ := am12_ (blk_below (g := gb230) (o := .cells #[.int .i64 t225, .slice Ao72 t226.length co72] 26 (0, 0)) (lb12_ BK230) hb)
               have n11_ := am12_ (blk_below (g := gb263) (o := .cells #[.int .i64 0, .slice none 0 0] 26 (0, 0)) (lb12_ BK263) hb)
               have n12_ := am12_ (below_step (lw12_ HB) hb)
               clear HO_215001
               clear HO_220001
               clear HO_225001
               clear HO_231001
               clear BK197
               clear BK198
               clear BK214
               clear BK219
               clear BK224
               clear BK230
               clear BK263
               clear HB
               have HO_215001 := n0_
               have HO_220001 := n1_
               have HO_225001 := n2_
               have HO_231001 := n3_
               have HO253 := n4_
               have BK197 := n5_
               have BK198 := n6_
               have BK214 := n7_
               have BK219 := n8_
               have BK224 := n9_
               have BK230 := n10_
               have BK263 := n11_
               have HB := n12_
               clear n0_ n1_ n2_ n3_ n4_ n5_ n6_ n7_ n8_ n9_ n10_ n11_ n12_
               (try clear hb)
               (try clear hb2)
               (try clear hk)
               (try clear hi)
               (try clear ho0)
               refine hK.out _ _ ⟨(blk_cell BK197.out 0).trans rfl, (blk_cell BK197.out 1).trans rfl, (blk_cell BK198.out 0).trans rfl, (blk_cell BK198.out 1).trans rfl⟩ (fun hHeld => ?_)
               clear hK K
               refine norm_ (a' := ?_) ?_ ?_
               rotate_left
               ·show Act.put _ (some 96) _ = _
                simp only [Act.put, List.setIfInBounds_toArray, List.set_cons_zero, List.set_cons_succ, i64_w, i32_w]
                rfl
               refine one_ (i := 3) (N := some 98) #[true, true, true, true, false, false, false, false, true, false, false] rfl rfl (one_of HT_.out (by kernel_rfl)) (by decide) (fun K hK => ?_)
               refine goes_ Try.func18 (by kernel_rfl) rfl #[.agg #[.int .i64 a1_0, .slice A1_1 l1_1.length c1_1]] (by rfl) rfl rfl lm12_ ?_
               with_reducible refine (laws_toBits.calls kj95 a1_0 _ _ l1_1 t254 t255 _ ?side1 ?side2 A139.out).mono ?_
               (case side1 => exact lc12_ (Kd.C_below HR1_1.out HB.out))
               (case side2 => exact HC1_1.out)
               rintro e w154 ⟨v256, rfl, ho0, hb⟩
               refine ⟨_, rfl, ?_⟩
               have n0_ := am12_ (Kd.R_elder' (lf12_ HO_215001) (Kd.R_base ho0) hb)
               have n1_ := am12_ (Kd.R_elder' (lf12_ HO_220001) (Kd.R_base ho0) hb)
               have n2_ := am12_ (Kd.R_elder' (lf12_ HO_225001) (Kd.R_base ho0) hb)
               have n3_ := am12_ (Kd.R_elder' (lf12_ HO_231001) (Kd.R_base ho0) hb)
               have n4_ := am12_ (Kd.R_elder' (lf12_ HO253) (Kd.R_base ho0) hb)
               have n5_ := am12_ (Kd.R_lower (Kd.R_new' (Kd.R_new' (Kd.R_new' (Kd.R_new' (Kd.R_new' ho0 (Kd.R_lt (lf12_ HO_215001))) (Kd.R_lt (lf12_ HO_220001))) (Kd.R_lt (lf12_ HO_225001))) (Kd.R_lt (lf12_ HO_231001))) (Kd.R_lt (lf12_ HO253))) (below_size (lw12_ HB)))
               have n6_ := am12_ (blk_below (g := gb197) (o := .cells #[.int .i64 a0_0, .slice A0_1 l0_1.length c0_1] 24 (0, 0)) (lb12_ BK197) hb)
               have n7_ := am12_ (blk_below (g := gb198) (o := .cells #[.int .i64 a1_0, .slice A1_1 l1_1.length c1_1] 24 (0, 0)) (lb12_ BK198) hb)
               have n8_ := am12_ (blk_below (g := gb214) (o := .cells #[.int .i64 t209, .slice Ao42 t210.length co42] 26 (0, 0)) (lb12_ BK214) hb)
               have n9_ := am12_ (blk_below (g := gb219) (o := .cells #[.int .i64 t215, .slice Ao52 t243.length co52] 26 (0, 0)) (lb12_ BK219) hb)
               have n10_ := am12_ (blk_below (g := gb224) (o := .cells #[.int .i64 t220, .slice Ao62 t245.length co62] 26 (0, 0)) (lb12_ BK224) hb)
               have n11_ := am12_ (blk_below (g := gb230) (o := .cells #[.int .i64 t225, .slice Ao72 t226.length co72] 26 (0, 0)) (lb12_ BK230) hb)
               have n12_ := am12_ (blk_below (g := gb263) (o := .cells #[.int .i64 0, .slice none 0 0] 26 (0, 0)) (lb12_ BK263) hb)
               have n13_ := am12_ (below_step (lw12_ HB) hb)
               clear HO_215001
               clear HO_220001
               clear HO_225001
               clear HO_231001
               clear HO253
               clear BK197
               clear BK198
               clear BK214
               clear BK219
               clear BK224
               clear BK230
               clear BK263
               clear HB
               have HO_215001 := n0_
               have HO_220001 := n1_
               have HO_225001 := n2_
               have HO_231001 := n3_
               have HO253 := n4_
               have HO257 := n5_
               have BK197 := n6_
               have BK198 := n7_
               have BK214 := n8_
               have BK219 := n9_
               have BK224 := n10_
               have BK230 := n11_
               have BK263 := n12_
               have HB := n13_
               clear n0_ n1_ n2_ n3_ n4_ n5_ n6_ n7_ n8_ n9_ n10_ n11_ n12_ n13_
               (try clear hb)
               (try clear hb2)
               (try clear hk)
               (try clear hi)
               (try clear ho0)
               obtain ⟨Ao155, co155, eo155⟩ := Kd.R_slice HO253.out
               (first | subst eo155 | (injection eo155 with f1_ f2_ f3_; have f4_ := f1_.symm; have f5_ := f3_.symm; clear f1_ f2_ f3_; subst f4_; subst f5_))
               obtain ⟨Ao156, co156, eo156⟩ := Kd.R_slice HO257.out
               (first | subst eo156 | (injection eo156 with f1_ f2_ f3_; have f4_ := f1_.symm; have f5_ := f3_.symm; clear f1_ f2_ f3_; subst f4_; subst f5_))
               refine hK.out _ _ ⟨(blk_cell BK197.out 0).trans rfl, (blk_cell BK197.out 1).trans rfl, (blk_cell BK198.out 0).trans rfl, (blk_cell BK198.out 1).trans rfl⟩ (fun hHeld => ?_)
               clear hK K
               refine norm_ (a' := ?_) ?_ ?_
               rotate_left
               ·show Act.put _ (some 98) _ = _
                simp only [Act.put, List.setIfInBounds_toArray, List.set_cons_zero, List.set_cons_succ, i64_w, i32_w]
                rfl
               refine one_ (i := 4) (N := some 99) #[true, true, true, true, true, false, false, false, true, false, false] rfl rfl (one_of HT_.out (by kernel_rfl)) (by decide) (fun K hK => ?_)
               refine goes_ Try.func26 (by kernel_rfl) rfl #[.agg #[.int .i64 t250, .slice Ao155 t251.length co155], .agg #[.int .i64 t254, .slice Ao156 t255.length co156]] (by rfl) rfl rfl lm12_ ?_
               with_reducible refine (impl_JoinBits.calls kj95 t250 _ _ t251 t254 _ _ t255 t258 t259 t262 _ ?side1 ?side2 ?side3 ?side4 A140.out).mono ?_
               (case side1 => exact lc12_ (Kd.R_reads' HO253.out).2.2)
               (case side2 => exact (Kd.R_reads' HO253.out).2.1)
               (case side3 => exact lc12_ (Kd.R_reads' HO257.out).2.2)
               (case side4 => exact (Kd.R_reads' HO257.out).2.1)
               rintro e w157 ⟨v260, rfl, ho0, hb⟩
               refine ⟨_, rfl, ?_⟩
               have n0_ := am12_ (Kd.R_elder' (lf12_ HO_215001) (Kd.R_base ho0) hb)
               have n1_ := am12_ (Kd.R_elder' (lf12_ HO_220001) (Kd.R_base ho0) hb)
               have n2_ := am12_ (Kd.R_elder' (lf12_ HO_225001) (Kd.R_base ho0) hb)
               have n3_ := am12_ (Kd.R_elder' (lf12_ HO_231001) (Kd.R_base ho0) hb)
               have n4_ := am12_ (Kd.R_elder' (lf12_ HO253) (Kd.R_base ho0) hb)
               have n5_ := am12_ (Kd.R_elder' (lf12_ HO257) (Kd.R_base ho0) hb)
               have n6_ := am12_ (Kd.R_lower (Kd.R_new' (Kd.R_new' (Kd.R_new' (Kd.R_new' (Kd.R_new' (Kd.R_new' ho0 (Kd.R_lt (lf12_ HO_215001))) (Kd.R_lt (lf12_ HO_220001))) (Kd.R_lt (lf12_ HO_225001))) (Kd.R_lt (lf12_ HO_231001))) (Kd.R_lt (lf12_ HO253))) (Kd.R_lt (lf12_ HO257))) (below_size (lw12_ HB)))
               have n7_ := am12_ (blk_below (g := gb197) (o := .cells #[.int .i64 a0_0, .slice A0_1 l0_1.length c0_1] 24 (0, 0)) (lb12_ BK197) hb)
               have n8_ := am12_ (blk_below (g := gb198) (o := .cells #[.int .i64 a1_0, .slice A1_1 l1_1.length c1_1] 24 (0, 0)) (lb12_ BK198) hb)
               have n9_ := am12_ (blk_below (g := gb214) (o := .cells #[.int .i64 t209, .slice Ao42 t210.length co42] 26 (0, 0)) (lb12_ BK214) hb)
               have n10_ := am12_ (blk_below (g := gb219) (o := .cells #[.int .i64 t215, .slice Ao52 t243.length co52] 26 (0, 0)) (lb12_ BK219) hb)
               have n11_ := am12_ (blk_below (g := gb224) (o := .cells #[.int .i64 t220, .slice Ao62 t245.length co62] 26 (0, 0)) (lb12_ BK224) hb)
               have n12_ := am12_ (blk_below (g := gb230) (o := .cells #[.int .i64 t225, .slice Ao72 t226.length co72] 26 (0, 0)) (lb12_ BK230) hb)
               have n13_ := am12_ (blk_below (g := gb263) (o := .cells #[.int .i64 0, .slice none 0 0] 26 (0, 0)) (lb12_ BK263) hb)
               have n14_ := am12_ (below_step (lw12_ HB) hb)
               clear HO_215001
               clear HO_220001
               clear HO_225001
               clear HO_231001
               clear HO253
               clear HO257
               clear BK197
               clear BK198
               clear BK214
               clear BK219
               clear BK224
               clear BK230
               clear BK263
               clear HB
               have HO_215001 := n0_
               have HO_220001 := n1_
               have HO_225001 := n2_
               have HO_231001 := n3_
               have HO253 := n4_
               have HO257 := n5_
               have HO261 := n6_
               have BK197 := n7_
               have BK198 := n8_
               have BK214 := n9_
               have BK219 := n10_
               have BK224 := n11_
               have BK230 := n12_
               have BK263 := n13_
               have HB := n14_
               clear n0_ n1_ n2_ n3_ n4_ n5_ n6_ n7_ n8_ n9_ n10_ n11_ n12_ n13_ n14_
               (try clear hb)
               (try clear hb2)
               (try clear hk)
               (try clear hi)
               (try clear ho0)
               refine hK.out _ _ ⟨(blk_cell BK197.out 0).trans rfl, (blk_cell BK197.out 1).trans rfl, (blk_cell BK198.out 0).trans rfl, (blk_cell BK198.out 1).trans rfl⟩ (fun hHeld => ?_)
               clear hK K
               refine norm_ (a' := ?_) ?_ ?_
               rotate_left
               ·show Act.put _ (some 99) _ = _
                simp only [Act.put, List.setIfInBounds_toArray, List.set_cons_zero, List.set_cons_succ, i64_w, i32_w]
                rfl
               refine pure_ (i := 5) (N := some 94) (v := ?_) (a' := ?_) #[true, true, true, true, true, true, false, false, true, false, false] rfl rfl (any_of HT_.out (by kernel_rfl)) (fun _ _ _ h => h) (Or.inl ⟨by rfl, ?_⟩) ?_ ?_
               rotate_left
               ·intro w'
                go_simp
                with_reducible rfl
               rotate_left
               ·simp only [Act.put, List.setIfInBounds_toArray, List.set_cons_zero, List.set_cons_succ, i64_w, i32_w]
                rfl
               refine pure_ (i := 6) (N := some 100) (v := ?_) (a' := ?_) #[true, true, true, true, true, true, true, false, true, false, false] rfl rfl (any_of HT_.out (by kernel_rfl)) (fun _ _ _ h => h) (Or.inl ⟨by rfl, ?_⟩) ?_ ?_
               rotate_left
               ·intro w'
                go_simp
                with_reducible rfl
               rotate_left
               ·simp only [Act.put, List.setIfInBounds_toArray, List.set_cons_zero, List.set_cons_succ, i64_w, i32_w]
                rfl
               refine pure_ (i := 7) (N := some 101) (v := ?_) (a' := ?_) #[true, true, true, true, true, true, true, true, true, false, false] rfl rfl (any_of HT_.out (by kernel_rfl)) (fun _ _ _ h => h) (Or.inl ⟨by rfl, ?_⟩) ?_ ?_
               rotate_left
               ·intro w'
                go_simp
                with_reducible rfl
               rotate_left
               ·simp only [Act.put, List.setIfInBounds_toArray, List.set_cons_zero, List.set_cons_succ, i64_w, i32_w]
                rfl
               exact norm_ (by simp only [putAll, Act.put, List.setIfInBounds_toArray, List.set_cons_zero, List.set_cons_succ]) (hCont (.slice Ao155 t251.length co155, .slice Ao156 t255.length co156, v260, gb263) _ ⟨hHeld, (by (with_reducible repeat (first | apply Kd.R_alloc | apply Kd.R_drewN | apply Kd.R_drew)); exact Kd.R_mono HO253.out (fun _ hk => ⟨hk.1.2, ⟨hk.2, ⟨hk.1.1.1.1.1.2, ⟨hk.1.1.1.1.2, ⟨hk.1.1.1.2, hk.1.1.2⟩⟩⟩⟩⟩)), (by (with_reducible repeat (first | apply Kd.R_alloc | apply Kd.R_drewN | apply Kd.R_drew)); exact Kd.R_mono HO257.out (fun _ hk => ⟨hk.1.2, ⟨hk.2, ⟨hk.1.1.1.1.1.2, ⟨hk.1.1.1.1.2, ⟨hk.1.1.1.2, hk.1.1.2⟩⟩⟩⟩⟩)), (by (with_reducible repeat (first | apply Kd.R_alloc | apply Kd.R_drewN | apply Kd.R_drew)); exact Kd.R_mono HO261.out (fun _ hk => ⟨hk.1.2, ⟨hk.2, ⟨hk.1.1.1.1.1.2, ⟨hk.1.1.1.1.2, ⟨hk.1.1.1.2, hk.1.1.2⟩⟩⟩⟩⟩)), (by (with_reducible repeat (first | apply Kd.R_alloc | apply Kd.R_drewN | apply Kd.R_drew)); exact Kd.R_mono HO_215001.out (fun _ hk => ⟨hk.1.1.2, ⟨hk.1.2, ⟨hk.2, ⟨hk.1.1.1.1, ⟨hk.1.1.1.2.1, hk.1.1.1.2.2⟩⟩⟩⟩⟩)), (by (with_reducible repeat (first | apply Kd.R_alloc | apply Kd.R_drewN | apply Kd.R_drew)); exact Kd.R_mono HO_220001.out (fun _ hk => ⟨hk.1.1.2, ⟨hk.1.2, ⟨hk.2, ⟨hk.1.1.1.1, ⟨hk.1.1.1.2.1, hk.1.1.1.2.2⟩⟩⟩⟩⟩)), (by (with_reducible repeat (first | apply Kd.R_alloc | apply Kd.R_drewN | apply Kd.R_drew)); exact Kd.R_mono HO_225001.out (fun _ hk => ⟨hk.1.1.2, ⟨hk.1.2, ⟨hk.2, ⟨hk.1.1.1.1, ⟨hk.1.1.1.2.1, hk.1.1.1.2.2⟩⟩⟩⟩⟩)), (by (with_reducible repeat (first | apply Kd.R_alloc | apply Kd.R_drewN | apply Kd.R_drew)); exact Kd.R_mono HO_231001.out (fun _ hk => ⟨hk.1.1.2, ⟨hk.1.2, ⟨hk.2, ⟨hk.1.1.1.1, ⟨hk.1.1.1.2.1, hk.1.1.1.2.2⟩⟩⟩⟩⟩)), (lb12_ BK197), (lb12_ BK198), (lb12_ BK214), (lb12_ BK219), (lb12_ BK224), (lb12_ BK230), (lb12_ BK263), GW263.out, GE263.out, NB197_263.out, NB263_197.out, NB198_263.out, NB263_198.out, NB214_263.out, NB263_214.out, NB219_263.out, NB263_219.out, NB224_263.out, NB263_224.out, NB230_263.out, NB263_230.out, (lw12_ HB)⟩)
             rintro ⟨v252, v256, v260, gb263⟩ w158 ⟨hS_, h0_, h1_, h2_, h3_, h4_, h5_, h6_, h7_, h8_, h9_, h10_, h11_, h12_, h13_, h14_, h15_, h16_, h17_, h18_, h19_, h20_, h21_, h22_, h23_, h24_, h25_, h26_, h27_, h28_⟩
             have n0_ : Aside0 (Kd.R (Kd.int .i64) 3 w158 w.heap.size (fun k_ => some k_ ≠ (v256 : Value).ownBlock ∧ some k_ ≠ (v260 : Value).ownBlock ∧ some k_ ≠ (.slice Ao42 t210.length co42 : Value).ownBlock ∧ some k_ ≠ (.slice Ao52 t243.length co52 : Value).ownBlock ∧ some k_ ≠ (.slice Ao62 t245.length co62 : Value).ownBlock ∧ some k_ ≠ (.slice Ao72 t226.length co72 : Value).ownBlock) v252 t251) := ⟨h0_⟩
             have n1_ : Aside0 (Kd.R (Kd.int .i64) 3 w158 w.heap.size (fun k_ => some k_ ≠ (v252 : Value).ownBlock ∧ some k_ ≠ (v260 : Value).ownBlock ∧ some k_ ≠ (.slice Ao42 t210.length co42 : Value).ownBlock ∧ some k_ ≠ (.slice Ao52 t243.length co52 : Value).ownBlock ∧ some k_ ≠ (.slice Ao62 t245.length co62 : Value).ownBlock ∧ some k_ ≠ (.slice Ao72 t226.length co72 : Value).ownBlock) v256 t255) := ⟨h1_⟩
             have n2_ : Aside0 (Kd.R (Kd.int .i64) 3 w158 w.heap.size (fun k_ => some k_ ≠ (v252 : Value).ownBlock ∧ some k_ ≠ (v256 : Value).ownBlock ∧ some k_ ≠ (.slice Ao42 t210.length co42 : Value).ownBlock ∧ some k_ ≠ (.slice Ao52 t243.length co52 : Value).ownBlock ∧ some k_ ≠ (.slice Ao62 t245.length co62 : Value).ownBlock ∧ some k_ ≠ (.slice Ao72 t226.length co72 : Value).ownBlock) v260 t259) := ⟨h2_⟩
             have n3_ : Aside0 (Kd.R (Kd.int .i64) 3 w158 w.heap.size (fun k_ => some k_ ≠ (v252 : Value).ownBlock ∧ some k_ ≠ (v256 : Value).ownBlock ∧ some k_ ≠ (v260 : Value).ownBlock ∧ some k_ ≠ (.slice Ao52 t243.length co52 : Value).ownBlock ∧ some k_ ≠ (.slice Ao62 t245.length co62 : Value).ownBlock ∧ some k_ ≠ (.slice Ao72 t226.length co72 : Value).ownBlock) (.slice Ao42 t210.length co42) t210) := ⟨h3_⟩
             have n4_ : Aside0 (Kd.R (Kd.int .i64) 3 w158 w.heap.size (fun k_ => some k_ ≠ (v252 : Value).ownBlock ∧ some k_ ≠ (v256 : Value).ownBlock ∧ some k_ ≠ (v260 : Value).ownBlock ∧ some k_ ≠ (.slice Ao42 t210.length co42 : Value).ownBlock ∧ some k_ ≠ (.slice Ao62 t245.length co62 : Value).ownBlock ∧ some k_ ≠ (.slice Ao72 t226.length co72 : Value).ownBlock) (.slice Ao52 t243.length co52) t243) := ⟨h4_⟩
             have n5_ : Aside0 (Kd.R (Kd.int .i64) 3 w158 w.heap.size (fun k_ => some k_ ≠ (v252 : Value).ownBlock ∧ some k_ ≠ (v256 : Value).ownBlock ∧ some k_ ≠ (v260 : Value).ownBlock ∧ some k_ ≠ (.slice Ao42 t210.length co42 : Value).ownBlock ∧ some k_ ≠ (.slice Ao52 t243.length co52 : Value).ownBlock ∧ some k_ ≠ (.slice Ao72 t226.length co72 : Value).ownBlock) (.slice Ao62 t245.length co62) t245) := ⟨h5_⟩
             have n6_ : Aside0 (Kd.R (Kd.int .i64) 3 w158 w.heap.size (fun k_ => some k_ ≠ (v252 : Value).ownBlock ∧ some k_ ≠ (v256 : Value).ownBlock ∧ some k_ ≠ (v260 : Value).ownBlock ∧ some k_ ≠ (.slice Ao42 t210.length co42 : Value).ownBlock ∧ some k_ ≠ (.slice Ao52 t243.length co52 : Value).ownBlock ∧ some k_ ≠ (.slice Ao62 t245.length co62 : Value).ownBlock) (.slice Ao72 t226.length co72) t248) := ⟨h6_⟩
             have n7_ : Aside0 (w158.heap[gb197]? = some (.cells #[.int .i64 a0_0, .slice A0_1 l0_1.length c0_1] 24 (0, 0))) := ⟨h7_⟩
             have n8_ : Aside0 (w158.heap[gb198]? = some (.cells #[.int .i64 a1_0, .slice A1_1 l1_1.length c1_1] 24 (0, 0))) := ⟨h8_⟩
             have n9_ : Aside0 (w158.heap[gb214]? = some (.cells #[.int .i64 t209, .slice Ao42 t210.length co42] 26 (0, 0))) := ⟨h9_⟩
             have n10_ : Aside0 (w158.heap[gb219]? = some (.cells #[.int .i64 t215, .slice Ao52 t243.length co52] 26 (0, 0))) := ⟨h10_⟩
             have n11_ : Aside0 (w158.heap[gb224]? = some (.cells #[.int .i64 t220, .slice Ao62 t245.length co62] 26 (0, 0))) := ⟨h11_⟩
             have n12_ : Aside0 (w158.heap[gb230]? = some (.cells #[.int .i64 t225, .slice Ao72 t226.length co72] 26 (0, 0))) := ⟨h12_⟩
             have n13_ : Aside0 (w158.heap[gb263]? = some (.cells #[.int .i64 0, .slice none 0 0] 26 (0, 0))) := ⟨h13_⟩
             have n14_ : Aside0 (w.heap.size ≤ gb263) := ⟨h14_⟩
             have n15_ : Aside0 (w.heap.size ≤ gb263) := ⟨h15_⟩
             have n16_ : Aside0 (gb197 ≠ gb263) := ⟨h16_⟩
             have n17_ : Aside0 (gb263 ≠ gb197) := ⟨h17_⟩
             have n18_ : Aside0 (gb198 ≠ gb263) := ⟨h18_⟩
             have n19_ : Aside0 (gb263 ≠ gb198) := ⟨h19_⟩
             have n20_ : Aside0 (gb214 ≠ gb263) := ⟨h20_⟩
             have n21_ : Aside0 (gb263 ≠ gb214) := ⟨h21_⟩
             have n22_ : Aside0 (gb219 ≠ gb263) := ⟨h22_⟩
             have n23_ : Aside0 (gb263 ≠ gb219) := ⟨h23_⟩
             have n24_ : Aside0 (gb224 ≠ gb263) := ⟨h24_⟩
             have n25_ : Aside0 (gb263 ≠ gb224) := ⟨h25_⟩
             have n26_ : Aside0 (gb230 ≠ gb263) := ⟨h26_⟩
             have n27_ : Aside0 (gb263 ≠ gb230) := ⟨h27_⟩
             have n28_ : Aside0 (Below w.heap.size w w158) := ⟨h28_⟩
             clear HO_215001
             clear HO_220001
             clear HO_225001
             clear HO_231001
             clear BK197
             clear BK198
             clear BK214
             clear BK219
             clear BK224
             clear BK230
             clear HB
             clear h0_ h1_ h2_ h3_ h4_ h5_ h6_ h7_ h8_ h9_ h10_ h11_ h12_ h13_ h14_ h15_ h16_ h17_ h18_ h19_ h20_ h21_ h22_ h23_ h24_ h25_ h26_ h27_ h28_
             have HO253 := n0_
             have HO257 := n1_
             have HO261 := n2_
             have HO_215001 := n3_
             have HO_220001 := n4_
             have HO_225001 := n5_
             have HO_231001 := n6_
             have BK197 := n7_
             have BK198 := n8_
             have BK214 := n9_
             have BK219 := n10_
             have BK224 := n11_
             have BK230 := n12_
             have BK263 := n13_
             have GW263 := n14_
             have GE263 := n15_
             have NB197_263 := n16_
             have NB263_197 := n17_
             have NB198_263 := n18_
             have NB263_198 := n19_
             have NB214_263 := n20_
             have NB263_214 := n21_
             have NB219_263 := n22_
             have NB263_219 := n23_
             have NB224_263 := n24_
             have NB263_224 := n25_
             have NB230_263 := n26_
             have NB263_230 := n27_
             have HB := n28_
             clear n0_ n1_ n2_ n3_ n4_ n5_ n6_ n7_ n8_ n9_ n10_ n11_ n12_ n13_ n14_ n15_ n16_ n17_ n18_ n19_ n20_ n21_ n22_ n23_ n24_ n25_ n26_ n27_ n28_
             have hHeld : w158.cell? ⟨gb197, 0, none⟩ = some (.int .i64 a0_0) ∧ w158.cell? ⟨gb197, 1, none⟩ = some (.slice A0_1 l0_1.length c0_1) ∧ w158.cell? ⟨gb198, 0, none⟩ = some (.int .i64 a1_0) ∧ w158.cell? ⟨gb198, 1, none⟩ = some (.slice A1_1 l1_1.length c1_1) := hS_
             obtain ⟨Ao160, co160, eo160⟩ := Kd.R_slice HO261.out
             (first | subst eo160 | (injection eo160 with f1_ f2_ f3_; have f4_ := f1_.symm; have f5_ := f3_.symm; clear f1_ f2_ f3_; subst f4_; subst f5_))
             refine norm_ (a' := ?_) ?_ ?_
             rotate_left
             ·simp only [putAll, Act.put, List.setIfInBounds_toArray, List.set_cons_zero, List.set_cons_succ]
              rfl
             refine one_ (i := 9) (N := none) #[true, true, true, true, true, true, true, true, true, true, false] rfl rfl (one_of HT_.out (by kernel_rfl)) (by decide) (fun K hK => ?_)
             have hs159 : w158.cell? ⟨gb263, 0, none⟩ = some (.int .i64 0) := (blk_cell BK263.out 0).trans rfl
             have hfs159 := blk_frozen BK263.out 0
             have hns159_0 := NB197_263.out
             have hns159_1 := NB198_263.out
             have hns159_2 := NB214_263.out
             have hns159_3 := NB219_263.out
             have hns159_4 := NB224_263.out
             have hns159_5 := NB230_263.out
             have hms159_0 := NB263_197.out
             have hms159_1 := NB263_198.out
             have hms159_2 := NB263_214.out
             have hms159_3 := NB263_219.out
             have hms159_4 := NB263_224.out
             have hms159_5 := NB263_230.out
             have hs161 : w158.cell? ⟨gb263, 1, none⟩ = some (.slice none 0 0) := (blk_cell BK263.out 1).trans rfl
             have hfs161 := blk_frozen BK263.out 1
             have hns161_0 := NB197_263.out
             have hns161_1 := NB198_263.out
             have hns161_2 := NB214_263.out
             have hns161_3 := NB219_263.out
             have hns161_4 := NB224_263.out
             have hns161_5 := NB230_263.out
             have hms161_0 := NB263_197.out
             have hms161_1 := NB263_198.out
             have hms161_2 := NB263_214.out
             have hms161_3 := NB263_219.out
             have hms161_4 := NB263_224.out
             have hms161_5 := NB263_230.out
             refine skip_ (w1 := ?_) (by rfl) rfl ?_ ?_
             rotate_left
             ·go_simp
              rfl
             refine hK.out _ _ ⟨((cell_far (p := ⟨gb263, _, none⟩) NB197_263.out _).trans (((cell_far (p := ⟨gb263, _, none⟩) NB197_263.out _).trans (hHeld.1)))), ((cell_far (p := ⟨gb263, _, none⟩) NB197_263.out _).trans (((cell_far (p := ⟨gb263, _, none⟩) NB197_263.out _).trans (hHeld.2.1)))), ((cell_far (p := ⟨gb263, _, none⟩) NB198_263.out _).trans (((cell_far (p := ⟨gb263, _, none⟩) NB198_263.out _).trans (hHeld.2.2.1)))), ((cell_far (p := ⟨gb263, _, none⟩) NB198_263.out _).trans (((cell_far (p := ⟨gb263, _, none⟩) NB198_263.out _).trans (hHeld.2.2.2))))⟩ (fun hHeld => ?_)
             clear hK K
             refine pure_ (i := 10) (N := some 16) (v := ?_) (a' := ?_) #[true, true, true, true, true, true, true, true, true, true, true] rfl rfl (any_of HT_.out (by kernel_rfl)) (fun _ _ _ h => h) (Or.inl ⟨by rfl, ?_⟩) ?_ ?_
             rotate_left
             ·intro w'
              go_simp
              with_reducible rfl
             rotate_left
             ·simp only [Act.put, List.setIfInBounds_toArray, List.set_cons_zero, List.set_cons_succ, i64_w, i32_w]
              rfl
             refine done_ (done_of HT_.out (by kernel_rfl)) ?_
             go_upto_region 32 with (fail)
             go_cut [110] (fun v110 wc => ∃ (kq : Nat) (x110_140 : Bool), v110 = .bool x110_140 ∧ Aside0 (laws_FnExactJoinBits.j2 kq t247 x110_140 t225 t248 = some r) ∧ Aside0 (kq ≤ kj95) ∧ Aside0 (Kd.R (Kd.int .i64) 3 wc w.heap.size (fun k_ => some k_ ≠ ((.slice Ao52 t243.length co52) : Value).ownBlock ∧ some k_ ≠ ((.slice Ao62 t245.length co62) : Value).ownBlock ∧ some k_ ≠ ((.slice Ao72 t226.length co72) : Value).ownBlock ∧ some k_ ≠ ((.slice Ao160 t259.length co160) : Value).ownBlock) (.slice Ao42 t210.length co42) t210) ∧ Aside0 (Kd.R (Kd.int .i64) 3 wc w.heap.size (fun k_ => some k_ ≠ ((.slice Ao42 t210.length co42) : Value).ownBlock ∧ some k_ ≠ ((.slice Ao62 t245.length co62) : Value).ownBlock ∧ some k_ ≠ ((.slice Ao72 t226.length co72) : Value).ownBlock ∧ some k_ ≠ ((.slice Ao160 t259.length co160) : Value).ownBlock) (.slice Ao52 t243.length co52) t243) ∧ Aside0 (Kd.R (Kd.int .i64) 3 wc w.heap.size (fun k_ => some k_ ≠ ((.slice Ao42 t210.length co42) : Value).ownBlock ∧ some k_ ≠ ((.slice Ao52 t243.length co52) : Value).ownBlock ∧ some k_ ≠ ((.slice Ao72 t226.length co72) : Value).ownBlock ∧ some k_ ≠ ((.slice Ao160 t259.length co160) : Value).ownBlock) (.slice Ao62 t245.length co62) t245) ∧ Aside0 (Kd.R (Kd.int .i64) 3 wc w.heap.size (fun k_ => some k_ ≠ ((.slice Ao42 t210.length co42) : Value).ownBlock ∧ some k_ ≠ ((.slice Ao52 t243.length co52) : Value).ownBlock ∧ some k_ ≠ ((.slice Ao62 t245.length co62) : Value).ownBlock ∧ some k_ ≠ ((.slice Ao160 t259.length co160) : Value).ownBlock) (.slice Ao72 t226.length co72) t248) ∧ Aside0 (Kd.R (Kd.int .i64) 3 wc w.heap.size (fun k_ => some k_ ≠ ((.slice Ao42 t210.length co42) : Value).ownBlock ∧ some k_ ≠ ((.slice Ao52 t243.length co52) : Value).ownBlock ∧ some k_ ≠ ((.slice Ao62 t245.length co62) : Value).ownBlock ∧ some k_ ≠ ((.slice Ao72 t226.length co72) : Value).ownBlock) (.slice Ao160 t259.length co160) t259) ∧ Aside0 (wc.heap[gb197]? = some (.cells #[.int .i64 a0_0, (.slice A0_1 l0_1.length c0_1)] 24 (0, 0))) ∧ Aside0 (wc.heap[gb198]? = some (.cells #[.int .i64 a1_0, (.slice A1_1 l1_1.length c1_1)] 24 (0, 0))) ∧ Aside0 (wc.heap[gb214]? = some (.cells #[.int .i64 t209, (.slice Ao42 t210.length co42)] 26 (0, 0))) ∧ Aside0 (wc.heap[gb219]? = some (.cells #[.int .i64 t215, (.slice Ao52 t243.length co52)] 26 (0, 0))) ∧ Aside0 (wc.heap[gb224]? = some (.cells #[.int .i64 t220, (.slice Ao62 t245.length co62)] 26 (0, 0))) ∧ Aside0 (wc.heap[gb230]? = some (.cells #[.int .i64 t225, (.slice Ao72 t226.length co72)] 26 (0, 0))) ∧ Aside0 (wc.heap[gb263]? = some (.cells #[.int .i64 t258, (.slice Ao160 t259.length co160)] 26 (0, 0))) ∧ Aside0 (Below w.heap.size w wc))
             case first =>
              have H := HC141.out
              clear HC141
              replace H := Option.bind_eq_some_iff.mp H
              obtain ⟨t264, A1620, H⟩ := H
              replace H : (if t264 = true then (laws_FnExactJoinBits.j2 kj95 t247 (t262 != t213) t225 t248) else (none)) = some r := H
              have A162 := am12_ A1620
              clear A1620
              by_cases c163 : t264 = true
              ·subst c163
               have H1 : (laws_FnExactJoinBits.j2 kj95 t247 (t262 != t213) t225 t248) = some r := by rw [if_pos rfl] at H; exact H
               clear H
               have H := H1
               clear H1
               have H' := am12_ H
               clear H
               have hnb164 := NB263_197.out
               have hnc164 := NB197_263.out
               have hnb165 := NB263_198.out
               have hnc165 := NB198_263.out
               have hnb166 := NB263_214.out
               have hnc166 := NB214_263.out
               have hnb167 := NB263_219.out
               have hnc167 := NB219_263.out
               have hnb168 := NB263_224.out
               have hnc168 := NB224_263.out
               have hnb169 := NB263_230.out
               have hnc169 := NB230_263.out
               have hcz170_0 : w158.cell? ⟨gb263, 0, none⟩ = some (.int .i64 0) := (blk_cell BK263.out 0).trans rfl
               have hcz170_1 : w158.cell? ⟨gb263, 1, none⟩ = some (.slice none 0 0) := (blk_cell BK263.out 1).trans rfl
               have hfz170_0 := blk_frozen BK263.out 0
               have hfz170_1 := blk_frozen BK263.out 1
               have hnb171 := NB214_197.out
               have hnc171 := NB197_214.out
               have hnb172 := NB214_198.out
               have hnc172 := NB198_214.out
               have hnb173 := NB214_219.out
               have hnc173 := NB219_214.out
               have hnb174 := NB214_224.out
               have hnc174 := NB224_214.out
               have hnb175 := NB214_230.out
               have hnc175 := NB230_214.out
               have hcz176_0 : w158.cell? ⟨gb214, 0, none⟩ = some (.int .i64 t209) := (blk_cell BK214.out 0).trans rfl
               have hcz176_1 : w158.cell? ⟨gb214, 1, none⟩ = some (.slice Ao42 t210.length co42) := (blk_cell BK214.out 1).trans rfl
               have hfz176_0 := blk_frozen BK214.out 0
               have hfz176_1 := blk_frozen BK214.out 1
               have Z5_ := am12_ (Kd.R_far (p := ⟨gb263, 1, none⟩) (Kd.R_far (p := ⟨gb263, 0, none⟩) (Kd.R_types HO261.out BK263.out (by decide)) (fun _ hk => hk.2) (.int .i64 t258)) (fun _ hk => hk.2) (.slice Ao160 t259.length co160))
               have Z4_ := am12_ (Kd.R_far (p := ⟨gb263, 1, none⟩) (Kd.R_far (p := ⟨gb263, 0, none⟩) (Kd.R_types HO_215001.out BK263.out (by decide)) (fun _ hk => hk.2) (.int .i64 t258)) (fun _ hk => hk.2) (.slice Ao160 t259.length co160))
               go_wp2_with (first | ((with_reducible refine gate_callee (f := 20) rfl ?_); refine goesL_ (some 104) rfl rfl Try.func20 (by kernel_rfl) rfl #[.agg #[.int .i64 t258, .slice Ao160 t259.length co160], .agg #[.int .i64 t209, .slice Ao42 t210.length co42]] rfl lm12_ ?_; (with_reducible refine (laws_eqBits.calls kj95 t258 _ _ t259 t209 _ _ t210 true _ ?side1 ?side2 ?side3 ?side4 A162.out).mono ?_); (case side1 => refine (Kd.R_reads' (e := 3) (base := w.heap.size) (ok := fun k_ => (some k_ ≠ (v252 : Value).ownBlock ∧ (some k_ ≠ (v256 : Value).ownBlock ∧ (some k_ ≠ (.slice Ao42 t210.length co42 : Value).ownBlock ∧ (some k_ ≠ (.slice Ao52 t243.length co52 : Value).ownBlock ∧ (some k_ ≠ (.slice Ao62 t245.length co62 : Value).ownBlock ∧ some k_ ≠ (.slice Ao72 t226.length co72 : Value).ownBlock)))))) (n := t259.length) (c := co160) ?_).2.2; exact (lt12_ (Kd.R_mono Z5_.out (fun _ h_ => h_.1)))); (case side2 => exact (Kd.R_reads' HO261.out).2.1); (case side3 => refine (Kd.R_reads' (e := 3) (base := w.heap.size) (ok := fun k_ => (some k_ ≠ (v252 : Value).ownBlock ∧ (some k_ ≠ (v256 : Value).ownBlock ∧ (some k_ ≠ (.slice Ao160 t259.length co160 : Value).ownBlock ∧ (some k_ ≠ (.slice Ao52 t243.length co52 : Value).ownBlock ∧ (some k_ ≠ (.slice Ao62 t245.length co62 : Value).ownBlock ∧ some k_ ≠ (.slice Ao72 t226.length co72 : Value).ownBlock)))))) (n := t210.length) (c := co42) ?_).2.2; exact (lt12_ (Kd.R_mono Z4_.out (fun _ h_ => h_.1)))); (case side4 => exact (Kd.R_reads' HO_215001.out).2.1); rintro e w177 ⟨rfl, hb⟩; refine ⟨_, rfl, ?_⟩; have n0_ := am12_ (Kd.R_below (lt12_ (Kd.R_mono Z4_.out (fun _ h_ => h_.1))) hb); have n1_ := am12_ (Kd.R_below (lt12_ (Kd.R_mono (Kd.R_far (p := ⟨gb263, 1, none⟩) (Kd.R_far (p := ⟨gb263, 0, none⟩) (Kd.R_types HO_220001.out BK263.out (by decide)) (fun _ hk => hk.2) (.int .i64 t258)) (fun _ hk => hk.2) (.slice Ao160 t259.length co160)) (fun _ h_ => h_.1))) hb); have n2_ := am12_ (Kd.R_below (lt12_ (Kd.R_mono (Kd.R_far (p := ⟨gb263, 1, none⟩) (Kd.R_far (p := ⟨gb263, 0, none⟩) (Kd.R_types HO_225001.out BK263.out (by decide)) (fun _ hk => hk.2) (.int .i64 t258)) (fun _ hk => hk.2) (.slice Ao160 t259.length co160)) (fun _ h_ => h_.1))) hb); have n3_ := am12_ (Kd.R_below (lt12_ (Kd.R_mono (Kd.R_far (p := ⟨gb263, 1, none⟩) (Kd.R_far (p := ⟨gb263, 0, none⟩) (Kd.R_types HO_231001.out BK263.out (by decide)) (fun _ hk => hk.2) (.int .i64 t258)) (fun _ hk => hk.2) (.slice Ao160 t259.length co160)) (fun _ h_ => h_.1))) hb); have n4_ := am12_ (Kd.R_below (lt12_ (Kd.R_mono (Kd.R_far (p := ⟨gb263, 1, none⟩) (Kd.R_far (p := ⟨gb263, 0, none⟩) (Kd.R_types HO253.out BK263.out (by decide)) (fun _ hk => hk.2) (.int .i64 t258)) (fun _ hk => hk.2) (.slice Ao160 t259.length co160)) (fun _ h_ => h_.1))) hb); have n5_ := am12_ (Kd.R_below (lt12_ (Kd.R_mono (Kd.R_far (p := ⟨gb263, 1, none⟩) (Kd.R_far (p := ⟨gb263, 0, none⟩) (Kd.R_types HO257.out BK263.out (by decide)) (fun _ hk => hk.2) (.int .i64 t258)) (fun _ hk => hk.2) (.slice Ao160 t259.length co160)) (fun _ h_ => h_.1))) hb); have n6_ := am12_ (Kd.R_below (lt12_ (Kd.R_mono Z5_.out (fun _ h_ => h_.1))) hb); have n7_ := am12_ (blk_below (g := gb197) (o := .cells #[.int .i64 a0_0, .slice A0_1 l0_1.length c0_1] 24 (0, 0)) (by (with_reducible repeat (first | refine blk_drewN ?_ _ | refine blk_drew ?_ | refine blk_alloc ?_ _)); refine blk_far ?_ NB197_263.out _; (with_reducible repeat (first | refine blk_drewN ?_ _ | refine blk_drew ?_ | refine blk_alloc ?_ _)); refine blk_far ?_ NB197_263.out _; (with_reducible repeat (first | refine blk_drewN ?_ _ | refine blk_drew ?_ | refine blk_alloc ?_ _)); exact BK197.out) hb); have n8_ := am12_ (blk_below (g := gb198) (o := .cells #[.int .i64 a1_0, .slice A1_1 l1_1.length c1_1] 24 (0, 0)) (by (with_reducible repeat (first | refine blk_drewN ?_ _ | refine blk_drew ?_ | refine blk_alloc ?_ _)); refine blk_far ?_ NB198_263.out _; (with_reducible repeat (first | refine blk_drewN ?_ _ | refine blk_drew ?_ | refine blk_alloc ?_ _)); refine blk_far ?_ NB198_263.out _; (with_reducible repeat (first | refine blk_drewN ?_ _ | refine blk_drew ?_ | refine blk_alloc ?_ _)); exact BK198.out) hb); have n9_ := am12_ (blk_below (g := gb214) (o := .cells #[.int .i64 t209, .slice Ao42 t210.length co42] 26 (0, 0)) (by (with_reducible repeat (first | refine blk_drewN ?_ _ | refine blk_drew ?_ | refine blk_alloc ?_ _)); refine blk_far ?_ NB214_263.out _; (with_reducible repeat (first | refine blk_drewN ?_ _ | refine blk_drew ?_ | refine blk_alloc ?_ _)); refine blk_far ?_ NB214_263.out _; (with_reducible repeat (first | refine blk_drewN ?_ _ | refine blk_drew ?_ | refine blk_alloc ?_ _)); exact BK214.out) hb); have n10_ := am12_ (blk_below (g := gb219) (o := .cells #[.int .i64 t215, .slice Ao52 t243.length co52] 26 (0, 0)) (by (with_reducible repeat (first | refine blk_drewN ?_ _ | refine blk_drew ?_ | refine blk_alloc ?_ _)); refine blk_far ?_ NB219_263.out _; (with_reducible repeat (first | refine blk_drewN ?_ _ | refine blk_drew ?_ | refine blk_alloc ?_ _)); refine blk_far ?_ NB219_263.out _; (with_reducible repeat (first | refine blk_drewN ?_ _ | refine blk_drew ?_ | refine blk_alloc ?_ _)); exact BK219.out) hb); have n11_ := am12_ (blk_below (g := gb224) (o := .cells #[.int .i64 t220, .slice Ao62 t245.length co62] 26 (0, 0)) (by (with_reducible repeat (first | refine blk_drewN ?_ _ | refine blk_drew ?_ | refine blk_alloc ?_ _)); refine blk_far ?_ NB224_263.out _; (with_reducible repeat (first | refine blk_drewN ?_ _ | refine blk_drew ?_ | refine blk_alloc ?_ _)); refine blk_far ?_ NB224_263.out _; (with_reducible repeat (first | refine blk_drewN ?_ _ | refine blk_drew ?_ | refine blk_alloc ?_ _)); exact BK224.out) hb); have n12_ := am12_ (blk_below (g := gb230) (o := .cells #[.int .i64 t225, .slice Ao72 t226.length co72] 26 (0, 0)) (by (with_reducible repeat (first | refine blk_drewN ?_ _ | refine blk_drew ?_ | refine blk_alloc ?_ _)); refine blk_far ?_ NB230_263.out _; (with_reducible repeat (first | refine blk_drewN ?_ _ | refine blk_drew ?_ | refine blk_alloc ?_ _)); refine blk_far ?_ NB230_263.out _; (with_reducible repeat (first | refine blk_drewN ?_ _ | refine blk_drew ?_ | refine blk_alloc ?_ _)); exact BK230.out) hb); have n13_ := am12_ (blk_below (g := gb263) (o := .cells #[.int .i64 t258, .slice Ao160 t259.length co160] 26 (0, 0)) (by (with_reducible repeat (first | refine blk_drewN ?_ _ | refine blk_drew ?_ | refine blk_alloc ?_ _)); refine blk_put (cs := #[.int .i64 t258, .slice none 0 0]) ?_ 1 _ rfl; (with_reducible repeat (first | refine blk_drewN ?_ _ | refine blk_drew ?_ | refine blk_alloc ?_ _)); refine blk_put (cs := #[.int .i64 0, .slice none 0 0]) ?_ 0 _ rfl; (with_reducible repeat (first | refine blk_drewN ?_ _ | refine blk_drew ?_ | refine blk_alloc ?_ _)); exact BK263.out) hb); have n14_ := am12_ (below_step (lw12_ HB) hb); clear HO_215001; clear HO_220001; clear HO_225001; clear HO_231001; clear HO253; clear HO257; clear HO261; clear BK197; clear BK198; clear BK214; clear BK219; clear BK224; clear BK230; clear BK263; clear HB; have HO_215001 := n0_; have HO_220001 := n1_; have HO_225001 := n2_; have HO_231001 := n3_; have HO253 := n4_; have HO257 := n5_; have HO261 := n6_; have BK197 := n7_; have BK198 := n8_; have BK214 := n9_; have BK219 := n10_; have BK224 := n11_; have BK230 := n12_; have BK263 := n13_; have HB := n14_; clear n0_ n1_ n2_ n3_ n4_ n5_ n6_ n7_ n8_ n9_ n10_ n11_ n12_ n13_ n14_; (try clear hb); (try clear hb2); (try clear hk); (try clear hi)))
               go_meet
               case rel => exact ⟨_, ((t262 != t213)), (by first | rfl | (simp; done) | (simp [*]; done)), H', ⟨by have := HJ24.out; have := HJ95.out; first | omega | exact Nat.le_refl _⟩, ⟨by (try simp only [hl220001_95]); (try simp only [hl225001_95]); (with_reducible repeat (first | apply Kd.R_alloc | apply Kd.R_drewN | apply Kd.R_drew)); exact Kd.R_mono HO_215001.out (fun _ hk => ⟨hk.2.2.2.1, ⟨hk.2.2.2.2.1, ⟨hk.2.2.2.2.2, hk.2.2.1⟩⟩⟩)⟩, ⟨by (try simp only [hl220001_95]); (try simp only [hl225001_95]); (with_reducible repeat (first | apply Kd.R_alloc | apply Kd.R_drewN | apply Kd.R_drew)); exact Kd.R_mono HO_220001.out (fun _ hk => ⟨hk.2.2.2.1, ⟨hk.2.2.2.2.1, ⟨hk.2.2.2.2.2, hk.2.2.1⟩⟩⟩)⟩, ⟨by (try simp only [hl220001_95]); (try simp only [hl225001_95]); (with_reducible repeat (first | apply Kd.R_alloc | apply Kd.R_drewN | apply Kd.R_drew)); exact Kd.R_mono HO_225001.out (fun _ hk => ⟨hk.2.2.2.1, ⟨hk.2.2.2.2.1, ⟨hk.2.2.2.2.2, hk.2.2.1⟩⟩⟩)⟩, ⟨by (try simp only [hl220001_95]); (try simp only [hl225001_95]); (with_reducible repeat (first | apply Kd.R_alloc | apply Kd.R_drewN | apply Kd.R_drew)); exact Kd.R_mono HO_231001.out (fun _ hk => ⟨hk.2.2.2.1, ⟨hk.2.2.2.2.1, ⟨hk.2.2.2.2.2, hk.2.2.1⟩⟩⟩)⟩, ⟨by (try simp only [hl220001_95]); (try simp only [hl225001_95]); (with_reducible repeat (first | apply Kd.R_alloc | apply Kd.R_drewN | apply Kd.R_drew)); exact Kd.R_mono HO261.out (fun _ hk => ⟨hk.2.2.1, ⟨hk.2.2.2.1, ⟨hk.2.2.2.2.1, hk.2.2.2.2.2⟩⟩⟩)⟩, ⟨by (try simp only [hl220001_95]); (try simp only [hl225001_95]); (with_reducible repeat (first | refine blk_drewN ?_ _ | refine blk_drew ?_ | refine blk_alloc ?_ _)); exact BK197.out⟩, ⟨by (try simp only [hl220001_95]); (try simp only [hl225001_95]); (with_reducible repeat (first | refine blk_drewN ?_ _ | refine blk_drew ?_ | refine blk_alloc ?_ _)); exact BK198.out⟩, ⟨by (try simp only [hl220001_95]); (try simp only [hl225001_95]); (with_reducible repeat (first | refine blk_drewN ?_ _ | refine blk_drew ?_ | refine blk_alloc ?_ _)); exact BK214.out⟩, ⟨by (try simp only [hl220001_95]); (try simp only [hl225001_95]); (with_reducible repeat (first | refine blk_drewN ?_ _ | refine blk_drew ?_ | refine blk_alloc ?_ _)); exact BK219.out⟩, ⟨by (try simp only [hl220001_95]); (try simp only [hl225001_95]); (with_reducible repeat (first | refine blk_drewN ?_ _ | refine blk_drew ?_ | refine blk_alloc ?_ _)); exact BK224.out⟩, ⟨by (try simp only [hl220001_95]); (try simp only [hl225001_95]); (with_reducible repeat (first | refine blk_drewN ?_ _ | refine blk_drew ?_ | refine blk_alloc ?_ _)); exact BK230.out⟩, ⟨by (try simp only [hl220001_95]); (try simp only [hl225001_95]); (with_reducible repeat (first | refine blk_drewN ?_ _ | refine blk_drew ?_ | refine blk_alloc ?_ _)); exact BK263.out⟩, ⟨lw12_ HB⟩⟩
              ·replace c163 := Bool.eq_false_iff.mpr c163
               subst c163
               have H1 : (none) = some r := by rw [if_neg (show ¬ (false = true) by decide)] at H; exact H
               clear H
               have H := H1
               clear H1
               exact absurd H (by simp)
             case rest =>
              clear HC141
              try clear c1
              try clear c2
              try clear p2
              try clear c16
              try clear c17
              try clear c18
              try clear c20
              try clear c26
              try clear c163
              try clear c164
              try clear c165
              try clear c166
              try clear c167
              try clear c168
              try clear c169
              try clear c171
              try clear c172
              try clear c173
              try clear c174
              try clear c175
              try clear hcz170_0
              try clear hcz170_1
              try clear hcz176_0
              try clear hcz176_1
              try clear hfz170_0
              try clear hfz170_1
              try clear hfz176_0
              try clear hfz176_1
              obtain ⟨kq, x110_140, rfl, HA, HJ140, HO_215001, HO_220001, HO_225001, HO_231001, HO_264001, BK197, BK198, BK214, BK219, BK224, BK230, BK263, HB⟩ := hcut
              have hl231001_140 := (Kd.R_reads' HO_231001.out).1
              rw [hl231001_140] at HO_231001
              (try simp only [hl231001_140])
              (try simp only [hl231001_140] at BK197)
              (try simp only [hl231001_140] at BK198)
              (try simp only [hl231001_140] at BK214)
              (try simp only [hl231001_140] at BK219)
              (try simp only [hl231001_140] at BK224)
              (try simp only [hl231001_140] at BK230)
              (try simp only [hl231001_140] at BK263)
              (try simp only [hl231001_140] at HO_215001)
              (try simp only [hl231001_140] at HO_220001)
              (try simp only [hl231001_140] at HO_225001)
              (try simp only [hl231001_140] at HO_264001)
              cases kq with
              | zero => exact absurd HA.out (by simp [laws_FnExactJoinBits.j2])
              | succ kj140 =>
               have H := HA.out
               clear HA
               simp only [laws_FnExactJoinBits.j2] at H
               by_cases c178 : x110_140 = true
               ·subst c178
                have H1 : (none) = some r := by rw [if_pos rfl] at H; exact H
                clear H
                have H := H1
                clear H1
                exact absurd H (by simp)
               ·replace c178 := Bool.eq_false_iff.mpr c178
                subst c178
                have H1 : ((laws_heldBits.f kj140 t225 t248 1).bind fun t265 => (if t265 < 0 then (none) else (if t265 = t247 then (some true) else (none)))) = some r := by rw [if_neg (show ¬ (false = true) by decide)] at H; exact H
                clear H
                have H := H1
                clear H1
                replace H := Option.bind_eq_some_iff.mp H
                obtain ⟨t265, A1790, H⟩ := H
                replace H : (if t265 < 0 then (none) else (if t265 = t247 then (some true) else (none))) = some r := H
                have A179 := am12_ A1790
                clear A1790
                by_cases c180 : t265 < 0
                ·rw [if_pos c180] at H
                 exact absurd H (by simp)
                ·rw [if_neg c180] at H
                 have c180b0 : decide (t265 < 0) = false := decide_eq_false c180
                 clear c180
                 by_cases c181 : t265 = t247
                 ·rw [if_pos c181] at H
                  have c181b0 : (t265 == t247) = true := beq_iff_eq.mpr c181
                  have c181b1 : (t265 != t247) = false := bne_eq_false_iff_eq.mpr c181
                  clear c181
                  obtain rfl := Option.some.inj H
                  have hnb182 := NB230_197.out
                  have hnc182 := NB197_230.out
                  have hnb183 := NB230_198.out
                  have hnc183 := NB198_230.out
                  have hnb184 := NB230_214.out
                  have hnc184 := NB214_230.out
                  have hnb185 := NB230_219.out
                  have hnc185 := NB219_230.out
                  have hnb186 := NB230_224.out
                  have hnc186 := NB224_230.out
                  have hnb187 := NB230_263.out
                  have hnc187 := NB263_230.out
                  have hcz188_0 : wc.cell? ⟨gb230, 0, none⟩ = some (.int .i64 t225) := (blk_cell BK230.out 0).trans rfl
                  have hcz188_1 : wc.cell? ⟨gb230, 1, none⟩ = some (.slice Ao72 t248.length co72) := (blk_cell BK230.out 1).trans rfl
                  have hfz188_0 := blk_frozen BK230.out 0
                  have hfz188_1 := blk_frozen BK230.out 1
                  go_wp2_with (first | ((with_reducible refine gate_callee (f := 22) rfl ?_); refine goesL_ (some 113) rfl rfl Try.func22 (by kernel_rfl) rfl #[.agg #[.int .i64 t225, .slice Ao72 t248.length co72], .int .i64 1] rfl lm12_ ?_; (with_reducible refine (laws_heldBits.calls kj140 t225 _ _ t248 1 t265 _ ?side1 ?side2 A179.out).mono ?_); (case side1 => exact lc12_ (Kd.R_reads' HO_231001.out).2.2); (case side2 => exact (Kd.R_reads' HO_231001.out).2.1); rintro e w189 ⟨rfl, hb⟩; refine ⟨_, rfl, ?_⟩; have n0_ := am12_ (Kd.R_below (lf12_ HO_215001) hb); have n1_ := am12_ (Kd.R_below (lf12_ HO_220001) hb); have n2_ := am12_ (Kd.R_below (lf12_ HO_225001) hb); have n3_ := am12_ (Kd.R_below (lf12_ HO_231001) hb); have n4_ := am12_ (Kd.R_below (lf12_ HO_264001) hb); have n5_ := am12_ (blk_below (g := gb197) (o := .cells #[.int .i64 a0_0, .slice A0_1 l0_1.length c0_1] 24 (0, 0)) (lb12_ BK197) hb); have n6_ := am12_ (blk_below (g := gb198) (o := .cells #[.int .i64 a1_0, .slice A1_1 l1_1.length c1_1] 24 (0, 0)) (lb12_ BK198) hb); have n7_ := am12_ (blk_below (g := gb214) (o := .cells #[.int .i64 t209, .slice Ao42 t210.length co42] 26 (0, 0)) (lb12_ BK214) hb); have n8_ := am12_ (blk_below (g := gb219) (o := .cells #[.int .i64 t215, .slice Ao52 t243.length co52] 26 (0, 0)) (lb12_ BK219) hb); have n9_ := am12_ (blk_below (g := gb224) (o := .cells #[.int .i64 t220, .slice Ao62 t245.length co62] 26 (0, 0)) (lb12_ BK224) hb); have n10_ := am12_ (blk_below (g := gb230) (o := .cells #[.int .i64 t225, .slice Ao72 t248.length co72] 26 (0, 0)) (lb12_ BK230) hb); have n11_ := am12_ (blk_below (g := gb263) (o := .cells #[.int .i64 t258, .slice Ao160 t259.length co160] 26 (0, 0)) (lb12_ BK263) hb); have n12_ := am12_ (below_step (lw12_ HB) hb); clear HO_215001; clear HO_220001; clear HO_225001; clear HO_231001; clear HO_264001; clear BK197; clear BK198; clear BK214; clear BK219; clear BK224; clear BK230; clear BK263; clear HB; have HO_215001 := n0_; have HO_220001 := n1_; have HO_225001 := n2_; have HO_231001 := n3_; have HO_264001 := n4_; have BK197 := n5_; have BK198 := n6_; have BK214 := n7_; have BK219 := n8_; have BK224 := n9_; have BK230 := n10_; have BK263 := n11_; have HB := n12_; clear n0_ n1_ n2_ n3_ n4_ n5_ n6_ n7_ n8_ n9_ n10_ n11_ n12_; (try clear hb); (try clear hb2); (try clear hk); (try clear hi)))
                  go_ret
                  exact ⟨by first | rfl | (simp [errW_none, errW_some] <;> rfl) | (simp [*, errW_none, errW_some] <;> rfl), lw12_ HB⟩
                 ·rw [if_neg c181] at H
                  exact absurd H (by simp)
            ·rw [if_neg c137] at H
             exact absurd H (by simp)
       ·replace c93 := Bool.eq_false_iff.mpr c93
        subst c93
        have H1 : (none) = some r := by rw [if_neg (show ¬ (false = true) by decide)] at H; exact H
        clear H
        have H := H1
        clear H1
        exact absurd H (by simp)
      ·replace c90 := Bool.eq_false_iff.mpr c90
       subst c90
       have H1 : (none) = some r := by rw [if_neg (show ¬ (false = true) by decide)] at H; exact H
       clear H
       have H := H1
       clear H1
       exact absurd H (by simp)

/-- The plain statement of laws_FnExactJoinBits. -/
def laws_FnExactJoinBits.Pure : Prop := ∀ (a0_0 : Int) (l0_1 : List Int) (a1_0 : Int) (l1_1 : List Int), (Lit.int .i64 a0_0).wf = true → l0_1.length ≤ maxLen → (∀ x ∈ l0_1, (Lit.int .i64 x).wf = true) → (Lit.int .i64 a1_0).wf = true → l1_1.length ≤ maxLen → (∀ x ∈ l1_1, (Lit.int .i64 x).wf = true) → ∃ k, laws_FnExactJoinBits.f k a0_0 l0_1 a1_0 l1_1 = some true

end Go.Proofs.Ytkmhjgejficclaa.PFnExactJoinBits
