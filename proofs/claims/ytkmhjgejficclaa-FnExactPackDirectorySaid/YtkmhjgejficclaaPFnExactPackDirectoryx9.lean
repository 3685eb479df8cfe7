-- Laid by a program of this session: the print of the kit with additions of ours (wip/tools/patchprint.py). Nothing of it is trusted: Lean checks it.
import Derived.Test.YtkmhjgejficclaaPFnExactPackDirectoryx0
import Derived.Test.YtkmhjgejficclaaPFnExactPackDirectoryx1
import Derived.Test.YtkmhjgejficclaaPFnExactPackDirectoryx2
import Derived.Test.YtkmhjgejficclaaPFnExactPackDirectoryx5
import Derived.Test.YtkmhjgejficclaaPFnExactPackDirectoryx8
namespace Go.Proofs.Ytkmhjgejficclaa.PFnExactPackDirectory
open Go.RowKit Go.Proofs.YtkmhjgejficclaaW.PrintWords Go.Proofs.YtkmhjgejficclaaW.PrintLast Go.Proofs.YtkmhjgejficclaaW.PrintMore
attribute [local go_sem] max2_int min2_int max_two min_two max_three min_three max_four min_four   -- for this text's walks alone
set_option linter.unusedVariables false
set_option linter.unusedSimpArgs false

theorem am26_ {p : Prop} (h : p) : Aside0 p := ⟨h⟩
theorem lm26_ {P : Prop} (h : P := by (try simp only [List.map_toArray, List.map_cons, List.map_nil]); first | done | rfl | (simp only [List.length_drop, List.length_take]; rfl)) : P := h
theorem lc26_ {P Q : Prop} (h : P) (f : P → Q := by intro h_; repeat (first | exact h_ | (with_reducible refine Kd.C_alloc ?_ _) | (with_reducible refine Kd.C_drewN ?_ _) | (with_reducible refine Kd.C_drew ?_))) : Q := f h
theorem lt26_ {P Q : Prop} (h : P) (f : P → Q := by intro h_; (with_reducible repeat (first | apply Kd.R_alloc | apply Kd.R_drewN | apply Kd.R_drew)); exact h_) : Q := f h
theorem lf26_ {P Q : Prop} (h : Aside0 P) (f : P → Q := by intro h_; (with_reducible repeat (first | apply Kd.R_alloc | apply Kd.R_drewN | apply Kd.R_drew)); exact h_) : Q := f h.out
theorem lb26_ {P Q : Prop} (h : Aside0 P) (f : P → Q := by intro h_; (with_reducible repeat (first | refine blk_drewN ?_ _ | refine blk_drew ?_ | refine blk_alloc ?_ _)); exact h_) : Q := f h.out
theorem lw26_ {P Q : Prop} (h : Aside0 P) (f : P → Q := by intro h_; repeat (first | (with_reducible first | exact h_ | apply below_alloc | apply pw_below_drewN | apply below_drew1 | refine below_set ?_ (Aside0.out (by assumption))) | exact h_)) : Q := f h.out
/-! ### laws_FnExactPackDirectory: function 9 -/
mutual
def laws_FnExactPackDirectory.j0 : Nat → Bool → Bool → Bool → Int → List Int → List Int → List Int → Int → List Int → Int → List Int → List Int → List Int → Int → List Int → Option (Bool)
 | 0, _, _, _, _, _, _, _, _, _, _, _, _, _, _, _ => none
 | k + 1, x5, x8, x40, x337000, x337001, x337002, x337003, x354000, x354001, x365000, x365001, x365002, x365003, x371000, x371001 => if x40 = true then (none) else ((laws_toRanked.f k x337000 x337001 x337002 x337003).bind fun bt372 => ((laws_eqRanked.f k x365000 x365001 x365002 x365003 bt372.1 bt372.2.1 bt372.2.2.1 bt372.2.2.2).bind fun t382 => (if t382 = true then ((laws_markRanked.f k x365000 x365001 x365002 x365003 1).bind fun bt383 => (if bt383.1 < 0 then (none) else ((laws_eqBits.f k x371000 x371001 x354000 x354001).bind fun t387 => (if t387 = true then (laws_FnExactPackDirectory.j1 k x5 (x8 != x5) x337000 x337001 x337002 x337003 x354000 x354001 x371000 x371001) else (none))))) else (none))))
def laws_FnExactPackDirectory.j1 : Nat → Bool → Bool → Int → List Int → List Int → List Int → Int → List Int → Int → List Int → Option (Bool)
 | 0, _, _, _, _, _, _, _, _, _, _ => none
 | k + 1, x5, x61, x337000, x337001, x337002, x337003, x354000, x354001, x371000, x371001 => if x61 = true then (none) else ((laws_markBits.f k x371000 x371001 1).bind fun bt388 => ((laws_heldBits.f k x371000 bt388.2 1).bind fun t390 => (if t390 < 0 then (none) else (if t390 = bt388.1 then ((laws_toRanked.f k x337000 x337001 x337002 x337003).bind fun bt391 => ((impl_PackDirectory.f k bt391.1 bt391.2.1 bt391.2.2.1 bt391.2.2.2).bind fun bt401 => ((laws_eqBits.f k bt401.1 bt401.2.1 x354000 x354001).bind fun t407 => (if t407 = true then (laws_FnExactPackDirectory.j2 k bt388.1 (bt401.2.2 != x5) x371000 bt388.2) else (none))))) else (none)))))
def laws_FnExactPackDirectory.j2 : Nat → Int → Bool → Int → List Int → Option (Bool)
 | 0, _, _, _, _ => none
 | k + 1, x10, x87, x371000, x371001 => if x87 = true then (none) else ((laws_heldBits.f k x371000 x371001 1).bind fun t408 => (if t408 < 0 then (none) else (if t408 = x10 then (some true) else (none))))
end
def laws_FnExactPackDirectory.f (k : Nat) (a0_0 : Int) (l0_1 : List Int) (l0_2 : List Int) (l0_3 : List Int) : Option (Bool) := (laws_szRanked.f a0_0 l0_1 l0_2 l0_3 1048576).bind fun t337 => (if t337 < 0 then (some true) else ((laws_toRanked.f k a0_0 l0_1 l0_2 l0_3).bind fun bt338 => ((spec_PackDirectory.f k bt338.1 bt338.2.1 bt338.2.2.1 bt338.2.2.2).bind fun bt348 => ((laws_toRanked.f k a0_0 l0_1 l0_2 l0_3).bind fun bt354 => ((impl_PackDirectory.f k bt354.1 bt354.2.1 bt354.2.2.1 bt354.2.2.2).bind fun bt365 => ((laws_eqBits.f k bt365.1 bt365.2.1 bt348.1 bt348.2.1).bind fun t371 => (if t371 = true then (laws_FnExactPackDirectory.j0 k bt348.2.2 bt365.2.2 (bt365.2.2 != bt348.2.2) a0_0 l0_1 l0_2 l0_3 bt348.1 bt348.2.1 bt354.1 bt354.2.1 bt354.2.2.1 bt354.2.2.2 bt365.1 bt365.2.1) else (none))))))))
theorem laws_FnExactPackDirectory.mono_l : ∀ k, (∀ y0 y1 y2 y3 y4 y5 y6 y7 y8 y9 y10 y11 y12 y13 y14, LeO (laws_FnExactPackDirectory.j0 k y0 y1 y2 y3 y4 y5 y6 y7 y8 y9 y10 y11 y12 y13 y14) (laws_FnExactPackDirectory.j0 (k + 1) y0 y1 y2 y3 y4 y5 y6 y7 y8 y9 y10 y11 y12 y13 y14)) ∧ (∀ y0 y1 y2 y3 y4 y5 y6 y7 y8 y9, LeO (laws_FnExactPackDirectory.j1 k y0 y1 y2 y3 y4 y5 y6 y7 y8 y9) (laws_FnExactPackDirectory.j1 (k + 1) y0 y1 y2 y3 y4 y5 y6 y7 y8 y9)) ∧ (∀ y0 y1 y2 y3, LeO (laws_FnExactPackDirectory.j2 k y0 y1 y2 y3) (laws_FnExactPackDirectory.j2 (k + 1) y0 y1 y2 y3))
 | 0 => ⟨fun _ _ _ _ _ _ _ _ _ _ _ _ _ _ _ r h => by simp [laws_FnExactPackDirectory.j0] at h, fun _ _ _ _ _ _ _ _ _ _ r h => by simp [laws_FnExactPackDirectory.j1] at h, fun _ _ _ _ r h => by simp [laws_FnExactPackDirectory.j2] at h⟩
 | k + 1 => by
  obtain ⟨ih0, ih1, ih2⟩ := laws_FnExactPackDirectory.mono_l k
  refine ⟨?_, ?_, ?_⟩
  ·intro y0 y1 y2 y3 y4 y5 y6 y7 y8 y9 y10 y11 y12 y13 y14
   unfold laws_FnExactPackDirectory.j0
   repeat' first
   | (with_reducible exact ih0 _ _ _ _ _ _ _ _ _ _ _ _ _ _ _)
   | (with_reducible exact ih1 _ _ _ _ _ _ _ _ _ _)
   | (with_reducible exact ih2 _ _ _ _)
   | (with_reducible exact impl_PackDirectory.mono _ _ _ _ _)
   | (with_reducible exact laws_eqBits.mono _ _ _ _ _)
   | (with_reducible exact laws_eqRanked.mono _ _ _ _ _ _ _ _ _)
   | (with_reducible exact laws_heldBits.mono _ _ _ _)
   | (with_reducible exact laws_markBits.mono _ _ _ _)
   | (with_reducible exact laws_markRanked.mono _ _ _ _ _ _)
   | (with_reducible exact laws_toRanked.mono _ _ _ _ _)
   | (with_reducible exact spec_PackDirectory.mono _ _ _ _ _)
   | (with_reducible exact LeO.refl _)
   | (with_reducible exact LeO.none _)
   | (with_reducible refine LeO.ite ?_ ?_)
   | (with_reducible refine LeO.bind ?_ (fun _ => ?_))
   | exact ih0 _ _ _ _ _ _ _ _ _ _ _ _ _ _ _
   | exact ih1 _ _ _ _ _ _ _ _ _ _
   | exact ih2 _ _ _ _
   | exact impl_PackDirectory.mono _ _ _ _ _
   | exact laws_eqBits.mono _ _ _ _ _
   | exact laws_eqRanked.mono _ _ _ _ _ _ _ _ _
   | exact laws_heldBits.mono _ _ _ _
   | exact laws_markBits.mono _ _ _ _
   | exact laws_markRanked.mono _ _ _ _ _ _
   | exact laws_toRanked.mono _ _ _ _ _
   | exact spec_PackDirectory.mono _ _ _ _ _
   | exact LeO.none _
   | refine LeO.ite ?_ ?_
   | refine LeO.bind ?_ (fun _ => ?_)
  ·intro y0 y1 y2 y3 y4 y5 y6 y7 y8 y9
   unfold laws_FnExactPackDirectory.j1
   repeat' first
   | (with_reducible exact ih0 _ _ _ _ _ _ _ _ _ _ _ _ _ _ _)
   | (with_reducible exact ih1 _ _ _ _ _ _ _ _ _ _)
   | (with_reducible exact ih2 _ _ _ _)
   | (with_reducible exact impl_PackDirectory.mono _ _ _ _ _)
   | (with_reducible exact laws_eqBits.mono _ _ _ _ _)
   | (with_reducible exact laws_eqRanked.mono _ _ _ _ _ _ _ _ _)
   | (with_reducible exact laws_heldBits.mono _ _ _ _)
   | (with_reducible exact laws_markBits.mono _ _ _ _)
   | (with_reducible exact laws_markRanked.mono _ _ _ _ _ _)
   | (with_reducible exact laws_toRanked.mono _ _ _ _ _)
   | (with_reducible exact spec_PackDirectory.mono _ _ _ _ _)
   | (with_reducible exact LeO.refl _)
   | (with_reducible exact LeO.none _)
   | (with_reducible refine LeO.ite ?_ ?_)
   | (with_reducible refine LeO.bind ?_ (fun _ => ?_))
   | exact ih0 _ _ _ _ _ _ _ _ _ _ _ _ _ _ _
   | exact ih1 _ _ _ _ _ _ _ _ _ _
   | exact ih2 _ _ _ _
   | exact impl_PackDirectory.mono _ _ _ _ _
   | exact laws_eqBits.mono _ _ _ _ _
   | exact laws_eqRanked.mono _ _ _ _ _ _ _ _ _
   | exact laws_heldBits.mono _ _ _ _
   | exact laws_markBits.mono _ _ _ _
   | exact laws_markRanked.mono _ _ _ _ _ _
   | exact laws_toRanked.mono _ _ _ _ _
   | exact spec_PackDirectory.mono _ _ _ _ _
   | exact LeO.none _
   | refine LeO.ite ?_ ?_
   | refine LeO.bind ?_ (fun _ => ?_)
  ·intro y0 y1 y2 y3
   unfold laws_FnExactPackDirectory.j2
   repeat' first
   | (with_reducible exact ih0 _ _ _ _ _ _ _ _ _ _ _ _ _ _ _)
   | (with_reducible exact ih1 _ _ _ _ _ _ _ _ _ _)
   | (with_reducible exact ih2 _ _ _ _)
   | (with_reducible exact impl_PackDirectory.mono _ _ _ _ _)
   | (with_reducible exact laws_eqBits.mono _ _ _ _ _)
   | (with_reducible exact laws_eqRanked.mono _ _ _ _ _ _ _ _ _)
   | (with_reducible exact laws_heldBits.mono _ _ _ _)
   | (with_reducible exact laws_markBits.mono _ _ _ _)
   | (with_reducible exact laws_markRanked.mono _ _ _ _ _ _)
   | (with_reducible exact laws_toRanked.mono _ _ _ _ _)
   | (with_reducible exact spec_PackDirectory.mono _ _ _ _ _)
   | (with_reducible exact LeO.refl _)
   | (with_reducible exact LeO.none _)
   | (with_reducible refine LeO.ite ?_ ?_)
   | (with_reducible refine LeO.bind ?_ (fun _ => ?_))
   | exact ih0 _ _ _ _ _ _ _ _ _ _ _ _ _ _ _
   | exact ih1 _ _ _ _ _ _ _ _ _ _
   | exact ih2 _ _ _ _
   | exact impl_PackDirectory.mono _ _ _ _ _
   | exact laws_eqBits.mono _ _ _ _ _
   | exact laws_eqRanked.mono _ _ _ _ _ _ _ _ _
   | exact laws_heldBits.mono _ _ _ _
   | exact laws_markBits.mono _ _ _ _
   | exact laws_markRanked.mono _ _ _ _ _ _
   | exact laws_toRanked.mono _ _ _ _ _
   | exact spec_PackDirectory.mono _ _ _ _ _
   | exact LeO.none _
   | refine LeO.ite ?_ ?_
   | refine LeO.bind ?_ (fun _ => ?_)
theorem laws_FnExactPackDirectory.mono : ∀ a0 a1 a2 a3 k, LeO (laws_FnExactPackDirectory.f k a0 a1 a2 a3) (laws_FnExactPackDirectory.f (k + 1) a0 a1 a2 a3) := by
 intro a0 a1 a2 a3 k
 obtain ⟨ih0, ih1, ih2⟩ := laws_FnExactPackDirectory.mono_l k
 unfold laws_FnExactPackDirectory.f
 repeat' first
   | (with_reducible exact ih0 _ _ _ _ _ _ _ _ _ _ _ _ _ _ _)
   | (with_reducible exact ih1 _ _ _ _ _ _ _ _ _ _)
   | (with_reducible exact ih2 _ _ _ _)
   | (with_reducible exact impl_PackDirectory.mono _ _ _ _ _)
   | (with_reducible exact laws_eqBits.mono _ _ _ _ _)
   | (with_reducible exact laws_eqRanked.mono _ _ _ _ _ _ _ _ _)
   | (with_reducible exact laws_heldBits.mono _ _ _ _)
   | (with_reducible exact laws_markBits.mono _ _ _ _)
   | (with_reducible exact laws_markRanked.mono _ _ _ _ _ _)
   | (with_reducible exact laws_toRanked.mono _ _ _ _ _)
   | (with_reducible exact spec_PackDirectory.mono _ _ _ _ _)
   | (with_reducible exact LeO.refl _)
   | (with_reducible exact LeO.none _)
   | (with_reducible refine LeO.ite ?_ ?_)
   | (with_reducible refine LeO.bind ?_ (fun _ => ?_))
   | exact ih0 _ _ _ _ _ _ _ _ _ _ _ _ _ _ _
   | exact ih1 _ _ _ _ _ _ _ _ _ _
   | exact ih2 _ _ _ _
   | exact impl_PackDirectory.mono _ _ _ _ _
   | exact laws_eqBits.mono _ _ _ _ _
   | exact laws_eqRanked.mono _ _ _ _ _ _ _ _ _
   | exact laws_heldBits.mono _ _ _ _
   | exact laws_markBits.mono _ _ _ _
   | exact laws_markRanked.mono _ _ _ _ _ _
   | exact laws_toRanked.mono _ _ _ _ _
   | exact spec_PackDirectory.mono _ _ _ _ _
   | exact LeO.none _
   | refine LeO.ite ?_ ?_
   | refine LeO.bind ?_ (fun _ => ?_)
set_option maxHeartbeats 8000000 in
set_option maxRecDepth 100000 in
theorem laws_FnExactPackDirectory.calls (k : Nat) (a0_0 : Int) (A0_1 : Option Addr) (c0_1 : Nat) (l0_1 : List Int) (A0_2 : Option Addr) (c0_2 : Nat) (l0_2 : List Int) (A0_3 : Option Addr) (c0_3 : Nat) (l0_3 : List Int) (r : Bool) (w : World) (hr0_1 : Kd.C (Kd.int .i64) w A0_1 l0_1.length l0_1) (hc0_1 : l0_1.length ≤ c0_1) (hr0_2 : Kd.C (Kd.int .i64) w A0_2 l0_2.length l0_2) (hc0_2 : l0_2.length ≤ c0_2) (hr0_3 : Kd.C (Kd.int .i64) w A0_3 l0_3.length l0_3) (hc0_3 : l0_3.length ≤ c0_3) (h : laws_FnExactPackDirectory.f k a0_0 l0_1 l0_2 l0_3 = some r) :
  Calls Try.prog 9 #[.agg #[.int .i64 a0_0, .slice A0_1 l0_1.length c0_1, .slice A0_2 l0_2.length c0_2, .slice A0_3 l0_3.length c0_3]] w fun e w' => e = .returned (.bool r) ∧ Below w.heap.size w w' := by
 have hu45 := Try.underlying45
 have hu26 := Try.underlying26
 have hu48 := Try.underlying48
 have HR0_1 := am26_ hr0_1
 have HC0_1 := am26_ hc0_1
 clear hr0_1 hc0_1
 have HR0_2 := am26_ hr0_2
 have HC0_2 := am26_ hc0_2
 clear hr0_2 hc0_2
 have HR0_3 := am26_ hr0_3
 have HC0_3 := am26_ hc0_3
 clear hr0_3 hc0_3
 have HB := am26_ (Below.refl w.heap.size w)
 have H : ((laws_szRanked.f a0_0 l0_1 l0_2 l0_3 1048576).bind fun t337 => (if t337 < 0 then (some true) else ((laws_toRanked.f k a0_0 l0_1 l0_2 l0_3).bind fun bt338 => ((spec_PackDirectory.f k bt338.1 bt338.2.1 bt338.2.2.1 bt338.2.2.2).bind fun bt348 => ((laws_toRanked.f k a0_0 l0_1 l0_2 l0_3).bind fun bt354 => ((impl_PackDirectory.f k bt354.1 bt354.2.1 bt354.2.2.1 bt354.2.2.2).bind fun bt365 => ((laws_eqBits.f k bt365.1 bt365.2.1 bt348.1 bt348.2.1).bind fun t371 => (if t371 = true then (laws_FnExactPackDirectory.j0 k bt348.2.2 bt365.2.2 (bt365.2.2 != bt348.2.2) a0_0 l0_1 l0_2 l0_3 bt348.1 bt348.2.1 bt354.1 bt354.2.1 bt354.2.2.1 bt354.2.2.2 bt365.1 bt365.2.1) else (none))))))))) = some r := h
 clear h
 replace H := Option.bind_eq_some_iff.mp H
 obtain ⟨t337, A20, H⟩ := H
 replace H : (if t337 < 0 then (some true) else ((laws_toRanked.f k a0_0 l0_1 l0_2 l0_3).bind fun bt338 => ((spec_PackDirectory.f k bt338.1 bt338.2.1 bt338.2.2.1 bt338.2.2.2).bind fun bt348 => ((laws_toRanked.f k a0_0 l0_1 l0_2 l0_3).bind fun bt354 => ((impl_PackDirectory.f k bt354.1 bt354.2.1 bt354.2.2.1 bt354.2.2.2).bind fun bt365 => ((laws_eqBits.f k bt365.1 bt365.2.1 bt348.1 bt348.2.1).bind fun t371 => (if t371 = true then (laws_FnExactPackDirectory.j0 k bt348.2.2 bt365.2.2 (bt365.2.2 != bt348.2.2) a0_0 l0_1 l0_2 l0_3 bt348.1 bt348.2.1 bt354.1 bt354.2.1 bt354.2.2.1 bt354.2.2.2 bt365.1 bt365.2.1) else (none)))))))) = some r := H
 have A2 := am26_ A20
 clear A20
 by_cases c3 : t337 < 0
 ·rw [if_pos c3] at H
  have c3b0 : decide (t337 < 0) = true := decide_eq_true c3
  clear c3
  obtain rfl := Option.some.inj H
  go_enter Try.func9, Try.ntmps9
  go_wp2_with (first | ((with_reducible refine gate_dst (N := 1) rfl ?_); refine box_event ?hg (N := 1) ?hd (cs := #[.int .i64 a0_0, .slice A0_1 l0_1.length c0_1, .slice A0_2 l0_2.length c0_2, .slice A0_3 l0_3.length c0_3]) (t := 45) ?hr ?_; (case hd => rfl); (case hg => rfl); (case hr => first | (go_simp; done) | (go_simp; rfl)); intro gb336 hg w4 hbox hb; have n0_ := am26_ (below_step (lw26_ HB) hb); have n1_ := am26_ (hbox); have n2_ := am26_ ((by rw [hg]; exact (below_size (lw26_ HB)) : w.heap.size ≤ gb336)); have n3_ := am26_ ((by rw [hg]; exact (below_size (lw26_ HB)) : w.heap.size ≤ gb336)); clear HB; have HB := n0_; have BK336 := n1_; have GW336 := n2_; have GE336 := n3_; clear n0_ n1_ n2_ n3_; clear hb hbox hg; have hcz5_0 : w4.cell? ⟨gb336, 0, none⟩ = some (.int .i64 a0_0) := (blk_cell BK336.out 0).trans rfl; have hcz5_1 : w4.cell? ⟨gb336, 1, none⟩ = some (.slice A0_1 l0_1.length c0_1) := (blk_cell BK336.out 1).trans rfl; have hcz5_2 : w4.cell? ⟨gb336, 2, none⟩ = some (.slice A0_2 l0_2.length c0_2) := (blk_cell BK336.out 2).trans rfl; have hcz5_3 : w4.cell? ⟨gb336, 3, none⟩ = some (.slice A0_3 l0_3.length c0_3) := (blk_cell BK336.out 3).trans rfl; have hfz5_0 := blk_frozen BK336.out 0; have hfz5_1 := blk_frozen BK336.out 1; have hfz5_2 := blk_frozen BK336.out 2; have hfz5_3 := blk_frozen BK336.out 3) | ((with_reducible refine gate_callee (f := 34) rfl ?_); refine goesL_ (some 16) rfl rfl Try.func34 (by kernel_rfl) rfl #[.agg #[.int .i64 a0_0, .slice A0_1 l0_1.length c0_1, .slice A0_2 l0_2.length c0_2, .slice A0_3 l0_3.length c0_3], .int .i64 1048576] rfl lm26_ ?_; (with_reducible refine (laws_szRanked.calls a0_0 _ _ l0_1 _ _ l0_2 _ _ l0_3 1048576 t337 _ ?side1 ?side2 ?side3 ?side4 ?side5 ?side6 A2.out).mono ?_); (case side1 => exact lc26_ (Kd.C_below HR0_1.out HB.out)); (case side2 => exact HC0_1.out); (case side3 => exact lc26_ (Kd.C_below HR0_2.out HB.out)); (case side4 => exact HC0_2.out); (case side5 => exact lc26_ (Kd.C_below HR0_3.out HB.out)); (case side6 => exact HC0_3.out); rintro e w6 ⟨rfl, hb⟩; refine ⟨_, rfl, ?_⟩; have n0_ := am26_ (blk_below (g := gb336) (o := .cells #[.int .i64 a0_0, .slice A0_1 l0_1.length c0_1, .slice A0_2 l0_2.length c0_2, .slice A0_3 l0_3.length c0_3] 45 (0, 0)) (lb26_ BK336) hb); have n1_ := am26_ (below_step (lw26_ HB) hb); clear BK336; clear HB; have BK336 := n0_; have HB := n1_; clear n0_ n1_; (try clear hb); (try clear hb2); (try clear hk); (try clear hi)))
  go_ret
  exact ⟨by first | rfl | (simp [errW_none, errW_some] <;> rfl) | (simp [*, errW_none, errW_some] <;> rfl), lw26_ HB⟩
 ·rw [if_neg c3] at H
  have c3b0 : decide (t337 < 0) = false := decide_eq_false c3
  clear c3
  replace H := Option.bind_eq_some_iff.mp H
  obtain ⟨⟨t338, t339, t342, t345⟩, A70, H⟩ := H
  replace H : ((spec_PackDirectory.f k t338 t339 t342 t345).bind fun bt348 => ((laws_toRanked.f k a0_0 l0_1 l0_2 l0_3).bind fun bt354 => ((impl_PackDirectory.f k bt354.1 bt354.2.1 bt354.2.2.1 bt354.2.2.2).bind fun bt365 => ((laws_eqBits.f k bt365.1 bt365.2.1 bt348.1 bt348.2.1).bind fun t371 => (if t371 = true then (laws_FnExactPackDirectory.j0 k bt348.2.2 bt365.2.2 (bt365.2.2 != bt348.2.2) a0_0 l0_1 l0_2 l0_3 bt348.1 bt348.2.1 bt354.1 bt354.2.1 bt354.2.2.1 bt354.2.2.2 bt365.1 bt365.2.1) else (none)))))) = some r := H
  have A7 := am26_ A70
  clear A70
  replace H := Option.bind_eq_some_iff.mp H
  obtain ⟨⟨t348, t349, t352⟩, A80, H⟩ := H
  replace H : ((laws_toRanked.f k a0_0 l0_1 l0_2 l0_3).bind fun bt354 => ((impl_PackDirectory.f k bt354.1 bt354.2.1 bt354.2.2.1 bt354.2.2.2).bind fun bt365 => ((laws_eqBits.f k bt365.1 bt365.2.1 t348 t349).bind fun t371 => (if t371 = true then (laws_FnExactPackDirectory.j0 k t352 bt365.2.2 (bt365.2.2 != t352) a0_0 l0_1 l0_2 l0_3 t348 t349 bt354.1 bt354.2.1 bt354.2.2.1 bt354.2.2.2 bt365.1 bt365.2.1) else (none))))) = some r := H
  have A8 := am26_ A80
  clear A80
  replace H := Option.bind_eq_some_iff.mp H
  obtain ⟨⟨t354, t355, t358, t361⟩, A90, H⟩ := H
  replace H : ((impl_PackDirectory.f k t354 t355 t358 t361).bind fun bt365 => ((laws_eqBits.f k bt365.1 bt365.2.1 t348 t349).bind fun t371 => (if t371 = true then (laws_FnExactPackDirectory.j0 k t352 bt365.2.2 (bt365.2.2 != t352) a0_0 l0_1 l0_2 l0_3 t348 t349 t354 t355 t358 t361 bt365.1 bt365.2.1) else (none)))) = some r := H
  have A9 := am26_ A90
  clear A90
  replace H := Option.bind_eq_some_iff.mp H
  obtain ⟨⟨t365, t366, t369⟩, A100, H⟩ := H
  replace H : ((laws_eqBits.f k t365 t366 t348 t349).bind fun t371 => (if t371 = true then (laws_FnExactPackDirectory.j0 k t352 t369 (t369 != t352) a0_0 l0_1 l0_2 l0_3 t348 t349 t354 t355 t358 t361 t365 t366) else (none))) = some r := H
  have A10 := am26_ A100
  clear A100
  have HC11 := am26_ H
  clear H
  go_enter Try.func9, Try.ntmps9
  go_upto_region 8 with (first | ((with_reducible refine gate_dst (N := 1) rfl ?_); refine box_event ?hg (N := 1) ?hd (cs := #[.int .i64 a0_0, .slice A0_1 l0_1.length c0_1, .slice A0_2 l0_2.length c0_2, .slice A0_3 l0_3.length c0_3]) (t := 45) ?hr ?_; (case hd => rfl); (case hg => rfl); (case hr => first | (go_simp; done) | (go_simp; rfl)); intro gb336 hg w12 hbox hb; have n0_ := am26_ (below_step (lw26_ HB) hb); have n1_ := am26_ (hbox); have n2_ := am26_ ((by rw [hg]; exact (below_size (lw26_ HB)) : w.heap.size ≤ gb336)); have n3_ := am26_ ((by rw [hg]; exact (below_size (lw26_ HB)) : w.heap.size ≤ gb336)); clear HB; have HB := n0_; have BK336 := n1_; have GW336 := n2_; have GE336 := n3_; clear n0_ n1_ n2_ n3_; clear hb hbox hg; have hcz13_0 : w12.cell? ⟨gb336, 0, none⟩ = some (.int .i64 a0_0) := (blk_cell BK336.out 0).trans rfl; have hcz13_1 : w12.cell? ⟨gb336, 1, none⟩ = some (.slice A0_1 l0_1.length c0_1) := (blk_cell BK336.out 1).trans rfl; have hcz13_2 : w12.cell? ⟨gb336, 2, none⟩ = some (.slice A0_2 l0_2.length c0_2) := (blk_cell BK336.out 2).trans rfl; have hcz13_3 : w12.cell? ⟨gb336, 3, none⟩ = some (.slice A0_3 l0_3.length c0_3) := (blk_cell BK336.out 3).trans rfl; have hfz13_0 := blk_frozen BK336.out 0; have hfz13_1 := blk_frozen BK336.out 1; have hfz13_2 := blk_frozen BK336.out 2; have hfz13_3 := blk_frozen BK336.out 3) | ((with_reducible refine gate_callee (f := 34) rfl ?_); refine goesL_ (some 16) rfl rfl Try.func34 (by kernel_rfl) rfl #[.agg #[.int .i64 a0_0, .slice A0_1 l0_1.length c0_1, .slice A0_2 l0_2.length c0_2, .slice A0_3 l0_3.length c0_3], .int .i64 1048576] rfl lm26_ ?_; (with_reducible refine (laws_szRanked.calls a0_0 _ _ l0_1 _ _ l0_2 _ _ l0_3 1048576 t337 _ ?side1 ?side2 ?side3 ?side4 ?side5 ?side6 A2.out).mono ?_); (case side1 => exact lc26_ (Kd.C_below HR0_1.out HB.out)); (case side2 => exact HC0_1.out); (case side3 => exact lc26_ (Kd.C_below HR0_2.out HB.out)); (case side4 => exact HC0_2.out); (case side5 => exact lc26_ (Kd.C_below HR0_3.out HB.out)); (case side6 => exact HC0_3.out); rintro e w14 ⟨rfl, hb⟩; refine ⟨_, rfl, ?_⟩; have n0_ := am26_ (blk_below (g := gb336) (o := .cells #[.int .i64 a0_0, .slice A0_1 l0_1.length c0_1, .slice A0_2 l0_2.length c0_2, .slice A0_3 l0_3.length c0_3] 45 (0, 0)) (lb26_ BK336) hb); have n1_ := am26_ (below_step (lw26_ HB) hb); clear BK336; clear HB; have BK336 := n0_; have HB := n1_; clear n0_ n1_; (try clear hb); (try clear hb2); (try clear hk); (try clear hi); have hcz15_0 : w14.cell? ⟨gb336, 0, none⟩ = some (.int .i64 a0_0) := (blk_cell BK336.out 0).trans rfl; have hcz15_1 : w14.cell? ⟨gb336, 1, none⟩ = some (.slice A0_1 l0_1.length c0_1) := (blk_cell BK336.out 1).trans rfl; have hcz15_2 : w14.cell? ⟨gb336, 2, none⟩ = some (.slice A0_2 l0_2.length c0_2) := (blk_cell BK336.out 2).trans rfl; have hcz15_3 : w14.cell? ⟨gb336, 3, none⟩ = some (.slice A0_3 l0_3.length c0_3) := (blk_cell BK336.out 3).trans rfl; have hfz15_0 := blk_frozen BK336.out 0; have hfz15_1 := blk_frozen BK336.out 1; have hfz15_2 := blk_frozen BK336.out 2; have hfz15_3 := blk_frozen BK336.out 3) | ((with_reducible refine gate_callee (f := 36) rfl ?_); refine goesL_ (some 21) rfl rfl Try.func36 (by kernel_rfl) rfl #[.agg #[.int .i64 a0_0, .slice A0_1 l0_1.length c0_1, .slice A0_2 l0_2.length c0_2, .slice A0_3 l0_3.length c0_3]] rfl lm26_ ?_; (with_reducible refine (laws_toRanked.calls k a0_0 _ _ l0_1 _ _ l0_2 _ _ l0_3 t338 t339 t342 t345 _ ?side1 ?side2 ?side3 ?side4 ?side5 ?side6 A7.out).mono ?_); (case side1 => exact lc26_ (Kd.C_below HR0_1.out HB.out)); (case side2 => exact HC0_1.out); (case side3 => exact lc26_ (Kd.C_below HR0_2.out HB.out)); (case side4 => exact HC0_2.out); (case side5 => exact lc26_ (Kd.C_below HR0_3.out HB.out)); (case side6 => exact HC0_3.out); rintro e w16 ⟨v340, v343, v346, rfl, ho0, ho1, ho2, hb⟩; refine ⟨_, rfl, ?_⟩; have n0_ := am26_ (Kd.R_lower ho0 (below_size (lw26_ HB))); have n1_ := am26_ (Kd.R_lower ho1 (below_size (lw26_ HB))); have n2_ := am26_ (Kd.R_lower ho2 (below_size (lw26_ HB))); have n3_ := am26_ (blk_below (g := gb336) (o := .cells #[.int .i64 a0_0, .slice A0_1 l0_1.length c0_1, .slice A0_2 l0_2.length c0_2, .slice A0_3 l0_3.length c0_3] 45 (0, 0)) (lb26_ BK336) hb); have n4_ := am26_ (below_step (lw26_ HB) hb); clear BK336; clear HB; have HO341 := n0_; have HO344 := n1_; have HO347 := n2_; have BK336 := n3_; have HB := n4_; clear n0_ n1_ n2_ n3_ n4_; (try clear hb); (try clear hb2); (try clear hk); (try clear hi); (try clear ho0); (try clear ho1); (try clear ho2); obtain ⟨Ao17, co17, eo17⟩ := Kd.R_slice HO341.out; subst eo17; obtain ⟨Ao18, co18, eo18⟩ := Kd.R_slice HO344.out; subst eo18; obtain ⟨Ao19, co19, eo19⟩ := Kd.R_slice HO347.out; subst eo19) | ((with_reducible refine gate_callee (f := 41) rfl ?_); refine goesL_ (some 22) rfl rfl Try.func41 (by kernel_rfl) rfl #[.agg #[.int .i64 t338, .slice Ao17 t339.length co17, .slice Ao18 t342.length co18, .slice Ao19 t345.length co19]] rfl lm26_ ?_; (with_reducible refine (spec_PackDirectory.calls k t338 _ _ t339 _ _ t342 _ _ t345 t348 t349 t352 _ ?side1 ?side2 ?side3 ?side4 ?side5 ?side6 A8.out).mono ?_); (case side1 => exact lc26_ (Kd.R_reads' HO341.out).2.2); (case side2 => exact (Kd.R_reads' HO341.out).2.1); (case side3 => exact lc26_ (Kd.R_reads' HO344.out).2.2); (case side4 => exact (Kd.R_reads' HO344.out).2.1); (case side5 => exact lc26_ (Kd.R_reads' HO347.out).2.2); (case side6 => exact (Kd.R_reads' HO347.out).2.1); rintro e w20 ⟨v350, rfl, ho0, hb⟩; refine ⟨_, rfl, ?_⟩; have n0_ := am26_ (Kd.R_elder' (lf26_ HO341) (Kd.R_base ho0) hb); have n1_ := am26_ (Kd.R_elder' (lf26_ HO344) (Kd.R_base ho0) hb); have n2_ := am26_ (Kd.R_elder' (lf26_ HO347) (Kd.R_base ho0) hb); have n3_ := am26_ (Kd.R_lower (Kd.R_new' (Kd.R_new' (Kd.R_new' ho0 (Kd.R_lt (lf26_ HO341))) (Kd.R_lt (lf26_ HO344))) (Kd.R_lt (lf26_ HO347))) (below_size (lw26_ HB))); have n4_ := am26_ (blk_below (g := gb336) (o := .cells #[.int .i64 a0_0, .slice A0_1 l0_1.length c0_1, .slice A0_2 l0_2.length c0_2, .slice A0_3 l0_3.length c0_3] 45 (0, 0)) (lb26_ BK336) hb); have n5_ := am26_ (below_step (lw26_ HB) hb); clear HO341; clear HO344; clear HO347; clear BK336; clear HB; have HO341 := n0_; have HO344 := n1_; have HO347 := n2_; have HO351 := n3_; have BK336 := n4_; have HB := n5_; clear n0_ n1_ n2_ n3_ n4_ n5_; (try clear hb); (try clear hb2); (try clear hk); (try clear hi); (try clear ho0)) | ((with_reducible refine gate_dst (N := 4) rfl ?_); refine box_event ?hg (N := 4) ?hd (cs := #[.int .i64 0, .slice none 0 0]) (t := 26) ?hr ?_; (case hd => rfl); (case hg => rfl); (case hr => first | (go_simp; done) | (go_simp; rfl)); intro gb353 hg w21 hbox hb; have n0_ := am26_ (Kd.R_below (lf26_ HO341) hb); have n1_ := am26_ (Kd.R_below (lf26_ HO344) hb); have n2_ := am26_ (Kd.R_below (lf26_ HO347) hb); have n3_ := am26_ (Kd.R_below (lf26_ HO351) hb); have n4_ := am26_ (blk_below (g := gb336) (o := .cells #[.int .i64 a0_0, .slice A0_1 l0_1.length c0_1, .slice A0_2 l0_2.length c0_2, .slice A0_3 l0_3.length c0_3] 45 (0, 0)) (lb26_ BK336) hb); have n5_ := am26_ (below_step (lw26_ HB) hb); have n6_ := am26_ (hbox); have n7_ := am26_ ((by rw [hg]; exact (below_size (lw26_ HB)) : w.heap.size ≤ gb353)); have n8_ := am26_ ((by rw [hg]; exact (below_size (lw26_ HB)) : w.heap.size ≤ gb353)); have n9_ := am26_ ((by rw [hg]; exact Nat.ne_of_lt (blk_lt (g := gb336) (lb26_ BK336)) : gb336 ≠ gb353)); have n10_ := am26_ ((by rw [hg]; exact Nat.ne_of_gt (blk_lt (g := gb336) (lb26_ BK336)) : gb353 ≠ gb336)); clear HO341; clear HO344; clear HO347; clear HO351; clear BK336; clear HB; have HO341 := n0_; have HO344 := n1_; have HO347 := n2_; have HO351 := n3_; have BK336 := n4_; have HB := n5_; have BK353 := n6_; have GW353 := n7_; have GE353 := n8_; have NB336_353 := n9_; have NB353_336 := n10_; clear n0_ n1_ n2_ n3_ n4_ n5_ n6_ n7_ n8_ n9_ n10_; clear hb hbox hg; have hnb22 := NB353_336.out; have hnc22 := NB336_353.out; have hcz23_0 : w21.cell? ⟨gb353, 0, none⟩ = some (.int .i64 0) := (blk_cell BK353.out 0).trans rfl; have hcz23_1 : w21.cell? ⟨gb353, 1, none⟩ = some (.slice none 0 0) := (blk_cell BK353.out 1).trans rfl; have hfz23_0 := blk_frozen BK353.out 0; have hfz23_1 := blk_frozen BK353.out 1; obtain ⟨Ao24, co24, eo24⟩ := Kd.R_slice HO351.out; subst eo24; have hcz25_0 : w21.cell? ⟨gb336, 0, none⟩ = some (.int .i64 a0_0) := (blk_cell BK336.out 0).trans rfl; have hcz25_1 : w21.cell? ⟨gb336, 1, none⟩ = some (.slice A0_1 l0_1.length c0_1) := (blk_cell BK336.out 1).trans rfl; have hcz25_2 : w21.cell? ⟨gb336, 2, none⟩ = some (.slice A0_2 l0_2.length c0_2) := (blk_cell BK336.out 2).trans rfl; have hcz25_3 : w21.cell? ⟨gb336, 3, none⟩ = some (.slice A0_3 l0_3.length c0_3) := (blk_cell BK336.out 3).trans rfl; have hfz25_0 := blk_frozen BK336.out 0; have hfz25_1 := blk_frozen BK336.out 1; have hfz25_2 := blk_frozen BK336.out 2; have hfz25_3 := blk_frozen BK336.out 3) | ((with_reducible refine gate_callee (f := 36) rfl ?_); refine goesL_ (some 26) rfl rfl Try.func36 (by kernel_rfl) rfl #[.agg #[.int .i64 a0_0, .slice A0_1 l0_1.length c0_1, .slice A0_2 l0_2.length c0_2, .slice A0_3 l0_3.length c0_3]] rfl lm26_ ?_; (with_reducible refine (laws_toRanked.calls k a0_0 _ _ l0_1 _ _ l0_2 _ _ l0_3 t354 t355 t358 t361 _ ?side1 ?side2 ?side3 ?side4 ?side5 ?side6 A9.out).mono ?_); (case side1 => exact Kd.C_below HR0_1.out (lw26_ HB)); (case side2 => exact HC0_1.out); (case side3 => exact Kd.C_below HR0_2.out (lw26_ HB)); (case side4 => exact HC0_2.out); (case side5 => exact Kd.C_below HR0_3.out (lw26_ HB)); (case side6 => exact HC0_3.out); rintro e w26 ⟨v356, v359, v362, rfl, ho0, ho1, ho2, hb⟩; refine ⟨_, rfl, ?_⟩; have n0_ := am26_ (Kd.R_mono (Kd.R_told (Kd.R_told (Kd.R_told (Kd.R_old (lt26_ (Kd.R_mono (Kd.R_far (p := ⟨gb353, 1, none⟩) (Kd.R_far (p := ⟨gb353, 0, none⟩) (Kd.R_types HO341.out BK353.out (by decide)) (fun _ hk => hk.2) (.int .i64 t348)) (fun _ hk => hk.2) (.slice Ao24 t349.length co24)) (fun _ h_ => h_.1))) hb) (Kd.R_base ho0)) (Kd.R_base ho1)) (Kd.R_base ho2)) (fun _ h_ => h_.1)); have n1_ := am26_ (Kd.R_mono (Kd.R_told (Kd.R_told (Kd.R_told (Kd.R_old (lt26_ (Kd.R_mono (Kd.R_far (p := ⟨gb353, 1, none⟩) (Kd.R_far (p := ⟨gb353, 0, none⟩) (Kd.R_types HO344.out BK353.out (by decide)) (fun _ hk => hk.2) (.int .i64 t348)) (fun _ hk => hk.2) (.slice Ao24 t349.length co24)) (fun _ h_ => h_.1))) hb) (Kd.R_base ho0)) (Kd.R_base ho1)) (Kd.R_base ho2)) (fun _ h_ => h_.1)); have n2_ := am26_ (Kd.R_mono (Kd.R_told (Kd.R_told (Kd.R_told (Kd.R_old (lt26_ (Kd.R_mono (Kd.R_far (p := ⟨gb353, 1, none⟩) (Kd.R_far (p := ⟨gb353, 0, none⟩) (Kd.R_types HO347.out BK353.out (by decide)) (fun _ hk => hk.2) (.int .i64 t348)) (fun _ hk => hk.2) (.slice Ao24 t349.length co24)) (fun _ h_ => h_.1))) hb) (Kd.R_base ho0)) (Kd.R_base ho1)) (Kd.R_base ho2)) (fun _ h_ => h_.1)); have n3_ := am26_ (Kd.R_mono (Kd.R_told (Kd.R_told (Kd.R_told (Kd.R_old (lt26_ (Kd.R_mono (Kd.R_far (p := ⟨gb353, 1, none⟩) (Kd.R_far (p := ⟨gb353, 0, none⟩) (Kd.R_types HO351.out BK353.out (by decide)) (fun _ hk => hk.2) (.int .i64 t348)) (fun _ hk => hk.2) (.slice Ao24 t349.length co24)) (fun _ h_ => h_.1))) hb) (Kd.R_base ho0)) (Kd.R_base ho1)) (Kd.R_base ho2)) (fun _ h_ => h_.1)); have n4_ := am26_ (Kd.R_lower (Kd.R_new' (Kd.R_new' (Kd.R_new' (Kd.R_new' ho0 (Kd.R_lt (lt26_ (Kd.R_mono (Kd.R_far (p := ⟨gb353, 1, none⟩) (Kd.R_far (p := ⟨gb353, 0, none⟩) (Kd.R_types HO341.out BK353.out (by decide)) (fun _ hk => hk.2) (.int .i64 t348)) (fun _ hk => hk.2) (.slice Ao24 t349.length co24)) (fun _ h_ => h_.1))))) (Kd.R_lt (lt26_ (Kd.R_mono (Kd.R_far (p := ⟨gb353, 1, none⟩) (Kd.R_far (p := ⟨gb353, 0, none⟩) (Kd.R_types HO344.out BK353.out (by decide)) (fun _ hk => hk.2) (.int .i64 t348)) (fun _ hk => hk.2) (.slice Ao24 t349.length co24)) (fun _ h_ => h_.1))))) (Kd.R_lt (lt26_ (Kd.R_mono (Kd.R_far (p := ⟨gb353, 1, none⟩) (Kd.R_far (p := ⟨gb353, 0, none⟩) (Kd.R_types HO347.out BK353.out (by decide)) (fun _ hk => hk.2) (.int .i64 t348)) (fun _ hk => hk.2) (.slice Ao24 t349.length co24)) (fun _ h_ => h_.1))))) (Kd.R_lt (lt26_ (Kd.R_mono (Kd.R_far (p := ⟨gb353, 1, none⟩) (Kd.R_far (p := ⟨gb353, 0, none⟩) (Kd.R_types HO351.out BK353.out (by decide)) (fun _ hk => hk.2) (.int .i64 t348)) (fun _ hk => hk.2) (.slice Ao24 t349.length co24)) (fun _ h_ => h_.1))))) (below_size (lw26_ HB))); have n5_ := am26_ (Kd.R_lower (Kd.R_new' (Kd.R_new' (Kd.R_new' (Kd.R_new' ho1 (Kd.R_lt (lt26_ (Kd.R_mono (Kd.R_far (p := ⟨gb353, 1, none⟩) (Kd.R_far (p := ⟨gb353, 0, none⟩) (Kd.R_types HO341.out BK353.out (by decide)) (fun _ hk => hk.2) (.int .i64 t348)) (fun _ hk => hk.2) (.slice Ao24 t349.length co24)) (fun _ h_ => h_.1))))) (Kd.R_lt (lt26_ (Kd.R_mono (Kd.R_far (p := ⟨gb353, 1, none⟩) (Kd.R_far (p := ⟨gb353, 0, none⟩) (Kd.R_types HO344.out BK353.out (by decide)) (fun _ hk => hk.2) (.int .i64 t348)) (fun _ hk => hk.2) (.slice Ao24 t349.length co24)) (fun _ h_ => h_.1))))) (Kd.R_lt (lt26_ (Kd.R_mono (Kd.R_far (p := ⟨gb353, 1, none⟩) (Kd.R_far (p := ⟨gb353, 0, none⟩) (Kd.R_types HO347.out BK353.out (by decide)) (fun _ hk => hk.2) (.int .i64 t348)) (fun _ hk => hk.2) (.slice Ao24 t349.length co24)) (fun _ h_ => h_.1))))) (Kd.R_lt (lt26_ (Kd.R_mono (Kd.R_far (p := ⟨gb353, 1, none⟩) (Kd.R_far (p := ⟨gb353, 0, none⟩) (Kd.R_types HO351.out BK353.out (by decide)) (fun _ hk => hk.2) (.int .i64 t348)) (fun _ hk => hk.2) (.slice Ao24 t349.length co24)) (fun _ h_ => h_.1))))) (below_size (lw26_ HB))); have n6_ := am26_ (Kd.R_lower (Kd.R_new' (Kd.R_new' (Kd.R_new' (Kd.R_new' ho2 (Kd.R_lt (lt26_ (Kd.R_mono (Kd.R_far (p := ⟨gb353, 1, none⟩) (Kd.R_far (p := ⟨gb353, 0, none⟩) (Kd.R_types HO341.out BK353.out (by decide)) (fun _ hk => hk.2) (.int .i64 t348)) (fun _ hk => hk.2) (.slice Ao24 t349.length co24)) (fun _ h_ => h_.1))))) (Kd.R_lt (lt26_ (Kd.R_mono (Kd.R_far (p := ⟨gb353, 1, none⟩) (Kd.R_far (p := ⟨gb353, 0, none⟩) (Kd.R_types HO344.out BK353.out (by decide)) (fun _ hk => hk.2) (.int .i64 t348)) (fun _ hk => hk.2) (.slice Ao24 t349.length co24)) (fun _ h_ => h_.1))))) (Kd.R_lt (lt26_ (Kd.R_mono (Kd.R_far (p := ⟨gb353, 1, none⟩) (Kd.R_far (p := ⟨gb353, 0, none⟩) (Kd.R_types HO347.out BK353.out (by decide)) (fun _ hk => hk.2) (.int .i64 t348)) (fun _ hk => hk.2) (.slice Ao24 t349.length co24)) (fun _ h_ => h_.1))))) (Kd.R_lt (lt26_ (Kd.R_mono (Kd.R_far (p := ⟨gb353, 1, none⟩) (Kd.R_far (p := ⟨gb353, 0, none⟩) (Kd.R_types HO351.out BK353.out (by decide)) (fun _ hk => hk.2) (.int .i64 t348)) (fun _ hk => hk.2) (.slice Ao24 t349.length co24)) (fun _ h_ => h_.1))))) (below_size (lw26_ HB))); have n7_ := am26_ (blk_below (g := gb336) (o := .cells #[.int .i64 a0_0, .slice A0_1 l0_1.length c0_1, .slice A0_2 l0_2.length c0_2, .slice A0_3 l0_3.length c0_3] 45 (0, 0)) (by (with_reducible repeat (first | refine blk_drewN ?_ _ | refine blk_drew ?_ | refine blk_alloc ?_ _)); refine blk_far ?_ NB336_353.out _; (with_reducible repeat (first | refine blk_drewN ?_ _ | refine blk_drew ?_ | refine blk_alloc ?_ _)); refine blk_far ?_ NB336_353.out _; (with_reducible repeat (first | refine blk_drewN ?_ _ | refine blk_drew ?_ | refine blk_alloc ?_ _)); exact BK336.out) hb); have n8_ := am26_ (blk_below (g := gb353) (o := .cells #[.int .i64 t348, .slice Ao24 t349.length co24] 26 (0, 0)) (by (with_reducible repeat (first | refine blk_drewN ?_ _ | refine blk_drew ?_ | refine blk_alloc ?_ _)); refine blk_put (cs := #[.int .i64 t348, .slice none 0 0]) ?_ 1 _ rfl; (with_reducible repeat (first | refine blk_drewN ?_ _ | refine blk_drew ?_ | refine blk_alloc ?_ _)); refine blk_put (cs := #[.int .i64 0, .slice none 0 0]) ?_ 0 _ rfl; (with_reducible repeat (first | refine blk_drewN ?_ _ | refine blk_drew ?_ | refine blk_alloc ?_ _)); exact BK353.out) hb); have n9_ := am26_ (below_step (lw26_ HB) hb); clear HO341; clear HO344; clear HO347; clear HO351; clear BK336; clear BK353; clear HB; have HO341 := n0_; have HO344 := n1_; have HO347 := n2_; have HO351 := n3_; have HO357 := n4_; have HO360 := n5_; have HO363 := n6_; have BK336 := n7_; have BK353 := n8_; have HB := n9_; clear n0_ n1_ n2_ n3_ n4_ n5_ n6_ n7_ n8_ n9_; (try clear hb); (try clear hb2); (try clear hk); (try clear hi); (try clear ho0); (try clear ho1); (try clear ho2)) | ((with_reducible refine gate_dst (N := 6) rfl ?_); refine box_event ?hg (N := 6) ?hd (cs := #[.int .i64 0, .slice none 0 0, .slice none 0 0, .slice none 0 0]) (t := 48) ?hr ?_; (case hd => rfl); (case hg => rfl); (case hr => first | (go_simp; done) | (go_simp; rfl)); intro gb364 hg w27 hbox hb; have n0_ := am26_ (Kd.R_below (lf26_ HO341) hb); have n1_ := am26_ (Kd.R_below (lf26_ HO344) hb); have n2_ := am26_ (Kd.R_below (lf26_ HO347) hb); have n3_ := am26_ (Kd.R_below (lf26_ HO351) hb); have n4_ := am26_ (Kd.R_below (lf26_ HO357) hb); have n5_ := am26_ (Kd.R_below (lf26_ HO360) hb); have n6_ := am26_ (Kd.R_below (lf26_ HO363) hb); have n7_ := am26_ (blk_below (g := gb336) (o := .cells #[.int .i64 a0_0, .slice A0_1 l0_1.length c0_1, .slice A0_2 l0_2.length c0_2, .slice A0_3 l0_3.length c0_3] 45 (0, 0)) (lb26_ BK336) hb); have n8_ := am26_ (blk_below (g := gb353) (o := .cells #[.int .i64 t348, .slice Ao24 t349.length co24] 26 (0, 0)) (lb26_ BK353) hb); have n9_ := am26_ (below_step (lw26_ HB) hb); have n10_ := am26_ (hbox); have n11_ := am26_ ((by rw [hg]; exact (below_size (lw26_ HB)) : w.heap.size ≤ gb364)); have n12_ := am26_ ((by rw [hg]; exact (below_size (lw26_ HB)) : w.heap.size ≤ gb364)); have n13_ := am26_ ((by rw [hg]; exact Nat.ne_of_lt (blk_lt (g := gb336) (lb26_ BK336)) : gb336 ≠ gb364)); have n14_ := am26_ ((by rw [hg]; exact Nat.ne_of_gt (blk_lt (g := gb336) (lb26_ BK336)) : gb364 ≠ gb336)); have n15_ := am26_ ((by rw [hg]; exact Nat.ne_of_lt (blk_lt (g := gb353) (lb26_ BK353)) : gb353 ≠ gb364)); have n16_ := am26_ ((by rw [hg]; exact Nat.ne_of_gt (blk_lt (g := gb353) (lb26_ BK353)) : gb364 ≠ gb353)); clear HO341; clear HO344; clear HO347; clear HO351; clear HO357; clear HO360; clear HO363; clear BK336; clear BK353; clear HB; have HO341 := n0_; have HO344 := n1_; have HO347 := n2_; have HO351 := n3_; have HO357 := n4_; have HO360 := n5_; have HO363 := n6_; have BK336 := n7_; have BK353 := n8_; have HB := n9_; have BK364 := n10_; have GW364 := n11_; have GE364 := n12_; have NB336_364 := n13_; have NB364_336 := n14_; have NB353_364 := n15_; have NB364_353 := n16_; clear n0_ n1_ n2_ n3_ n4_ n5_ n6_ n7_ n8_ n9_ n10_ n11_ n12_ n13_ n14_ n15_ n16_; clear hb hbox hg; have hnb28 := NB364_336.out; have hnc28 := NB336_364.out; have hnb29 := NB364_353.out; have hnc29 := NB353_364.out; have hcz30_0 : w27.cell? ⟨gb364, 0, none⟩ = some (.int .i64 0) := (blk_cell BK364.out 0).trans rfl; have hcz30_1 : w27.cell? ⟨gb364, 1, none⟩ = some (.slice none 0 0) := (blk_cell BK364.out 1).trans rfl; have hcz30_2 : w27.cell? ⟨gb364, 2, none⟩ = some (.slice none 0 0) := (blk_cell BK364.out 2).trans rfl; have hcz30_3 : w27.cell? ⟨gb364, 3, none⟩ = some (.slice none 0 0) := (blk_cell BK364.out 3).trans rfl; have hfz30_0 := blk_frozen BK364.out 0; have hfz30_1 := blk_frozen BK364.out 1; have hfz30_2 := blk_frozen BK364.out 2; have hfz30_3 := blk_frozen BK364.out 3; obtain ⟨Ao31, co31, eo31⟩ := Kd.R_slice HO357.out; subst eo31; obtain ⟨Ao32, co32, eo32⟩ := Kd.R_slice HO360.out; subst eo32; obtain ⟨Ao33, co33, eo33⟩ := Kd.R_slice HO363.out; subst eo33) | ((with_reducible refine gate_callee (f := 42) rfl ?_); refine goesL_ (some 29) rfl rfl Try.func42 (by kernel_rfl) rfl #[.agg #[.int .i64 t354, .slice Ao31 t355.length co31, .slice Ao32 t358.length co32, .slice Ao33 t361.length co33]] rfl lm26_ ?_; (with_reducible refine (impl_PackDirectory.calls k t354 _ _ t355 _ _ t358 _ _ t361 t365 t366 t369 _ ?side1 ?side2 ?side3 ?side4 ?side5 ?side6 A10.out).mono ?_); (case side1 => refine (Kd.R_reads' (e := 3) (base := w.heap.size) (ok := fun k_ => (((((some k_ ≠ (.slice Ao32 t358.length co32 : Value).ownBlock ∧ some k_ ≠ (.slice Ao33 t361.length co33 : Value).ownBlock) ∧ some k_ ≠ (.slice Ao17 t339.length co17 : Value).ownBlock) ∧ some k_ ≠ (.slice Ao18 t342.length co18 : Value).ownBlock) ∧ some k_ ≠ (.slice Ao19 t345.length co19 : Value).ownBlock) ∧ some k_ ≠ (.slice Ao24 t349.length co24 : Value).ownBlock)) (n := t355.length) (c := co31) ?_).2.2; exact (lt26_ (Kd.R_mono (Kd.R_far (p := ⟨gb364, 3, none⟩) (Kd.R_far (p := ⟨gb364, 2, none⟩) (Kd.R_far (p := ⟨gb364, 1, none⟩) (Kd.R_far (p := ⟨gb364, 0, none⟩) (Kd.R_types HO357.out BK364.out (by decide)) (fun _ hk => hk.2) (.int .i64 t354)) (fun _ hk => hk.2) (.slice Ao31 t355.length co31)) (fun _ hk => hk.2) (.slice Ao32 t358.length co32)) (fun _ hk => hk.2) (.slice Ao33 t361.length co33)) (fun _ h_ => h_.1)))); (case side2 => exact (Kd.R_reads' HO357.out).2.1); (case side3 => refine (Kd.R_reads' (e := 3) (base := w.heap.size) (ok := fun k_ => (((((some k_ ≠ (.slice Ao31 t355.length co31 : Value).ownBlock ∧ some k_ ≠ (.slice Ao33 t361.length co33 : Value).ownBlock) ∧ some k_ ≠ (.slice Ao17 t339.length co17 : Value).ownBlock) ∧ some k_ ≠ (.slice Ao18 t342.length co18 : Value).ownBlock) ∧ some k_ ≠ (.slice Ao19 t345.length co19 : Value).ownBlock) ∧ some k_ ≠ (.slice Ao24 t349.length co24 : Value).ownBlock)) (n := t358.length) (c := co32) ?_).2.2; exact (lt26_ (Kd.R_mono (Kd.R_far (p := ⟨gb364, 3, none⟩) (Kd.R_far (p := ⟨gb364, 2, none⟩) (Kd.R_far (p := ⟨gb364, 1, none⟩) (Kd.R_far (p := ⟨gb364, 0, none⟩) (Kd.R_types HO360.out BK364.out (by decide)) (fun _ hk => hk.2) (.int .i64 t354)) (fun _ hk => hk.2) (.slice Ao31 t355.length co31)) (fun _ hk => hk.2) (.slice Ao32 t358.length co32)) (fun _ hk => hk.2) (.slice Ao33 t361.length co33)) (fun _ h_ => h_.1)))); (case side4 => exact (Kd.R_reads' HO360.out).2.1); (case side5 => refine (Kd.R_reads' (e := 3) (base := w.heap.size) (ok := fun k_ => (((((some k_ ≠ (.slice Ao31 t355.length co31 : Value).ownBlock ∧ some k_ ≠ (.slice Ao32 t358.length co32 : Value).ownBlock) ∧ some k_ ≠ (.slice Ao17 t339.length co17 : Value).ownBlock) ∧ some k_ ≠ (.slice Ao18 t342.length co18 : Value).ownBlock) ∧ some k_ ≠ (.slice Ao19 t345.length co19 : Value).ownBlock) ∧ some k_ ≠ (.slice Ao24 t349.length co24 : Value).ownBlock)) (n := t361.length) (c := co33) ?_).2.2; exact (lt26_ (Kd.R_mono (Kd.R_far (p := ⟨gb364, 3, none⟩) (Kd.R_far (p := ⟨gb364, 2, none⟩) (Kd.R_far (p := ⟨gb364, 1, none⟩) (Kd.R_far (p := ⟨gb364, 0, none⟩) (Kd.R_types HO363.out BK364.out (by decide)) (fun _ hk => hk.2) (.int .i64 t354)) (fun _ hk => hk.2) (.slice Ao31 t355.length co31)) (fun _ hk => hk.2) (.slice Ao32 t358.length co32)) (fun _ hk => hk.2) (.slice Ao33 t361.length co33)) (fun _ h_ => h_.1)))); (case side6 => exact (Kd.R_reads' HO363.out).2.1); rintro e w34 ⟨v367, rfl, ho0, hb⟩; refine ⟨_, rfl, ?_⟩; have n0_ := am26_ (Kd.R_elder' (lt26_ (Kd.R_mono (Kd.R_far (p := ⟨gb364, 3, none⟩) (Kd.R_far (p := ⟨gb364, 2, none⟩) (Kd.R_far (p := ⟨gb364, 1, none⟩) (Kd.R_far (p := ⟨gb364, 0, none⟩) (Kd.R_types HO341.out BK364.out (by decide)) (fun _ hk => hk.2) (.int .i64 t354)) (fun _ hk => hk.2) (.slice Ao31 t355.length co31)) (fun _ hk => hk.2) (.slice Ao32 t358.length co32)) (fun _ hk => hk.2) (.slice Ao33 t361.length co33)) (fun _ h_ => h_.1))) (Kd.R_base ho0) hb); have n1_ := am26_ (Kd.R_elder' (lt26_ (Kd.R_mono (Kd.R_far (p := ⟨gb364, 3, none⟩) (Kd.R_far (p := ⟨gb364, 2, none⟩) (Kd.R_far (p := ⟨gb364, 1, none⟩) (Kd.R_far (p := ⟨gb364, 0, none⟩) (Kd.R_types HO344.out BK364.out (by decide)) (fun _ hk => hk.2) (.int .i64 t354)) (fun _ hk => hk.2) (.slice Ao31 t355.length co31)) (fun _ hk => hk.2) (.slice Ao32 t358.length co32)) (fun _ hk => hk.2) (.slice Ao33 t361.length co33)) (fun _ h_ => h_.1))) (Kd.R_base ho0) hb); have n2_ := am26_ (Kd.R_elder' (lt26_ (Kd.R_mono (Kd.R_far (p := ⟨gb364, 3, none⟩) (Kd.R_far (p := ⟨gb364, 2, none⟩) (Kd.R_far (p := ⟨gb364, 1, none⟩) (Kd.R_far (p := ⟨gb364, 0, none⟩) (Kd.R_types HO347.out BK364.out (by decide)) (fun _ hk => hk.2) (.int .i64 t354)) (fun _ hk => hk.2) (.slice Ao31 t355.length co31)) (fun _ hk => hk.2) (.slice Ao32 t358.length co32)) (fun _ hk => hk.2) (.slice Ao33 t361.length co33)) (fun _ h_ => h_.1))) (Kd.R_base ho0) hb); have n3_ := am26_ (Kd.R_elder' (lt26_ (Kd.R_mono (Kd.R_far (p := ⟨gb364, 3, none⟩) (Kd.R_far (p := ⟨gb364, 2, none⟩) (Kd.R_far (p := ⟨gb364, 1, none⟩) (Kd.R_far (p := ⟨gb364, 0, none⟩) (Kd.R_types HO351.out BK364.out (by decide)) (fun _ hk => hk.2) (.int .i64 t354)) (fun _ hk => hk.2) (.slice Ao31 t355.length co31)) (fun _ hk => hk.2) (.slice Ao32 t358.length co32)) (fun _ hk => hk.2) (.slice Ao33 t361.length co33)) (fun _ h_ => h_.1))) (Kd.R_base ho0) hb); have n4_ := am26_ (Kd.R_elder' (lt26_ (Kd.R_mono (Kd.R_far (p := ⟨gb364, 3, none⟩) (Kd.R_far (p := ⟨gb364, 2, none⟩) (Kd.R_far (p := ⟨gb364, 1, none⟩) (Kd.R_far (p := ⟨gb364, 0, none⟩) (Kd.R_types HO357.out BK364.out (by decide)) (fun _ hk => hk.2) (.int .i64 t354)) (fun _ hk => hk.2) (.slice Ao31 t355.length co31)) (fun _ hk => hk.2) (.slice Ao32 t358.length co32)) (fun _ hk => hk.2) (.slice Ao33 t361.length co33)) (fun _ h_ => h_.1))) (Kd.R_base ho0) hb); have n5_ := am26_ (Kd.R_elder' (lt26_ (Kd.R_mono (Kd.R_far (p := ⟨gb364, 3, none⟩) (Kd.R_far (p := ⟨gb364, 2, none⟩) (Kd.R_far (p := ⟨gb364, 1, none⟩) (Kd.R_far (p := ⟨gb364, 0, none⟩) (Kd.R_types HO360.out BK364.out (by decide)) (fun _ hk => hk.2) (.int .i64 t354)) (fun _ hk => hk.2) (.slice Ao31 t355.length co31)) (fun _ hk => hk.2) (.slice Ao32 t358.length co32)) (fun _ hk => hk.2) (.slice Ao33 t361.length co33)) (fun _ h_ => h_.1))) (Kd.R_base ho0) hb); have n6_ := am26_ (Kd.R_elder' (lt26_ (Kd.R_mono (Kd.R_far (p := ⟨gb364, 3, none⟩) (Kd.R_far (p := ⟨gb364, 2, none⟩) (Kd.R_far (p := ⟨gb364, 1, none⟩) (Kd.R_far (p := ⟨gb364, 0, none⟩) (Kd.R_types HO363.out BK364.out (by decide)) (fun _ hk => hk.2) (.int .i64 t354)) (fun _ hk => hk.2) (.slice Ao31 t355.length co31)) (fun _ hk => hk.2) (.slice Ao32 t358.length co32)) (fun _ hk => hk.2) (.slice Ao33 t361.length co33)) (fun _ h_ => h_.1))) (Kd.R_base ho0) hb); have n7_ := am26_ (Kd.R_lower (Kd.R_new' (Kd.R_new' (Kd.R_new' (Kd.R_new' (Kd.R_new' (Kd.R_new' (Kd.R_new' ho0 (Kd.R_lt (lt26_ (Kd.R_mono (Kd.R_far (p := ⟨gb364, 3, none⟩) (Kd.R_far (p := ⟨gb364, 2, none⟩) (Kd.R_far (p := ⟨gb364, 1, none⟩) (Kd.R_far (p := ⟨gb364, 0, none⟩) (Kd.R_types HO341.out BK364.out (by decide)) (fun _ hk => hk.2) (.int .i64 t354)) (fun _ hk => hk.2) (.slice Ao31 t355.length co31)) (fun _ hk => hk.2) (.slice Ao32 t358.length co32)) (fun _ hk => hk.2) (.slice Ao33 t361.length co33)) (fun _ h_ => h_.1))))) (Kd.R_lt (lt26_ (Kd.R_mono (Kd.R_far (p := ⟨gb364, 3, none⟩) (Kd.R_far (p := ⟨gb364, 2, none⟩) (Kd.R_far (p := ⟨gb364, 1, none⟩) (Kd.R_far (p := ⟨gb364, 0, none⟩) (Kd.R_types HO344.out BK364.out (by decide)) (fun _ hk => hk.2) (.int .i64 t354)) (fun _ hk => hk.2) (.slice Ao31 t355.length co31)) (fun _ hk => hk.2) (.slice Ao32 t358.length co32)) (fun _ hk => hk.2) (.slice Ao33 t361.length co33)) (fun _ h_ => h_.1))))) (Kd.R_lt (lt26_ (Kd.R_mono (Kd.R_far (p := ⟨gb364, 3, none⟩) (Kd.R_far (p := ⟨gb364, 2, none⟩) (Kd.R_far (p := ⟨gb364, 1, none⟩) (Kd.R_far (p := ⟨gb364, 0, none⟩) (Kd.R_types HO347.out BK364.out (by decide)) (fun _ hk => hk.2) (.int .i64 t354)) (fun _ hk => hk.2) (.slice Ao31 t355.length co31)) (fun _ hk => hk.2) (.slice Ao32 t358.length co32)) (fun _ hk => hk.2) (.slice Ao33 t361.length co33)) (fun _ h_ => h_.1))))) (Kd.R_lt (lt26_ (Kd.R_mono (Kd.R_far (p := ⟨gb364, 3, none⟩) (Kd.R_far (p := ⟨gb364, 2, none⟩) (Kd.R_far (p := ⟨gb364, 1, none⟩) (Kd.R_far (p := ⟨gb364, 0, none⟩) (Kd.R_types HO351.out BK364.out (by decide)) (fun _ hk => hk.2) (.int .i64 t354)) (fun _ hk => hk.2) (.slice Ao31 t355.length co31)) (fun _ hk => hk.2) (.slice Ao32 t358.length co32)) (fun _ hk => hk.2) (.slice Ao33 t361.length co33)) (fun _ h_ => h_.1))))) (Kd.R_lt (lt26_ (Kd.R_mono (Kd.R_far (p := ⟨gb364, 3, none⟩) (Kd.R_far (p := ⟨gb364, 2, none⟩) (Kd.R_far (p := ⟨gb364, 1, none⟩) (Kd.R_far (p := ⟨gb364, 0, none⟩) (Kd.R_types HO357.out BK364.out (by decide)) (fun _ hk => hk.2) (.int .i64 t354)) (fun _ hk => hk.2) (.slice Ao31 t355.length co31)) (fun _ hk => hk.2) (.slice Ao32 t358.length co32)) (fun _ hk => hk.2) (.slice Ao33 t361.length co33)) (fun _ h_ => h_.1))))) (Kd.R_lt (lt26_ (Kd.R_mono (Kd.R_far (p := ⟨gb364, 3, none⟩) (Kd.R_far (p := ⟨gb364, 2, none⟩) (Kd.R_far (p := ⟨gb364, 1, none⟩) (Kd.R_far (p := ⟨gb364, 0, none⟩) (Kd.R_types HO360.out BK364.out (by decide)) (fun _ hk => hk.2) (.int .i64 t354)) (fun _ hk => hk.2) (.slice Ao31 t355.length co31)) (fun _ hk => hk.2) (.slice Ao32 t358.length co32)) (fun _ hk => hk.2) (.slice Ao33 t361.length co33)) (fun _ h_ => h_.1))))) (Kd.R_lt (lt26_ (Kd.R_mono (Kd.R_far (p := ⟨gb364, 3, none⟩) (Kd.R_far (p := ⟨gb364, 2, none⟩) (Kd.R_far (p := ⟨gb364, 1, none⟩) (Kd.R_far (p := ⟨gb364, 0, none⟩) (Kd.R_types HO363.out BK364.out (by decide)) (fun _ hk => hk.2) (.int .i64 t354)) (fun _ hk => hk.2) (.slice Ao31 t355.length co31)) (fun _ hk => hk.2) (.slice Ao32 t358.length co32)) (fun _ hk => hk.2) (.slice Ao33 t361.length co33)) (fun _ h_ => h_.1))))) (below_size (lw26_ HB))); have n8_ := am26_ (blk_below (g := gb336) (o := .cells #[.int .i64 a0_0, .slice A0_1 l0_1.length c0_1, .slice A0_2 l0_2.length c0_2, .slice A0_3 l0_3.length c0_3] 45 (0, 0)) (by (with_reducible repeat (first | refine blk_drewN ?_ _ | refine blk_drew ?_ | refine blk_alloc ?_ _)); refine blk_far ?_ NB336_364.out _; (with_reducible repeat (first | refine blk_drewN ?_ _ | refine blk_drew ?_ | refine blk_alloc ?_ _)); refine blk_far ?_ NB336_364.out _; (with_reducible repeat (first | refine blk_drewN ?_ _ | refine blk_drew ?_ | refine blk_alloc ?_ _)); refine blk_far ?_ NB336_364.out _; (with_reducible repeat (first | refine blk_drewN ?_ _ | refine blk_drew ?_ | refine blk_alloc ?_ _)); refine blk_far ?_ NB336_364.out _; (with_reducible repeat (first | refine blk_drewN ?_ _ | refine blk_drew ?_ | refine blk_alloc ?_ _)); exact BK336.out) hb); have n9_ := am26_ (blk_below (g := gb353) (o := .cells #[.int .i64 t348, .slice Ao24 t349.length co24] 26 (0, 0)) (by (with_reducible repeat (first | refine blk_drewN ?_ _ | refine blk_drew ?_ | refine blk_alloc ?_ _)); refine blk_far ?_ NB353_364.out _; (with_reducible repeat (first | refine blk_drewN ?_ _ | refine blk_drew ?_ | refine blk_alloc ?_ _)); refine blk_far ?_ NB353_364.out _; (with_reducible repeat (first | refine blk_drewN ?_ _ | refine blk_drew ?_ | refine blk_alloc ?_ _)); refine blk_far ?_ NB353_364.out _; (with_reducible repeat (first | refine blk_drewN ?_ _ | refine blk_drew ?_ | refine blk_alloc ?_ _)); refine blk_far ?_ NB353_364.out _; (with_reducible repeat (first | refine blk_drewN ?_ _ | refine blk_drew ?_ | refine blk_alloc ?_ _)); exact BK353.out) hb); have n10_ := am26_ (blk_below (g := gb364) (o := .cells #[.int .i64 t354, .slice Ao31 t355.length co31, .slice Ao32 t358.length co32, .slice Ao33 t361.length co33] 48 (0, 0)) (by (with_reducible repeat (first | refine blk_drewN ?_ _ | refine blk_drew ?_ | refine blk_alloc ?_ _)); refine blk_put (cs := #[.int .i64 t354, .slice Ao31 t355.length co31, .slice Ao32 t358.length co32, .slice none 0 0]) ?_ 3 _ rfl; (with_reducible repeat (first | refine blk_drewN ?_ _ | refine blk_drew ?_ | refine blk_alloc ?_ _)); refine blk_put (cs := #[.int .i64 t354, .slice Ao31 t355.length co31, .slice none 0 0, .slice none 0 0]) ?_ 2 _ rfl; (with_reducible repeat (first | refine blk_drewN ?_ _ | refine blk_drew ?_ | refine blk_alloc ?_ _)); refine blk_put (cs := #[.int .i64 t354, .slice none 0 0, .slice none 0 0, .slice none 0 0]) ?_ 1 _ rfl; (with_reducible repeat (first | refine blk_drewN ?_ _ | refine blk_drew ?_ | refine blk_alloc ?_ _)); refine blk_put (cs := #[.int .i64 0, .slice none 0 0, .slice none 0 0, .slice none 0 0]) ?_ 0 _ rfl; (with_reducible repeat (first | refine blk_drewN ?_ _ | refine blk_drew ?_ | refine blk_alloc ?_ _)); exact BK364.out) hb); have n11_ := am26_ (below_step (lw26_ HB) hb); clear HO341; clear HO344; clear HO347; clear HO351; clear HO357; clear HO360; clear HO363; clear BK336; clear BK353; clear BK364; clear HB; have HO341 := n0_; have HO344 := n1_; have HO347 := n2_; have HO351 := n3_; have HO357 := n4_; have HO360 := n5_; have HO363 := n6_; have HO368 := n7_; have BK336 := n8_; have BK353 := n9_; have BK364 := n10_; have HB := n11_; clear n0_ n1_ n2_ n3_ n4_ n5_ n6_ n7_ n8_ n9_ n10_ n11_; (try clear hb); (try clear hb2); (try clear hk); (try clear hi); (try clear ho0)) | ((with_reducible refine gate_dst (N := 7) rfl ?_); refine box_event ?hg (N := 7) ?hd (cs := #[.int .i64 0, .slice none 0 0]) (t := 26) ?hr ?_; (case hd => rfl); (case hg => rfl); (case hr => first | (go_simp; done) | (go_simp; rfl)); intro gb370 hg w35 hbox hb; have n0_ := am26_ (Kd.R_below (lf26_ HO341) hb); have n1_ := am26_ (Kd.R_below (lf26_ HO344) hb); have n2_ := am26_ (Kd.R_below (lf26_ HO347) hb); have n3_ := am26_ (Kd.R_below (lf26_ HO351) hb); have n4_ := am26_ (Kd.R_below (lf26_ HO357) hb); have n5_ := am26_ (Kd.R_below (lf26_ HO360) hb); have n6_ := am26_ (Kd.R_below (lf26_ HO363) hb); have n7_ := am26_ (Kd.R_below (lf26_ HO368) hb); have n8_ := am26_ (blk_below (g := gb336) (o := .cells #[.int .i64 a0_0, .slice A0_1 l0_1.length c0_1, .slice A0_2 l0_2.length c0_2, .slice A0_3 l0_3.length c0_3] 45 (0, 0)) (lb26_ BK336) hb); have n9_ := am26_ (blk_below (g := gb353) (o := .cells #[.int .i64 t348, .slice Ao24 t349.length co24] 26 (0, 0)) (lb26_ BK353) hb); have n10_ := am26_ (blk_below (g := gb364) (o := .cells #[.int .i64 t354, .slice Ao31 t355.length co31, .slice Ao32 t358.length co32, .slice Ao33 t361.length co33] 48 (0, 0)) (lb26_ BK364) hb); have n11_ := am26_ (below_step (lw26_ HB) hb); have n12_ := am26_ (hbox); have n13_ := am26_ ((by rw [hg]; exact (below_size (lw26_ HB)) : w.heap.size ≤ gb370)); have n14_ := am26_ ((by rw [hg]; exact (below_size (lw26_ HB)) : w.heap.size ≤ gb370)); have n15_ := am26_ ((by rw [hg]; exact Nat.ne_of_lt (blk_lt (g := gb336) (lb26_ BK336)) : gb336 ≠ gb370)); have n16_ := am26_ ((by rw [hg]; exact Nat.ne_of_gt (blk_lt (g := gb336) (lb26_ BK336)) : gb370 ≠ gb336)); have n17_ := am26_ ((by rw [hg]; exact Nat.ne_of_lt (blk_lt (g := gb353) (lb26_ BK353)) : gb353 ≠ gb370)); have n18_ := am26_ ((by rw [hg]; exact Nat.ne_of_gt (blk_lt (g := gb353) (lb26_ BK353)) : gb370 ≠ gb353)); have n19_ := am26_ ((by rw [hg]; exact Nat.ne_of_lt (blk_lt (g := gb364) (lb26_ BK364)) : gb364 ≠ gb370)); have n20_ := am26_ ((by rw [hg]; exact Nat.ne_of_gt (blk_lt (g := gb364) (lb26_ BK364)) : gb370 ≠ gb364)); clear HO341; clear HO344; clear HO347; clear HO351; clear HO357; clear HO360; clear HO363; clear HO368; clear BK336; clear BK353; clear BK364; clear HB; have HO341 := n0_; have HO344 := n1_; have HO347 := n2_; have HO351 := n3_; have HO357 := n4_; have HO360 := n5_; have HO363 := n6_; have HO368 := n7_; have BK336 := n8_; have BK353 := n9_; have BK364 := n10_; have HB := n11_; have BK370 := n12_; have GW370 := n13_; have GE370 := n14_; have NB336_370 := n15_; have NB370_336 := n16_; have NB353_370 := n17_; have NB370_353 := n18_; have NB364_370 := n19_; have NB370_364 := n20_; clear n0_ n1_ n2_ n3_ n4_ n5_ n6_ n7_ n8_ n9_ n10_ n11_ n12_ n13_ n14_ n15_ n16_ n17_ n18_ n19_ n20_; clear hb hbox hg; have hnb36 := NB370_336.out; have hnc36 := NB336_370.out; have hnb37 := NB370_353.out; have hnc37 := NB353_370.out; have hnb38 := NB370_364.out; have hnc38 := NB364_370.out; have hcz39_0 : w35.cell? ⟨gb370, 0, none⟩ = some (.int .i64 0) := (blk_cell BK370.out 0).trans rfl; have hcz39_1 : w35.cell? ⟨gb370, 1, none⟩ = some (.slice none 0 0) := (blk_cell BK370.out 1).trans rfl; have hfz39_0 := blk_frozen BK370.out 0; have hfz39_1 := blk_frozen BK370.out 1; obtain ⟨Ao40, co40, eo40⟩ := Kd.R_slice HO368.out; subst eo40))
  (try simp only [Act.put, List.setIfInBounds_toArray, List.set_cons_zero, List.set_cons_succ])
  go_cut [40] (fun v40 wc => ∃ (kq : Nat) (x40_10 : Bool), v40 = .bool x40_10 ∧ Aside0 (laws_FnExactPackDirectory.j0 kq t352 t369 x40_10 a0_0 l0_1 l0_2 l0_3 t348 t349 t354 t355 t358 t361 t365 t366 = some r) ∧ Aside0 (kq ≤ k) ∧ Aside0 (Kd.R (Kd.int .i64) 3 wc w.heap.size (fun k_ => some k_ ≠ ((.slice Ao31 t355.length co31) : Value).ownBlock ∧ some k_ ≠ ((.slice Ao32 t358.length co32) : Value).ownBlock ∧ some k_ ≠ ((.slice Ao33 t361.length co33) : Value).ownBlock ∧ some k_ ≠ ((.slice Ao40 t366.length co40) : Value).ownBlock) (.slice Ao24 t349.length co24) t349) ∧ Aside0 (Kd.R (Kd.int .i64) 3 wc w.heap.size (fun k_ => some k_ ≠ ((.slice Ao24 t349.length co24) : Value).ownBlock ∧ some k_ ≠ ((.slice Ao32 t358.length co32) : Value).ownBlock ∧ some k_ ≠ ((.slice Ao33 t361.length co33) : Value).ownBlock ∧ some k_ ≠ ((.slice Ao40 t366.length co40) : Value).ownBlock) (.slice Ao31 t355.length co31) t355) ∧ Aside0 (Kd.R (Kd.int .i64) 3 wc w.heap.size (fun k_ => some k_ ≠ ((.slice Ao24 t349.length co24) : Value).ownBlock ∧ some k_ ≠ ((.slice Ao31 t355.length co31) : Value).ownBlock ∧ some k_ ≠ ((.slice Ao33 t361.length co33) : Value).ownBlock ∧ some k_ ≠ ((.slice Ao40 t366.length co40) : Value).ownBlock) (.slice Ao32 t358.length co32) t358) ∧ Aside0 (Kd.R (Kd.int .i64) 3 wc w.heap.size (fun k_ => some k_ ≠ ((.slice Ao24 t349.length co24) : Value).ownBlock ∧ some k_ ≠ ((.slice Ao31 t355.length co31) : Value).ownBlock ∧ some k_ ≠ ((.slice Ao32 t358.length co32) : Value).ownBlock ∧ some k_ ≠ ((.slice Ao40 t366.length co40) : Value).ownBlock) (.slice Ao33 t361.length co33) t361) ∧ Aside0 (Kd.R (Kd.int .i64) 3 wc w.heap.size (fun k_ => some k_ ≠ ((.slice Ao24 t349.length co24) : Value).ownBlock ∧ some k_ ≠ ((.slice Ao31 t355.length co31) : Value).ownBlock ∧ some k_ ≠ ((.slice Ao32 t358.length co32) : Value).ownBlock ∧ some k_ ≠ ((.slice Ao33 t361.length co33) : Value).ownBlock) (.slice Ao40 t366.length co40) t366) ∧ Aside0 (wc.heap[gb336]? = some (.cells #[.int .i64 a0_0, (.slice A0_1 l0_1.length c0_1), (.slice A0_2 l0_2.length c0_2), (.slice A0_3 l0_3.length c0_3)] 45 (0, 0))) ∧ Aside0 (wc.heap[gb353]? = some (.cells #[.int .i64 t348, (.slice Ao24 t349.length co24)] 26 (0, 0))) ∧ Aside0 (wc.heap[gb364]? = some (.cells #[.int .i64 t354, (.slice Ao31 t355.length co31), (.slice Ao32 t358.length co32), (.slice Ao33 t361.length co33)] 48 (0, 0))) ∧ Aside0 (wc.heap[gb370]? = some (.cells #[.int .i64 t365, (.slice Ao40 t366.length co40)] 26 (0, 0))) ∧ Aside0 (Below w.heap.size w wc))
  case first =>
   have H := HC11.out
   clear HC11
   replace H := Option.bind_eq_some_iff.mp H
   obtain ⟨t371, A410, H⟩ := H
   replace H : (if t371 = true then (laws_FnExactPackDirectory.j0 k t352 t369 (t369 != t352) a0_0 l0_1 l0_2 l0_3 t348 t349 t354 t355 t358 t361 t365 t366) else (none)) = some r := H
   have A41 := am26_ A410
   clear A410
   by_cases c42 : t371 = true
   ·subst c42
    have H1 : (laws_FnExactPackDirectory.j0 k t352 t369 (t369 != t352) a0_0 l0_1 l0_2 l0_3 t348 t349 t354 t355 t358 t361 t365 t366) = some r := by rw [if_pos rfl] at H; exact H
    clear H
    have H := H1
    clear H1
    have H' := am26_ H
    clear H
    have hnb43 := NB370_336.out
    have hnc43 := NB336_370.out
    have hnb44 := NB370_353.out
    have hnc44 := NB353_370.out
    have hnb45 := NB370_364.out
    have hnc45 := NB364_370.out
    have hcz46_0 : w35.cell? ⟨gb370, 0, none⟩ = some (.int .i64 0) := (blk_cell BK370.out 0).trans rfl
    have hcz46_1 : w35.cell? ⟨gb370, 1, none⟩ = some (.slice none 0 0) := (blk_cell BK370.out 1).trans rfl
    have hfz46_0 := blk_frozen BK370.out 0
    have hfz46_1 := blk_frozen BK370.out 1
    have hnb47 := NB353_336.out
    have hnc47 := NB336_353.out
    have hnb48 := NB353_364.out
    have hnc48 := NB364_353.out
    have hcz49_0 : w35.cell? ⟨gb353, 0, none⟩ = some (.int .i64 t348) := (blk_cell BK353.out 0).trans rfl
    have hcz49_1 : w35.cell? ⟨gb353, 1, none⟩ = some (.slice Ao24 t349.length co24) := (blk_cell BK353.out 1).trans rfl
    have hfz49_0 := blk_frozen BK353.out 0
    have hfz49_1 := blk_frozen BK353.out 1
    go_wp2_with (first | ((with_reducible refine gate_callee (f := 20) rfl ?_); refine goesL_ (some 34) rfl rfl Try.func20 (by kernel_rfl) rfl #[.agg #[.int .i64 t365, .slice Ao40 t366.length co40], .agg #[.int .i64 t348, .slice Ao24 t349.length co24]] rfl lm26_ ?_; (with_reducible refine (laws_eqBits.calls k t365 _ _ t366 t348 _ _ t349 true _ ?side1 ?side2 ?side3 ?side4 A41.out).mono ?_); (case side1 => refine (Kd.R_reads' (e := 3) (base := w.heap.size) (ok := fun k_ => (((((((True ∧ some k_ ≠ (.slice Ao17 t339.length co17 : Value).ownBlock) ∧ some k_ ≠ (.slice Ao18 t342.length co18 : Value).ownBlock) ∧ some k_ ≠ (.slice Ao19 t345.length co19 : Value).ownBlock) ∧ some k_ ≠ (.slice Ao24 t349.length co24 : Value).ownBlock) ∧ some k_ ≠ (.slice Ao31 t355.length co31 : Value).ownBlock) ∧ some k_ ≠ (.slice Ao32 t358.length co32 : Value).ownBlock) ∧ some k_ ≠ (.slice Ao33 t361.length co33 : Value).ownBlock)) (n := t366.length) (c := co40) ?_).2.2; exact (lt26_ (Kd.R_mono (Kd.R_far (p := ⟨gb370, 1, none⟩) (Kd.R_far (p := ⟨gb370, 0, none⟩) (Kd.R_types HO368.out BK370.out (by decide)) (fun _ hk => hk.2) (.int .i64 t365)) (fun _ hk => hk.2) (.slice Ao40 t366.length co40)) (fun _ h_ => h_.1)))); (case side2 => exact (Kd.R_reads' HO368.out).2.1); (case side3 => refine (Kd.R_reads' (e := 3) (base := w.heap.size) (ok := fun k_ => (((((((True ∧ some k_ ≠ (.slice Ao17 t339.length co17 : Value).ownBlock) ∧ some k_ ≠ (.slice Ao18 t342.length co18 : Value).ownBlock) ∧ some k_ ≠ (.slice Ao19 t345.length co19 : Value).ownBlock) ∧ some k_ ≠ (.slice Ao31 t355.length co31 : Value).ownBlock) ∧ some k_ ≠ (.slice Ao32 t358.length co32 : Value).ownBlock) ∧ some k_ ≠ (.slice Ao33 t361.length co33 : Value).ownBlock) ∧ some k_ ≠ (.slice Ao40 t366.length co40 : Value).ownBlock)) (n := t349.length) (c := co24) ?_).2.2; exact (lt26_ (Kd.R_mono (Kd.R_far (p := ⟨gb370, 1, none⟩) (Kd.R_far (p := ⟨gb370, 0, none⟩) (Kd.R_types HO351.out BK370.out (by decide)) (fun _ hk => hk.2) (.int .i64 t365)) (fun _ hk => hk.2) (.slice Ao40 t366.length co40)) (fun _ h_ => h_.1)))); (case side4 => exact (Kd.R_reads' HO351.out).2.1); rintro e w50 ⟨rfl, hb⟩; refine ⟨_, rfl, ?_⟩; have n0_ := am26_ (Kd.R_below (lt26_ (Kd.R_mono (Kd.R_far (p := ⟨gb370, 1, none⟩) (Kd.R_far (p := ⟨gb370, 0, none⟩) (Kd.R_types HO341.out BK370.out (by decide)) (fun _ hk => hk.2) (.int .i64 t365)) (fun _ hk => hk.2) (.slice Ao40 t366.length co40)) (fun _ h_ => h_.1))) hb); have n1_ := am26_ (Kd.R_below (lt26_ (Kd.R_mono (Kd.R_far (p := ⟨gb370, 1, none⟩) (Kd.R_far (p := ⟨gb370, 0, none⟩) (Kd.R_types HO344.out BK370.out (by decide)) (fun _ hk => hk.2) (.int .i64 t365)) (fun _ hk => hk.2) (.slice Ao40 t366.length co40)) (fun _ h_ => h_.1))) hb); have n2_ := am26_ (Kd.R_below (lt26_ (Kd.R_mono (Kd.R_far (p := ⟨gb370, 1, none⟩) (Kd.R_far (p := ⟨gb370, 0, none⟩) (Kd.R_types HO347.out BK370.out (by decide)) (fun _ hk => hk.2) (.int .i64 t365)) (fun _ hk => hk.2) (.slice Ao40 t366.length co40)) (fun _ h_ => h_.1))) hb); have n3_ := am26_ (Kd.R_below (lt26_ (Kd.R_mono (Kd.R_far (p := ⟨gb370, 1, none⟩) (Kd.R_far (p := ⟨gb370, 0, none⟩) (Kd.R_types HO351.out BK370.out (by decide)) (fun _ hk => hk.2) (.int .i64 t365)) (fun _ hk => hk.2) (.slice Ao40 t366.length co40)) (fun _ h_ => h_.1))) hb); have n4_ := am26_ (Kd.R_below (lt26_ (Kd.R_mono (Kd.R_far (p := ⟨gb370, 1, none⟩) (Kd.R_far (p := ⟨gb370, 0, none⟩) (Kd.R_types HO357.out BK370.out (by decide)) (fun _ hk => hk.2) (.int .i64 t365)) (fun _ hk => hk.2) (.slice Ao40 t366.length co40)) (fun _ h_ => h_.1))) hb); have n5_ := am26_ (Kd.R_below (lt26_ (Kd.R_mono (Kd.R_far (p := ⟨gb370, 1, none⟩) (Kd.R_far (p := ⟨gb370, 0, none⟩) (Kd.R_types HO360.out BK370.out (by decide)) (fun _ hk => hk.2) (.int .i64 t365)) (fun _ hk => hk.2) (.slice Ao40 t366.length co40)) (fun _ h_ => h_.1))) hb); have n6_ := am26_ (Kd.R_below (lt26_ (Kd.R_mono (Kd.R_far (p := ⟨gb370, 1, none⟩) (Kd.R_far (p := ⟨gb370, 0, none⟩) (Kd.R_types HO363.out BK370.out (by decide)) (fun _ hk => hk.2) (.int .i64 t365)) (fun _ hk => hk.2) (.slice Ao40 t366.length co40)) (fun _ h_ => h_.1))) hb); have n7_ := am26_ (Kd.R_below (lt26_ (Kd.R_mono (Kd.R_far (p := ⟨gb370, 1, none⟩) (Kd.R_far (p := ⟨gb370, 0, none⟩) (Kd.R_types HO368.out BK370.out (by decide)) (fun _ hk => hk.2) (.int .i64 t365)) (fun _ hk => hk.2) (.slice Ao40 t366.length co40)) (fun _ h_ => h_.1))) hb); have n8_ := am26_ (blk_below (g := gb336) (o := .cells #[.int .i64 a0_0, .slice A0_1 l0_1.length c0_1, .slice A0_2 l0_2.length c0_2, .slice A0_3 l0_3.length c0_3] 45 (0, 0)) (by (with_reducible repeat (first | refine blk_drewN ?_ _ | refine blk_drew ?_ | refine blk_alloc ?_ _)); refine blk_far ?_ NB336_370.out _; (with_reducible repeat (first | refine blk_drewN ?_ _ | refine blk_drew ?_ | refine blk_alloc ?_ _)); refine blk_far ?_ NB336_370.out _; (with_reducible repeat (first | refine blk_drewN ?_ _ | refine blk_drew ?_ | refine blk_alloc ?_ _)); exact BK336.out) hb); have n9_ := am26_ (blk_below (g := gb353) (o := .cells #[.int .i64 t348, .slice Ao24 t349.length co24] 26 (0, 0)) (by (with_reducible repeat (first | refine blk_drewN ?_ _ | refine blk_drew ?_ | refine blk_alloc ?_ _)); refine blk_far ?_ NB353_370.out _; (with_reducible repeat (first | refine blk_drewN ?_ _ | refine blk_drew ?_ | refine blk_alloc ?_ _)); refine blk_far ?_ NB353_370.out _; (with_reducible repeat (first | refine blk_drewN ?_ _ | refine blk_drew ?_ | refine blk_alloc ?_ _)); exact BK353.out) hb); have n10_ := am26_ (blk_below (g := gb364) (o := .cells #[.int .i64 t354, .slice Ao31 t355.length co31, .slice Ao32 t358.length co32, .slice Ao33 t361.length co33] 48 (0, 0)) (by (with_reducible repeat (first | refine blk_drewN ?_ _ | refine blk_drew ?_ | refine blk_alloc ?_ _)); refine blk_far ?_ NB364_370.out _; (with_reducible repeat (first | refine blk_drewN ?_ _ | refine blk_drew ?_ | refine blk_alloc ?_ _)); refine blk_far ?_ NB364_370.out _; (with_reducible repeat (first | refine blk_drewN ?_ _ | refine blk_drew ?_ | refine blk_alloc ?_ _)); exact BK364.out) hb); have n11_ := am26_ (blk_below (g := gb370) (o := .cells #[.int .i64 t365, .slice Ao40 t366.length co40] 26 (0, 0)) (by (with_reducible repeat (first | refine blk_drewN ?_ _ | refine blk_drew ?_ | refine blk_alloc ?_ _)); refine blk_put (cs := #[.int .i64 t365, .slice none 0 0]) ?_ 1 _ rfl; (with_reducible repeat (first | refine blk_drewN ?_ _ | refine blk_drew ?_ | refine blk_alloc ?_ _)); refine blk_put (cs := #[.int .i64 0, .slice none 0 0]) ?_ 0 _ rfl; (with_reducible repeat (first | refine blk_drewN ?_ _ | refine blk_drew ?_ | refine blk_alloc ?_ _)); exact BK370.out) hb); have n12_ := am26_ (below_step (lw26_ HB) hb); clear HO341; clear HO344; clear HO347; clear HO351; clear HO357; clear HO360; clear HO363; clear HO368; clear BK336; clear BK353; clear BK364; clear BK370; clear HB; have HO341 := n0_; have HO344 := n1_; have HO347 := n2_; have HO351 := n3_; have HO357 := n4_; have HO360 := n5_; have HO363 := n6_; have HO368 := n7_; have BK336 := n8_; have BK353 := n9_; have BK364 := n10_; have BK370 := n11_; have HB := n12_; clear n0_ n1_ n2_ n3_ n4_ n5_ n6_ n7_ n8_ n9_ n10_ n11_ n12_; (try clear hb); (try clear hb2); (try clear hk); (try clear hi)))
    go_meet
    case rel => exact ⟨_, ((t369 != t352)), (by first | rfl | (simp; done) | (simp [*]; done)), H', ⟨by first | omega | exact Nat.le_refl _⟩, ⟨by (with_reducible repeat (first | apply Kd.R_alloc | apply Kd.R_drewN | apply Kd.R_drew)); exact Kd.R_mono HO351.out (fun _ hk => ⟨hk.1.1.1.2, ⟨hk.1.1.2, ⟨hk.1.2, hk.2⟩⟩⟩)⟩, ⟨by (with_reducible repeat (first | apply Kd.R_alloc | apply Kd.R_drewN | apply Kd.R_drew)); exact Kd.R_mono HO357.out (fun _ hk => ⟨hk.1.2, ⟨hk.1.1.1.1.1.1, ⟨hk.1.1.1.1.1.2, hk.2⟩⟩⟩)⟩, ⟨by (with_reducible repeat (first | apply Kd.R_alloc | apply Kd.R_drewN | apply Kd.R_drew)); exact Kd.R_mono HO360.out (fun _ hk => ⟨hk.1.2, ⟨hk.1.1.1.1.1.1, ⟨hk.1.1.1.1.1.2, hk.2⟩⟩⟩)⟩, ⟨by (with_reducible repeat (first | apply Kd.R_alloc | apply Kd.R_drewN | apply Kd.R_drew)); exact Kd.R_mono HO363.out (fun _ hk => ⟨hk.1.2, ⟨hk.1.1.1.1.1.1, ⟨hk.1.1.1.1.1.2, hk.2⟩⟩⟩)⟩, ⟨by (with_reducible repeat (first | apply Kd.R_alloc | apply Kd.R_drewN | apply Kd.R_drew)); exact Kd.R_mono HO368.out (fun _ hk => ⟨hk.1.1.1.2, ⟨hk.1.1.2, ⟨hk.1.2, hk.2⟩⟩⟩)⟩, ⟨lb26_ BK336⟩, ⟨lb26_ BK353⟩, ⟨lb26_ BK364⟩, ⟨lb26_ BK370⟩, ⟨lw26_ HB⟩⟩
   ·replace c42 := Bool.eq_false_iff.mpr c42
    subst c42
    have H1 : (none) = some r := by rw [if_neg (show ¬ (false = true) by decide)] at H; exact H
    clear H
    have H := H1
    clear H1
    exact absurd H (by simp)
  case rest =>
   clear HC11
   try clear c2
   try clear p2
   try clear c3
   try clear c3b0
   try clear c4
   try clear c9
   try clear c20
   try clear c22
   try clear c28
   try clear c29
   try clear c34
   try clear c36
   try clear c37
   try clear c38
   try clear c41
   try clear c42
   try clear c43
   try clear c44
   try clear c45
   try clear c47
   try clear c48
   try clear hcz13_0
   try clear hcz13_1
   try clear hcz13_2
   try clear hcz13_3
   try clear hcz15_0
   try clear hcz15_1
   try clear hcz15_2
   try clear hcz15_3
   try clear hcz23_0
   try clear hcz23_1
   try clear hcz25_0
   try clear hcz25_1
   try clear hcz25_2
   try clear hcz25_3
   try clear hcz30_0
   try clear hcz30_1
   try clear hcz30_2
   try clear hcz30_3
   try clear hcz39_0
   try clear hcz39_1
   try clear hcz46_0
   try clear hcz46_1
   try clear hcz49_0
   try clear hcz49_1
   try clear hcz5_0
   try clear hcz5_1
   try clear hcz5_2
   try clear hcz5_3
   try clear hfz13_0
   try clear hfz13_1
   try clear hfz13_2
   try clear hfz13_3
   try clear hfz15_0
   try clear hfz15_1
   try clear hfz15_2
   try clear hfz15_3
   try clear hfz23_0
   try clear hfz23_1
   try clear hfz25_0
   try clear hfz25_1
   try clear hfz25_2
   try clear hfz25_3
   try clear hfz30_0
   try clear hfz30_1
   try clear hfz30_2
   try clear hfz30_3
   try clear hfz39_0
   try clear hfz39_1
   try clear hfz46_0
   try clear hfz46_1
   try clear hfz49_0
   try clear hfz49_1
   try clear hfz5_0
   try clear hfz5_1
   try clear hfz5_2
   try clear hfz5_3
   obtain ⟨kq, x40_10, rfl, HA, HJ10, HO_354001, HO_365001, HO_365002, HO_365003, HO_371001, BK336, BK353, BK364, BK370, HB⟩ := hcut
   cases kq with
   | zero => exact absurd HA.out (by simp [laws_FnExactPackDirectory.j0])
   | succ kj10 =>
    have H := HA.out
    clear HA
    simp only [laws_FnExactPackDirectory.j0] at H
    by_cases c51 : x40_10 = true
    ·subst c51
     have H1 : (none) = some r := by rw [if_pos rfl] at H; exact H
     clear H
     have H := H1
     clear H1
     exact absurd H (by simp)
    ·replace c51 := Bool.eq_false_iff.mpr c51
     subst c51
     have H1 : ((laws_toRanked.f kj10 a0_0 l0_1 l0_2 l0_3).bind fun bt372 => ((laws_eqRanked.f kj10 t354 t355 t358 t361 bt372.1 bt372.2.1 bt372.2.2.1 bt372.2.2.2).bind fun t382 => (if t382 = true then ((laws_markRanked.f kj10 t354 t355 t358 t361 1).bind fun bt383 => (if bt383.1 < 0 then (none) else ((laws_eqBits.f kj10 t365 t366 t348 t349).bind fun t387 => (if t387 = true then (laws_FnExactPackDirectory.j1 kj10 t352 (t369 != t352) a0_0 l0_1 l0_2 l0_3 t348 t349 t365 t366) else (none))))) else (none)))) = some r := by rw [if_neg (show ¬ (false = true) by decide)] at H; exact H
     clear H
     have H := H1
     clear H1
     replace H := Option.bind_eq_some_iff.mp H
     obtain ⟨⟨t372, t373, t376, t379⟩, A520, H⟩ := H
     replace H : ((laws_eqRanked.f kj10 t354 t355 t358 t361 t372 t373 t376 t379).bind fun t382 => (if t382 = true then ((laws_markRanked.f kj10 t354 t355 t358 t361 1).bind fun bt383 => (if bt383.1 < 0 then (none) else ((laws_eqBits.f kj10 t365 t366 t348 t349).bind fun t387 => (if t387 = true then (laws_FnExactPackDirectory.j1 kj10 t352 (t369 != t352) a0_0 l0_1 l0_2 l0_3 t348 t349 t365 t366) else (none))))) else (none))) = some r := H
     have A52 := am26_ A520
     clear A520
     replace H := Option.bind_eq_some_iff.mp H
     obtain ⟨t382, A530, H⟩ := H
     replace H : (if t382 = true then ((laws_markRanked.f kj10 t354 t355 t358 t361 1).bind fun bt383 => (if bt383.1 < 0 then (none) else ((laws_eqBits.f kj10 t365 t366 t348 t349).bind fun t387 => (if t387 = true then (laws_FnExactPackDirectory.j1 kj10 t352 (t369 != t352) a0_0 l0_1 l0_2 l0_3 t348 t349 t365 t366) else (none))))) else (none)) = some r := H
     have A53 := am26_ A530
     clear A530
     by_cases c54 : t382 = true
     ·subst c54
      have H1 : ((laws_markRanked.f kj10 t354 t355 t358 t361 1).bind fun bt383 => (if bt383.1 < 0 then (none) else ((laws_eqBits.f kj10 t365 t366 t348 t349).bind fun t387 => (if t387 = true then (laws_FnExactPackDirectory.j1 kj10 t352 (t369 != t352) a0_0 l0_1 l0_2 l0_3 t348 t349 t365 t366) else (none))))) = some r := by rw [if_pos rfl] at H; exact H
      clear H
      have H := H1
      clear H1
      replace H := Option.bind_eq_some_iff.mp H
      obtain ⟨⟨t383, t384, t385, t386⟩, A550, H⟩ := H
      replace H : (if t383 < 0 then (none) else ((laws_eqBits.f kj10 t365 t366 t348 t349).bind fun t387 => (if t387 = true then (laws_FnExactPackDirectory.j1 kj10 t352 (t369 != t352) a0_0 l0_1 l0_2 l0_3 t348 t349 t365 t366) else (none)))) = some r := H
      have A55 := am26_ A550
      clear A550
      have HC56 := am26_ H
      clear H
      try go_wp2
      have n0_ := am26_ (Kd.R_drew HO_354001.out)
      have n1_ := am26_ (Kd.R_drew HO_365001.out)
      have n2_ := am26_ (Kd.R_drew HO_365002.out)
      have n3_ := am26_ (Kd.R_drew HO_365003.out)
      have n4_ := am26_ (Kd.R_drew HO_371001.out)
      have n5_ := am26_ (blk_drew BK336.out)
      have n6_ := am26_ (blk_drew BK353.out)
      have n7_ := am26_ (blk_drew BK364.out)
      have n8_ := am26_ (blk_drew BK370.out)
      have n9_ := am26_ (below_drew1 HB.out)
      clear HO_354001
      clear HO_365001
      clear HO_365002
      clear HO_365003
      clear HO_371001
      clear BK336
      clear BK353
      clear BK364
      clear BK370
      clear HB
      have HO_354001 := n0_
      have HO_365001 := n1_
      have HO_365002 := n2_
      have HO_365003 := n3_
      have HO_371001 := n4_
      have BK336 := n5_
      have BK353 := n6_
      have BK364 := n7_
      have BK370 := n8_
      have HB := n9_
      clear n0_ n1_ n2_ n3_ n4_ n5_ n6_ n7_ n8_ n9_
      refine start_ (n := 5) (S := fun w' => w'.cell? ⟨gb364, 0, none⟩ = some (.int .i64 t354) ∧ w'.cell? ⟨gb364, 1, none⟩ = some (.slice Ao31 t355.length co31) ∧ w'.cell? ⟨gb364, 2, none⟩ = some (.slice Ao32 t358.length co32) ∧ w'.cell? ⟨gb364, 3, none⟩ = some (.slice Ao33 t361.length co33) ∧ w'.cell? ⟨gb336, 0, none⟩ = some (.int .i64 a0_0) ∧ w'.cell? ⟨gb336, 1, none⟩ = some (.slice A0_1 l0_1.length c0_1) ∧ w'.cell? ⟨gb336, 2, none⟩ = some (.slice A0_2 l0_2.length c0_2) ∧ w'.cell? ⟨gb336, 3, none⟩ = some (.slice A0_3 l0_3.length c0_3)) (ds := []) #[false, false, false, false, false] (by kernel_rfl) rfl rfl ⟨(blk_cell BK364.out 0).trans rfl, (blk_cell BK364.out 1).trans rfl, (blk_cell BK364.out 2).trans rfl, (blk_cell BK364.out 3).trans rfl, (blk_cell BK336.out 0).trans rfl, (blk_cell BK336.out 1).trans rfl, (blk_cell BK336.out 2).trans rfl, (blk_cell BK336.out 3).trans rfl⟩ (fun hHeld => ?_)
      generalize wc.drew = w57 at HO_354001 HO_365001 HO_365002 HO_365003 HO_371001 BK336 BK353 BK364 BK370 HB hHeld ⊢
      refine take_ (i := 0) (N := some 41) (v := ?_) (a' := ?_) #[true, false, false, false, false] rfl rfl (by kernel_rfl) (fun _ _ _ h => h) (Or.inl ⟨by rfl, ?_⟩) hHeld ?_ ?_
      rotate_left
      ·rintro w' ⟨s0, s1, s2, s3, s4, s5, s6, s7⟩
       go_simp
       with_reducible rfl
      rotate_left
      ·simp only [Act.put, List.setIfInBounds_toArray, List.set_cons_zero, List.set_cons_succ, i64_w, i32_w]
       rfl
      refine take_ (i := 1) (N := some 42) (v := ?_) (a' := ?_) #[true, true, false, false, false] rfl rfl (by kernel_rfl) (fun _ _ _ h => h) (Or.inl ⟨by rfl, ?_⟩) hHeld ?_ ?_
      rotate_left
      ·rintro w' ⟨s0, s1, s2, s3, s4, s5, s6, s7⟩
       go_simp
       with_reducible rfl
      rotate_left
      ·simp only [Act.put, List.setIfInBounds_toArray, List.set_cons_zero, List.set_cons_succ, i64_w, i32_w]
       rfl
      refine one_ (i := 2) (N := some 43) #[true, true, true, false, false] rfl rfl (by kernel_rfl) (by decide) (fun K hK => ?_)
      refine goes_ Try.func36 (by kernel_rfl) rfl #[.agg #[.int .i64 a0_0, .slice A0_1 l0_1.length c0_1, .slice A0_2 l0_2.length c0_2, .slice A0_3 l0_3.length c0_3]] (by rfl) rfl rfl lm26_ ?_
      with_reducible refine (laws_toRanked.calls kj10 a0_0 _ _ l0_1 _ _ l0_2 _ _ l0_3 t372 t373 t376 t379 _ ?side1 ?side2 ?side3 ?side4 ?side5 ?side6 A52.out).mono ?_
      (case side1 => exact lc26_ (Kd.C_below HR0_1.out HB.out))
      (case side2 => exact HC0_1.out)
      (case side3 => exact lc26_ (Kd.C_below HR0_2.out HB.out))
      (case side4 => exact HC0_2.out)
      (case side5 => exact lc26_ (Kd.C_below HR0_3.out HB.out))
      (case side6 => exact HC0_3.out)
      rintro e w58 ⟨v374, v377, v380, rfl, ho0, ho1, ho2, hb⟩
      refine ⟨_, rfl, ?_⟩
      have n0_ := am26_ (Kd.R_mono (Kd.R_told (Kd.R_told (Kd.R_told (Kd.R_old (lf26_ HO_354001) hb) (Kd.R_base ho0)) (Kd.R_base ho1)) (Kd.R_base ho2)) (fun _ h_ => h_.1))
      have n1_ := am26_ (Kd.R_mono (Kd.R_told (Kd.R_told (Kd.R_told (Kd.R_old (lf26_ HO_365001) hb) (Kd.R_base ho0)) (Kd.R_base ho1)) (Kd.R_base ho2)) (fun _ h_ => h_.1))
      have n2_ := am26_ (Kd.R_mono (Kd.R_told (Kd.R_told (Kd.R_told (Kd.R_old (lf26_ HO_365002) hb) (Kd.R_base ho0)) (Kd.R_base ho1)) (Kd.R_base ho2)) (fun _ h_ => h_.1))
      have n3_ := am26_ (Kd.R_mono (Kd.R_told (Kd.R_told (Kd.R_told (Kd.R_old (lf26_ HO_365003) hb) (Kd.R_base ho0)) (Kd.R_base ho1)) (Kd.R_base ho2)) (fun _ h_ => h_.1))
      have n4_ := am26_ (Kd.R_mono (Kd.R_told (Kd.R_told (Kd.R_told (Kd.R_old (lf26_ HO_371001) hb) (Kd.R_base ho0)) (Kd.R_base ho1)) (Kd.R_base ho2)) (fun _ h_ => h_.1))
      have n5_ := am26_ (Kd.R_lower (Kd.R_new' (Kd.R_new' (Kd.R_new' (Kd.R_new' (Kd.R_new' ho0 (Kd.R_lt (lf26_ HO_354001))) (Kd.R_lt (lf26_ HO_365001))) (Kd.R_lt (lf26_ HO_365002))) (Kd.R_lt (lf26_ HO_365003))) (Kd.R_lt (lf26_ HO_371001))) (below_size (lw26_ HB)))
      have n6_ := am26_ (Kd.R_lower (Kd.R_new' (Kd.R_new' (Kd.R_new' (Kd.R_new' (Kd.R_new' ho1 (Kd.R_lt (lf26_ HO_354001))) (Kd.R_lt (lf26_ HO_365001))) (Kd.R_lt (lf26_ HO_365002))) (Kd.R_lt (lf26_ HO_365003))) (Kd.R_lt (lf26_ HO_371001))) (below_size (lw26_ HB)))
      have n7_ := am26_ (Kd.R_lower (Kd.R_new' (Kd.R_new' (Kd.R_new' (Kd.R_new' (Kd.R_new' ho2 (Kd.R_lt (lf26_ HO_354001))) (Kd.R_lt (lf26_ HO_365001))) (Kd.R_lt (lf26_ HO_365002))) (Kd.R_lt (lf26_ HO_365003))) (Kd.R_lt (lf26_ HO_371001))) (below_size (lw26_ HB)))
      have n8_ := am26_ (blk_below (g := gb336) (o := .cells #[.int .i64 a0_0, .slice A0_1 l0_1.length c0_1, .slice A0_2 l0_2.length c0_2, .slice A0_3 l0_3.length c0_3] 45 (0, 0)) (lb26_ BK336) hb)
      have n9_ := am26_ (blk_below (g := gb353) (o := .cells #[.int .i64 t348, .slice Ao24 t349.length co24] 26 (0, 0)) (lb26_ BK353) hb)
      have n10_ := am26_ (blk_below (g := gb364) (o := .cells #[.int .i64 t354, .slice Ao31 t355.length co31, .slice Ao32 t358.length co32, .slice Ao33 t361.length co33] 48 (0, 0)) (lb26_ BK364) hb)
      have n11_ := am26_ (blk_below (g := gb370) (o := .cells #[.int .i64 t365, .slice Ao40 t366.length co40] 26 (0, 0)) (lb26_ BK370) hb)
      have n12_ := am26_ (below_step (lw26_ HB) hb)
      clear HO_354001
      clear HO_365001
      clear HO_365002
      clear HO_365003
      clear HO_371001
      clear BK336
      clear BK353
      clear BK364
      clear BK370
      clear HB
      have HO_354001 := n0_
      have HO_365001 := n1_
      have HO_365002 := n2_
      have HO_365003 := n3_
      have HO_371001 := n4_
      have HO375 := n5_
      have HO378 := n6_
      have HO381 := n7_
      have BK336 := n8_
      have BK353 := n9_
      have BK364 := n10_
      have BK370 := n11_
      have HB := n12_
      clear n0_ n1_ n2_ n3_ n4_ n5_ n6_ n7_ n8_ n9_ n10_ n11_ n12_
      (try clear hb)
      (try clear hb2)
      (try clear hk)
      (try clear hi)
      (try clear ho0)
      (try clear ho1)
      (try clear ho2)
      obtain ⟨Ao59, co59, eo59⟩ := Kd.R_slice HO375.out
      (first | subst eo59 | (injection eo59 with f1_ f2_ f3_; have f4_ := f1_.symm; have f5_ := f3_.symm; clear f1_ f2_ f3_; subst f4_; subst f5_))
      obtain ⟨Ao60, co60, eo60⟩ := Kd.R_slice HO378.out
      (first | subst eo60 | (injection eo60 with f1_ f2_ f3_; have f4_ := f1_.symm; have f5_ := f3_.symm; clear f1_ f2_ f3_; subst f4_; subst f5_))
      obtain ⟨Ao61, co61, eo61⟩ := Kd.R_slice HO381.out
      (first | subst eo61 | (injection eo61 with f1_ f2_ f3_; have f4_ := f1_.symm; have f5_ := f3_.symm; clear f1_ f2_ f3_; subst f4_; subst f5_))
      refine hK.out _ _ ⟨(blk_cell BK364.out 0).trans rfl, (blk_cell BK364.out 1).trans rfl, (blk_cell BK364.out 2).trans rfl, (blk_cell BK364.out 3).trans rfl, (blk_cell BK336.out 0).trans rfl, (blk_cell BK336.out 1).trans rfl, (blk_cell BK336.out 2).trans rfl, (blk_cell BK336.out 3).trans rfl⟩ (fun hHeld => ?_)
      clear hK K
      refine norm_ (a' := ?_) ?_ ?_
      rotate_left
      ·show Act.put _ (some 43) _ = _
       simp only [Act.put, List.setIfInBounds_toArray, List.set_cons_zero, List.set_cons_succ, i64_w, i32_w]
       rfl
      refine one_ (i := 3) (N := some 44) #[true, true, true, true, false] rfl rfl (by kernel_rfl) (by decide) (fun K hK => ?_)
      refine goes_ Try.func38 (by kernel_rfl) rfl #[.agg #[.int .i64 t354, .slice Ao31 t355.length co31, .slice Ao32 t358.length co32, .slice Ao33 t361.length co33], .agg #[.int .i64 t372, .slice Ao59 t373.length co59, .slice Ao60 t376.length co60, .slice Ao61 t379.length co61]] (by rfl) rfl rfl lm26_ ?_
      with_reducible refine (laws_eqRanked.calls kj10 t354 _ _ t355 _ _ t358 _ _ t361 t372 _ _ t373 _ _ t376 _ _ t379 true _ ?side1 ?side2 ?side3 ?side4 ?side5 ?side6 ?side7 ?side8 ?side9 ?side10 ?side11 ?side12 A53.out).mono ?_
      (case side1 => exact lc26_ (Kd.R_reads' HO_365001.out).2.2)
      (case side2 => exact (Kd.R_reads' HO_365001.out).2.1)
      (case side3 => exact lc26_ (Kd.R_reads' HO_365002.out).2.2)
      (case side4 => exact (Kd.R_reads' HO_365002.out).2.1)
      (case side5 => exact lc26_ (Kd.R_reads' HO_365003.out).2.2)
      (case side6 => exact (Kd.R_reads' HO_365003.out).2.1)
      (case side7 => exact lc26_ (Kd.R_reads' HO375.out).2.2)
      (case side8 => exact (Kd.R_reads' HO375.out).2.1)
      (case side9 => exact lc26_ (Kd.R_reads' HO378.out).2.2)
      (case side10 => exact (Kd.R_reads' HO378.out).2.1)
      (case side11 => exact lc26_ (Kd.R_reads' HO381.out).2.2)
      (case side12 => exact (Kd.R_reads' HO381.out).2.1)
      rintro e w62 ⟨rfl, hb⟩
      refine ⟨_, rfl, ?_⟩
      have n0_ := am26_ (Kd.R_below (lf26_ HO_354001) hb)
      have n1_ := am26_ (Kd.R_below (lf26_ HO_365001) hb)
      have n2_ := am26_ (Kd.R_below (lf26_ HO_365002) hb)
      have n3_ := am26_ (Kd.R_below (lf26_ HO_365003) hb)
      have n4_ := am26_ (Kd.R_below (lf26_ HO_371001) hb)
      have n5_ := am26_ (Kd.R_below (lf26_ HO375) hb)
      have n6_ := am26_ (Kd.R_below (lf26_ HO378) hb)
      have n7_ := am26_ (Kd.R_below (lf26_ HO381) hb)
      have n8_ := am26_ (blk_below (g := gb336) (o := .cells #[.int .i64 a0_0, .slice A0_1 l0_1.length c0_1, .slice A0_2 l0_2.length c0_2, .slice A0_3 l0_3.length c0_3] 45 (0, 0)) (lb26_ BK336) hb)
      have n9_ := am26_ (blk_below (g := gb353) (o := .cells #[.int .i64 t348, .slice Ao24 t349.length co24] 26 (0, 0)) (lb26_ BK353) hb)
      have n10_ := am26_ (blk_below (g := gb364) (o := .cells #[.int .i64 t354, .slice Ao31 t355.length co31, .slice Ao32 t358.length co32, .slice Ao33 t361.length co33] 48 (0, 0)) (lb26_ BK364) hb)
      have n11_ := am26_ (blk_below (g := gb370) (o := .cells #[.int .i64 t365, .slice Ao40 t366.length co40] 26 (0, 0)) (lb26_ BK370) hb)
      have n12_ := am26_ (below_step (lw26_ HB) hb)
      clear HO_354001
      clear HO_365001
      clear HO_365002
      clear HO_365003
      clear HO_371001
      clear HO375
      clear HO378
      clear HO381
      clear BK336
      clear BK353
      clear BK364
      clear BK370
      clear HB
      have HO_354001 := n0_
      have HO_365001 := n1_
      have HO_365002 := n2_
      have HO_365003 := n3_
      have HO_371001 := n4_
      have HO375 := n5_
      have HO378 := n6_
      have HO381 := n7_
      have BK336 := n8_
      have BK353 := n9_
      have BK364 := n10_
      have BK370 := n11_
      have HB := n12_
      clear n0_ n1_ n2_ n3_ n4_ n5_ n6_ n7_ n8_ n9_ n10_ n11_ n12_
      (try clear hb)
      (try clear hb2)
      (try clear hk)
      (try clear hi)
      refine hK.out _ _ ⟨(blk_cell BK364.out 0).trans rfl, (blk_cell BK364.out 1).trans rfl, (blk_cell BK364.out 2).trans rfl, (blk_cell BK364.out 3).trans rfl, (blk_cell BK336.out 0).trans rfl, (blk_cell BK336.out 1).trans rfl, (blk_cell BK336.out 2).trans rfl, (blk_cell BK336.out 3).trans rfl⟩ (fun hHeld => ?_)
      clear hK K
      refine norm_ (a' := ?_) ?_ ?_
      rotate_left
      ·show Act.put _ (some 44) _ = _
       simp only [Act.put, List.setIfInBounds_toArray, List.set_cons_zero, List.set_cons_succ, i64_w, i32_w]
       rfl
      refine pure_ (i := 4) (N := some 45) (v := ?_) (a' := ?_) #[true, true, true, true, true] rfl rfl (by kernel_rfl) (fun _ _ _ h => h) (Or.inl ⟨by rfl, ?_⟩) ?_ ?_
      rotate_left
      ·intro w'
       go_simp
       with_reducible rfl
      rotate_left
      ·simp only [Act.put, List.setIfInBounds_toArray, List.set_cons_zero, List.set_cons_succ, i64_w, i32_w]
       rfl
      refine done_ (by kernel_rfl) ?_
      have hnb63 := NB364_336.out
      have hnc63 := NB336_364.out
      have hnb64 := NB364_353.out
      have hnc64 := NB353_364.out
      have hnb65 := NB364_370.out
      have hnc65 := NB370_364.out
      have hcz66_0 : w62.cell? ⟨gb364, 0, none⟩ = some (.int .i64 t354) := (blk_cell BK364.out 0).trans rfl
      have hcz66_1 : w62.cell? ⟨gb364, 1, none⟩ = some (.slice Ao31 t355.length co31) := (blk_cell BK364.out 1).trans rfl
      have hcz66_2 : w62.cell? ⟨gb364, 2, none⟩ = some (.slice Ao32 t358.length co32) := (blk_cell BK364.out 2).trans rfl
      have hcz66_3 : w62.cell? ⟨gb364, 3, none⟩ = some (.slice Ao33 t361.length co33) := (blk_cell BK364.out 3).trans rfl
      have hfz66_0 := blk_frozen BK364.out 0
      have hfz66_1 := blk_frozen BK364.out 1
      have hfz66_2 := blk_frozen BK364.out 2
      have hfz66_3 := blk_frozen BK364.out 3
      go_upto_region 14 with (first | ((with_reducible refine gate_callee (f := 39) rfl ?_); refine goesL_ (some 48) rfl rfl Try.func39 (by kernel_rfl) rfl #[.agg #[.int .i64 t354, .slice Ao31 t355.length co31, .slice Ao32 t358.length co32, .slice Ao33 t361.length co33], .int .i64 1] rfl lm26_ ?_; (with_reducible refine (laws_markRanked.calls kj10 t354 (fun k_ => some k_ = (.slice Ao31 t355.length co31 : Value).ownBlock) (.slice Ao31 t355.length co31) t355 (fun k_ => some k_ = (.slice Ao32 t358.length co32 : Value).ownBlock) (.slice Ao32 t358.length co32) t358 (fun k_ => some k_ = (.slice Ao33 t361.length co33 : Value).ownBlock) (.slice Ao33 t361.length co33) t361 1 t383 t384 t385 t386 w _ ?side1 ?side2 ?side3 ?side4 ?side5 ?side6 ?side7 ?side8 ?side9 ?side10 A55.out).mono ?_); (case side1 => repeat (first | (with_reducible first | exact HB.out | apply below_alloc | apply pw_below_drewN | apply below_drew1 | refine below_set ?_ GE336.out | refine below_set ?_ GE353.out | refine below_set ?_ GE364.out | refine below_set ?_ GE370.out) | exact HB.out)); (case side2 => exact Kd.R_tight rfl HO_365001.out); (case side3 => exact fun k_ e_ => (HO_365001.out.1 k_ e_.symm).1.1.1.2.1); (case side4 => exact fun k_ e_ => (HO_365001.out.1 k_ e_.symm).1.1.1.2.2.1); (case side5 => exact Kd.R_tight rfl HO_365002.out); (case side6 => exact fun k_ e_ => (HO_365002.out.1 k_ e_.symm).1.1.1.2.1); (case side7 => exact fun k_ e_ => (HO_365002.out.1 k_ e_.symm).1.1.1.2.2.1); (case side8 => exact Kd.R_tight rfl HO_365003.out); (case side9 => exact fun k_ e_ => (HO_365003.out.1 k_ e_.symm).1.1.1.2.1); (case side10 => exact fun k_ e_ => (HO_365003.out.1 k_ e_.symm).1.1.1.2.2.1); rintro e w67 ⟨rfl, hy0, hy1, hy2, hb, hkp⟩; refine ⟨_, rfl, ?_⟩; have n0_ := am26_ (Kd.R_mono (ok' := fun k_ => some k_ ≠ (.slice Ao31 t355.length co31 : Value).ownBlock ∧ some k_ ≠ (.slice Ao32 t358.length co32 : Value).ownBlock ∧ some k_ ≠ (.slice Ao33 t361.length co33 : Value).ownBlock ∧ some k_ ≠ (.slice Ao40 t366.length co40 : Value).ownBlock ∧ some k_ ≠ (.slice Ao59 t373.length co59 : Value).ownBlock ∧ some k_ ≠ (.slice Ao60 t376.length co60 : Value).ownBlock ∧ some k_ ≠ (.slice Ao61 t379.length co61 : Value).ownBlock) (Kd.R_keptB (HO_354001.out) hkp (fun k_ hk_ hs_ => Or.elim hs_ (fun e_ => (hk_.1.1.1.1) e_) (fun e_ => Or.elim e_ (fun e_ => (hk_.1.1.1.2.1) e_) (fun e_ => (hk_.1.1.1.2.2.1) e_)))) (fun k_ hk_ => ⟨hk_.1.1.1.1.1, hk_.1.1.1.1.2.1, hk_.1.1.1.1.2.2.1, hk_.1.1.1.1.2.2.2, hk_.1.1.1.2, hk_.1.1.2, hk_.1.2⟩)); have n1_ := am26_ (Kd.R_reok rfl hy0 (fun k_ e_ => HO_365001.out.1 k_ e_)); have n2_ := am26_ (Kd.R_reok rfl hy1 (fun k_ e_ => HO_365002.out.1 k_ e_)); have n3_ := am26_ (Kd.R_reok rfl hy2 (fun k_ e_ => HO_365003.out.1 k_ e_)); have n4_ := am26_ (Kd.R_mono (ok' := fun k_ => some k_ ≠ (.slice Ao24 t349.length co24 : Value).ownBlock ∧ some k_ ≠ (.slice Ao31 t355.length co31 : Value).ownBlock ∧ some k_ ≠ (.slice Ao32 t358.length co32 : Value).ownBlock ∧ some k_ ≠ (.slice Ao33 t361.length co33 : Value).ownBlock ∧ some k_ ≠ (.slice Ao59 t373.length co59 : Value).ownBlock ∧ some k_ ≠ (.slice Ao60 t376.length co60 : Value).ownBlock ∧ some k_ ≠ (.slice Ao61 t379.length co61 : Value).ownBlock) (Kd.R_keptB (HO_371001.out) hkp (fun k_ hk_ hs_ => Or.elim hs_ (fun e_ => (hk_.1.1.1.2.1) e_) (fun e_ => Or.elim e_ (fun e_ => (hk_.1.1.1.2.2.1) e_) (fun e_ => (hk_.1.1.1.2.2.2) e_)))) (fun k_ hk_ => ⟨hk_.1.1.1.1.1, hk_.1.1.1.1.2.1, hk_.1.1.1.1.2.2.1, hk_.1.1.1.1.2.2.2, hk_.1.1.1.2, hk_.1.1.2, hk_.1.2⟩)); have n5_ := am26_ (blk_kept (lb26_ BK336) hkp (fun hs_ => Or.elim hs_ (fun e_ => (fun e_ => (Kd.R_ne HO_365001.out BK336.out (by decide)) e_) e_) (fun e_ => Or.elim e_ (fun e_ => (fun e_ => (Kd.R_ne HO_365002.out BK336.out (by decide)) e_) e_) (fun e_ => (fun e_ => (Kd.R_ne HO_365003.out BK336.out (by decide)) e_) e_)))); have n6_ := am26_ (blk_kept (lb26_ BK353) hkp (fun hs_ => Or.elim hs_ (fun e_ => (fun e_ => (Kd.R_ne HO_365001.out BK353.out (by decide)) e_) e_) (fun e_ => Or.elim e_ (fun e_ => (fun e_ => (Kd.R_ne HO_365002.out BK353.out (by decide)) e_) e_) (fun e_ => (fun e_ => (Kd.R_ne HO_365003.out BK353.out (by decide)) e_) e_)))); have n7_ := am26_ (blk_kept (lb26_ BK364) hkp (fun hs_ => Or.elim hs_ (fun e_ => (fun e_ => (Kd.R_ne HO_365001.out BK364.out (by decide)) e_) e_) (fun e_ => Or.elim e_ (fun e_ => (fun e_ => (Kd.R_ne HO_365002.out BK364.out (by decide)) e_) e_) (fun e_ => (fun e_ => (Kd.R_ne HO_365003.out BK364.out (by decide)) e_) e_)))); have n8_ := am26_ (blk_kept (lb26_ BK370) hkp (fun hs_ => Or.elim hs_ (fun e_ => (fun e_ => (Kd.R_ne HO_365001.out BK370.out (by decide)) e_) e_) (fun e_ => Or.elim e_ (fun e_ => (fun e_ => (Kd.R_ne HO_365002.out BK370.out (by decide)) e_) e_) (fun e_ => (fun e_ => (Kd.R_ne HO_365003.out BK370.out (by decide)) e_) e_)))); have n9_ := am26_ (Kd.R_mono (ok' := fun k_ => some k_ ≠ (.slice Ao24 t349.length co24 : Value).ownBlock ∧ some k_ ≠ (.slice Ao31 t355.length co31 : Value).ownBlock ∧ some k_ ≠ (.slice Ao32 t358.length co32 : Value).ownBlock ∧ some k_ ≠ (.slice Ao33 t361.length co33 : Value).ownBlock ∧ some k_ ≠ (.slice Ao40 t366.length co40 : Value).ownBlock ∧ some k_ ≠ (.slice Ao60 t376.length co60 : Value).ownBlock ∧ some k_ ≠ (.slice Ao61 t379.length co61 : Value).ownBlock) (Kd.R_keptB (HO375.out) hkp (fun k_ hk_ hs_ => Or.elim hs_ (fun e_ => (hk_.1.1.1.2) e_) (fun e_ => Or.elim e_ (fun e_ => (hk_.1.1.2) e_) (fun e_ => (hk_.1.2) e_)))) (fun k_ hk_ => ⟨hk_.1.1.1.1.1.2, hk_.1.1.1.1.2, hk_.1.1.1.2, hk_.1.1.2, hk_.1.2, hk_.1.1.1.1.1.1.1, hk_.1.1.1.1.1.1.2⟩)); have n10_ := am26_ (Kd.R_mono (ok' := fun k_ => some k_ ≠ (.slice Ao24 t349.length co24 : Value).ownBlock ∧ some k_ ≠ (.slice Ao31 t355.length co31 : Value).ownBlock ∧ some k_ ≠ (.slice Ao32 t358.length co32 : Value).ownBlock ∧ some k_ ≠ (.slice Ao33 t361.length co33 : Value).ownBlock ∧ some k_ ≠ (.slice Ao40 t366.length co40 : Value).ownBlock ∧ some k_ ≠ (.slice Ao59 t373.length co59 : Value).ownBlock ∧ some k_ ≠ (.slice Ao61 t379.length co61 : Value).ownBlock) (Kd.R_keptB (HO378.out) hkp (fun k_ hk_ hs_ => Or.elim hs_ (fun e_ => (hk_.1.1.1.2) e_) (fun e_ => Or.elim e_ (fun e_ => (hk_.1.1.2) e_) (fun e_ => (hk_.1.2) e_)))) (fun k_ hk_ => ⟨hk_.1.1.1.1.1.2, hk_.1.1.1.1.2, hk_.1.1.1.2, hk_.1.1.2, hk_.1.2, hk_.1.1.1.1.1.1.1, hk_.1.1.1.1.1.1.2⟩)); have n11_ := am26_ (Kd.R_mono (ok' := fun k_ => some k_ ≠ (.slice Ao24 t349.length co24 : Value).ownBlock ∧ some k_ ≠ (.slice Ao31 t355.length co31 : Value).ownBlock ∧ some k_ ≠ (.slice Ao32 t358.length co32 : Value).ownBlock ∧ some k_ ≠ (.slice Ao33 t361.length co33 : Value).ownBlock ∧ some k_ ≠ (.slice Ao40 t366.length co40 : Value).ownBlock ∧ some k_ ≠ (.slice Ao59 t373.length co59 : Value).ownBlock ∧ some k_ ≠ (.slice Ao60 t376.length co60 : Value).ownBlock) (Kd.R_keptB (HO381.out) hkp (fun k_ hk_ hs_ => Or.elim hs_ (fun e_ => (hk_.1.1.1.2) e_) (fun e_ => Or.elim e_ (fun e_ => (hk_.1.1.2) e_) (fun e_ => (hk_.1.2) e_)))) (fun k_ hk_ => ⟨hk_.1.1.1.1.1.2, hk_.1.1.1.1.2, hk_.1.1.1.2, hk_.1.1.2, hk_.1.2, hk_.1.1.1.1.1.1.1, hk_.1.1.1.1.1.1.2⟩)); have n12_ := am26_ (hb); clear HO_354001; clear HO_365001; clear HO_365002; clear HO_365003; clear HO_371001; clear BK336; clear BK353; clear BK364; clear BK370; clear HO375; clear HO378; clear HO381; clear HB; have HO_354001 := n0_; have HO_365001 := n1_; have HO_365002 := n2_; have HO_365003 := n3_; have HO_371001 := n4_; have BK336 := n5_; have BK353 := n6_; have BK364 := n7_; have BK370 := n8_; have HO375 := n9_; have HO378 := n10_; have HO381 := n11_; have HB := n12_; clear n0_ n1_ n2_ n3_ n4_ n5_ n6_ n7_ n8_ n9_ n10_ n11_ n12_; (try clear hb); (try clear hkp); (try clear hy0); (try clear hy1); (try clear hy2)))
      (try simp only [Act.put, List.setIfInBounds_toArray, List.set_cons_zero, List.set_cons_succ])
      go_cut [61] (fun v61 wc => ∃ (kq : Nat) (x61_55 : Bool), v61 = .bool x61_55 ∧ Aside0 (laws_FnExactPackDirectory.j1 kq t352 x61_55 a0_0 l0_1 l0_2 l0_3 t348 t349 t365 t366 = some r) ∧ Aside0 (kq ≤ kj10) ∧ Aside0 (Kd.R (Kd.int .i64) 3 wc w.heap.size (fun k_ => some k_ ≠ ((.slice Ao31 t355.length co31) : Value).ownBlock ∧ some k_ ≠ ((.slice Ao32 t358.length co32) : Value).ownBlock ∧ some k_ ≠ ((.slice Ao33 t361.length co33) : Value).ownBlock ∧ some k_ ≠ ((.slice Ao40 t366.length co40) : Value).ownBlock) (.slice Ao24 t349.length co24) t349) ∧ Aside0 (Kd.R (Kd.int .i64) 3 wc w.heap.size (fun k_ => some k_ ≠ ((.slice Ao24 t349.length co24) : Value).ownBlock ∧ some k_ ≠ ((.slice Ao32 t358.length co32) : Value).ownBlock ∧ some k_ ≠ ((.slice Ao33 t361.length co33) : Value).ownBlock ∧ some k_ ≠ ((.slice Ao40 t366.length co40) : Value).ownBlock) (.slice Ao31 t355.length co31) t384) ∧ Aside0 (Kd.R (Kd.int .i64) 3 wc w.heap.size (fun k_ => some k_ ≠ ((.slice Ao24 t349.length co24) : Value).ownBlock ∧ some k_ ≠ ((.slice Ao31 t355.length co31) : Value).ownBlock ∧ some k_ ≠ ((.slice Ao33 t361.length co33) : Value).ownBlock ∧ some k_ ≠ ((.slice Ao40 t366.length co40) : Value).ownBlock) (.slice Ao32 t358.length co32) t385) ∧ Aside0 (Kd.R (Kd.int .i64) 3 wc w.heap.size (fun k_ => some k_ ≠ ((.slice Ao24 t349.length co24) : Value).ownBlock ∧ some k_ ≠ ((.slice Ao31 t355.length co31) : Value).ownBlock ∧ some k_ ≠ ((.slice Ao32 t358.length co32) : Value).ownBlock ∧ some k_ ≠ ((.slice Ao40 t366.length co40) : Value).ownBlock) (.slice Ao33 t361.length co33) t386) ∧ Aside0 (Kd.R (Kd.int .i64) 3 wc w.heap.size (fun k_ => some k_ ≠ ((.slice Ao24 t349.length co24) : Value).ownBlock ∧ some k_ ≠ ((.slice Ao31 t355.length co31) : Value).ownBlock ∧ some k_ ≠ ((.slice Ao32 t358.length co32) : Value).ownBlock ∧ some k_ ≠ ((.slice Ao33 t361.length co33) : Value).ownBlock) (.slice Ao40 t366.length co40) t366) ∧ Aside0 (wc.heap[gb336]? = some (.cells #[.int .i64 a0_0, (.slice A0_1 l0_1.length c0_1), (.slice A0_2 l0_2.length c0_2), (.slice A0_3 l0_3.length c0_3)] 45 (0, 0))) ∧ Aside0 (wc.heap[gb353]? = some (.cells #[.int .i64 t348, (.slice Ao24 t349.length co24)] 26 (0, 0))) ∧ Aside0 (wc.heap[gb364]? = some (.cells #[.int .i64 t354, (.slice Ao31 t355.length co31), (.slice Ao32 t358.length co32), (.slice Ao33 t361.length co33)] 48 (0, 0))) ∧ Aside0 (wc.heap[gb370]? = some (.cells #[.int .i64 t365, (.slice Ao40 t366.length co40)] 26 (0, 0))) ∧ Aside0 (Below w.heap.size w wc))
      case first =>
       have H := HC56.out
       clear HC56
       by_cases c68 : t383 < 0
       ·rw [if_pos c68] at H
        exact absurd H (by simp)
       ·rw [if_neg c68] at H
        have c68b0 : decide (t383 < 0) = false := decide_eq_false c68
        clear c68
        (first | rw [c68b0] | (simp only [i64_w, i32_w]; rw [c68b0]) | skip)
        replace H := Option.bind_eq_some_iff.mp H
        obtain ⟨t387, A690, H⟩ := H
        replace H : (if t387 = true then (laws_FnExactPackDirectory.j1 kj10 t352 (t369 != t352) a0_0 l0_1 l0_2 l0_3 t348 t349 t365 t366) else (none)) = some r := H
        have A69 := am26_ A690
        clear A690
        by_cases c70 : t387 = true
        ·subst c70
         have H1 : (laws_FnExactPackDirectory.j1 kj10 t352 (t369 != t352) a0_0 l0_1 l0_2 l0_3 t348 t349 t365 t366) = some r := by rw [if_pos rfl] at H; exact H
         clear H
         have H := H1
         clear H1
         have H' := am26_ H
         clear H
         have hnb71 := NB370_336.out
         have hnc71 := NB336_370.out
         have hnb72 := NB370_353.out
         have hnc72 := NB353_370.out
         have hnb73 := NB370_364.out
         have hnc73 := NB364_370.out
         have hcz74_0 : w67.cell? ⟨gb370, 0, none⟩ = some (.int .i64 t365) := (blk_cell BK370.out 0).trans rfl
         have hcz74_1 : w67.cell? ⟨gb370, 1, none⟩ = some (.slice Ao40 t366.length co40) := (blk_cell BK370.out 1).trans rfl
         have hfz74_0 := blk_frozen BK370.out 0
         have hfz74_1 := blk_frozen BK370.out 1
         have hnb75 := NB353_336.out
         have hnc75 := NB336_353.out
         have hnb76 := NB353_364.out
         have hnc76 := NB364_353.out
         have hcz77_0 : w67.cell? ⟨gb353, 0, none⟩ = some (.int .i64 t348) := (blk_cell BK353.out 0).trans rfl
         have hcz77_1 : w67.cell? ⟨gb353, 1, none⟩ = some (.slice Ao24 t349.length co24) := (blk_cell BK353.out 1).trans rfl
         have hfz77_0 := blk_frozen BK353.out 0
         have hfz77_1 := blk_frozen BK353.out 1
         go_wp2_with (first | (go_at_call 20; (with_reducible refine (laws_eqBits.calls kj10 t365 _ _ t366 t348 _ _ t349 true _ ?side1 ?side2 ?side3 ?side4 A69.out).mono ?_); (case side1 => exact lc26_ (Kd.R_reads' HO_371001.out).2.2); (case side2 => exact (Kd.R_reads' HO_371001.out).2.1); (case side3 => exact lc26_ (Kd.R_reads' HO_354001.out).2.2); (case side4 => exact (Kd.R_reads' HO_354001.out).2.1); rintro e w78 ⟨rfl, hb⟩; have n0_ := am26_ (Kd.R_below (lf26_ HO_354001) hb); have n1_ := am26_ (Kd.R_below (lf26_ HO_365001) hb); have n2_ := am26_ (Kd.R_below (lf26_ HO_365002) hb); have n3_ := am26_ (Kd.R_below (lf26_ HO_365003) hb); have n4_ := am26_ (Kd.R_below (lf26_ HO_371001) hb); have n5_ := am26_ (Kd.R_below (lf26_ HO375) hb); have n6_ := am26_ (Kd.R_below (lf26_ HO378) hb); have n7_ := am26_ (Kd.R_below (lf26_ HO381) hb); have n8_ := am26_ (blk_below (g := gb336) (o := .cells #[.int .i64 a0_0, .slice A0_1 l0_1.length c0_1, .slice A0_2 l0_2.length c0_2, .slice A0_3 l0_3.length c0_3] 45 (0, 0)) (lb26_ BK336) hb); have n9_ := am26_ (blk_below (g := gb353) (o := .cells #[.int .i64 t348, .slice Ao24 t349.length co24] 26 (0, 0)) (lb26_ BK353) hb); have n10_ := am26_ (blk_below (g := gb364) (o := .cells #[.int .i64 t354, .slice Ao31 t355.length co31, .slice Ao32 t358.length co32, .slice Ao33 t361.length co33] 48 (0, 0)) (lb26_ BK364) hb); have n11_ := am26_ (blk_below (g := gb370) (o := .cells #[.int .i64 t365, .slice Ao40 t366.length co40] 26 (0, 0)) (lb26_ BK370) hb); have n12_ := am26_ (below_step (lw26_ HB) hb); clear HO_354001; clear HO_365001; clear HO_365002; clear HO_365003; clear HO_371001; clear HO375; clear HO378; clear HO381; clear BK336; clear BK353; clear BK364; clear BK370; clear HB; have HO_354001 := n0_; have HO_365001 := n1_; have HO_365002 := n2_; have HO_365003 := n3_; have HO_371001 := n4_; have HO375 := n5_; have HO378 := n6_; have HO381 := n7_; have BK336 := n8_; have BK353 := n9_; have BK364 := n10_; have BK370 := n11_; have HB := n12_; clear n0_ n1_ n2_ n3_ n4_ n5_ n6_ n7_ n8_ n9_ n10_ n11_ n12_; (try clear hb); (try clear hb2); (try clear hk); (try clear hi)))
         go_meet
         case rel => exact ⟨_, ((t369 != t352)), (by first | rfl | (simp; done) | (simp [*]; done)), H', ⟨by have := HJ10.out; first | omega | exact Nat.le_refl _⟩, ⟨by (with_reducible repeat (first | apply Kd.R_alloc | apply Kd.R_drewN | apply Kd.R_drew)); exact Kd.R_mono HO_354001.out (fun _ hk => ⟨hk.1, ⟨hk.2.1, ⟨hk.2.2.1, hk.2.2.2.1⟩⟩⟩)⟩, ⟨by (with_reducible repeat (first | apply Kd.R_alloc | apply Kd.R_drewN | apply Kd.R_drew)); exact Kd.R_mono HO_365001.out (fun _ hk => ⟨hk.1.1.1.1, ⟨hk.1.1.1.2.1, ⟨hk.1.1.1.2.2.1, hk.1.1.1.2.2.2⟩⟩⟩)⟩, ⟨by (with_reducible repeat (first | apply Kd.R_alloc | apply Kd.R_drewN | apply Kd.R_drew)); exact Kd.R_mono HO_365002.out (fun _ hk => ⟨hk.1.1.1.1, ⟨hk.1.1.1.2.1, ⟨hk.1.1.1.2.2.1, hk.1.1.1.2.2.2⟩⟩⟩)⟩, ⟨by (with_reducible repeat (first | apply Kd.R_alloc | apply Kd.R_drewN | apply Kd.R_drew)); exact Kd.R_mono HO_365003.out (fun _ hk => ⟨hk.1.1.1.1, ⟨hk.1.1.1.2.1, ⟨hk.1.1.1.2.2.1, hk.1.1.1.2.2.2⟩⟩⟩)⟩, ⟨by (with_reducible repeat (first | apply Kd.R_alloc | apply Kd.R_drewN | apply Kd.R_drew)); exact Kd.R_mono HO_371001.out (fun _ hk => ⟨hk.1, ⟨hk.2.1, ⟨hk.2.2.1, hk.2.2.2.1⟩⟩⟩)⟩, ⟨lb26_ BK336⟩, ⟨lb26_ BK353⟩, ⟨lb26_ BK364⟩, ⟨lb26_ BK370⟩, ⟨lw26_ HB⟩⟩
        ·replace c70 := Bool.eq_false_iff.mpr c70
         subst c70
         have H1 : (none) = some r := by rw [if_neg (show ¬ (false = true) by decide)] at H; exact H
         clear H
         have H := H1
         clear H1
         exact absurd H (by simp)
      case rest =>
       clear HC56
       try clear c2
       try clear p2
       try clear c3
       try clear c3b0
       try clear c4
       try clear c5
       try clear c6
       try clear c7
       try clear c9
       try clear c20
       try clear c22
       try clear c28
       try clear c29
       try clear c34
       try clear c36
       try clear c37
       try clear c38
       try clear c39
       try clear c41
       try clear c42
       try clear c43
       try clear c44
       try clear c45
       try clear c47
       try clear c48
       try clear c51
       try clear c54
       try clear c63
       try clear c64
       try clear c65
       try clear c68
       try clear c68b0
       try clear c70
       try clear c71
       try clear c72
       try clear c73
       try clear c75
       try clear c76
       try clear hcz13_0
       try clear hcz13_1
       try clear hcz13_2
       try clear hcz13_3
       try clear hcz15_0
       try clear hcz15_1
       try clear hcz15_2
       try clear hcz15_3
       try clear hcz23_0
       try clear hcz23_1
       try clear hcz25_0
       try clear hcz25_1
       try clear hcz25_2
       try clear hcz25_3
       try clear hcz30_0
       try clear hcz30_1
       try clear hcz30_2
       try clear hcz30_3
       try clear hcz39_0
       try clear hcz39_1
       try clear hcz46_0
       try clear hcz46_1
       try clear hcz49_0
       try clear hcz49_1
       try clear hcz5_0
       try clear hcz5_1
       try clear hcz5_2
       try clear hcz5_3
       try clear hcz66_0
       try clear hcz66_1
       try clear hcz66_2
       try clear hcz66_3
       try clear hcz74_0
       try clear hcz74_1
       try clear hcz77_0
       try clear hcz77_1
       try clear hfz13_0
       try clear hfz13_1
       try clear hfz13_2
       try clear hfz13_3
       try clear hfz15_0
       try clear hfz15_1
       try clear hfz15_2
       try clear hfz15_3
       try clear hfz23_0
       try clear hfz23_1
       try clear hfz25_0
       try clear hfz25_1
       try clear hfz25_2
       try clear hfz25_3
       try clear hfz30_0
       try clear hfz30_1
       try clear hfz30_2
       try clear hfz30_3
       try clear hfz39_0
       try clear hfz39_1
       try clear hfz46_0
       try clear hfz46_1
       try clear hfz49_0
       try clear hfz49_1
       try clear hfz5_0
       try clear hfz5_1
       try clear hfz5_2
       try clear hfz5_3
       try clear hfz66_0
       try clear hfz66_1
       try clear hfz66_2
       try clear hfz66_3
       try clear hfz74_0
       try clear hfz74_1
       try clear hfz77_0
       try clear hfz77_1
       try clear p2
       obtain ⟨kq, x61_55, rfl, HA, HJ55, HO_354001, HO_365001, HO_365002, HO_365003, HO_371001, BK336, BK353, BK364, BK370, HB⟩ := hcut
       have hl365001_55 := (Kd.R_reads' HO_365001.out).1
       rw [hl365001_55] at HO_365001
       (try simp only [hl365001_55])
       (try simp only [hl365001_55] at BK336)
       (try simp only [hl365001_55] at BK353)
       (try simp only [hl365001_55] at BK364)
       (try simp only [hl365001_55] at BK370)
       (try simp only [hl365001_55] at HO_354001)
       (try simp only [hl365001_55] at HO_365002)
       (try simp only [hl365001_55] at HO_365003)
       (try simp only [hl365001_55] at HO_371001)
       have hl365002_55 := (Kd.R_reads' HO_365002.out).1
       rw [hl365002_55] at HO_365002
       (try simp only [hl365002_55])
       (try simp only [hl365002_55] at BK336)
       (try simp only [hl365002_55] at BK353)
       (try simp only [hl365002_55] at BK364)
       (try simp only [hl365002_55] at BK370)
       (try simp only [hl365002_55] at HO_354001)
       (try simp only [hl365002_55] at HO_365001)
       (try simp only [hl365002_55] at HO_365003)
       (try simp only [hl365002_55] at HO_371001)
       have hl365003_55 := (Kd.R_reads' HO_365003.out).1
       rw [hl365003_55] at HO_365003
       (try simp only [hl365003_55])
       (try simp only [hl365003_55] at BK336)
       (try simp only [hl365003_55] at BK353)
       (try simp only [hl365003_55] at BK364)
       (try simp only [hl365003_55] at BK370)
       (try simp only [hl365003_55] at HO_354001)
       (try simp only [hl365003_55] at HO_365001)
       (try simp only [hl365003_55] at HO_365002)
       (try simp only [hl365003_55] at HO_371001)
       cases kq with
       | zero => exact absurd HA.out (by simp [laws_FnExactPackDirectory.j1])
       | succ kj55 =>
        have H := HA.out
        clear HA
        simp only [laws_FnExactPackDirectory.j1] at H
        by_cases c79 : x61_55 = true
        ·subst c79
         have H1 : (none) = some r := by rw [if_pos rfl] at H; exact H
         clear H
         have H := H1
         clear H1
         exact absurd H (by simp)
        ·replace c79 := Bool.eq_false_iff.mpr c79
         subst c79
         have H1 : ((laws_markBits.f kj55 t365 t366 1).bind fun bt388 => ((laws_heldBits.f kj55 t365 bt388.2 1).bind fun t390 => (if t390 < 0 then (none) else (if t390 = bt388.1 then ((laws_toRanked.f kj55 a0_0 l0_1 l0_2 l0_3).bind fun bt391 => ((impl_PackDirectory.f kj55 bt391.1 bt391.2.1 bt391.2.2.1 bt391.2.2.2).bind fun bt401 => ((laws_eqBits.f kj55 bt401.1 bt401.2.1 t348 t349).bind fun t407 => (if t407 = true then (laws_FnExactPackDirectory.j2 kj55 bt388.1 (bt401.2.2 != t352) t365 bt388.2) else (none))))) else (none))))) = some r := by rw [if_neg (show ¬ (false = true) by decide)] at H; exact H
         clear H
         have H := H1
         clear H1
         replace H := Option.bind_eq_some_iff.mp H
         obtain ⟨⟨t388, t389⟩, A800, H⟩ := H
         replace H : ((laws_heldBits.f kj55 t365 t389 1).bind fun t390 => (if t390 < 0 then (none) else (if t390 = t388 then ((laws_toRanked.f kj55 a0_0 l0_1 l0_2 l0_3).bind fun bt391 => ((impl_PackDirectory.f kj55 bt391.1 bt391.2.1 bt391.2.2.1 bt391.2.2.2).bind fun bt401 => ((laws_eqBits.f kj55 bt401.1 bt401.2.1 t348 t349).bind fun t407 => (if t407 = true then (laws_FnExactPackDirectory.j2 kj55 t388 (bt401.2.2 != t352) t365 t389) else (none))))) else (none)))) = some r := H
         have A80 := am26_ A800
         clear A800
         replace H := Option.bind_eq_some_iff.mp H
         obtain ⟨t390, A810, H⟩ := H
         replace H : (if t390 < 0 then (none) else (if t390 = t388 then ((laws_toRanked.f kj55 a0_0 l0_1 l0_2 l0_3).bind fun bt391 => ((impl_PackDirectory.f kj55 bt391.1 bt391.2.1 bt391.2.2.1 bt391.2.2.2).bind fun bt401 => ((laws_eqBits.f kj55 bt401.1 bt401.2.1 t348 t349).bind fun t407 => (if t407 = true then (laws_FnExactPackDirectory.j2 kj55 t388 (bt401.2.2 != t352) t365 t389) else (none))))) else (none))) = some r := H
         have A81 := am26_ A810
         clear A810
         by_cases c82 : t390 < 0
         ·rw [if_pos c82] at H
          exact absurd H (by simp)
         ·rw [if_neg c82] at H
          have c82b0 : decide (t390 < 0) = false := decide_eq_false c82
          clear c82
          by_cases c83 : t390 = t388
          ·rw [if_pos c83] at H
           have c83b0 : (t390 == t388) = true := beq_iff_eq.mpr c83
           have c83b1 : (t390 != t388) = false := bne_eq_false_iff_eq.mpr c83
           clear c83
           replace H := Option.bind_eq_some_iff.mp H
           obtain ⟨⟨t391, t392, t395, t398⟩, A840, H⟩ := H
           replace H : ((impl_PackDirectory.f kj55 t391 t392 t395 t398).bind fun bt401 => ((laws_eqBits.f kj55 bt401.1 bt401.2.1 t348 t349).bind fun t407 => (if t407 = true then (laws_FnExactPackDirectory.j2 kj55 t388 (bt401.2.2 != t352) t365 t389) else (none)))) = some r := H
           have A84 := am26_ A840
           clear A840
           replace H := Option.bind_eq_some_iff.mp H
           obtain ⟨⟨t401, t402, t405⟩, A850, H⟩ := H
           replace H : ((laws_eqBits.f kj55 t401 t402 t348 t349).bind fun t407 => (if t407 = true then (laws_FnExactPackDirectory.j2 kj55 t388 (t405 != t352) t365 t389) else (none))) = some r := H
           have A85 := am26_ A850
           clear A850
           have HC86 := am26_ H
           clear H
           have hnb87 := NB370_336.out
           have hnc87 := NB336_370.out
           have hnb88 := NB370_353.out
           have hnc88 := NB353_370.out
           have hnb89 := NB370_364.out
           have hnc89 := NB364_370.out
           have hcz90_0 : wc.cell? ⟨gb370, 0, none⟩ = some (.int .i64 t365) := (blk_cell BK370.out 0).trans rfl
           have hcz90_1 : wc.cell? ⟨gb370, 1, none⟩ = some (.slice Ao40 t366.length co40) := (blk_cell BK370.out 1).trans rfl
           have hfz90_0 := blk_frozen BK370.out 0
           have hfz90_1 := blk_frozen BK370.out 1
           go_upto_region 25 with (first | ((with_reducible refine gate_callee (f := 21) rfl ?_); refine goesL_ (some 64) rfl rfl Try.func21 (by kernel_rfl) rfl #[.agg #[.int .i64 t365, .slice Ao40 t366.length co40], .int .i64 1] rfl lm26_ ?_; (with_reducible refine (laws_markBits.calls kj55 t365 (fun k_ => some k_ = (.slice Ao40 t366.length co40 : Value).ownBlock) (.slice Ao40 t366.length co40) t366 1 t388 t389 w _ ?side1 ?side2 A80.out).mono ?_); (case side1 => repeat (first | (with_reducible first | exact HB.out | apply below_alloc | apply pw_below_drewN | apply below_drew1 | refine below_set ?_ GE336.out | refine below_set ?_ GE353.out | refine below_set ?_ GE364.out | refine below_set ?_ GE370.out) | exact HB.out)); (case side2 => exact Kd.R_tight rfl HO_371001.out); rintro e w91 ⟨rfl, hy0, hb, hkp⟩; refine ⟨_, rfl, ?_⟩; have n0_ := am26_ (Kd.R_mono (ok' := fun k_ => some k_ ≠ (.slice Ao31 t384.length co31 : Value).ownBlock ∧ some k_ ≠ (.slice Ao32 t385.length co32 : Value).ownBlock ∧ some k_ ≠ (.slice Ao33 t386.length co33 : Value).ownBlock ∧ some k_ ≠ (.slice Ao40 t366.length co40 : Value).ownBlock) (Kd.R_keptB (HO_354001.out) hkp (fun k_ hk_ hs_ => (hk_.2.2.2) hs_)) (fun k_ hk_ => ⟨hk_.1.1, hk_.1.2.1, hk_.1.2.2.1, hk_.1.2.2.2⟩)); have n1_ := am26_ (Kd.R_mono (ok' := fun k_ => some k_ ≠ (.slice Ao24 t349.length co24 : Value).ownBlock ∧ some k_ ≠ (.slice Ao32 t385.length co32 : Value).ownBlock ∧ some k_ ≠ (.slice Ao33 t386.length co33 : Value).ownBlock ∧ some k_ ≠ (.slice Ao40 t366.length co40 : Value).ownBlock) (Kd.R_keptB (HO_365001.out) hkp (fun k_ hk_ hs_ => (hk_.2.2.2) hs_)) (fun k_ hk_ => ⟨hk_.1.1, hk_.1.2.1, hk_.1.2.2.1, hk_.1.2.2.2⟩)); have n2_ := am26_ (Kd.R_mono (ok' := fun k_ => some k_ ≠ (.slice Ao24 t349.length co24 : Value).ownBlock ∧ some k_ ≠ (.slice Ao31 t384.length co31 : Value).ownBlock ∧ some k_ ≠ (.slice Ao33 t386.length co33 : Value).ownBlock ∧ some k_ ≠ (.slice Ao40 t366.length co40 : Value).ownBlock) (Kd.R_keptB (HO_365002.out) hkp (fun k_ hk_ hs_ => (hk_.2.2.2) hs_)) (fun k_ hk_ => ⟨hk_.1.1, hk_.1.2.1, hk_.1.2.2.1, hk_.1.2.2.2⟩)); have n3_ := am26_ (Kd.R_mono (ok' := fun k_ => some k_ ≠ (.slice Ao24 t349.length co24 : Value).ownBlock ∧ some k_ ≠ (.slice Ao31 t384.length co31 : Value).ownBlock ∧ some k_ ≠ (.slice Ao32 t385.length co32 : Value).ownBlock ∧ some k_ ≠ (.slice Ao40 t366.length co40 : Value).ownBlock) (Kd.R_keptB (HO_365003.out) hkp (fun k_ hk_ hs_ => (hk_.2.2.2) hs_)) (fun k_ hk_ => ⟨hk_.1.1, hk_.1.2.1, hk_.1.2.2.1, hk_.1.2.2.2⟩)); have n4_ := am26_ (Kd.R_reok rfl hy0 (fun k_ e_ => HO_371001.out.1 k_ e_)); have n5_ := am26_ (blk_kept (lb26_ BK336) hkp (fun hs_ => (fun e_ => (Kd.R_ne HO_371001.out BK336.out (by decide)) e_) hs_)); have n6_ := am26_ (blk_kept (lb26_ BK353) hkp (fun hs_ => (fun e_ => (Kd.R_ne HO_371001.out BK353.out (by decide)) e_) hs_)); have n7_ := am26_ (blk_kept (lb26_ BK364) hkp (fun hs_ => (fun e_ => (Kd.R_ne HO_371001.out BK364.out (by decide)) e_) hs_)); have n8_ := am26_ (blk_kept (lb26_ BK370) hkp (fun hs_ => (fun e_ => (Kd.R_ne HO_371001.out BK370.out (by decide)) e_) hs_)); have n9_ := am26_ (hb); clear HO_354001; clear HO_365001; clear HO_365002; clear HO_365003; clear HO_371001; clear BK336; clear BK353; clear BK364; clear BK370; clear HB; have HO_354001 := n0_; have HO_365001 := n1_; have HO_365002 := n2_; have HO_365003 := n3_; have HO_371001 := n4_; have BK336 := n5_; have BK353 := n6_; have BK364 := n7_; have BK370 := n8_; have HB := n9_; clear n0_ n1_ n2_ n3_ n4_ n5_ n6_ n7_ n8_ n9_; (try clear hb); (try clear hkp); (try clear hy0); have hcz92_0 : w91.cell? ⟨gb370, 0, none⟩ = some (.int .i64 t365) := (blk_cell BK370.out 0).trans rfl; have hcz92_1 : w91.cell? ⟨gb370, 1, none⟩ = some (.slice Ao40 t366.length co40) := (blk_cell BK370.out 1).trans rfl; have hfz92_0 := blk_frozen BK370.out 0; have hfz92_1 := blk_frozen BK370.out 1) | ((with_reducible refine gate_callee (f := 22) rfl ?_); refine goesL_ (some 67) rfl rfl Try.func22 (by kernel_rfl) rfl #[.agg #[.int .i64 t365, .slice Ao40 t389.length co40], .int .i64 1] rfl (by (try simp only [List.map_toArray, List.map_cons, List.map_nil]); first | done | (rw [show t389.length = t366.length from (Kd.R_reads' HO_371001.out).1.symm] <;> rfl) | rfl | (simp only [List.length_drop, List.length_take]; rfl)) ?_; (with_reducible refine (laws_heldBits.calls kj55 t365 _ _ t389 1 t390 _ ?side1 ?side2 A81.out).mono ?_); (case side1 => exact lc26_ (Kd.R_reads' HO_371001.out).2.2); (case side2 => rw [show t389.length = t366.length from (Kd.R_reads' HO_371001.out).1.symm]; exact (Kd.R_reads' HO_371001.out).2.1); rintro e w93 ⟨rfl, hb⟩; refine ⟨_, rfl, ?_⟩; have n0_ := am26_ (Kd.R_below (lf26_ HO_354001) hb); have n1_ := am26_ (Kd.R_below (lf26_ HO_365001) hb); have n2_ := am26_ (Kd.R_below (lf26_ HO_365002) hb); have n3_ := am26_ (Kd.R_below (lf26_ HO_365003) hb); have n4_ := am26_ (Kd.R_below (lf26_ HO_371001) hb); have n5_ := am26_ (blk_below (g := gb336) (o := .cells #[.int .i64 a0_0, .slice A0_1 l0_1.length c0_1, .slice A0_2 l0_2.length c0_2, .slice A0_3 l0_3.length c0_3] 45 (0, 0)) (lb26_ BK336) hb); have n6_ := am26_ (blk_below (g := gb353) (o := .cells #[.int .i64 t348, .slice Ao24 t349.length co24] 26 (0, 0)) (lb26_ BK353) hb); have n7_ := am26_ (blk_below (g := gb364) (o := .cells #[.int .i64 t354, .slice Ao31 t384.length co31, .slice Ao32 t385.length co32, .slice Ao33 t386.length co33] 48 (0, 0)) (lb26_ BK364) hb); have n8_ := am26_ (blk_below (g := gb370) (o := .cells #[.int .i64 t365, .slice Ao40 t366.length co40] 26 (0, 0)) (lb26_ BK370) hb); have n9_ := am26_ (below_step (lw26_ HB) hb); clear HO_354001; clear HO_365001; clear HO_365002; clear HO_365003; clear HO_371001; clear BK336; clear BK353; clear BK364; clear BK370; clear HB; have HO_354001 := n0_; have HO_365001 := n1_; have HO_365002 := n2_; have HO_365003 := n3_; have HO_371001 := n4_; have BK336 := n5_; have BK353 := n6_; have BK364 := n7_; have BK370 := n8_; have HB := n9_; clear n0_ n1_ n2_ n3_ n4_ n5_ n6_ n7_ n8_ n9_; (try clear hb); (try clear hb2); (try clear hk); (try clear hi); have hnb94 := NB336_353.out; have hnc94 := NB353_336.out; have hnb95 := NB336_364.out; have hnc95 := NB364_336.out; have hcz96_0 : w93.cell? ⟨gb336, 0, none⟩ = some (.int .i64 a0_0) := (blk_cell BK336.out 0).trans rfl; have hcz96_1 : w93.cell? ⟨gb336, 1, none⟩ = some (.slice A0_1 l0_1.length c0_1) := (blk_cell BK336.out 1).trans rfl; have hcz96_2 : w93.cell? ⟨gb336, 2, none⟩ = some (.slice A0_2 l0_2.length c0_2) := (blk_cell BK336.out 2).trans rfl; have hcz96_3 : w93.cell? ⟨gb336, 3, none⟩ = some (.slice A0_3 l0_3.length c0_3) := (blk_cell BK336.out 3).trans rfl; have hfz96_0 := blk_frozen BK336.out 0; have hfz96_1 := blk_frozen BK336.out 1; have hfz96_2 := blk_frozen BK336.out 2; have hfz96_3 := blk_frozen BK336.out 3) | ((with_reducible refine gate_callee (f := 36) rfl ?_); refine goesL_ (some 75) rfl rfl Try.func36 (by kernel_rfl) rfl #[.agg #[.int .i64 a0_0, .slice A0_1 l0_1.length c0_1, .slice A0_2 l0_2.length c0_2, .slice A0_3 l0_3.length c0_3]] rfl lm26_ ?_; (with_reducible refine (laws_toRanked.calls kj55 a0_0 _ _ l0_1 _ _ l0_2 _ _ l0_3 t391 t392 t395 t398 _ ?side1 ?side2 ?side3 ?side4 ?side5 ?side6 A84.out).mono ?_); (case side1 => exact lc26_ (Kd.C_below HR0_1.out HB.out)); (case side2 => exact HC0_1.out); (case side3 => exact lc26_ (Kd.C_below HR0_2.out HB.out)); (case side4 => exact HC0_2.out); (case side5 => exact lc26_ (Kd.C_below HR0_3.out HB.out)); (case side6 => exact HC0_3.out); rintro e w97 ⟨v393, v396, v399, rfl, ho0, ho1, ho2, hb⟩; refine ⟨_, rfl, ?_⟩; have n0_ := am26_ (Kd.R_mono (Kd.R_told (Kd.R_told (Kd.R_told (Kd.R_old (lf26_ HO_354001) hb) (Kd.R_base ho0)) (Kd.R_base ho1)) (Kd.R_base ho2)) (fun _ h_ => h_.1)); have n1_ := am26_ (Kd.R_mono (Kd.R_told (Kd.R_told (Kd.R_told (Kd.R_old (lf26_ HO_365001) hb) (Kd.R_base ho0)) (Kd.R_base ho1)) (Kd.R_base ho2)) (fun _ h_ => h_.1)); have n2_ := am26_ (Kd.R_mono (Kd.R_told (Kd.R_told (Kd.R_told (Kd.R_old (lf26_ HO_365002) hb) (Kd.R_base ho0)) (Kd.R_base ho1)) (Kd.R_base ho2)) (fun _ h_ => h_.1)); have n3_ := am26_ (Kd.R_mono (Kd.R_told (Kd.R_told (Kd.R_told (Kd.R_old (lf26_ HO_365003) hb) (Kd.R_base ho0)) (Kd.R_base ho1)) (Kd.R_base ho2)) (fun _ h_ => h_.1)); have n4_ := am26_ (Kd.R_mono (Kd.R_told (Kd.R_told (Kd.R_told (Kd.R_old (lf26_ HO_371001) hb) (Kd.R_base ho0)) (Kd.R_base ho1)) (Kd.R_base ho2)) (fun _ h_ => h_.1)); have n5_ := am26_ (Kd.R_lower (Kd.R_new' (Kd.R_new' (Kd.R_new' (Kd.R_new' (Kd.R_new' ho0 (Kd.R_lt (lf26_ HO_354001))) (Kd.R_lt (lf26_ HO_365001))) (Kd.R_lt (lf26_ HO_365002))) (Kd.R_lt (lf26_ HO_365003))) (Kd.R_lt (lf26_ HO_371001))) (below_size (lw26_ HB))); have n6_ := am26_ (Kd.R_lower (Kd.R_new' (Kd.R_new' (Kd.R_new' (Kd.R_new' (Kd.R_new' ho1 (Kd.R_lt (lf26_ HO_354001))) (Kd.R_lt (lf26_ HO_365001))) (Kd.R_lt (lf26_ HO_365002))) (Kd.R_lt (lf26_ HO_365003))) (Kd.R_lt (lf26_ HO_371001))) (below_size (lw26_ HB))); have n7_ := am26_ (Kd.R_lower (Kd.R_new' (Kd.R_new' (Kd.R_new' (Kd.R_new' (Kd.R_new' ho2 (Kd.R_lt (lf26_ HO_354001))) (Kd.R_lt (lf26_ HO_365001))) (Kd.R_lt (lf26_ HO_365002))) (Kd.R_lt (lf26_ HO_365003))) (Kd.R_lt (lf26_ HO_371001))) (below_size (lw26_ HB))); have n8_ := am26_ (blk_below (g := gb336) (o := .cells #[.int .i64 a0_0, .slice A0_1 l0_1.length c0_1, .slice A0_2 l0_2.length c0_2, .slice A0_3 l0_3.length c0_3] 45 (0, 0)) (lb26_ BK336) hb); have n9_ := am26_ (blk_below (g := gb353) (o := .cells #[.int .i64 t348, .slice Ao24 t349.length co24] 26 (0, 0)) (lb26_ BK353) hb); have n10_ := am26_ (blk_below (g := gb364) (o := .cells #[.int .i64 t354, .slice Ao31 t384.length co31, .slice Ao32 t385.length co32, .slice Ao33 t386.length co33] 48 (0, 0)) (lb26_ BK364) hb); have n11_ := am26_ (blk_below (g := gb370) (o := .cells #[.int .i64 t365, .slice Ao40 t366.length co40] 26 (0, 0)) (lb26_ BK370) hb); have n12_ := am26_ (below_step (lw26_ HB) hb); clear HO_354001; clear HO_365001; clear HO_365002; clear HO_365003; clear HO_371001; clear BK336; clear BK353; clear BK364; clear BK370; clear HB; have HO_354001 := n0_; have HO_365001 := n1_; have HO_365002 := n2_; have HO_365003 := n3_; have HO_371001 := n4_; have HO394 := n5_; have HO397 := n6_; have HO400 := n7_; have BK336 := n8_; have BK353 := n9_; have BK364 := n10_; have BK370 := n11_; have HB := n12_; clear n0_ n1_ n2_ n3_ n4_ n5_ n6_ n7_ n8_ n9_ n10_ n11_ n12_; (try clear hb); (try clear hb2); (try clear hk); (try clear hi); (try clear ho0); (try clear ho1); (try clear ho2); obtain ⟨Ao98, co98, eo98⟩ := Kd.R_slice HO394.out; subst eo98; obtain ⟨Ao99, co99, eo99⟩ := Kd.R_slice HO397.out; subst eo99; obtain ⟨Ao100, co100, eo100⟩ := Kd.R_slice HO400.out; subst eo100) | ((with_reducible refine gate_callee (f := 42) rfl ?_); refine goesL_ (some 76) rfl rfl Try.func42 (by kernel_rfl) rfl #[.agg #[.int .i64 t391, .slice Ao98 t392.length co98, .slice Ao99 t395.length co99, .slice Ao100 t398.length co100]] rfl lm26_ ?_; (with_reducible refine (impl_PackDirectory.calls kj55 t391 _ _ t392 _ _ t395 _ _ t398 t401 t402 t405 _ ?side1 ?side2 ?side3 ?side4 ?side5 ?side6 A85.out).mono ?_); (case side1 => exact lc26_ (Kd.R_reads' HO394.out).2.2); (case side2 => exact (Kd.R_reads' HO394.out).2.1); (case side3 => exact lc26_ (Kd.R_reads' HO397.out).2.2); (case side4 => exact (Kd.R_reads' HO397.out).2.1); (case side5 => exact lc26_ (Kd.R_reads' HO400.out).2.2); (case side6 => exact (Kd.R_reads' HO400.out).2.1); rintro e w101 ⟨v403, rfl, ho0, hb⟩; refine ⟨_, rfl, ?_⟩; have n0_ := am26_ (Kd.R_elder' (lf26_ HO_354001) (Kd.R_base ho0) hb); have n1_ := am26_ (Kd.R_elder' (lf26_ HO_365001) (Kd.R_base ho0) hb); have n2_ := am26_ (Kd.R_elder' (lf26_ HO_365002) (Kd.R_base ho0) hb); have n3_ := am26_ (Kd.R_elder' (lf26_ HO_365003) (Kd.R_base ho0) hb); have n4_ := am26_ (Kd.R_elder' (lf26_ HO_371001) (Kd.R_base ho0) hb); have n5_ := am26_ (Kd.R_elder' (lf26_ HO394) (Kd.R_base ho0) hb); have n6_ := am26_ (Kd.R_elder' (lf26_ HO397) (Kd.R_base ho0) hb); have n7_ := am26_ (Kd.R_elder' (lf26_ HO400) (Kd.R_base ho0) hb); have n8_ := am26_ (Kd.R_lower (Kd.R_new' (Kd.R_new' (Kd.R_new' (Kd.R_new' (Kd.R_new' (Kd.R_new' (Kd.R_new' (Kd.R_new' ho0 (Kd.R_lt (lf26_ HO_354001))) (Kd.R_lt (lf26_ HO_365001))) (Kd.R_lt (lf26_ HO_365002))) (Kd.R_lt (lf26_ HO_365003))) (Kd.R_lt (lf26_ HO_371001))) (Kd.R_lt (lf26_ HO394))) (Kd.R_lt (lf26_ HO397))) (Kd.R_lt (lf26_ HO400))) (below_size (lw26_ HB))); have n9_ := am26_ (blk_below (g := gb336) (o := .cells #[.int .i64 a0_0, .slice A0_1 l0_1.length c0_1, .slice A0_2 l0_2.length c0_2, .slice A0_3 l0_3.length c0_3] 45 (0, 0)) (lb26_ BK336) hb); have n10_ := am26_ (blk_below (g := gb353) (o := .cells #[.int .i64 t348, .slice Ao24 t349.length co24] 26 (0, 0)) (lb26_ BK353) hb); have n11_ := am26_ (blk_below (g := gb364) (o := .cells #[.int .i64 t354, .slice Ao31 t384.length co31, .slice Ao32 t385.length co32, .slice Ao33 t386.length co33] 48 (0, 0)) (lb26_ BK364) hb); have n12_ := am26_ (blk_below (g := gb370) (o := .cells #[.int .i64 t365, .slice Ao40 t366.length co40] 26 (0, 0)) (lb26_ BK370) hb); have n13_ := am26_ (below_step (lw26_ HB) hb); clear HO_354001; clear HO_365001; clear HO_365002; clear HO_365003; clear HO_371001; clear HO394; clear HO397; clear HO400; clear BK336; clear BK353; clear BK364; clear BK370; clear HB; have HO_354001 := n0_; have HO_365001 := n1_; have HO_365002 := n2_; have HO_365003 := n3_; have HO_371001 := n4_; have HO394 := n5_; have HO397 := n6_; have HO400 := n7_; have HO404 := n8_; have BK336 := n9_; have BK353 := n10_; have BK364 := n11_; have BK370 := n12_; have HB := n13_; clear n0_ n1_ n2_ n3_ n4_ n5_ n6_ n7_ n8_ n9_ n10_ n11_ n12_ n13_; (try clear hb); (try clear hb2); (try clear hk); (try clear hi); (try clear ho0)) | ((with_reducible refine gate_dst (N := 12) rfl ?_); refine box_event ?hg (N := 12) ?hd (cs := #[.int .i64 0, .slice none 0 0]) (t := 26) ?hr ?_; (case hd => rfl); (case hg => rfl); (case hr => first | (go_simp; done) | (go_simp; rfl)); intro gb406 hg w102 hbox hb; have n0_ := am26_ (Kd.R_below (lf26_ HO_354001) hb); have n1_ := am26_ (Kd.R_below (lf26_ HO_365001) hb); have n2_ := am26_ (Kd.R_below (lf26_ HO_365002) hb); have n3_ := am26_ (Kd.R_below (lf26_ HO_365003) hb); have n4_ := am26_ (Kd.R_below (lf26_ HO_371001) hb); have n5_ := am26_ (Kd.R_below (lf26_ HO394) hb); have n6_ := am26_ (Kd.R_below (lf26_ HO397) hb); have n7_ := am26_ (Kd.R_below (lf26_ HO400) hb); have n8_ := am26_ (Kd.R_below (lf26_ HO404) hb); have n9_ := am26_ (blk_below (g := gb336) (o := .cells #[.int .i64 a0_0, .slice A0_1 l0_1.length c0_1, .slice A0_2 l0_2.length c0_2, .slice A0_3 l0_3.length c0_3] 45 (0, 0)) (lb26_ BK336) hb); have n10_ := am26_ (blk_below (g := gb353) (o := .cells #[.int .i64 t348, .slice Ao24 t349.length co24] 26 (0, 0)) (lb26_ BK353) hb); have n11_ := am26_ (blk_below (g := gb364) (o := .cells #[.int .i64 t354, .slice Ao31 t384.length co31, .slice Ao32 t385.length co32, .slice Ao33 t386.length co33] 48 (0, 0)) (lb26_ BK364) hb); have n12_ := am26_ (blk_below (g := gb370) (o := .cells #[.int .i64 t365, .slice Ao40 t366.length co40] 26 (0, 0)) (lb26_ BK370) hb); have n13_ := am26_ (below_step (lw26_ HB) hb); have n14_ := am26_ (hbox); have n15_ := am26_ ((by rw [hg]; exact (below_size (lw26_ HB)) : w.heap.size ≤ gb406)); have n16_ := am26_ ((by rw [hg]; exact (below_size (lw26_ HB)) : w.heap.size ≤ gb406)); have n17_ := am26_ ((by rw [hg]; exact Nat.ne_of_lt (blk_lt (g := gb336) (lb26_ BK336)) : gb336 ≠ gb406)); have n18_ := am26_ ((by rw [hg]; exact Nat.ne_of_gt (blk_lt (g := gb336) (lb26_ BK336)) : gb406 ≠ gb336)); have n19_ := am26_ ((by rw [hg]; exact Nat.ne_of_lt (blk_lt (g := gb353) (lb26_ BK353)) : gb353 ≠ gb406)); have n20_ := am26_ ((by rw [hg]; exact Nat.ne_of_gt (blk_lt (g := gb353) (lb26_ BK353)) : gb406 ≠ gb353)); have n21_ := am26_ ((by rw [hg]; exact Nat.ne_of_lt (blk_lt (g := gb364) (lb26_ BK364)) : gb364 ≠ gb406)); have n22_ := am26_ ((by rw [hg]; exact Nat.ne_of_gt (blk_lt (g := gb364) (lb26_ BK364)) : gb406 ≠ gb364)); have n23_ := am26_ ((by rw [hg]; exact Nat.ne_of_lt (blk_lt (g := gb370) (lb26_ BK370)) : gb370 ≠ gb406)); have n24_ := am26_ ((by rw [hg]; exact Nat.ne_of_gt (blk_lt (g := gb370) (lb26_ BK370)) : gb406 ≠ gb370)); clear HO_354001; clear HO_365001; clear HO_365002; clear HO_365003; clear HO_371001; clear HO394; clear HO397; clear HO400; clear HO404; clear BK336; clear BK353; clear BK364; clear BK370; clear HB; have HO_354001 := n0_; have HO_365001 := n1_; have HO_365002 := n2_; have HO_365003 := n3_; have HO_371001 := n4_; have HO394 := n5_; have HO397 := n6_; have HO400 := n7_; have HO404 := n8_; have BK336 := n9_; have BK353 := n10_; have BK364 := n11_; have BK370 := n12_; have HB := n13_; have BK406 := n14_; have GW406 := n15_; have GE406 := n16_; have NB336_406 := n17_; have NB406_336 := n18_; have NB353_406 := n19_; have NB406_353 := n20_; have NB364_406 := n21_; have NB406_364 := n22_; have NB370_406 := n23_; have NB406_370 := n24_; clear n0_ n1_ n2_ n3_ n4_ n5_ n6_ n7_ n8_ n9_ n10_ n11_ n12_ n13_ n14_ n15_ n16_ n17_ n18_ n19_ n20_ n21_ n22_ n23_ n24_; clear hb hbox hg; have hnb103 := NB406_336.out; have hnc103 := NB336_406.out; have hnb104 := NB406_353.out; have hnc104 := NB353_406.out; have hnb105 := NB406_364.out; have hnc105 := NB364_406.out; have hnb106 := NB406_370.out; have hnc106 := NB370_406.out; have hcz107_0 : w102.cell? ⟨gb406, 0, none⟩ = some (.int .i64 0) := (blk_cell BK406.out 0).trans rfl; have hcz107_1 : w102.cell? ⟨gb406, 1, none⟩ = some (.slice none 0 0) := (blk_cell BK406.out 1).trans rfl; have hfz107_0 := blk_frozen BK406.out 0; have hfz107_1 := blk_frozen BK406.out 1; obtain ⟨Ao108, co108, eo108⟩ := Kd.R_slice HO404.out; subst eo108))
           (try simp only [Act.put, List.setIfInBounds_toArray, List.set_cons_zero, List.set_cons_succ])
           go_cut [87] (fun v87 wc => ∃ (kq : Nat) (x87_85 : Bool), v87 = .bool x87_85 ∧ Aside0 (laws_FnExactPackDirectory.j2 kq t388 x87_85 t365 t389 = some r) ∧ Aside0 (kq ≤ kj55) ∧ Aside0 (Kd.R (Kd.int .i64) 3 wc w.heap.size (fun k_ => some k_ ≠ ((.slice Ao31 t384.length co31) : Value).ownBlock ∧ some k_ ≠ ((.slice Ao32 t385.length co32) : Value).ownBlock ∧ some k_ ≠ ((.slice Ao33 t386.length co33) : Value).ownBlock ∧ some k_ ≠ ((.slice Ao40 t366.length co40) : Value).ownBlock ∧ some k_ ≠ ((.slice Ao108 t402.length co108) : Value).ownBlock) (.slice Ao24 t349.length co24) t349) ∧ Aside0 (Kd.R (Kd.int .i64) 3 wc w.heap.size (fun k_ => some k_ ≠ ((.slice Ao24 t349.length co24) : Value).ownBlock ∧ some k_ ≠ ((.slice Ao32 t385.length co32) : Value).ownBlock ∧ some k_ ≠ ((.slice Ao33 t386.length co33) : Value).ownBlock ∧ some k_ ≠ ((.slice Ao40 t366.length co40) : Value).ownBlock ∧ some k_ ≠ ((.slice Ao108 t402.length co108) : Value).ownBlock) (.slice Ao31 t384.length co31) t384) ∧ Aside0 (Kd.R (Kd.int .i64) 3 wc w.heap.size (fun k_ => some k_ ≠ ((.slice Ao24 t349.length co24) : Value).ownBlock ∧ some k_ ≠ ((.slice Ao31 t384.length co31) : Value).ownBlock ∧ some k_ ≠ ((.slice Ao33 t386.length co33) : Value).ownBlock ∧ some k_ ≠ ((.slice Ao40 t366.length co40) : Value).ownBlock ∧ some k_ ≠ ((.slice Ao108 t402.length co108) : Value).ownBlock) (.slice Ao32 t385.length co32) t385) ∧ Aside0 (Kd.R (Kd.int .i64) 3 wc w.heap.size (fun k_ => some k_ ≠ ((.slice Ao24 t349.length co24) : Value).ownBlock ∧ some k_ ≠ ((.slice Ao31 t384.length co31) : Value).ownBlock ∧ some k_ ≠ ((.slice Ao32 t385.length co32) : Value).ownBlock ∧ some k_ ≠ ((.slice Ao40 t366.length co40) : Value).ownBlock ∧ some k_ ≠ ((.slice Ao108 t402.length co108) : Value).ownBlock) (.slice Ao33 t386.length co33) t386) ∧ Aside0 (Kd.R (Kd.int .i64) 3 wc w.heap.size (fun k_ => some k_ ≠ ((.slice Ao24 t349.length co24) : Value).ownBlock ∧ some k_ ≠ ((.slice Ao31 t384.length co31) : Value).ownBlock ∧ some k_ ≠ ((.slice Ao32 t385.length co32) : Value).ownBlock ∧ some k_ ≠ ((.slice Ao33 t386.length co33) : Value).ownBlock ∧ some k_ ≠ ((.slice Ao108 t402.length co108) : Value).ownBlock) (.slice Ao40 t366.length co40) t389) ∧ Aside0 (Kd.R (Kd.int .i64) 3 wc w.heap.size (fun k_ => some k_ ≠ ((.slice Ao24 t349.length co24) : Value).ownBlock ∧ some k_ ≠ ((.slice Ao31 t384.length co31) : Value).ownBlock ∧ some k_ ≠ ((.slice Ao32 t385.length co32) : Value).ownBlock ∧ some k_ ≠ ((.slice Ao33 t386.length co33) : Value).ownBlock ∧ some k_ ≠ ((.slice Ao40 t366.length co40) : Value).ownBlock) (.slice Ao108 t402.length co108) t402) ∧ Aside0 (wc.heap[gb336]? = some (.cells #[.int .i64 a0_0, (.slice A0_1 l0_1.length c0_1), (.slice A0_2 l0_2.length c0_2), (.slice A0_3 l0_3.length c0_3)] 45 (0, 0))) ∧ Aside0 (wc.heap[gb353]? = some (.cells #[.int .i64 t348, (.slice Ao24 t349.length co24)] 26 (0, 0))) ∧ Aside0 (wc.heap[gb364]? = some (.cells #[.int .i64 t354, (.slice Ao31 t384.length co31), (.slice Ao32 t385.length co32), (.slice Ao33 t386.length co33)] 48 (0, 0))) ∧ Aside0 (wc.heap[gb370]? = some (.cells #[.int .i64 t365, (.slice Ao40 t366.length co40)] 26 (0, 0))) ∧ Aside0 (wc.heap[gb406]? = some (.cells #[.int .i64 t401, (.slice Ao108 t402.length co108)] 26 (0, 0))) ∧ Aside0 (Below w.heap.size w wc))
           case first =>
            have H := HC86.out
            clear HC86
            replace H := Option.bind_eq_some_iff.mp H
            obtain ⟨t407, A1090, H⟩ := H
            replace H : (if t407 = true then (laws_FnExactPackDirectory.j2 kj55 t388 (t405 != t352) t365 t389) else (none)) = some r := H
            have A109 := am26_ A1090
            clear A1090
            by_cases c110 : t407 = true
            ·subst c110
             have H1 : (laws_FnExactPackDirectory.j2 kj55 t388 (t405 != t352) t365 t389) = some r := by rw [if_pos rfl] at H; exact H
             clear H
             have H := H1
             clear H1
             have H' := am26_ H
             clear H
             have hnb111 := NB406_336.out
             have hnc111 := NB336_406.out
             have hnb112 := NB406_353.out
             have hnc112 := NB353_406.out
             have hnb113 := NB406_364.out
             have hnc113 := NB364_406.out
             have hnb114 := NB406_370.out
             have hnc114 := NB370_406.out
             have hcz115_0 : w102.cell? ⟨gb406, 0, none⟩ = some (.int .i64 0) := (blk_cell BK406.out 0).trans rfl
             have hcz115_1 : w102.cell? ⟨gb406, 1, none⟩ = some (.slice none 0 0) := (blk_cell BK406.out 1).trans rfl
             have hfz115_0 := blk_frozen BK406.out 0
             have hfz115_1 := blk_frozen BK406.out 1
             have hnb116 := NB353_336.out
             have hnc116 := NB336_353.out
             have hnb117 := NB353_364.out
             have hnc117 := NB364_353.out
             have hnb118 := NB353_370.out
             have hnc118 := NB370_353.out
             have hcz119_0 : w102.cell? ⟨gb353, 0, none⟩ = some (.int .i64 t348) := (blk_cell BK353.out 0).trans rfl
             have hcz119_1 : w102.cell? ⟨gb353, 1, none⟩ = some (.slice Ao24 t349.length co24) := (blk_cell BK353.out 1).trans rfl
             have hfz119_0 := blk_frozen BK353.out 0
             have hfz119_1 := blk_frozen BK353.out 1
             have Z2_ := am26_ (Kd.R_far (p := ⟨gb406, 1, none⟩) (Kd.R_far (p := ⟨gb406, 0, none⟩) (Kd.R_types HO404.out BK406.out (by decide)) (fun _ hk => hk.2) (.int .i64 t401)) (fun _ hk => hk.2) (.slice Ao108 t402.length co108))
             have Z1_ := am26_ (Kd.R_far (p := ⟨gb406, 1, none⟩) (Kd.R_far (p := ⟨gb406, 0, none⟩) (Kd.R_types HO_354001.out BK406.out (by decide)) (fun _ hk => hk.2) (.int .i64 t401)) (fun _ hk => hk.2) (.slice Ao108 t402.length co108))
             go_wp2_with (first | ((with_reducible refine gate_callee (f := 20) rfl ?_); refine goesL_ (some 81) rfl rfl Try.func20 (by kernel_rfl) rfl #[.agg #[.int .i64 t401, .slice Ao108 t402.length co108], .agg #[.int .i64 t348, .slice Ao24 t349.length co24]] rfl lm26_ ?_; (with_reducible refine (laws_eqBits.calls kj55 t401 _ _ t402 t348 _ _ t349 true _ ?side1 ?side2 ?side3 ?side4 A109.out).mono ?_); (case side1 => refine (Kd.R_reads' (e := 3) (base := w.heap.size) (ok := fun k_ => ((((((((True ∧ some k_ ≠ (.slice Ao24 t349.length co24 : Value).ownBlock) ∧ some k_ ≠ (.slice Ao31 t384.length co31 : Value).ownBlock) ∧ some k_ ≠ (.slice Ao32 t385.length co32 : Value).ownBlock) ∧ some k_ ≠ (.slice Ao33 t386.length co33 : Value).ownBlock) ∧ some k_ ≠ (.slice Ao40 t366.length co40 : Value).ownBlock) ∧ some k_ ≠ (.slice Ao98 t392.length co98 : Value).ownBlock) ∧ some k_ ≠ (.slice Ao99 t395.length co99 : Value).ownBlock) ∧ some k_ ≠ (.slice Ao100 t398.length co100 : Value).ownBlock)) (n := t402.length) (c := co108) ?_).2.2; exact (lt26_ (Kd.R_mono Z2_.out (fun _ h_ => h_.1)))); (case side2 => exact (Kd.R_reads' HO404.out).2.1); (case side3 => refine (Kd.R_reads' (e := 3) (base := w.heap.size) (ok := fun k_ => (((((some k_ ≠ (.slice Ao31 t384.length co31 : Value).ownBlock ∧ (some k_ ≠ (.slice Ao32 t385.length co32 : Value).ownBlock ∧ (some k_ ≠ (.slice Ao33 t386.length co33 : Value).ownBlock ∧ some k_ ≠ (.slice Ao40 t366.length co40 : Value).ownBlock))) ∧ some k_ ≠ (.slice Ao98 t392.length co98 : Value).ownBlock) ∧ some k_ ≠ (.slice Ao99 t395.length co99 : Value).ownBlock) ∧ some k_ ≠ (.slice Ao100 t398.length co100 : Value).ownBlock) ∧ some k_ ≠ (.slice Ao108 t402.length co108 : Value).ownBlock)) (n := t349.length) (c := co24) ?_).2.2; exact (lt26_ (Kd.R_mono Z1_.out (fun _ h_ => h_.1)))); (case side4 => exact (Kd.R_reads' HO_354001.out).2.1); rintro e w120 ⟨rfl, hb⟩; refine ⟨_, rfl, ?_⟩; have n0_ := am26_ (Kd.R_below (lt26_ (Kd.R_mono Z1_.out (fun _ h_ => h_.1))) hb); have n1_ := am26_ (Kd.R_below (lt26_ (Kd.R_mono (Kd.R_far (p := ⟨gb406, 1, none⟩) (Kd.R_far (p := ⟨gb406, 0, none⟩) (Kd.R_types HO_365001.out BK406.out (by decide)) (fun _ hk => hk.2) (.int .i64 t401)) (fun _ hk => hk.2) (.slice Ao108 t402.length co108)) (fun _ h_ => h_.1))) hb); have n2_ := am26_ (Kd.R_below (lt26_ (Kd.R_mono (Kd.R_far (p := ⟨gb406, 1, none⟩) (Kd.R_far (p := ⟨gb406, 0, none⟩) (Kd.R_types HO_365002.out BK406.out (by decide)) (fun _ hk => hk.2) (.int .i64 t401)) (fun _ hk => hk.2) (.slice Ao108 t402.length co108)) (fun _ h_ => h_.1))) hb); have n3_ := am26_ (Kd.R_below (lt26_ (Kd.R_mono (Kd.R_far (p := ⟨gb406, 1, none⟩) (Kd.R_far (p := ⟨gb406, 0, none⟩) (Kd.R_types HO_365003.out BK406.out (by decide)) (fun _ hk => hk.2) (.int .i64 t401)) (fun _ hk => hk.2) (.slice Ao108 t402.length co108)) (fun _ h_ => h_.1))) hb); have n4_ := am26_ (Kd.R_below (lt26_ (Kd.R_mono (Kd.R_far (p := ⟨gb406, 1, none⟩) (Kd.R_far (p := ⟨gb406, 0, none⟩) (Kd.R_types HO_371001.out BK406.out (by decide)) (fun _ hk => hk.2) (.int .i64 t401)) (fun _ hk => hk.2) (.slice Ao108 t402.length co108)) (fun _ h_ => h_.1))) hb); have n5_ := am26_ (Kd.R_below (lt26_ (Kd.R_mono (Kd.R_far (p := ⟨gb406, 1, none⟩) (Kd.R_far (p := ⟨gb406, 0, none⟩) (Kd.R_types HO394.out BK406.out (by decide)) (fun _ hk => hk.2) (.int .i64 t401)) (fun _ hk => hk.2) (.slice Ao108 t402.length co108)) (fun _ h_ => h_.1))) hb); have n6_ := am26_ (Kd.R_below (lt26_ (Kd.R_mono (Kd.R_far (p := ⟨gb406, 1, none⟩) (Kd.R_far (p := ⟨gb406, 0, none⟩) (Kd.R_types HO397.out BK406.out (by decide)) (fun _ hk => hk.2) (.int .i64 t401)) (fun _ hk => hk.2) (.slice Ao108 t402.length co108)) (fun _ h_ => h_.1))) hb); have n7_ := am26_ (Kd.R_below (lt26_ (Kd.R_mono (Kd.R_far (p := ⟨gb406, 1, none⟩) (Kd.R_far (p := ⟨gb406, 0, none⟩) (Kd.R_types HO400.out BK406.out (by decide)) (fun _ hk => hk.2) (.int .i64 t401)) (fun _ hk => hk.2) (.slice Ao108 t402.length co108)) (fun _ h_ => h_.1))) hb); have n8_ := am26_ (Kd.R_below (lt26_ (Kd.R_mono Z2_.out (fun _ h_ => h_.1))) hb); have n9_ := am26_ (blk_below (g := gb336) (o := .cells #[.int .i64 a0_0, .slice A0_1 l0_1.length c0_1, .slice A0_2 l0_2.length c0_2, .slice A0_3 l0_3.length c0_3] 45 (0, 0)) (by (with_reducible repeat (first | refine blk_drewN ?_ _ | refine blk_drew ?_ | refine blk_alloc ?_ _)); refine blk_far ?_ NB336_406.out _; (with_reducible repeat (first | refine blk_drewN ?_ _ | refine blk_drew ?_ | refine blk_alloc ?_ _)); refine blk_far ?_ NB336_406.out _; (with_reducible repeat (first | refine blk_drewN ?_ _ | refine blk_drew ?_ | refine blk_alloc ?_ _)); exact BK336.out) hb); have n10_ := am26_ (blk_below (g := gb353) (o := .cells #[.int .i64 t348, .slice Ao24 t349.length co24] 26 (0, 0)) (by (with_reducible repeat (first | refine blk_drewN ?_ _ | refine blk_drew ?_ | refine blk_alloc ?_ _)); refine blk_far ?_ NB353_406.out _; (with_reducible repeat (first | refine blk_drewN ?_ _ | refine blk_drew ?_ | refine blk_alloc ?_ _)); refine blk_far ?_ NB353_406.out _; (with_reducible repeat (first | refine blk_drewN ?_ _ | refine blk_drew ?_ | refine blk_alloc ?_ _)); exact BK353.out) hb); have n11_ := am26_ (blk_below (g := gb364) (o := .cells #[.int .i64 t354, .slice Ao31 t384.length co31, .slice Ao32 t385.length co32, .slice Ao33 t386.length co33] 48 (0, 0)) (by (with_reducible repeat (first | refine blk_drewN ?_ _ | refine blk_drew ?_ | refine blk_alloc ?_ _)); refine blk_far ?_ NB364_406.out _; (with_reducible repeat (first | refine blk_drewN ?_ _ | refine blk_drew ?_ | refine blk_alloc ?_ _)); refine blk_far ?_ NB364_406.out _; (with_reducible repeat (first | refine blk_drewN ?_ _ | refine blk_drew ?_ | refine blk_alloc ?_ _)); exact BK364.out) hb); have n12_ := am26_ (blk_below (g := gb370) (o := .cells #[.int .i64 t365, .slice Ao40 t366.length co40] 26 (0, 0)) (by (with_reducible repeat (first | refine blk_drewN ?_ _ | refine blk_drew ?_ | refine blk_alloc ?_ _)); refine blk_far ?_ NB370_406.out _; (with_reducible repeat (first | refine blk_drewN ?_ _ | refine blk_drew ?_ | refine blk_alloc ?_ _)); refine blk_far ?_ NB370_406.out _; (with_reducible repeat (first | refine blk_drewN ?_ _ | refine blk_drew ?_ | refine blk_alloc ?_ _)); exact BK370.out) hb); have n13_ := am26_ (blk_below (g := gb406) (o := .cells #[.int .i64 t401, .slice Ao108 t402.length co108] 26 (0, 0)) (by (with_reducible repeat (first | refine blk_drewN ?_ _ | refine blk_drew ?_ | refine blk_alloc ?_ _)); refine blk_put (cs := #[.int .i64 t401, .slice none 0 0]) ?_ 1 _ rfl; (with_reducible repeat (first | refine blk_drewN ?_ _ | refine blk_drew ?_ | refine blk_alloc ?_ _)); refine blk_put (cs := #[.int .i64 0, .slice none 0 0]) ?_ 0 _ rfl; (with_reducible repeat (first | refine blk_drewN ?_ _ | refine blk_drew ?_ | refine blk_alloc ?_ _)); exact BK406.out) hb); have n14_ := am26_ (below_step (lw26_ HB) hb); clear HO_354001; clear HO_365001; clear HO_365002; clear HO_365003; clear HO_371001; clear HO394; clear HO397; clear HO400; clear HO404; clear BK336; clear BK353; clear BK364; clear BK370; clear BK406; clear HB; have HO_354001 := n0_; have HO_365001 := n1_; have HO_365002 := n2_; have HO_365003 := n3_; have HO_371001 := n4_; have HO394 := n5_; have HO397 := n6_; have HO400 := n7_; have HO404 := n8_; have BK336 := n9_; have BK353 := n10_; have BK364 := n11_; have BK370 := n12_; have BK406 := n13_; have HB := n14_; clear n0_ n1_ n2_ n3_ n4_ n5_ n6_ n7_ n8_ n9_ n10_ n11_ n12_ n13_ n14_; (try clear hb); (try clear hb2); (try clear hk); (try clear hi)))
             go_meet
             case rel => exact ⟨_, ((t405 != t352)), (by first | rfl | (simp; done) | (simp [*]; done)), H', ⟨by have := HJ10.out; have := HJ55.out; first | omega | exact Nat.le_refl _⟩, ⟨by (try simp only [hl365001_55]); (try simp only [hl365002_55]); (try simp only [hl365003_55]); (with_reducible repeat (first | apply Kd.R_alloc | apply Kd.R_drewN | apply Kd.R_drew)); exact Kd.R_mono HO_354001.out (fun _ hk => ⟨hk.1.1.1.1.1, ⟨hk.1.1.1.1.2.1, ⟨hk.1.1.1.1.2.2.1, ⟨hk.1.1.1.1.2.2.2, hk.2⟩⟩⟩⟩)⟩, ⟨by (try simp only [hl365001_55]); (try simp only [hl365002_55]); (try simp only [hl365003_55]); (with_reducible repeat (first | apply Kd.R_alloc | apply Kd.R_drewN | apply Kd.R_drew)); exact Kd.R_mono HO_365001.out (fun _ hk => ⟨hk.1.1.1.1.1, ⟨hk.1.1.1.1.2.1, ⟨hk.1.1.1.1.2.2.1, ⟨hk.1.1.1.1.2.2.2, hk.2⟩⟩⟩⟩)⟩, ⟨by (try simp only [hl365001_55]); (try simp only [hl365002_55]); (try simp only [hl365003_55]); (with_reducible repeat (first | apply Kd.R_alloc | apply Kd.R_drewN | apply Kd.R_drew)); exact Kd.R_mono HO_365002.out (fun _ hk => ⟨hk.1.1.1.1.1, ⟨hk.1.1.1.1.2.1, ⟨hk.1.1.1.1.2.2.1, ⟨hk.1.1.1.1.2.2.2, hk.2⟩⟩⟩⟩)⟩, ⟨by (try simp only [hl365001_55]); (try simp only [hl365002_55]); (try simp only [hl365003_55]); (with_reducible repeat (first | apply Kd.R_alloc | apply Kd.R_drewN | apply Kd.R_drew)); exact Kd.R_mono HO_365003.out (fun _ hk => ⟨hk.1.1.1.1.1, ⟨hk.1.1.1.1.2.1, ⟨hk.1.1.1.1.2.2.1, ⟨hk.1.1.1.1.2.2.2, hk.2⟩⟩⟩⟩)⟩, ⟨by (try simp only [hl365001_55]); (try simp only [hl365002_55]); (try simp only [hl365003_55]); (with_reducible repeat (first | apply Kd.R_alloc | apply Kd.R_drewN | apply Kd.R_drew)); exact Kd.R_mono HO_371001.out (fun _ hk => ⟨hk.1.1.1.1.1, ⟨hk.1.1.1.1.2.1, ⟨hk.1.1.1.1.2.2.1, ⟨hk.1.1.1.1.2.2.2, hk.2⟩⟩⟩⟩)⟩, ⟨by (try simp only [hl365001_55]); (try simp only [hl365002_55]); (try simp only [hl365003_55]); (with_reducible repeat (first | apply Kd.R_alloc | apply Kd.R_drewN | apply Kd.R_drew)); exact Kd.R_mono HO404.out (fun _ hk => ⟨hk.1.1.1.1.1.1.1.2, ⟨hk.1.1.1.1.1.1.2, ⟨hk.1.1.1.1.1.2, ⟨hk.1.1.1.1.2, hk.1.1.1.2⟩⟩⟩⟩)⟩, ⟨by (try simp only [hl365001_55]); (try simp only [hl365002_55]); (try simp only [hl365003_55]); (with_reducible repeat (first | refine blk_drewN ?_ _ | refine blk_drew ?_ | refine blk_alloc ?_ _)); exact BK336.out⟩, ⟨by (try simp only [hl365001_55]); (try simp only [hl365002_55]); (try simp only [hl365003_55]); (with_reducible repeat (first | refine blk_drewN ?_ _ | refine blk_drew ?_ | refine blk_alloc ?_ _)); exact BK353.out⟩, ⟨by (try simp only [hl365001_55]); (try simp only [hl365002_55]); (try simp only [hl365003_55]); (with_reducible repeat (first | refine blk_drewN ?_ _ | refine blk_drew ?_ | refine blk_alloc ?_ _)); exact BK364.out⟩, ⟨by (try simp only [hl365001_55]); (try simp only [hl365002_55]); (try simp only [hl365003_55]); (with_reducible repeat (first | refine blk_drewN ?_ _ | refine blk_drew ?_ | refine blk_alloc ?_ _)); exact BK370.out⟩, ⟨by (try simp only [hl365001_55]); (try simp only [hl365002_55]); (try simp only [hl365003_55]); (with_reducible repeat (first | refine blk_drewN ?_ _ | refine blk_drew ?_ | refine blk_alloc ?_ _)); exact BK406.out⟩, ⟨lw26_ HB⟩⟩
            ·replace c110 := Bool.eq_false_iff.mpr c110
             subst c110
             have H1 : (none) = some r := by rw [if_neg (show ¬ (false = true) by decide)] at H; exact H
             clear H
             have H := H1
             clear H1
             exact absurd H (by simp)
           case rest =>
            clear HC86
            try clear c1
            try clear c2
            try clear p2
            try clear c3
            try clear c3b0
            try clear c4
            try clear c5
            try clear c6
            try clear c7
            try clear c8
            try clear c9
            try clear c10
            try clear c11
            try clear c20
            try clear c21
            try clear c22
            try clear c28
            try clear c29
            try clear c34
            try clear c36
            try clear c37
            try clear c38
            try clear c39
            try clear c41
            try clear c42
            try clear c43
            try clear c44
            try clear c45
            try clear c47
            try clear c48
            try clear c51
            try clear c54
            try clear c63
            try clear c64
            try clear c65
            try clear c68
            try clear c68b0
            try clear c70
            try clear c71
            try clear c72
            try clear c73
            try clear c75
            try clear c76
            try clear c79
            try clear c82
            try clear c82b0
            try clear c83
            try clear c83b0
            try clear c83b1
            try clear c87
            try clear c88
            try clear c89
            try clear c94
            try clear c95
            try clear c103
            try clear c104
            try clear c105
            try clear c106
            try clear c110
            try clear c111
            try clear c112
            try clear c113
            try clear c114
            try clear c116
            try clear c117
            try clear c118
            try clear hcz107_0
            try clear hcz107_1
            try clear hcz115_0
            try clear hcz115_1
            try clear hcz119_0
            try clear hcz119_1
            try clear hcz13_0
            try clear hcz13_1
            try clear hcz13_2
            try clear hcz13_3
            try clear hcz15_0
            try clear hcz15_1
            try clear hcz15_2
            try clear hcz15_3
            try clear hcz23_0
            try clear hcz23_1
            try clear hcz25_0
            try clear hcz25_1
            try clear hcz25_2
            try clear hcz25_3
            try clear hcz30_0
            try clear hcz30_1
            try clear hcz30_2
            try clear hcz30_3
            try clear hcz39_0
            try clear hcz39_1
            try clear hcz46_0
            try clear hcz46_1
            try clear hcz49_0
            try clear hcz49_1
            try clear hcz5_0
            try clear hcz5_1
            try clear hcz5_2
            try clear hcz5_3
            try clear hcz66_0
            try clear hcz66_1
            try clear hcz66_2
            try clear hcz66_3
            try clear hcz74_0
            try clear hcz74_1
            try clear hcz77_0
            try clear hcz77_1
            try clear hcz90_0
            try clear hcz90_1
            try clear hcz92_0
            try clear hcz92_1
            try clear hcz96_0
            try clear hcz96_1
            try clear hcz96_2
            try clear hcz96_3
            try clear hfz107_0
            try clear hfz107_1
            try clear hfz115_0
            try clear hfz115_1
            try clear hfz119_0
            try clear hfz119_1
            try clear hfz13_0
            try clear hfz13_1
            try clear hfz13_2
            try clear hfz13_3
            try clear hfz15_0
            try clear hfz15_1
            try clear hfz15_2
            try clear hfz15_3
            try clear hfz23_0
            try clear hfz23_1
            try clear hfz25_0
            try clear hfz25_1
            try clear hfz25_2
            try clear hfz25_3
            try clear hfz30_0
            try clear hfz30_1
            try clear hfz30_2
            try clear hfz30_3
            try clear hfz39_0
            try clear hfz39_1
            try clear hfz46_0
            try clear hfz46_1
            try clear hfz49_0
            try clear hfz49_1
            try clear hfz5_0
            try clear hfz5_1
            try clear hfz5_2
            try clear hfz5_3
            try clear hfz66_0
            try clear hfz66_1
            try clear hfz66_2
            try clear hfz66_3
            try clear hfz74_0
            try clear hfz74_1
            try clear hfz77_0
            try clear hfz77_1
            try clear hfz90_0
            try clear hfz90_1
            try clear hfz92_0
            try clear hfz92_1
            try clear hfz96_0
            try clear hfz96_1
            try clear hfz96_2
            try clear hfz96_3
            try clear p2
            obtain ⟨kq, x87_85, rfl, HA, HJ85, HO_354001, HO_365001, HO_365002, HO_365003, HO_371001, HO_407001, BK336, BK353, BK364, BK370, BK406, HB⟩ := hcut
            have hl371001_85 := (Kd.R_reads' HO_371001.out).1
            rw [hl371001_85] at HO_371001
            (try simp only [hl371001_85])
            (try simp only [hl371001_85] at BK336)
            (try simp only [hl371001_85] at BK353)
            (try simp only [hl371001_85] at BK364)
            (try simp only [hl371001_85] at BK370)
            (try simp only [hl371001_85] at BK406)
            (try simp only [hl371001_85] at HO_354001)
            (try simp only [hl371001_85] at HO_365001)
            (try simp only [hl371001_85] at HO_365002)
            (try simp only [hl371001_85] at HO_365003)
            (try simp only [hl371001_85] at HO_407001)
            cases kq with
            | zero => exact absurd HA.out (by simp [laws_FnExactPackDirectory.j2])
            | succ kj85 =>
             have H := HA.out
             clear HA
             simp only [laws_FnExactPackDirectory.j2] at H
             by_cases c121 : x87_85 = true
             ·subst c121
              have H1 : (none) = some r := by rw [if_pos rfl] at H; exact H
              clear H
              have H := H1
              clear H1
              exact absurd H (by simp)
             ·replace c121 := Bool.eq_false_iff.mpr c121
              subst c121
              have H1 : ((laws_heldBits.f kj85 t365 t389 1).bind fun t408 => (if t408 < 0 then (none) else (if t408 = t388 then (some true) else (none)))) = some r := by rw [if_neg (show ¬ (false = true) by decide)] at H; exact H
              clear H
              have H := H1
              clear H1
              replace H := Option.bind_eq_some_iff.mp H
              obtain ⟨t408, A1220, H⟩ := H
              replace H : (if t408 < 0 then (none) else (if t408 = t388 then (some true) else (none))) = some r := H
              have A122 := am26_ A1220
              clear A1220
              by_cases c123 : t408 < 0
              ·rw [if_pos c123] at H
               exact absurd H (by simp)
              ·rw [if_neg c123] at H
               have c123b0 : decide (t408 < 0) = false := decide_eq_false c123
               clear c123
               by_cases c124 : t408 = t388
               ·rw [if_pos c124] at H
                have c124b0 : (t408 == t388) = true := beq_iff_eq.mpr c124
                have c124b1 : (t408 != t388) = false := bne_eq_false_iff_eq.mpr c124
                clear c124
                obtain rfl := Option.some.inj H
                have hnb125 := NB370_336.out
                have hnc125 := NB336_370.out
                have hnb126 := NB370_353.out
                have hnc126 := NB353_370.out
                have hnb127 := NB370_364.out
                have hnc127 := NB364_370.out
                have hnb128 := NB370_406.out
                have hnc128 := NB406_370.out
                have hcz129_0 : wc.cell? ⟨gb370, 0, none⟩ = some (.int .i64 t365) := (blk_cell BK370.out 0).trans rfl
                have hcz129_1 : wc.cell? ⟨gb370, 1, none⟩ = some (.slice Ao40 t389.length co40) := (blk_cell BK370.out 1).trans rfl
                have hfz129_0 := blk_frozen BK370.out 0
                have hfz129_1 := blk_frozen BK370.out 1
                go_wp2_with (first | ((with_reducible refine gate_callee (f := 22) rfl ?_); refine goesL_ (some 90) rfl rfl Try.func22 (by kernel_rfl) rfl #[.agg #[.int .i64 t365, .slice Ao40 t389.length co40], .int .i64 1] rfl lm26_ ?_; (with_reducible refine (laws_heldBits.calls kj85 t365 _ _ t389 1 t408 _ ?side1 ?side2 A122.out).mono ?_); (case side1 => exact lc26_ (Kd.R_reads' HO_371001.out).2.2); (case side2 => exact (Kd.R_reads' HO_371001.out).2.1); rintro e w130 ⟨rfl, hb⟩; refine ⟨_, rfl, ?_⟩; have n0_ := am26_ (Kd.R_below (lf26_ HO_354001) hb); have n1_ := am26_ (Kd.R_below (lf26_ HO_365001) hb); have n2_ := am26_ (Kd.R_below (lf26_ HO_365002) hb); have n3_ := am26_ (Kd.R_below (lf26_ HO_365003) hb); have n4_ := am26_ (Kd.R_below (lf26_ HO_371001) hb); have n5_ := am26_ (Kd.R_below (lf26_ HO_407001) hb); have n6_ := am26_ (blk_below (g := gb336) (o := .cells #[.int .i64 a0_0, .slice A0_1 l0_1.length c0_1, .slice A0_2 l0_2.length c0_2, .slice A0_3 l0_3.length c0_3] 45 (0, 0)) (lb26_ BK336) hb); have n7_ := am26_ (blk_below (g := gb353) (o := .cells #[.int .i64 t348, .slice Ao24 t349.length co24] 26 (0, 0)) (lb26_ BK353) hb); have n8_ := am26_ (blk_below (g := gb364) (o := .cells #[.int .i64 t354, .slice Ao31 t384.length co31, .slice Ao32 t385.length co32, .slice Ao33 t386.length co33] 48 (0, 0)) (lb26_ BK364) hb); have n9_ := am26_ (blk_below (g := gb370) (o := .cells #[.int .i64 t365, .slice Ao40 t389.length co40] 26 (0, 0)) (lb26_ BK370) hb); have n10_ := am26_ (blk_below (g := gb406) (o := .cells #[.int .i64 t401, .slice Ao108 t402.length co108] 26 (0, 0)) (lb26_ BK406) hb); have n11_ := am26_ (below_step (lw26_ HB) hb); clear HO_354001; clear HO_365001; clear HO_365002; clear HO_365003; clear HO_371001; clear HO_407001; clear BK336; clear BK353; clear BK364; clear BK370; clear BK406; clear HB; have HO_354001 := n0_; have HO_365001 := n1_; have HO_365002 := n2_; have HO_365003 := n3_; have HO_371001 := n4_; have HO_407001 := n5_; have BK336 := n6_; have BK353 := n7_; have BK364 := n8_; have BK370 := n9_; have BK406 := n10_; have HB := n11_; clear n0_ n1_ n2_ n3_ n4_ n5_ n6_ n7_ n8_ n9_ n10_ n11_; (try clear hb); (try clear hb2); (try clear hk); (try clear hi)))
                go_ret
                exact ⟨by first | rfl | (simp [errW_none, errW_some] <;> rfl) | (simp [*, errW_none, errW_some] <;> rfl), lw26_ HB⟩
               ·rw [if_neg c124] at H
                exact absurd H (by simp)
          ·rw [if_neg c83] at H
           exact absurd H (by simp)
     ·replace c54 := Bool.eq_false_iff.mpr c54
      subst c54
      have H1 : (none) = some r := by rw [if_neg (show ¬ (false = true) by decide)] at H; exact H
      clear H
      have H := H1
      clear H1
      exact absurd H (by simp)

/-- The plain statement of laws_FnExactPackDirectory. -/
def laws_FnExactPackDirectory.Pure : Prop := ∀ (a0_0 : Int) (l0_1 : List Int) (l0_2 : List Int) (l0_3 : List Int), (Lit.int .i64 a0_0).wf = true → l0_1.length ≤ maxLen → (∀ x ∈ l0_1, (Lit.int .i64 x).wf = true) → l0_2.length ≤ maxLen → (∀ x ∈ l0_2, (Lit.int .i64 x).wf = true) → l0_3.length ≤ maxLen → (∀ x ∈ l0_3, (Lit.int .i64 x).wf = true) → ∃ k, laws_FnExactPackDirectory.f k a0_0 l0_1 l0_2 l0_3 = some true

end Go.Proofs.Ytkmhjgejficclaa.PFnExactPackDirectory
