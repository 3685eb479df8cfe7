-- Laid by a program of this session: the print of the kit with additions of ours (wip/tools/patchprint.py). Nothing of it is trusted: Lean checks it.
import Derived.Test.YtpidlhpjcjaojaaPFnExactXorBitsx0
import Derived.Test.YtpidlhpjcjaojaaPFnExactXorBitsx1
import Derived.Test.YtpidlhpjcjaojaaPFnExactXorBitsx2
import Derived.Test.YtpidlhpjcjaojaaPFnExactXorBitsx4
namespace Go.Proofs.Ytpidlhpjcjaojaa.PFnExactXorBits
open Go.RowKit Go.Proofs.YtpidlhpjcjaojaaW.PrintWords Go.Proofs.YtpidlhpjcjaojaaW.PrintLast Go.Proofs.YtpidlhpjcjaojaaW.PrintMore
attribute [local go_sem] max2_int min2_int max_two min_two max_three min_three max_four min_four   -- for this text's walks alone
set_option linter.unusedVariables false
set_option linter.unusedSimpArgs false

theorem am1_ {p : Prop} (h : p) : Aside0 p := ⟨h⟩
theorem lm1_ {P : Prop} (h : P := by (try simp only [List.map_toArray, List.map_cons, List.map_nil]); first | done | rfl | (simp only [List.length_drop, List.length_take]; rfl)) : P := h
theorem lc1_ {P Q : Prop} (h : P) (f : P → Q := by intro h_; repeat (first | exact h_ | (with_reducible refine Kd.C_alloc ?_ _) | (with_reducible refine Kd.C_drewN ?_ _) | (with_reducible refine Kd.C_drew ?_))) : Q := f h
theorem lt1_ {P Q : Prop} (h : P) (f : P → Q := by intro h_; (with_reducible repeat (first | apply Kd.R_alloc | apply Kd.R_drewN | apply Kd.R_drew)); exact h_) : Q := f h
theorem lf1_ {P Q : Prop} (h : Aside0 P) (f : P → Q := by intro h_; (with_reducible repeat (first | apply Kd.R_alloc | apply Kd.R_drewN | apply Kd.R_drew)); exact h_) : Q := f h.out
theorem lb1_ {P Q : Prop} (h : Aside0 P) (f : P → Q := by intro h_; (with_reducible repeat (first | refine blk_drewN ?_ _ | refine blk_drew ?_ | refine blk_alloc ?_ _)); exact h_) : Q := f h.out
theorem lw1_ {P Q : Prop} (h : Aside0 P) (f : P → Q := by intro h_; repeat (first | (with_reducible first | exact h_ | apply below_alloc | apply pw_below_drewN | apply below_drew1 | refine below_set ?_ (Aside0.out (by assumption))) | exact h_)) : Q := f h.out
/-! ### laws_FnExactXorBits: function 13 -/
mutual
def laws_FnExactXorBits.j0 : Nat → Bool → Bool → Bool → Int → List Int → Int → List Int → Int → List Int → Int → List Int → Int → List Int → Int → List Int → Option (Bool)
 | 0, _, _, _, _, _, _, _, _, _, _, _, _, _, _, _ => none
 | k + 1, x7, x11, x53, x186000, x186001, x187000, x187001, x203000, x203001, x208000, x208001, x213000, x213001, x219000, x219001 => if x53 = true then (none) else ((laws_toBits.f k x186000 x186001).bind fun bt220 => ((laws_eqBits.f k x208000 x208001 bt220.1 bt220.2).bind fun t224 => (if t224 = true then ((laws_toBits.f k x187000 x187001).bind fun bt225 => ((laws_eqBits.f k x213000 x213001 bt225.1 bt225.2).bind fun t229 => (if t229 = true then ((laws_markBits.f k x208000 x208001 1).bind fun bt230 => ((laws_markBits.f k x213000 x213001 bt230.1).bind fun bt232 => (if bt232.1 < 0 then (none) else ((laws_eqBits.f k x219000 x219001 x203000 x203001).bind fun t234 => (if t234 = true then (laws_FnExactXorBits.j1 k x7 (x11 != x7) x186000 x186001 x187000 x187001 x203000 x203001 x219000 x219001) else (none)))))) else (none)))) else (none))))
def laws_FnExactXorBits.j1 : Nat → Bool → Bool → Int → List Int → Int → List Int → Int → List Int → Int → List Int → Option (Bool)
 | 0, _, _, _, _, _, _, _, _, _, _ => none
 | k + 1, x7, x82, x186000, x186001, x187000, x187001, x203000, x203001, x219000, x219001 => if x82 = true then (none) else ((laws_markBits.f k x219000 x219001 1).bind fun bt235 => ((laws_heldBits.f k x219000 bt235.2 1).bind fun t237 => (if t237 < 0 then (none) else (if t237 = bt235.1 then ((laws_toBits.f k x186000 x186001).bind fun bt238 => ((laws_toBits.f k x187000 x187001).bind fun bt242 => ((impl_XorBits.f k bt238.1 bt238.2 bt242.1 bt242.2).bind fun bt246 => ((laws_eqBits.f k bt246.1 bt246.2.1 x203000 x203001).bind fun t252 => (if t252 = true then (laws_FnExactXorBits.j2 k bt235.1 (bt246.2.2 != x7) x219000 bt235.2) else (none)))))) else (none)))))
def laws_FnExactXorBits.j2 : Nat → Int → Bool → Int → List Int → Option (Bool)
 | 0, _, _, _, _ => none
 | k + 1, x13, x110, x219000, x219001 => if x110 = true then (none) else ((laws_heldBits.f k x219000 x219001 1).bind fun t253 => (if t253 < 0 then (none) else (if t253 = x13 then (some true) else (none))))
end
def laws_FnExactXorBits.f (k : Nat) (a0_0 : Int) (l0_1 : List Int) (a1_0 : Int) (l1_1 : List Int) : Option (Bool) := (laws_szBits.f a0_0 l0_1 1048576).bind fun t187 => (if t187 < 0 then (some true) else ((laws_szBits.f a1_0 l1_1 t187).bind fun t188 => (if t188 < 0 then (some true) else ((laws_toBits.f k a0_0 l0_1).bind fun bt189 => ((laws_toBits.f k a1_0 l1_1).bind fun bt193 => ((spec_XorBits.f k bt189.1 bt189.2 bt193.1 bt193.2).bind fun bt197 => ((laws_toBits.f k a0_0 l0_1).bind fun bt203 => ((laws_toBits.f k a1_0 l1_1).bind fun bt208 => ((impl_XorBits.f k bt203.1 bt203.2 bt208.1 bt208.2).bind fun bt213 => ((laws_eqBits.f k bt213.1 bt213.2.1 bt197.1 bt197.2.1).bind fun t219 => (if t219 = true then (laws_FnExactXorBits.j0 k bt197.2.2 bt213.2.2 (bt213.2.2 != bt197.2.2) a0_0 l0_1 a1_0 l1_1 bt197.1 bt197.2.1 bt203.1 bt203.2 bt208.1 bt208.2 bt213.1 bt213.2.1) else (none))))))))))))
theorem laws_FnExactXorBits.mono_l : ∀ k, (∀ y0 y1 y2 y3 y4 y5 y6 y7 y8 y9 y10 y11 y12 y13 y14, LeO (laws_FnExactXorBits.j0 k y0 y1 y2 y3 y4 y5 y6 y7 y8 y9 y10 y11 y12 y13 y14) (laws_FnExactXorBits.j0 (k + 1) y0 y1 y2 y3 y4 y5 y6 y7 y8 y9 y10 y11 y12 y13 y14)) ∧ (∀ y0 y1 y2 y3 y4 y5 y6 y7 y8 y9, LeO (laws_FnExactXorBits.j1 k y0 y1 y2 y3 y4 y5 y6 y7 y8 y9) (laws_FnExactXorBits.j1 (k + 1) y0 y1 y2 y3 y4 y5 y6 y7 y8 y9)) ∧ (∀ y0 y1 y2 y3, LeO (laws_FnExactXorBits.j2 k y0 y1 y2 y3) (laws_FnExactXorBits.j2 (k + 1) y0 y1 y2 y3))
 | 0 => ⟨fun _ _ _ _ _ _ _ _ _ _ _ _ _ _ _ r h => by simp [laws_FnExactXorBits.j0] at h, fun _ _ _ _ _ _ _ _ _ _ r h => by simp [laws_FnExactXorBits.j1] at h, fun _ _ _ _ r h => by simp [laws_FnExactXorBits.j2] at h⟩
 | k + 1 => by
  obtain ⟨ih0, ih1, ih2⟩ := laws_FnExactXorBits.mono_l k
  refine ⟨?_, ?_, ?_⟩
  ·intro y0 y1 y2 y3 y4 y5 y6 y7 y8 y9 y10 y11 y12 y13 y14
   unfold laws_FnExactXorBits.j0
   repeat' first
   | (with_reducible exact ih0 _ _ _ _ _ _ _ _ _ _ _ _ _ _ _)
   | (with_reducible exact ih1 _ _ _ _ _ _ _ _ _ _)
   | (with_reducible exact ih2 _ _ _ _)
   | (with_reducible exact impl_XorBits.mono _ _ _ _ _)
   | (with_reducible exact laws_eqBits.mono _ _ _ _ _)
   | (with_reducible exact laws_heldBits.mono _ _ _ _)
   | (with_reducible exact laws_markBits.mono _ _ _ _)
   | (with_reducible exact laws_toBits.mono _ _ _)
   | (with_reducible exact spec_XorBits.mono _ _ _ _ _)
   | (with_reducible exact LeO.refl _)
   | (with_reducible exact LeO.none _)
   | (with_reducible refine LeO.ite ?_ ?_)
   | (with_reducible refine LeO.bind ?_ (fun _ => ?_))
   | exact ih0 _ _ _ _ _ _ _ _ _ _ _ _ _ _ _
   | exact ih1 _ _ _ _ _ _ _ _ _ _
   | exact ih2 _ _ _ _
   | exact impl_XorBits.mono _ _ _ _ _
   | exact laws_eqBits.mono _ _ _ _ _
   | exact laws_heldBits.mono _ _ _ _
   | exact laws_markBits.mono _ _ _ _
   | exact laws_toBits.mono _ _ _
   | exact spec_XorBits.mono _ _ _ _ _
   | exact LeO.none _
   | refine LeO.ite ?_ ?_
   | refine LeO.bind ?_ (fun _ => ?_)
  ·intro y0 y1 y2 y3 y4 y5 y6 y7 y8 y9
   unfold laws_FnExactXorBits.j1
   repeat' first
   | (with_reducible exact ih0 _ _ _ _ _ _ _ _ _ _ _ _ _ _ _)
   | (with_reducible exact ih1 _ _ _ _ _ _ _ _ _ _)
   | (with_reducible exact ih2 _ _ _ _)
   | (with_reducible exact impl_XorBits.mono _ _ _ _ _)
   | (with_reducible exact laws_eqBits.mono _ _ _ _ _)
   | (with_reducible exact laws_heldBits.mono _ _ _ _)
   | (with_reducible exact laws_markBits.mono _ _ _ _)
   | (with_reducible exact laws_toBits.mono _ _ _)
   | (with_reducible exact spec_XorBits.mono _ _ _ _ _)
   | (with_reducible exact LeO.refl _)
   | (with_reducible exact LeO.none _)
   | (with_reducible refine LeO.ite ?_ ?_)
   | (with_reducible refine LeO.bind ?_ (fun _ => ?_))
   | exact ih0 _ _ _ _ _ _ _ _ _ _ _ _ _ _ _
   | exact ih1 _ _ _ _ _ _ _ _ _ _
   | exact ih2 _ _ _ _
   | exact impl_XorBits.mono _ _ _ _ _
   | exact laws_eqBits.mono _ _ _ _ _
   | exact laws_heldBits.mono _ _ _ _
   | exact laws_markBits.mono _ _ _ _
   | exact laws_toBits.mono _ _ _
   | exact spec_XorBits.mono _ _ _ _ _
   | exact LeO.none _
   | refine LeO.ite ?_ ?_
   | refine LeO.bind ?_ (fun _ => ?_)
  ·intro y0 y1 y2 y3
   unfold laws_FnExactXorBits.j2
   repeat' first
   | (with_reducible exact ih0 _ _ _ _ _ _ _ _ _ _ _ _ _ _ _)
   | (with_reducible exact ih1 _ _ _ _ _ _ _ _ _ _)
   | (with_reducible exact ih2 _ _ _ _)
   | (with_reducible exact impl_XorBits.mono _ _ _ _ _)
   | (with_reducible exact laws_eqBits.mono _ _ _ _ _)
   | (with_reducible exact laws_heldBits.mono _ _ _ _)
   | (with_reducible exact laws_markBits.mono _ _ _ _)
   | (with_reducible exact laws_toBits.mono _ _ _)
   | (with_reducible exact spec_XorBits.mono _ _ _ _ _)
   | (with_reducible exact LeO.refl _)
   | (with_reducible exact LeO.none _)
   | (with_reducible refine LeO.ite ?_ ?_)
   | (with_reducible refine LeO.bind ?_ (fun _ => ?_))
   | exact ih0 _ _ _ _ _ _ _ _ _ _ _ _ _ _ _
   | exact ih1 _ _ _ _ _ _ _ _ _ _
   | exact ih2 _ _ _ _
   | exact impl_XorBits.mono _ _ _ _ _
   | exact laws_eqBits.mono _ _ _ _ _
   | exact laws_heldBits.mono _ _ _ _
   | exact laws_markBits.mono _ _ _ _
   | exact laws_toBits.mono _ _ _
   | exact spec_XorBits.mono _ _ _ _ _
   | exact LeO.none _
   | refine LeO.ite ?_ ?_
   | refine LeO.bind ?_ (fun _ => ?_)
theorem laws_FnExactXorBits.mono : ∀ a0 a1 a2 a3 k, LeO (laws_FnExactXorBits.f k a0 a1 a2 a3) (laws_FnExactXorBits.f (k + 1) a0 a1 a2 a3) := by
 intro a0 a1 a2 a3 k
 obtain ⟨ih0, ih1, ih2⟩ := laws_FnExactXorBits.mono_l k
 unfold laws_FnExactXorBits.f
 repeat' first
   | (with_reducible exact ih0 _ _ _ _ _ _ _ _ _ _ _ _ _ _ _)
   | (with_reducible exact ih1 _ _ _ _ _ _ _ _ _ _)
   | (with_reducible exact ih2 _ _ _ _)
   | (with_reducible exact impl_XorBits.mono _ _ _ _ _)
   | (with_reducible exact laws_eqBits.mono _ _ _ _ _)
   | (with_reducible exact laws_heldBits.mono _ _ _ _)
   | (with_reducible exact laws_markBits.mono _ _ _ _)
   | (with_reducible exact laws_toBits.mono _ _ _)
   | (with_reducible exact spec_XorBits.mono _ _ _ _ _)
   | (with_reducible exact LeO.refl _)
   | (with_reducible exact LeO.none _)
   | (with_reducible refine LeO.ite ?_ ?_)
   | (with_reducible refine LeO.bind ?_ (fun _ => ?_))
   | exact ih0 _ _ _ _ _ _ _ _ _ _ _ _ _ _ _
   | exact ih1 _ _ _ _ _ _ _ _ _ _
   | exact ih2 _ _ _ _
   | exact impl_XorBits.mono _ _ _ _ _
   | exact laws_eqBits.mono _ _ _ _ _
   | exact laws_heldBits.mono _ _ _ _
   | exact laws_markBits.mono _ _ _ _
   | exact laws_toBits.mono _ _ _
   | exact spec_XorBits.mono _ _ _ _ _
   | exact LeO.none _
   | refine LeO.ite ?_ ?_
   | refine LeO.bind ?_ (fun _ => ?_)
def laws_FnExactXorBits.T8 : Bool × List (List Nat × List Nat) := (true, [([], []), ([0], [0]), ([], []), ([2, 1], [2]), ([1, 3, 3], [1, 3]), ([4], [4]), ([5], [5]), ([5], [5]), ([], []), ([8, 6, 4, 0, 1, 2, 3, 4, 5, 6, 8], [6, 8]), ([7, 9, 0, 1, 2, 3, 4, 5, 6, 7, 8, 9], [7])])
def laws_FnExactXorBits.B8 : List Nat := [0, 1, 0, 7, 15, 31, 63, 63, 0, 383, 1023]
theorem laws_FnExactXorBits.tab8 : rtab .any (opsOf Try.f13 8) = laws_FnExactXorBits.T8 := by kernel_rfl
theorem laws_FnExactXorBits.bits8 : waitsOk laws_FnExactXorBits.T8.2 laws_FnExactXorBits.B8 = true := by kernel_rfl
def laws_FnExactXorBits.T31 : Bool × List (List Nat × List Nat) := (true, [([], []), ([0], [0]), ([], []), ([2, 1], [2]), ([1, 3, 3], [1, 3]), ([4], [4]), ([5], [5]), ([5], [5]), ([], []), ([8, 6, 4, 0, 1, 2, 3, 4, 5, 6, 8], [6, 8]), ([7, 9, 0, 1, 2, 3, 4, 5, 6, 7, 8, 9], [7])])
def laws_FnExactXorBits.B31 : List Nat := [0, 1, 0, 7, 15, 31, 63, 63, 0, 383, 1023]
theorem laws_FnExactXorBits.tab31 : rtab .any (opsOf Try.f13 31) = laws_FnExactXorBits.T31 := by kernel_rfl
theorem laws_FnExactXorBits.bits31 : waitsOk laws_FnExactXorBits.T31.2 laws_FnExactXorBits.B31 = true := by kernel_rfl
set_option maxHeartbeats 8000000 in
set_option maxRecDepth 100000 in
theorem laws_FnExactXorBits.calls (k : Nat) (a0_0 : Int) (A0_1 : Option Addr) (c0_1 : Nat) (l0_1 : List Int) (a1_0 : Int) (A1_1 : Option Addr) (c1_1 : Nat) (l1_1 : List Int) (r : Bool) (w : World) (hr0_1 : Kd.C (Kd.int .i64) w A0_1 l0_1.length l0_1) (hc0_1 : l0_1.length ≤ c0_1) (hr1_1 : Kd.C (Kd.int .i64) w A1_1 l1_1.length l1_1) (hc1_1 : l1_1.length ≤ c1_1) (h : laws_FnExactXorBits.f k a0_0 l0_1 a1_0 l1_1 = some r) :
  Calls Try.prog 13 #[.agg #[.int .i64 a0_0, .slice A0_1 l0_1.length c0_1], .agg #[.int .i64 a1_0, .slice A1_1 l1_1.length c1_1]] w fun e w' => e = .returned (.bool r) ∧ Below w.heap.size w w' := by
 have hu24 := Try.underlying24
 have hu29 := Try.underlying29
 have HR0_1 := am1_ hr0_1
 have HC0_1 := am1_ hc0_1
 clear hr0_1 hc0_1
 have HR1_1 := am1_ hr1_1
 have HC1_1 := am1_ hc1_1
 clear hr1_1 hc1_1
 have HB := am1_ (Below.refl w.heap.size w)
 have H : ((laws_szBits.f a0_0 l0_1 1048576).bind fun t187 => (if t187 < 0 then (some true) else ((laws_szBits.f a1_0 l1_1 t187).bind fun t188 => (if t188 < 0 then (some true) else ((laws_toBits.f k a0_0 l0_1).bind fun bt189 => ((laws_toBits.f k a1_0 l1_1).bind fun bt193 => ((spec_XorBits.f k bt189.1 bt189.2 bt193.1 bt193.2).bind fun bt197 => ((laws_toBits.f k a0_0 l0_1).bind fun bt203 => ((laws_toBits.f k a1_0 l1_1).bind fun bt208 => ((impl_XorBits.f k bt203.1 bt203.2 bt208.1 bt208.2).bind fun bt213 => ((laws_eqBits.f k bt213.1 bt213.2.1 bt197.1 bt197.2.1).bind fun t219 => (if t219 = true then (laws_FnExactXorBits.j0 k bt197.2.2 bt213.2.2 (bt213.2.2 != bt197.2.2) a0_0 l0_1 a1_0 l1_1 bt197.1 bt197.2.1 bt203.1 bt203.2 bt208.1 bt208.2 bt213.1 bt213.2.1) else (none))))))))))))) = some r := h
 clear h
 replace H := Option.bind_eq_some_iff.mp H
 obtain ⟨t187, A30, H⟩ := H
 replace H : (if t187 < 0 then (some true) else ((laws_szBits.f a1_0 l1_1 t187).bind fun t188 => (if t188 < 0 then (some true) else ((laws_toBits.f k a0_0 l0_1).bind fun bt189 => ((laws_toBits.f k a1_0 l1_1).bind fun bt193 => ((spec_XorBits.f k bt189.1 bt189.2 bt193.1 bt193.2).bind fun bt197 => ((laws_toBits.f k a0_0 l0_1).bind fun bt203 => ((laws_toBits.f k a1_0 l1_1).bind fun bt208 => ((impl_XorBits.f k bt203.1 bt203.2 bt208.1 bt208.2).bind fun bt213 => ((laws_eqBits.f k bt213.1 bt213.2.1 bt197.1 bt197.2.1).bind fun t219 => (if t219 = true then (laws_FnExactXorBits.j0 k bt197.2.2 bt213.2.2 (bt213.2.2 != bt197.2.2) a0_0 l0_1 a1_0 l1_1 bt197.1 bt197.2.1 bt203.1 bt203.2 bt208.1 bt208.2 bt213.1 bt213.2.1) else (none)))))))))))) = some r := H
 have A3 := am1_ A30
 clear A30
 by_cases c4 : t187 < 0
 ·rw [if_pos c4] at H
  have c4b0 : decide (t187 < 0) = true := decide_eq_true c4
  clear c4
  obtain rfl := Option.some.inj H
  go_enter Try.func13, Try.ntmps13
  go_wp2_with (first | ((with_reducible refine gate_dst (N := 2) rfl ?_); refine box_event ?hg (N := 2) ?hd (cs := #[.int .i64 a0_0, .slice A0_1 l0_1.length c0_1]) (t := 24) ?hr ?_; (case hd => rfl); (case hg => rfl); (case hr => first | (go_simp; done) | (go_simp; rfl)); intro gb185 hg w5 hbox hb; have n0_ := am1_ (below_step (lw1_ HB) hb); have n1_ := am1_ (hbox); have n2_ := am1_ ((by rw [hg]; exact (below_size (lw1_ HB)) : w.heap.size ≤ gb185)); have n3_ := am1_ ((by rw [hg]; exact (below_size (lw1_ HB)) : w.heap.size ≤ gb185)); clear HB; have HB := n0_; have BK185 := n1_; have GW185 := n2_; have GE185 := n3_; clear n0_ n1_ n2_ n3_; clear hb hbox hg) | ((with_reducible refine gate_dst (N := 3) rfl ?_); refine box_event ?hg (N := 3) ?hd (cs := #[.int .i64 a1_0, .slice A1_1 l1_1.length c1_1]) (t := 24) ?hr ?_; (case hd => rfl); (case hg => rfl); (case hr => first | (go_simp; done) | (go_simp; rfl)); intro gb186 hg w6 hbox hb; have n0_ := am1_ (blk_below (g := gb185) (o := .cells #[.int .i64 a0_0, .slice A0_1 l0_1.length c0_1] 24 (0, 0)) (lb1_ BK185) hb); have n1_ := am1_ (below_step (lw1_ HB) hb); have n2_ := am1_ (hbox); have n3_ := am1_ ((by rw [hg]; exact (below_size (lw1_ HB)) : w.heap.size ≤ gb186)); have n4_ := am1_ ((by rw [hg]; exact (below_size (lw1_ HB)) : w.heap.size ≤ gb186)); have n5_ := am1_ ((by rw [hg]; exact Nat.ne_of_lt (blk_lt (g := gb185) (lb1_ BK185)) : gb185 ≠ gb186)); have n6_ := am1_ ((by rw [hg]; exact Nat.ne_of_gt (blk_lt (g := gb185) (lb1_ BK185)) : gb186 ≠ gb185)); clear BK185; clear HB; have BK185 := n0_; have HB := n1_; have BK186 := n2_; have GW186 := n3_; have GE186 := n4_; have NB185_186 := n5_; have NB186_185 := n6_; clear n0_ n1_ n2_ n3_ n4_ n5_ n6_; clear hb hbox hg; have hnb7 := NB185_186.out; have hnc7 := NB186_185.out; have hcz8_0 : w6.cell? ⟨gb185, 0, none⟩ = some (.int .i64 a0_0) := (blk_cell BK185.out 0).trans rfl; have hcz8_1 : w6.cell? ⟨gb185, 1, none⟩ = some (.slice A0_1 l0_1.length c0_1) := (blk_cell BK185.out 1).trans rfl; have hfz8_0 := blk_frozen BK185.out 0; have hfz8_1 := blk_frozen BK185.out 1) | ((with_reducible refine gate_callee (f := 20) rfl ?_); refine goesL_ (some 19) rfl rfl Try.func20 (by kernel_rfl) rfl #[.agg #[.int .i64 a0_0, .slice A0_1 l0_1.length c0_1], .int .i64 1048576] rfl lm1_ ?_; (with_reducible refine (laws_szBits.calls a0_0 _ _ l0_1 1048576 t187 _ ?side1 ?side2 A3.out).mono ?_); (case side1 => exact lc1_ (Kd.C_below HR0_1.out HB.out)); (case side2 => exact HC0_1.out); rintro e w9 ⟨rfl, hb⟩; refine ⟨_, rfl, ?_⟩; have n0_ := am1_ (blk_below (g := gb185) (o := .cells #[.int .i64 a0_0, .slice A0_1 l0_1.length c0_1] 24 (0, 0)) (lb1_ BK185) hb); have n1_ := am1_ (blk_below (g := gb186) (o := .cells #[.int .i64 a1_0, .slice A1_1 l1_1.length c1_1] 24 (0, 0)) (lb1_ BK186) hb); have n2_ := am1_ (below_step (lw1_ HB) hb); clear BK185; clear BK186; clear HB; have BK185 := n0_; have BK186 := n1_; have HB := n2_; clear n0_ n1_ n2_; (try clear hb); (try clear hb2); (try clear hk); (try clear hi)))
  go_ret
  exact ⟨by first | rfl | (simp [errW_none, errW_some] <;> rfl) | (simp [*, errW_none, errW_some] <;> rfl), lw1_ HB⟩
 ·rw [if_neg c4] at H
  have c4b0 : decide (t187 < 0) = false := decide_eq_false c4
  clear c4
  replace H := Option.bind_eq_some_iff.mp H
  obtain ⟨t188, A100, H⟩ := H
  replace H : (if t188 < 0 then (some true) else ((laws_toBits.f k a0_0 l0_1).bind fun bt189 => ((laws_toBits.f k a1_0 l1_1).bind fun bt193 => ((spec_XorBits.f k bt189.1 bt189.2 bt193.1 bt193.2).bind fun bt197 => ((laws_toBits.f k a0_0 l0_1).bind fun bt203 => ((laws_toBits.f k a1_0 l1_1).bind fun bt208 => ((impl_XorBits.f k bt203.1 bt203.2 bt208.1 bt208.2).bind fun bt213 => ((laws_eqBits.f k bt213.1 bt213.2.1 bt197.1 bt197.2.1).bind fun t219 => (if t219 = true then (laws_FnExactXorBits.j0 k bt197.2.2 bt213.2.2 (bt213.2.2 != bt197.2.2) a0_0 l0_1 a1_0 l1_1 bt197.1 bt197.2.1 bt203.1 bt203.2 bt208.1 bt208.2 bt213.1 bt213.2.1) else (none)))))))))) = some r := H
  have A10 := am1_ A100
  clear A100
  by_cases c11 : t188 < 0
  ·rw [if_pos c11] at H
   have c11b0 : decide (t188 < 0) = true := decide_eq_true c11
   clear c11
   obtain rfl := Option.some.inj H
   go_enter Try.func13, Try.ntmps13
   go_wp2_with (first | ((with_reducible refine gate_dst (N := 2) rfl ?_); refine box_event ?hg (N := 2) ?hd (cs := #[.int .i64 a0_0, .slice A0_1 l0_1.length c0_1]) (t := 24) ?hr ?_; (case hd => rfl); (case hg => rfl); (case hr => first | (go_simp; done) | (go_simp; rfl)); intro gb185 hg w12 hbox hb; have n0_ := am1_ (below_step (lw1_ HB) hb); have n1_ := am1_ (hbox); have n2_ := am1_ ((by rw [hg]; exact (below_size (lw1_ HB)) : w.heap.size ≤ gb185)); have n3_ := am1_ ((by rw [hg]; exact (below_size (lw1_ HB)) : w.heap.size ≤ gb185)); clear HB; have HB := n0_; have BK185 := n1_; have GW185 := n2_; have GE185 := n3_; clear n0_ n1_ n2_ n3_; clear hb hbox hg) | ((with_reducible refine gate_dst (N := 3) rfl ?_); refine box_event ?hg (N := 3) ?hd (cs := #[.int .i64 a1_0, .slice A1_1 l1_1.length c1_1]) (t := 24) ?hr ?_; (case hd => rfl); (case hg => rfl); (case hr => first | (go_simp; done) | (go_simp; rfl)); intro gb186 hg w13 hbox hb; have n0_ := am1_ (blk_below (g := gb185) (o := .cells #[.int .i64 a0_0, .slice A0_1 l0_1.length c0_1] 24 (0, 0)) (lb1_ BK185) hb); have n1_ := am1_ (below_step (lw1_ HB) hb); have n2_ := am1_ (hbox); have n3_ := am1_ ((by rw [hg]; exact (below_size (lw1_ HB)) : w.heap.size ≤ gb186)); have n4_ := am1_ ((by rw [hg]; exact (below_size (lw1_ HB)) : w.heap.size ≤ gb186)); have n5_ := am1_ ((by rw [hg]; exact Nat.ne_of_lt (blk_lt (g := gb185) (lb1_ BK185)) : gb185 ≠ gb186)); have n6_ := am1_ ((by rw [hg]; exact Nat.ne_of_gt (blk_lt (g := gb185) (lb1_ BK185)) : gb186 ≠ gb185)); clear BK185; clear HB; have BK185 := n0_; have HB := n1_; have BK186 := n2_; have GW186 := n3_; have GE186 := n4_; have NB185_186 := n5_; have NB186_185 := n6_; clear n0_ n1_ n2_ n3_ n4_ n5_ n6_; clear hb hbox hg; have hnb14 := NB185_186.out; have hnc14 := NB186_185.out; have hcz15_0 : w13.cell? ⟨gb185, 0, none⟩ = some (.int .i64 a0_0) := (blk_cell BK185.out 0).trans rfl; have hcz15_1 : w13.cell? ⟨gb185, 1, none⟩ = some (.slice A0_1 l0_1.length c0_1) := (blk_cell BK185.out 1).trans rfl; have hfz15_0 := blk_frozen BK185.out 0; have hfz15_1 := blk_frozen BK185.out 1) | ((with_reducible refine gate_callee (f := 20) rfl ?_); refine goesL_ (some 19) rfl rfl Try.func20 (by kernel_rfl) rfl #[.agg #[.int .i64 a0_0, .slice A0_1 l0_1.length c0_1], .int .i64 1048576] rfl lm1_ ?_; (with_reducible refine (laws_szBits.calls a0_0 _ _ l0_1 1048576 t187 _ ?side1 ?side2 A3.out).mono ?_); (case side1 => exact lc1_ (Kd.C_below HR0_1.out HB.out)); (case side2 => exact HC0_1.out); rintro e w16 ⟨rfl, hb⟩; refine ⟨_, rfl, ?_⟩; have n0_ := am1_ (blk_below (g := gb185) (o := .cells #[.int .i64 a0_0, .slice A0_1 l0_1.length c0_1] 24 (0, 0)) (lb1_ BK185) hb); have n1_ := am1_ (blk_below (g := gb186) (o := .cells #[.int .i64 a1_0, .slice A1_1 l1_1.length c1_1] 24 (0, 0)) (lb1_ BK186) hb); have n2_ := am1_ (below_step (lw1_ HB) hb); clear BK185; clear BK186; clear HB; have BK185 := n0_; have BK186 := n1_; have HB := n2_; clear n0_ n1_ n2_; (try clear hb); (try clear hb2); (try clear hk); (try clear hi); have hcz17_0 : w16.cell? ⟨gb186, 0, none⟩ = some (.int .i64 a1_0) := (blk_cell BK186.out 0).trans rfl; have hcz17_1 : w16.cell? ⟨gb186, 1, none⟩ = some (.slice A1_1 l1_1.length c1_1) := (blk_cell BK186.out 1).trans rfl; have hfz17_0 := blk_frozen BK186.out 0; have hfz17_1 := blk_frozen BK186.out 1) | ((with_reducible refine gate_callee (f := 20) rfl ?_); refine goesL_ (some 24) rfl rfl Try.func20 (by kernel_rfl) rfl #[.agg #[.int .i64 a1_0, .slice A1_1 l1_1.length c1_1], .int .i64 t187] rfl lm1_ ?_; (with_reducible refine (laws_szBits.calls a1_0 _ _ l1_1 t187 t188 _ ?side1 ?side2 A10.out).mono ?_); (case side1 => exact lc1_ (Kd.C_below HR1_1.out HB.out)); (case side2 => exact HC1_1.out); rintro e w18 ⟨rfl, hb⟩; refine ⟨_, rfl, ?_⟩; have n0_ := am1_ (blk_below (g := gb185) (o := .cells #[.int .i64 a0_0, .slice A0_1 l0_1.length c0_1] 24 (0, 0)) (lb1_ BK185) hb); have n1_ := am1_ (blk_below (g := gb186) (o := .cells #[.int .i64 a1_0, .slice A1_1 l1_1.length c1_1] 24 (0, 0)) (lb1_ BK186) hb); have n2_ := am1_ (below_step (lw1_ HB) hb); clear BK185; clear BK186; clear HB; have BK185 := n0_; have BK186 := n1_; have HB := n2_; clear n0_ n1_ n2_; (try clear hb); (try clear hb2); (try clear hk); (try clear hi)))
   go_ret
   exact ⟨by first | rfl | (simp [errW_none, errW_some] <;> rfl) | (simp [*, errW_none, errW_some] <;> rfl), lw1_ HB⟩
  ·rw [if_neg c11] at H
   have c11b0 : decide (t188 < 0) = false := decide_eq_false c11
   clear c11
   replace H := Option.bind_eq_some_iff.mp H
   obtain ⟨⟨t189, t190⟩, A190, H⟩ := H
   replace H : ((laws_toBits.f k a1_0 l1_1).bind fun bt193 => ((spec_XorBits.f k t189 t190 bt193.1 bt193.2).bind fun bt197 => ((laws_toBits.f k a0_0 l0_1).bind fun bt203 => ((laws_toBits.f k a1_0 l1_1).bind fun bt208 => ((impl_XorBits.f k bt203.1 bt203.2 bt208.1 bt208.2).bind fun bt213 => ((laws_eqBits.f k bt213.1 bt213.2.1 bt197.1 bt197.2.1).bind fun t219 => (if t219 = true then (laws_FnExactXorBits.j0 k bt197.2.2 bt213.2.2 (bt213.2.2 != bt197.2.2) a0_0 l0_1 a1_0 l1_1 bt197.1 bt197.2.1 bt203.1 bt203.2 bt208.1 bt208.2 bt213.1 bt213.2.1) else (none)))))))) = some r := H
   have A19 := am1_ A190
   clear A190
   replace H := Option.bind_eq_some_iff.mp H
   obtain ⟨⟨t193, t194⟩, A200, H⟩ := H
   replace H : ((spec_XorBits.f k t189 t190 t193 t194).bind fun bt197 => ((laws_toBits.f k a0_0 l0_1).bind fun bt203 => ((laws_toBits.f k a1_0 l1_1).bind fun bt208 => ((impl_XorBits.f k bt203.1 bt203.2 bt208.1 bt208.2).bind fun bt213 => ((laws_eqBits.f k bt213.1 bt213.2.1 bt197.1 bt197.2.1).bind fun t219 => (if t219 = true then (laws_FnExactXorBits.j0 k bt197.2.2 bt213.2.2 (bt213.2.2 != bt197.2.2) a0_0 l0_1 a1_0 l1_1 bt197.1 bt197.2.1 bt203.1 bt203.2 bt208.1 bt208.2 bt213.1 bt213.2.1) else (none))))))) = some r := H
   have A20 := am1_ A200
   clear A200
   replace H := Option.bind_eq_some_iff.mp H
   obtain ⟨⟨t197, t198, t201⟩, A210, H⟩ := H
   replace H : ((laws_toBits.f k a0_0 l0_1).bind fun bt203 => ((laws_toBits.f k a1_0 l1_1).bind fun bt208 => ((impl_XorBits.f k bt203.1 bt203.2 bt208.1 bt208.2).bind fun bt213 => ((laws_eqBits.f k bt213.1 bt213.2.1 t197 t198).bind fun t219 => (if t219 = true then (laws_FnExactXorBits.j0 k t201 bt213.2.2 (bt213.2.2 != t201) a0_0 l0_1 a1_0 l1_1 t197 t198 bt203.1 bt203.2 bt208.1 bt208.2 bt213.1 bt213.2.1) else (none)))))) = some r := H
   have A21 := am1_ A210
   clear A210
   replace H := Option.bind_eq_some_iff.mp H
   obtain ⟨⟨t203, t204⟩, A220, H⟩ := H
   replace H : ((laws_toBits.f k a1_0 l1_1).bind fun bt208 => ((impl_XorBits.f k t203 t204 bt208.1 bt208.2).bind fun bt213 => ((laws_eqBits.f k bt213.1 bt213.2.1 t197 t198).bind fun t219 => (if t219 = true then (laws_FnExactXorBits.j0 k t201 bt213.2.2 (bt213.2.2 != t201) a0_0 l0_1 a1_0 l1_1 t197 t198 t203 t204 bt208.1 bt208.2 bt213.1 bt213.2.1) else (none))))) = some r := H
   have A22 := am1_ A220
   clear A220
   replace H := Option.bind_eq_some_iff.mp H
   obtain ⟨⟨t208, t209⟩, A230, H⟩ := H
   replace H : ((impl_XorBits.f k t203 t204 t208 t209).bind fun bt213 => ((laws_eqBits.f k bt213.1 bt213.2.1 t197 t198).bind fun t219 => (if t219 = true then (laws_FnExactXorBits.j0 k t201 bt213.2.2 (bt213.2.2 != t201) a0_0 l0_1 a1_0 l1_1 t197 t198 t203 t204 t208 t209 bt213.1 bt213.2.1) else (none)))) = some r := H
   have A23 := am1_ A230
   clear A230
   replace H := Option.bind_eq_some_iff.mp H
   obtain ⟨⟨t213, t214, t217⟩, A240, H⟩ := H
   replace H : ((laws_eqBits.f k t213 t214 t197 t198).bind fun t219 => (if t219 = true then (laws_FnExactXorBits.j0 k t201 t217 (t217 != t201) a0_0 l0_1 a1_0 l1_1 t197 t198 t203 t204 t208 t209 t213 t214) else (none))) = some r := H
   have A24 := am1_ A240
   clear A240
   have HC25 := am1_ H
   clear H
   go_enter Try.func13, Try.ntmps13
   try go_wp2_with (first | ((with_reducible refine gate_dst (N := 2) rfl ?_); refine box_event ?hg (N := 2) ?hd (cs := #[.int .i64 a0_0, .slice A0_1 l0_1.length c0_1]) (t := 24) ?hr ?_; (case hd => rfl); (case hg => rfl); (case hr => first | (go_simp; done) | (go_simp; rfl)); intro gb185 hg w26 hbox hb; have n0_ := am1_ (below_step (lw1_ HB) hb); have n1_ := am1_ (hbox); have n2_ := am1_ ((by rw [hg]; exact (below_size (lw1_ HB)) : w.heap.size ≤ gb185)); have n3_ := am1_ ((by rw [hg]; exact (below_size (lw1_ HB)) : w.heap.size ≤ gb185)); clear HB; have HB := n0_; have BK185 := n1_; have GW185 := n2_; have GE185 := n3_; clear n0_ n1_ n2_ n3_; clear hb hbox hg) | ((with_reducible refine gate_dst (N := 3) rfl ?_); refine box_event ?hg (N := 3) ?hd (cs := #[.int .i64 a1_0, .slice A1_1 l1_1.length c1_1]) (t := 24) ?hr ?_; (case hd => rfl); (case hg => rfl); (case hr => first | (go_simp; done) | (go_simp; rfl)); intro gb186 hg w27 hbox hb; have n0_ := am1_ (blk_below (g := gb185) (o := .cells #[.int .i64 a0_0, .slice A0_1 l0_1.length c0_1] 24 (0, 0)) (lb1_ BK185) hb); have n1_ := am1_ (below_step (lw1_ HB) hb); have n2_ := am1_ (hbox); have n3_ := am1_ ((by rw [hg]; exact (below_size (lw1_ HB)) : w.heap.size ≤ gb186)); have n4_ := am1_ ((by rw [hg]; exact (below_size (lw1_ HB)) : w.heap.size ≤ gb186)); have n5_ := am1_ ((by rw [hg]; exact Nat.ne_of_lt (blk_lt (g := gb185) (lb1_ BK185)) : gb185 ≠ gb186)); have n6_ := am1_ ((by rw [hg]; exact Nat.ne_of_gt (blk_lt (g := gb185) (lb1_ BK185)) : gb186 ≠ gb185)); clear BK185; clear HB; have BK185 := n0_; have HB := n1_; have BK186 := n2_; have GW186 := n3_; have GE186 := n4_; have NB185_186 := n5_; have NB186_185 := n6_; clear n0_ n1_ n2_ n3_ n4_ n5_ n6_; clear hb hbox hg; have hnb28 := NB185_186.out; have hnc28 := NB186_185.out; have hcz29_0 : w27.cell? ⟨gb185, 0, none⟩ = some (.int .i64 a0_0) := (blk_cell BK185.out 0).trans rfl; have hcz29_1 : w27.cell? ⟨gb185, 1, none⟩ = some (.slice A0_1 l0_1.length c0_1) := (blk_cell BK185.out 1).trans rfl; have hfz29_0 := blk_frozen BK185.out 0; have hfz29_1 := blk_frozen BK185.out 1) | ((with_reducible refine gate_callee (f := 20) rfl ?_); refine goesL_ (some 19) rfl rfl Try.func20 (by kernel_rfl) rfl #[.agg #[.int .i64 a0_0, .slice A0_1 l0_1.length c0_1], .int .i64 1048576] rfl lm1_ ?_; (with_reducible refine (laws_szBits.calls a0_0 _ _ l0_1 1048576 t187 _ ?side1 ?side2 A3.out).mono ?_); (case side1 => exact lc1_ (Kd.C_below HR0_1.out HB.out)); (case side2 => exact HC0_1.out); rintro e w30 ⟨rfl, hb⟩; refine ⟨_, rfl, ?_⟩; have n0_ := am1_ (blk_below (g := gb185) (o := .cells #[.int .i64 a0_0, .slice A0_1 l0_1.length c0_1] 24 (0, 0)) (lb1_ BK185) hb); have n1_ := am1_ (blk_below (g := gb186) (o := .cells #[.int .i64 a1_0, .slice A1_1 l1_1.length c1_1] 24 (0, 0)) (lb1_ BK186) hb); have n2_ := am1_ (below_step (lw1_ HB) hb); clear BK185; clear BK186; clear HB; have BK185 := n0_; have BK186 := n1_; have HB := n2_; clear n0_ n1_ n2_; (try clear hb); (try clear hb2); (try clear hk); (try clear hi); have hcz31_0 : w30.cell? ⟨gb186, 0, none⟩ = some (.int .i64 a1_0) := (blk_cell BK186.out 0).trans rfl; have hcz31_1 : w30.cell? ⟨gb186, 1, none⟩ = some (.slice A1_1 l1_1.length c1_1) := (blk_cell BK186.out 1).trans rfl; have hfz31_0 := blk_frozen BK186.out 0; have hfz31_1 := blk_frozen BK186.out 1) | ((with_reducible refine gate_callee (f := 20) rfl ?_); refine goesL_ (some 24) rfl rfl Try.func20 (by kernel_rfl) rfl #[.agg #[.int .i64 a1_0, .slice A1_1 l1_1.length c1_1], .int .i64 t187] rfl lm1_ ?_; (with_reducible refine (laws_szBits.calls a1_0 _ _ l1_1 t187 t188 _ ?side1 ?side2 A10.out).mono ?_); (case side1 => exact lc1_ (Kd.C_below HR1_1.out HB.out)); (case side2 => exact HC1_1.out); rintro e w32 ⟨rfl, hb⟩; refine ⟨_, rfl, ?_⟩; have n0_ := am1_ (blk_below (g := gb185) (o := .cells #[.int .i64 a0_0, .slice A0_1 l0_1.length c0_1] 24 (0, 0)) (lb1_ BK185) hb); have n1_ := am1_ (blk_below (g := gb186) (o := .cells #[.int .i64 a1_0, .slice A1_1 l1_1.length c1_1] 24 (0, 0)) (lb1_ BK186) hb); have n2_ := am1_ (below_step (lw1_ HB) hb); clear BK185; clear BK186; clear HB; have BK185 := n0_; have BK186 := n1_; have HB := n2_; clear n0_ n1_ n2_; (try clear hb); (try clear hb2); (try clear hk); (try clear hi)))
   have n0_ := am1_ (blk_drew BK185.out)
   have n1_ := am1_ (blk_drew BK186.out)
   have n2_ := am1_ (below_drew1 HB.out)
   clear BK185
   clear BK186
   clear HB
   have BK185 := n0_
   have BK186 := n1_
   have HB := n2_
   clear n0_ n1_ n2_
   refine start_ (n := 11) (S := fun w' => w'.cell? ⟨gb185, 0, none⟩ = some (.int .i64 a0_0) ∧ w'.cell? ⟨gb185, 1, none⟩ = some (.slice A0_1 l0_1.length c0_1) ∧ w'.cell? ⟨gb186, 0, none⟩ = some (.int .i64 a1_0) ∧ w'.cell? ⟨gb186, 1, none⟩ = some (.slice A1_1 l1_1.length c1_1)) (ds := []) #[false, false, false, false, false, false, false, false, false, false, false] (by kernel_rfl) rfl rfl ⟨(blk_cell BK185.out 0).trans rfl, (blk_cell BK185.out 1).trans rfl, (blk_cell BK186.out 0).trans rfl, (blk_cell BK186.out 1).trans rfl⟩ (fun hHeld => ?_); refine with_tabW laws_FnExactXorBits.tab8 laws_FnExactXorBits.bits8 (fun HT_ HW_ => ?_)
   generalize w32.drew = w33 at BK185 BK186 HB hHeld ⊢
   refine take_ (i := 0) (N := some 28) (v := ?_) (a' := ?_) #[true, false, false, false, false, false, false, false, false, false, false] rfl rfl (take_ofW HT_.out HW_.out (by kernel_rfl)) (fun _ _ _ h => h) (Or.inl ⟨by rfl, ?_⟩) hHeld ?_ ?_
   rotate_left
   ·rintro w' ⟨s0, s1, s2, s3⟩
    go_simp
    with_reducible rfl
   rotate_left
   ·simp only [Act.put, List.setIfInBounds_toArray, List.set_cons_zero, List.set_cons_succ, i64_w, i32_w]
    rfl
   refine take_ (i := 2) (N := some 30) (v := ?_) (a' := ?_) #[true, false, true, false, false, false, false, false, false, false, false] rfl rfl (take_ofW HT_.out HW_.out (by kernel_rfl)) (fun _ _ _ h => h) (Or.inl ⟨by rfl, ?_⟩) hHeld ?_ ?_
   rotate_left
   ·rintro w' ⟨s0, s1, s2, s3⟩
    go_simp
    with_reducible rfl
   rotate_left
   ·simp only [Act.put, List.setIfInBounds_toArray, List.set_cons_zero, List.set_cons_succ, i64_w, i32_w]
    rfl
   refine join_ (σ := Value × Value × Value × Nat) 2 #[true, true, true, true, true, true, true, true, true, false, false] (fun s_ => [(29, .agg #[.int .i64 t189, s_.1]), (31, .agg #[.int .i64 t193, s_.2.1]), (32, .tuple #[.agg #[.int .i64 t197, s_.2.2.1], .bool t201]), (6, .pointer (some ⟨s_.2.2.2, 0, none⟩)), (27, .tuple #[.agg #[.int .i64 t197, s_.2.2.1], .bool t201]), (33, .agg #[.int .i64 t197, s_.2.2.1]), (34, .bool t201)]) (fun s_ w' => (w'.cell? ⟨gb185, 0, none⟩ = some (.int .i64 a0_0) ∧ w'.cell? ⟨gb185, 1, none⟩ = some (.slice A0_1 l0_1.length c0_1) ∧ w'.cell? ⟨gb186, 0, none⟩ = some (.int .i64 a1_0) ∧ w'.cell? ⟨gb186, 1, none⟩ = some (.slice A1_1 l1_1.length c1_1)) ∧ (Kd.R (Kd.int .i64) 3 w' w.heap.size (fun k_ => some k_ ≠ (s_.2.1 : Value).ownBlock ∧ some k_ ≠ (s_.2.2.1 : Value).ownBlock) s_.1 t190) ∧ (Kd.R (Kd.int .i64) 3 w' w.heap.size (fun k_ => some k_ ≠ (s_.1 : Value).ownBlock ∧ some k_ ≠ (s_.2.2.1 : Value).ownBlock) s_.2.1 t194) ∧ (Kd.R (Kd.int .i64) 3 w' w.heap.size (fun k_ => some k_ ≠ (s_.1 : Value).ownBlock ∧ some k_ ≠ (s_.2.1 : Value).ownBlock) s_.2.2.1 t198) ∧ (w'.heap[gb185]? = some (.cells #[.int .i64 a0_0, .slice A0_1 l0_1.length c0_1] 24 (0, 0))) ∧ (w'.heap[gb186]? = some (.cells #[.int .i64 a1_0, .slice A1_1 l1_1.length c1_1] 24 (0, 0))) ∧ (w'.heap[s_.2.2.2]? = some (.cells #[.int .i64 0, .slice none 0 0] 29 (0, 0))) ∧ (w.heap.size ≤ s_.2.2.2) ∧ (w.heap.size ≤ s_.2.2.2) ∧ (gb185 ≠ s_.2.2.2) ∧ (s_.2.2.2 ≠ gb185) ∧ (gb186 ≠ s_.2.2.2) ∧ (s_.2.2.2 ≠ gb186) ∧ (Below w.heap.size w w')) ?_ ?_
   rotate_left
   ·intro hCont
    refine two_ (i := 1) (j := 8) (Ni := some 29) (Nj := some 6) #[true, true, true, false, false, false, false, false, false, false, false] #[true, false, true, false, false, false, false, false, true, false, false] rfl rfl rfl rfl (two_of HT_.out (by kernel_rfl)) (by decide) (by decide) (fun K hK => ?_) (fun K hK => ?_)
    ·skip
     refine goes_ Try.func22 (by kernel_rfl) rfl #[.agg #[.int .i64 a0_0, .slice A0_1 l0_1.length c0_1]] (by rfl) rfl rfl lm1_ ?_
     with_reducible refine (laws_toBits.calls k a0_0 _ _ l0_1 t189 t190 _ ?side1 ?side2 A19.out).mono ?_
     (case side1 => exact lc1_ (Kd.C_below HR0_1.out HB.out))
     (case side2 => exact HC0_1.out)
     rintro e w34 ⟨v191, rfl, ho0, hb⟩
     refine ⟨_, rfl, ?_⟩
     have n0_ := am1_ (Kd.R_lower ho0 (below_size (lw1_ HB)))
     have n1_ := am1_ (blk_below (g := gb185) (o := .cells #[.int .i64 a0_0, .slice A0_1 l0_1.length c0_1] 24 (0, 0)) (lb1_ BK185) hb)
     have n2_ := am1_ (blk_below (g := gb186) (o := .cells #[.int .i64 a1_0, .slice A1_1 l1_1.length c1_1] 24 (0, 0)) (lb1_ BK186) hb)
     have n3_ := am1_ (below_step (lw1_ HB) hb)
     clear BK185
     clear BK186
     clear HB
     have HO192 := n0_
     have BK185 := n1_
     have BK186 := n2_
     have HB := n3_
     clear n0_ n1_ n2_ n3_
     (try clear hb)
     (try clear hb2)
     (try clear hk)
     (try clear hi)
     (try clear ho0)
     refine hK.out _ _ ⟨(blk_cell BK185.out 0).trans rfl, (blk_cell BK185.out 1).trans rfl, (blk_cell BK186.out 0).trans rfl, (blk_cell BK186.out 1).trans rfl⟩ (fun hHeld => ?_)
     clear hK K
     refine norm_ (a' := ?_) ?_ ?_
     rotate_left
     ·show Act.put _ (some 29) _ = _
      simp only [Act.put, List.setIfInBounds_toArray, List.set_cons_zero, List.set_cons_succ, i64_w, i32_w]
      rfl
     refine two_ (i := 3) (j := 8) (Ni := some 31) (Nj := some 6) #[true, true, true, true, false, false, false, false, false, false, false] #[true, true, true, false, false, false, false, false, true, false, false] rfl rfl rfl rfl (two_of HT_.out (by kernel_rfl)) (by decide) (by decide) (fun K hK => ?_) (fun K hK => ?_)
     ·skip
      refine goes_ Try.func22 (by kernel_rfl) rfl #[.agg #[.int .i64 a1_0, .slice A1_1 l1_1.length c1_1]] (by rfl) rfl rfl lm1_ ?_
      with_reducible refine (laws_toBits.calls k a1_0 _ _ l1_1 t193 t194 _ ?side1 ?side2 A20.out).mono ?_
      (case side1 => exact lc1_ (Kd.C_below HR1_1.out HB.out))
      (case side2 => exact HC1_1.out)
      rintro e w35 ⟨v195, rfl, ho0, hb⟩
      refine ⟨_, rfl, ?_⟩
      have n0_ := am1_ (Kd.R_elder' (lf1_ HO192) (Kd.R_base ho0) hb)
      have n1_ := am1_ (Kd.R_lower (Kd.R_new' ho0 (Kd.R_lt (lf1_ HO192))) (below_size (lw1_ HB)))
      have n2_ := am1_ (blk_below (g := gb185) (o := .cells #[.int .i64 a0_0, .slice A0_1 l0_1.length c0_1] 24 (0, 0)) (lb1_ BK185) hb)
      have n3_ := am1_ (blk_below (g := gb186) (o := .cells #[.int .i64 a1_0, .slice A1_1 l1_1.length c1_1] 24 (0, 0)) (lb1_ BK186) hb)
      have n4_ := am1_ (below_step (lw1_ HB) hb)
      clear HO192
      clear BK185
      clear BK186
      clear HB
      have HO192 := n0_
      have HO196 := n1_
      have BK185 := n2_
      have BK186 := n3_
      have HB := n4_
      clear n0_ n1_ n2_ n3_ n4_
      (try clear hb)
      (try clear hb2)
      (try clear hk)
      (try clear hi)
      (try clear ho0)
      obtain ⟨Ao36, co36, eo36⟩ := Kd.R_slice HO192.out
      (first | subst eo36 | (injection eo36 with f1_ f2_ f3_; have f4_ := f1_.symm; have f5_ := f3_.symm; clear f1_ f2_ f3_; subst f4_; subst f5_))
      obtain ⟨Ao37, co37, eo37⟩ := Kd.R_slice HO196.out
      (first | subst eo37 | (injection eo37 with f1_ f2_ f3_; have f4_ := f1_.symm; have f5_ := f3_.symm; clear f1_ f2_ f3_; subst f4_; subst f5_))
      refine hK.out _ _ ⟨(blk_cell BK185.out 0).trans rfl, (blk_cell BK185.out 1).trans rfl, (blk_cell BK186.out 0).trans rfl, (blk_cell BK186.out 1).trans rfl⟩ (fun hHeld => ?_)
      clear hK K
      refine norm_ (a' := ?_) ?_ ?_
      rotate_left
      ·show Act.put _ (some 31) _ = _
       simp only [Act.put, List.setIfInBounds_toArray, List.set_cons_zero, List.set_cons_succ, i64_w, i32_w]
       rfl
      refine two_ (i := 4) (j := 8) (Ni := some 32) (Nj := some 6) #[true, true, true, true, true, false, false, false, false, false, false] #[true, true, true, true, false, false, false, false, true, false, false] rfl rfl rfl rfl (two_of HT_.out (by kernel_rfl)) (by decide) (by decide) (fun K hK => ?_) (fun K hK => ?_)
      ·skip
       refine goes_ Try.func47 (by kernel_rfl) rfl #[.agg #[.int .i64 t189, .slice Ao36 t190.length co36], .agg #[.int .i64 t193, .slice Ao37 t194.length co37]] (by rfl) rfl rfl lm1_ ?_
       with_reducible refine (spec_XorBits.calls k t189 _ _ t190 t193 _ _ t194 t197 t198 t201 _ ?side1 ?side2 ?side3 ?side4 A21.out).mono ?_
       (case side1 => exact lc1_ (Kd.R_reads' HO192.out).2.2)
       (case side2 => exact (Kd.R_reads' HO192.out).2.1)
       (case side3 => exact lc1_ (Kd.R_reads' HO196.out).2.2)
       (case side4 => exact (Kd.R_reads' HO196.out).2.1)
       rintro e w38 ⟨v199, rfl, ho0, hb⟩
       refine ⟨_, rfl, ?_⟩
       have n0_ := am1_ (Kd.R_elder' (lf1_ HO192) (Kd.R_base ho0) hb)
       have n1_ := am1_ (Kd.R_elder' (lf1_ HO196) (Kd.R_base ho0) hb)
       have n2_ := am1_ (Kd.R_lower (Kd.R_new' (Kd.R_new' ho0 (Kd.R_lt (lf1_ HO192))) (Kd.R_lt (lf1_ HO196))) (below_size (lw1_ HB)))
       have n3_ := am1_ (blk_below (g := gb185) (o := .cells #[.int .i64 a0_0, .slice A0_1 l0_1.length c0_1] 24 (0, 0)) (lb1_ BK185) hb)
       have n4_ := am1_ (blk_below (g := gb186) (o := .cells #[.int .i64 a1_0, .slice A1_1 l1_1.length c1_1] 24 (0, 0)) (lb1_ BK186) hb)
       have n5_ := am1_ (below_step (lw1_ HB) hb)
       clear HO192
       clear HO196
       clear BK185
       clear BK186
       clear HB
       have HO192 := n0_
       have HO196 := n1_
       have HO200 := n2_
       have BK185 := n3_
       have BK186 := n4_
       have HB := n5_
       clear n0_ n1_ n2_ n3_ n4_ n5_
       (try clear hb)
       (try clear hb2)
       (try clear hk)
       (try clear hi)
       (try clear ho0)
       refine hK.out _ _ ⟨(blk_cell BK185.out 0).trans rfl, (blk_cell BK185.out 1).trans rfl, (blk_cell BK186.out 0).trans rfl, (blk_cell BK186.out 1).trans rfl⟩ (fun hHeld => ?_)
       clear hK K
       refine norm_ (a' := ?_) ?_ ?_
       rotate_left
       ·show Act.put _ (some 32) _ = _
        simp only [Act.put, List.setIfInBounds_toArray, List.set_cons_zero, List.set_cons_succ, i64_w, i32_w]
        rfl
       refine pure_ (i := 5) (N := some 27) (v := ?_) (a' := ?_) #[true, true, true, true, true, true, false, false, false, false, false] rfl rfl (any_of HT_.out (by kernel_rfl)) (fun _ _ _ h => h) (Or.inl ⟨by rfl, ?_⟩) ?_ ?_
       rotate_left
       ·intro w'
        go_simp
        with_reducible rfl
       rotate_left
       ·simp only [Act.put, List.setIfInBounds_toArray, List.set_cons_zero, List.set_cons_succ, i64_w, i32_w]
        rfl
       refine pure_ (i := 6) (N := some 33) (v := ?_) (a' := ?_) #[true, true, true, true, true, true, true, false, false, false, false] rfl rfl (any_of HT_.out (by kernel_rfl)) (fun _ _ _ h => h) (Or.inl ⟨by rfl, ?_⟩) ?_ ?_
       rotate_left
       ·intro w'
        go_simp
        with_reducible rfl
       rotate_left
       ·simp only [Act.put, List.setIfInBounds_toArray, List.set_cons_zero, List.set_cons_succ, i64_w, i32_w]
        rfl
       refine pure_ (i := 7) (N := some 34) (v := ?_) (a' := ?_) #[true, true, true, true, true, true, true, true, false, false, false] rfl rfl (any_of HT_.out (by kernel_rfl)) (fun _ _ _ h => h) (Or.inl ⟨by rfl, ?_⟩) ?_ ?_
       rotate_left
       ·intro w'
        go_simp
        with_reducible rfl
       rotate_left
       ·simp only [Act.put, List.setIfInBounds_toArray, List.set_cons_zero, List.set_cons_succ, i64_w, i32_w]
        rfl
       refine one_ (i := 8) (N := some 6) #[true, true, true, true, true, true, true, true, true, false, false] rfl rfl (one_of HT_.out (by kernel_rfl)) (by decide) (fun K hK => ?_)
       refine box_step ?hg (N := 6) ?hd (cs := #[.int .i64 0, .slice none 0 0]) (t := 29) ?hr ?_; (case hd => rfl); (case hg => rfl); (case hr => first | (go_simp; done) | (go_simp; rfl))
       intro gb202 hg w39 hbox hb
       have n0_ := am1_ (Kd.R_below (lf1_ HO192) hb)
       have n1_ := am1_ (Kd.R_below (lf1_ HO196) hb)
       have n2_ := am1_ (Kd.R_below (lf1_ HO200) hb)
       have n3_ := am1_ (blk_below (g := gb185) (o := .cells #[.int .i64 a0_0, .slice A0_1 l0_1.length c0_1] 24 (0, 0)) (lb1_ BK185) hb)
       have n4_ := am1_ (blk_below (g := gb186) (o := .cells #[.int .i64 a1_0, .slice A1_1 l1_1.length c1_1] 24 (0, 0)) (lb1_ BK186) hb)
       have n5_ := am1_ (below_step (lw1_ HB) hb)
       have n6_ := am1_ (hbox)
       have n7_ := am1_ ((by rw [hg]; exact (below_size (lw1_ HB)) : w.heap.size ≤ gb202))
       have n8_ := am1_ ((by rw [hg]; exact (below_size (lw1_ HB)) : w.heap.size ≤ gb202))
       have n9_ := am1_ ((by rw [hg]; exact Nat.ne_of_lt (blk_lt (g := gb185) (lb1_ BK185)) : gb185 ≠ gb202))
       have n10_ := am1_ ((by rw [hg]; exact Nat.ne_of_gt (blk_lt (g := gb185) (lb1_ BK185)) : gb202 ≠ gb185))
       have n11_ := am1_ ((by rw [hg]; exact Nat.ne_of_lt (blk_lt (g := gb186) (lb1_ BK186)) : gb186 ≠ gb202))
       have n12_ := am1_ ((by rw [hg]; exact Nat.ne_of_gt (blk_lt (g := gb186) (lb1_ BK186)) : gb202 ≠ gb186))
       clear HO192
       clear HO196
       clear HO200
       clear BK185
       clear BK186
       clear HB
       have HO192 := n0_
       have HO196 := n1_
       have HO200 := n2_
       have BK185 := n3_
       have BK186 := n4_
       have HB := n5_
       have BK202 := n6_
       have GW202 := n7_
       have GE202 := n8_
       have NB185_202 := n9_
       have NB202_185 := n10_
       have NB186_202 := n11_
       have NB202_186 := n12_
       clear n0_ n1_ n2_ n3_ n4_ n5_ n6_ n7_ n8_ n9_ n10_ n11_ n12_
       clear hb hbox hg
       refine hK.out _ _ ⟨(blk_cell BK185.out 0).trans rfl, (blk_cell BK185.out 1).trans rfl, (blk_cell BK186.out 0).trans rfl, (blk_cell BK186.out 1).trans rfl⟩ (fun hHeld => ?_)
       clear hK K
       refine norm_ (a' := ?_) ?_ ?_
       rotate_left
       ·show Act.put _ (some 6) _ = _
        simp only [Act.put, List.setIfInBounds_toArray, List.set_cons_zero, List.set_cons_succ, i64_w, i32_w]
        rfl
       exact norm_ (by simp only [putAll, Act.put, List.setIfInBounds_toArray, List.set_cons_zero, List.set_cons_succ]) (hCont (.slice Ao36 t190.length co36, .slice Ao37 t194.length co37, v199, gb202) _ ⟨hHeld, (by (with_reducible repeat (first | apply Kd.R_alloc | apply Kd.R_drewN | apply Kd.R_drew)); exact Kd.R_mono HO192.out (fun _ hk => ⟨hk.1.2, hk.2⟩)), (by (with_reducible repeat (first | apply Kd.R_alloc | apply Kd.R_drewN | apply Kd.R_drew)); exact Kd.R_mono HO196.out (fun _ hk => ⟨hk.1.2, hk.2⟩)), (by (with_reducible repeat (first | apply Kd.R_alloc | apply Kd.R_drewN | apply Kd.R_drew)); exact Kd.R_mono HO200.out (fun _ hk => ⟨hk.1.2, hk.2⟩)), (lb1_ BK185), (lb1_ BK186), (lb1_ BK202), GW202.out, GE202.out, NB185_202.out, NB202_185.out, NB186_202.out, NB202_186.out, (lw1_ HB)⟩)
      ·skip
       refine box_step ?hg (N := 6) ?hd (cs := #[.int .i64 0, .slice none 0 0]) (t := 29) ?hr ?_; (case hd => rfl); (case hg => rfl); (case hr => first | (go_simp; done) | (go_simp; rfl))
       intro gb202 hg w36 hbox hb
       have n0_ := am1_ (Kd.R_below (lf1_ HO192) hb)
       have n1_ := am1_ (Kd.R_below (lf1_ HO196) hb)
       have n2_ := am1_ (blk_below (g := gb185) (o := .cells #[.int .i64 a0_0, .slice A0_1 l0_1.length c0_1] 24 (0, 0)) (lb1_ BK185) hb)
       have n3_ := am1_ (blk_below (g := gb186) (o := .cells #[.int .i64 a1_0, .slice A1_1 l1_1.length c1_1] 24 (0, 0)) (lb1_ BK186) hb)
       have n4_ := am1_ (below_step (lw1_ HB) hb)
       have n5_ := am1_ (hbox)
       have n6_ := am1_ ((by rw [hg]; exact (below_size (lw1_ HB)) : w.heap.size ≤ gb202))
       have n7_ := am1_ ((by rw [hg]; exact (below_size (lw1_ HB)) : w.heap.size ≤ gb202))
       have n8_ := am1_ ((by rw [hg]; exact Nat.ne_of_lt (blk_lt (g := gb185) (lb1_ BK185)) : gb185 ≠ gb202))
       have n9_ := am1_ ((by rw [hg]; exact Nat.ne_of_gt (blk_lt (g := gb185) (lb1_ BK185)) : gb202 ≠ gb185))
       have n10_ := am1_ ((by rw [hg]; exact Nat.ne_of_lt (blk_lt (g := gb186) (lb1_ BK186)) : gb186 ≠ gb202))
       have n11_ := am1_ ((by rw [hg]; exact Nat.ne_of_gt (blk_lt (g := gb186) (lb1_ BK186)) : gb202 ≠ gb186))
       clear HO192
       clear HO196
       clear BK185
       clear BK186
       clear HB
       have HO192 := n0_
       have HO196 := n1_
       have BK185 := n2_
       have BK186 := n3_
       have HB := n4_
       have BK202 := n5_
       have GW202 := n6_
       have GE202 := n7_
       have NB185_202 := n8_
       have NB202_185 := n9_
       have NB186_202 := n10_
       have NB202_186 := n11_
       clear n0_ n1_ n2_ n3_ n4_ n5_ n6_ n7_ n8_ n9_ n10_ n11_
       clear hb hbox hg
       obtain ⟨Ao37, co37, eo37⟩ := Kd.R_slice HO192.out
       (first | subst eo37 | (injection eo37 with f1_ f2_ f3_; have f4_ := f1_.symm; have f5_ := f3_.symm; clear f1_ f2_ f3_; subst f4_; subst f5_))
       obtain ⟨Ao38, co38, eo38⟩ := Kd.R_slice HO196.out
       (first | subst eo38 | (injection eo38 with f1_ f2_ f3_; have f4_ := f1_.symm; have f5_ := f3_.symm; clear f1_ f2_ f3_; subst f4_; subst f5_))
       refine hK.out _ _ ⟨(blk_cell BK185.out 0).trans rfl, (blk_cell BK185.out 1).trans rfl, (blk_cell BK186.out 0).trans rfl, (blk_cell BK186.out 1).trans rfl⟩ (fun hHeld => ?_)
       clear hK K
       refine norm_ (a' := ?_) ?_ ?_
       rotate_left
       ·show Act.put _ (some 6) _ = _
        simp only [Act.put, List.setIfInBounds_toArray, List.set_cons_zero, List.set_cons_succ, i64_w, i32_w]
        rfl
       refine one_ (i := 4) (N := some 32) #[true, true, true, true, true, false, false, false, true, false, false] rfl rfl (one_of HT_.out (by kernel_rfl)) (by decide) (fun K hK => ?_)
       refine goes_ Try.func47 (by kernel_rfl) rfl #[.agg #[.int .i64 t189, .slice Ao37 t190.length co37], .agg #[.int .i64 t193, .slice Ao38 t194.length co38]] (by rfl) rfl rfl lm1_ ?_
       with_reducible refine (spec_XorBits.calls k t189 _ _ t190 t193 _ _ t194 t197 t198 t201 _ ?side1 ?side2 ?side3 ?side4 A21.out).mono ?_
       (case side1 => exact lc1_ (Kd.R_reads' HO192.out).2.2)
       (case side2 => exact (Kd.R_reads' HO192.out).2.1)
       (case side3 => exact lc1_ (Kd.R_reads' HO196.out).2.2)
       (case side4 => exact (Kd.R_reads' HO196.out).2.1)
       rintro e w39 ⟨v199, rfl, ho0, hb⟩
       refine ⟨_, rfl, ?_⟩
       have n0_ := am1_ (Kd.R_elder' (lf1_ HO192) (Kd.R_base ho0) hb)
       have n1_ := am1_ (Kd.R_elder' (lf1_ HO196) (Kd.R_base ho0) hb)
       have n2_ := am1_ (Kd.R_lower (Kd.R_new' (Kd.R_new' ho0 (Kd.R_lt (lf1_ HO192))) (Kd.R_lt (lf1_ HO196))) (below_size (lw1_ HB)))
       have n3_ := am1_ (blk_below (g := gb185) (o := .cells #[.int .i64 a0_0, .slice A0_1 l0_1.length c0_1] 24 (0, 0)) (lb1_ BK185) hb)
       have n4_ := am1_ (blk_below (g := gb186) (o := .cells #[.int .i64 a1_0, .slice A1_1 l1_1.length c1_1] 24 (0, 0)) (lb1_ BK186) hb)
       have n5_ := am1_ (blk_below (g := gb202) (o := .cells #[.int .i64 0, .slice none 0 0] 29 (0, 0)) (lb1_ BK202) hb)
       have n6_ := am1_ (below_step (lw1_ HB) hb)
       clear HO192
       clear HO196
       clear BK185
       clear BK186
       clear BK202
       clear HB
       have HO192 := n0_
       have HO196 := n1_
       have HO200 := n2_
       have BK185 := n3_
       have BK186 := n4_
       have BK202 := n5_
       have HB := n6_
       clear n0_ n1_ n2_ n3_ n4_ n5_ n6_
       (try clear hb)
       (try clear hb2)
       (try clear hk)
       (try clear hi)
       (try clear ho0)
       refine hK.out _ _ ⟨(blk_cell BK185.out 0).trans rfl, (blk_cell BK185.out 1).trans rfl, (blk_cell BK186.out 0).trans rfl, (blk_cell BK186.out 1).trans rfl⟩ (fun hHeld => ?_)
       clear hK K
       refine norm_ (a' := ?_) ?_ ?_
       rotate_left
       ·show Act.put _ (some 32) _ = _
        simp only [Act.put, List.setIfInBounds_toArray, List.set_cons_zero, List.set_cons_succ, i64_w, i32_w]
        rfl
       refine pure_ (i := 5) (N := some 27) (v := ?_) (a' := ?_) #[true, true, true, true, true, true, false, false, true, false, false] rfl rfl (any_of HT_.out (by kernel_rfl)) (fun _ _ _ h => h) (Or.inl ⟨by rfl, ?_⟩) ?_ ?_
       rotate_left
       ·intro w'
        go_simp
        with_reducible rfl
       rotate_left
       ·simp only [Act.put, List.setIfInBounds_toArray, List.set_cons_zero, List.set_cons_succ, i64_w, i32_w]
        rfl
       refine pure_ (i := 6) (N := some 33) (v := ?_) (a' := ?_) #[true, true, true, true, true, true, true, false, true, false, false] rfl rfl (any_of HT_.out (by kernel_rfl)) (fun _ _ _ h => h) (Or.inl ⟨by rfl, ?_⟩) ?_ ?_
       rotate_left
       ·intro w'
        go_simp
        with_reducible rfl
       rotate_left
       ·simp only [Act.put, List.setIfInBounds_toArray, List.set_cons_zero, List.set_cons_succ, i64_w, i32_w]
        rfl
       refine pure_ (i := 7) (N := some 34) (v := ?_) (a' := ?_) #[true, true, true, true, true, true, true, true, true, false, false] rfl rfl (any_of HT_.out (by kernel_rfl)) (fun _ _ _ h => h) (Or.inl ⟨by rfl, ?_⟩) ?_ ?_
       rotate_left
       ·intro w'
        go_simp
        with_reducible rfl
       rotate_left
       ·simp only [Act.put, List.setIfInBounds_toArray, List.set_cons_zero, List.set_cons_succ, i64_w, i32_w]
        rfl
       exact norm_ (by simp only [putAll, Act.put, List.setIfInBounds_toArray, List.set_cons_zero, List.set_cons_succ]) (hCont (.slice Ao37 t190.length co37, .slice Ao38 t194.length co38, v199, gb202) _ ⟨hHeld, (by (with_reducible repeat (first | apply Kd.R_alloc | apply Kd.R_drewN | apply Kd.R_drew)); exact Kd.R_mono HO192.out (fun _ hk => ⟨hk.1.2, hk.2⟩)), (by (with_reducible repeat (first | apply Kd.R_alloc | apply Kd.R_drewN | apply Kd.R_drew)); exact Kd.R_mono HO196.out (fun _ hk => ⟨hk.1.2, hk.2⟩)), (by (with_reducible repeat (first | apply Kd.R_alloc | apply Kd.R_drewN | apply Kd.R_drew)); exact Kd.R_mono HO200.out (fun _ hk => ⟨hk.1.2, hk.2⟩)), (lb1_ BK185), (lb1_ BK186), (lb1_ BK202), GW202.out, GE202.out, NB185_202.out, NB202_185.out, NB186_202.out, NB202_186.out, (lw1_ HB)⟩)
     ·skip
      refine box_step ?hg (N := 6) ?hd (cs := #[.int .i64 0, .slice none 0 0]) (t := 29) ?hr ?_; (case hd => rfl); (case hg => rfl); (case hr => first | (go_simp; done) | (go_simp; rfl))
      intro gb202 hg w35 hbox hb
      have n0_ := am1_ (Kd.R_below (lf1_ HO192) hb)
      have n1_ := am1_ (blk_below (g := gb185) (o := .cells #[.int .i64 a0_0, .slice A0_1 l0_1.length c0_1] 24 (0, 0)) (lb1_ BK185) hb)
      have n2_ := am1_ (blk_below (g := gb186) (o := .cells #[.int .i64 a1_0, .slice A1_1 l1_1.length c1_1] 24 (0, 0)) (lb1_ BK186) hb)
      have n3_ := am1_ (below_step (lw1_ HB) hb)
      have n4_ := am1_ (hbox)
      have n5_ := am1_ ((by rw [hg]; exact (below_size (lw1_ HB)) : w.heap.size ≤ gb202))
      have n6_ := am1_ ((by rw [hg]; exact (below_size (lw1_ HB)) : w.heap.size ≤ gb202))
      have n7_ := am1_ ((by rw [hg]; exact Nat.ne_of_lt (blk_lt (g := gb185) (lb1_ BK185)) : gb185 ≠ gb202))
      have n8_ := am1_ ((by rw [hg]; exact Nat.ne_of_gt (blk_lt (g := gb185) (lb1_ BK185)) : gb202 ≠ gb185))
      have n9_ := am1_ ((by rw [hg]; exact Nat.ne_of_lt (blk_lt (g := gb186) (lb1_ BK186)) : gb186 ≠ gb202))
      have n10_ := am1_ ((by rw [hg]; exact Nat.ne_of_gt (blk_lt (g := gb186) (lb1_ BK186)) : gb202 ≠ gb186))
      clear HO192
      clear BK185
      clear BK186
      clear HB
      have HO192 := n0_
      have BK185 := n1_
      have BK186 := n2_
      have HB := n3_
      have BK202 := n4_
      have GW202 := n5_
      have GE202 := n6_
      have NB185_202 := n7_
      have NB202_185 := n8_
      have NB186_202 := n9_
      have NB202_186 := n10_
      clear n0_ n1_ n2_ n3_ n4_ n5_ n6_ n7_ n8_ n9_ n10_
      clear hb hbox hg
      refine hK.out _ _ ⟨(blk_cell BK185.out 0).trans rfl, (blk_cell BK185.out 1).trans rfl, (blk_cell BK186.out 0).trans rfl, (blk_cell BK186.out 1).trans rfl⟩ (fun hHeld => ?_)
      clear hK K
      refine norm_ (a' := ?_) ?_ ?_
      rotate_left
      ·show Act.put _ (some 6) _ = _
       simp only [Act.put, List.setIfInBounds_toArray, List.set_cons_zero, List.set_cons_succ, i64_w, i32_w]
       rfl
      refine one_ (i := 3) (N := some 31) #[true, true, true, true, false, false, false, false, true, false, false] rfl rfl (one_of HT_.out (by kernel_rfl)) (by decide) (fun K hK => ?_)
      refine goes_ Try.func22 (by kernel_rfl) rfl #[.agg #[.int .i64 a1_0, .slice A1_1 l1_1.length c1_1]] (by rfl) rfl rfl lm1_ ?_
      with_reducible refine (laws_toBits.calls k a1_0 _ _ l1_1 t193 t194 _ ?side1 ?side2 A20.out).mono ?_
      (case side1 => exact lc1_ (Kd.C_below HR1_1.out HB.out))
      (case side2 => exact HC1_1.out)
      rintro e w36 ⟨v195, rfl, ho0, hb⟩
      refine ⟨_, rfl, ?_⟩
      have n0_ := am1_ (Kd.R_elder' (lf1_ HO192) (Kd.R_base ho0) hb)
      have n1_ := am1_ (Kd.R_lower (Kd.R_new' ho0 (Kd.R_lt (lf1_ HO192))) (below_size (lw1_ HB)))
      have n2_ := am1_ (blk_below (g := gb185) (o := .cells #[.int .i64 a0_0, .slice A0_1 l0_1.length c0_1] 24 (0, 0)) (lb1_ BK185) hb)
      have n3_ := am1_ (blk_below (g := gb186) (o := .cells #[.int .i64 a1_0, .slice A1_1 l1_1.length c1_1] 24 (0, 0)) (lb1_ BK186) hb)
      have n4_ := am1_ (blk_below (g := gb202) (o := .cells #[.int .i64 0, .slice none 0 0] 29 (0, 0)) (lb1_ BK202) hb)
      have n5_ := am1_ (below_step (lw1_ HB) hb)
      clear HO192
      clear BK185
      clear BK186
      clear BK202
      clear HB
      have HO192 := n0_
      have HO196 := n1_
      have BK185 := n2_
      have BK186 := n3_
      have BK202 := n4_
      have HB := n5_
      clear n0_ n1_ n2_ n3_ n4_ n5_
      (try clear hb)
      (try clear hb2)
      (try clear hk)
      (try clear hi)
      (try clear ho0)
      obtain ⟨Ao37, co37, eo37⟩ := Kd.R_slice HO192.out
      (first | subst eo37 | (injection eo37 with f1_ f2_ f3_; have f4_ := f1_.symm; have f5_ := f3_.symm; clear f1_ f2_ f3_; subst f4_; subst f5_))
      obtain ⟨Ao38, co38, eo38⟩ := Kd.R_slice HO196.out
      (first | subst eo38 | (injection eo38 with f1_ f2_ f3_; have f4_ := f1_.symm; have f5_ := f3_.symm; clear f1_ f2_ f3_; subst f4_; subst f5_))
      refine hK.out _ _ ⟨(blk_cell BK185.out 0).trans rfl, (blk_cell BK185.out 1).trans rfl, (blk_cell BK186.out 0).trans rfl, (blk_cell BK186.out 1).trans rfl⟩ (fun hHeld => ?_)
      clear hK K
      refine norm_ (a' := ?_) ?_ ?_
      rotate_left
      ·show Act.put _ (some 31) _ = _
       simp only [Act.put, List.setIfInBounds_toArray, List.set_cons_zero, List.set_cons_succ, i64_w, i32_w]
       rfl
      refine one_ (i := 4) (N := some 32) #[true, true, true, true, true, false, false, false, true, false, false] rfl rfl (one_of HT_.out (by kernel_rfl)) (by decide) (fun K hK => ?_)
      refine goes_ Try.func47 (by kernel_rfl) rfl #[.agg #[.int .i64 t189, .slice Ao37 t190.length co37], .agg #[.int .i64 t193, .slice Ao38 t194.length co38]] (by rfl) rfl rfl lm1_ ?_
      with_reducible refine (spec_XorBits.calls k t189 _ _ t190 t193 _ _ t194 t197 t198 t201 _ ?side1 ?side2 ?side3 ?side4 A21.out).mono ?_
      (case side1 => exact lc1_ (Kd.R_reads' HO192.out).2.2)
      (case side2 => exact (Kd.R_reads' HO192.out).2.1)
      (case side3 => exact lc1_ (Kd.R_reads' HO196.out).2.2)
      (case side4 => exact (Kd.R_reads' HO196.out).2.1)
      rintro e w39 ⟨v199, rfl, ho0, hb⟩
      refine ⟨_, rfl, ?_⟩
      have n0_ := am1_ (Kd.R_elder' (lf1_ HO192) (Kd.R_base ho0) hb)
      have n1_ := am1_ (Kd.R_elder' (lf1_ HO196) (Kd.R_base ho0) hb)
      have n2_ := am1_ (Kd.R_lower (Kd.R_new' (Kd.R_new' ho0 (Kd.R_lt (lf1_ HO192))) (Kd.R_lt (lf1_ HO196))) (below_size (lw1_ HB)))
      have n3_ := am1_ (blk_below (g := gb185) (o := .cells #[.int .i64 a0_0, .slice A0_1 l0_1.length c0_1] 24 (0, 0)) (lb1_ BK185) hb)
      have n4_ := am1_ (blk_below (g := gb186) (o := .cells #[.int .i64 a1_0, .slice A1_1 l1_1.length c1_1] 24 (0, 0)) (lb1_ BK186) hb)
      have n5_ := am1_ (blk_below (g := gb202) (o := .cells #[.int .i64 0, .slice none 0 0] 29 (0, 0)) (lb1_ BK202) hb)
      have n6_ := am1_ (below_step (lw1_ HB) hb)
      clear HO192
      clear HO196
      clear BK185
      clear BK186
      clear BK202
      clear HB
      have HO192 := n0_
      have HO196 := n1_
      have HO200 := n2_
      have BK185 := n3_
      have BK186 := n4_
      have BK202 := n5_
      have HB := n6_
      clear n0_ n1_ n2_ n3_ n4_ n5_ n6_
      (try clear hb)
      (try clear hb2)
      (try clear hk)
      (try clear hi)
      (try clear ho0)
      refine hK.out _ _ ⟨(blk_cell BK185.out 0).trans rfl, (blk_cell BK185.out 1).trans rfl, (blk_cell BK186.out 0).trans rfl, (blk_cell BK186.out 1).trans rfl⟩ (fun hHeld => ?_)
      clear hK K
      refine norm_ (a' := ?_) ?_ ?_
      rotate_left
      ·show Act.put _ (some 32) _ = _
       simp only [Act.put, List.setIfInBounds_toArray, List.set_cons_zero, List.set_cons_succ, i64_w, i32_w]
       rfl
      refine pure_ (i := 5) (N := some 27) (v := ?_) (a' := ?_) #[true, true, true, true, true, true, false, false, true, false, false] rfl rfl (any_of HT_.out (by kernel_rfl)) (fun _ _ _ h => h) (Or.inl ⟨by rfl, ?_⟩) ?_ ?_
      rotate_left
      ·intro w'
       go_simp
       with_reducible rfl
      rotate_left
      ·simp only [Act.put, List.setIfInBounds_toArray, List.set_cons_zero, List.set_cons_succ, i64_w, i32_w]
       rfl
      refine pure_ (i := 6) (N := some 33) (v := ?_) (a' := ?_) #[true, true, true, true, true, true, true, false, true, false, false] rfl rfl (any_of HT_.out (by kernel_rfl)) (fun _ _ _ h => h) (Or.inl ⟨by rfl, ?_⟩) ?_ ?_
      rotate_left
      ·intro w'
       go_simp
       with_reducible rfl
      rotate_left
      ·simp only [Act.put, List.setIfInBounds_toArray, List.set_cons_zero, List.set_cons_succ, i64_w, i32_w]
       rfl
      refine pure_ (i := 7) (N := some 34) (v := ?_) (a' := ?_) #[true, true, true, true, true, true, true, true, true, false, false] rfl rfl (any_of HT_.out (by kernel_rfl)) (fun _ _ _ h => h) (Or.inl ⟨by rfl, ?_⟩) ?_ ?_
      rotate_left
      ·intro w'
       go_simp
       with_reducible rfl
      rotate_left
      ·simp only [Act.put, List.setIfInBounds_toArray, List.set_cons_zero, List.set_cons_succ, i64_w, i32_w]
       rfl
      exact norm_ (by simp only [putAll, Act.put, List.setIfInBounds_toArray, List.set_cons_zero, List.set_cons_succ]) (hCont (.slice Ao37 t190.length co37, .slice Ao38 t194.length co38, v199, gb202) _ ⟨hHeld, (by (with_reducible repeat (first | apply Kd.R_alloc | apply Kd.R_drewN | apply Kd.R_drew)); exact Kd.R_mono HO192.out (fun _ hk => ⟨hk.1.2, hk.2⟩)), (by (with_reducible repeat (first | apply Kd.R_alloc | apply Kd.R_drewN | apply Kd.R_drew)); exact Kd.R_mono HO196.out (fun _ hk => ⟨hk.1.2, hk.2⟩)), (by (with_reducible repeat (first | apply Kd.R_alloc | apply Kd.R_drewN | apply Kd.R_drew)); exact Kd.R_mono HO200.out (fun _ hk => ⟨hk.1.2, hk.2⟩)), (lb1_ BK185), (lb1_ BK186), (lb1_ BK202), GW202.out, GE202.out, NB185_202.out, NB202_185.out, NB186_202.out, NB202_186.out, (lw1_ HB)⟩)
    ·skip
     refine box_step ?hg (N := 6) ?hd (cs := #[.int .i64 0, .slice none 0 0]) (t := 29) ?hr ?_; (case hd => rfl); (case hg => rfl); (case hr => first | (go_simp; done) | (go_simp; rfl))
     intro gb202 hg w34 hbox hb
     have n0_ := am1_ (blk_below (g := gb185) (o := .cells #[.int .i64 a0_0, .slice A0_1 l0_1.length c0_1] 24 (0, 0)) (lb1_ BK185) hb)
     have n1_ := am1_ (blk_below (g := gb186) (o := .cells #[.int .i64 a1_0, .slice A1_1 l1_1.length c1_1] 24 (0, 0)) (lb1_ BK186) hb)
     have n2_ := am1_ (below_step (lw1_ HB) hb)
     have n3_ := am1_ (hbox)
     have n4_ := am1_ ((by rw [hg]; exact (below_size (lw1_ HB)) : w.heap.size ≤ gb202))
     have n5_ := am1_ ((by rw [hg]; exact (below_size (lw1_ HB)) : w.heap.size ≤ gb202))
     have n6_ := am1_ ((by rw [hg]; exact Nat.ne_of_lt (blk_lt (g := gb185) (lb1_ BK185)) : gb185 ≠ gb202))
     have n7_ := am1_ ((by rw [hg]; exact Nat.ne_of_gt (blk_lt (g := gb185) (lb1_ BK185)) : gb202 ≠ gb185))
     have n8_ := am1_ ((by rw [hg]; exact Nat.ne_of_lt (blk_lt (g := gb186) (lb1_ BK186)) : gb186 ≠ gb202))
     have n9_ := am1_ ((by rw [hg]; exact Nat.ne_of_gt (blk_lt (g := gb186) (lb1_ BK186)) : gb202 ≠ gb186))
     clear BK185
     clear BK186
     clear HB
     have BK185 := n0_
     have BK186 := n1_
     have HB := n2_
     have BK202 := n3_
     have GW202 := n4_
     have GE202 := n5_
     have NB185_202 := n6_
     have NB202_185 := n7_
     have NB186_202 := n8_
     have NB202_186 := n9_
     clear n0_ n1_ n2_ n3_ n4_ n5_ n6_ n7_ n8_ n9_
     clear hb hbox hg
     refine hK.out _ _ ⟨(blk_cell BK185.out 0).trans rfl, (blk_cell BK185.out 1).trans rfl, (blk_cell BK186.out 0).trans rfl, (blk_cell BK186.out 1).trans rfl⟩ (fun hHeld => ?_)
     clear hK K
     refine norm_ (a' := ?_) ?_ ?_
     rotate_left
     ·show Act.put _ (some 6) _ = _
      simp only [Act.put, List.setIfInBounds_toArray, List.set_cons_zero, List.set_cons_succ, i64_w, i32_w]
      rfl
     refine one_ (i := 1) (N := some 29) #[true, true, true, false, false, false, false, false, true, false, false] rfl rfl (one_of HT_.out (by kernel_rfl)) (by decide) (fun K hK => ?_)
     refine goes_ Try.func22 (by kernel_rfl) rfl #[.agg #[.int .i64 a0_0, .slice A0_1 l0_1.length c0_1]] (by rfl) rfl rfl lm1_ ?_
     with_reducible refine (laws_toBits.calls k a0_0 _ _ l0_1 t189 t190 _ ?side1 ?side2 A19.out).mono ?_
     (case side1 => exact lc1_ (Kd.C_below HR0_1.out HB.out))
     (case side2 => exact HC0_1.out)
     rintro e w35 ⟨v191, rfl, ho0, hb⟩
     refine ⟨_, rfl, ?_⟩
     have n0_ := am1_ (Kd.R_lower ho0 (below_size (lw1_ HB)))
     have n1_ := am1_ (blk_below (g := gb185) (o := .cells #[.int .i64 a0_0, .slice A0_1 l0_1.length c0_1] 24 (0, 0)) (lb1_ BK185) hb)
     have n2_ := am1_ (blk_below (g := gb186) (o := .cells #[.int .i64 a1_0, .slice A1_1 l1_1.length c1_1] 24 (0, 0)) (lb1_ BK186) hb)
     have n3_ := am1_ (blk_below (g := gb202) (o := .cells #[.int .i64 0, .slice none 0 0] 29 (0, 0)) (lb1_ BK202) hb)
     have n4_ := am1_ (below_step (lw1_ HB) hb)
     clear BK185
     clear BK186
     clear BK202
     clear HB
     have HO192 := n0_
     have BK185 := n1_
     have BK186 := n2_
     have BK202 := n3_
     have HB := n4_
     clear n0_ n1_ n2_ n3_ n4_
     (try clear hb)
     (try clear hb2)
     (try clear hk)
     (try clear hi)
     (try clear ho0)
     refine hK.out _ _ ⟨(blk_cell BK185.out 0).trans rfl, (blk_cell BK185.out 1).trans rfl, (blk_cell BK186.out 0).trans rfl, (blk_cell BK186.out 1).trans rfl⟩ (fun hHeld => ?_)
     clear hK K
     refine norm_ (a' := ?_) ?_ ?_
     rotate_left
     ·show Act.put _ (some 29) _ = _
      simp only [Act.put, List.setIfInBounds_toArray, List.set_cons_zero, List.set_cons_succ, i64_w, i32_w]
      rfl
     refine one_ (i := 3) (N := some 31) #[true, true, true, true, false, false, false, false, true, false, false] rfl rfl (one_of HT_.out (by kernel_rfl)) (by decide) (fun K hK => ?_)
     refine goes_ Try.func22 (by kernel_rfl) rfl #[.agg #[.int .i64 a1_0, .slice A1_1 l1_1.length c1_1]] (by rfl) rfl rfl lm1_ ?_
     with_reducible refine (laws_toBits.calls k a1_0 _ _ l1_1 t193 t194 _ ?side1 ?side2 A20.out).mono ?_
     (case side1 => exact lc1_ (Kd.C_below HR1_1.out HB.out))
     (case side2 => exact HC1_1.out)
     rintro e w36 ⟨v195, rfl, ho0, hb⟩
     refine ⟨_, rfl, ?_⟩
     have n0_ := am1_ (Kd.R_elder' (lf1_ HO192) (Kd.R_base ho0) hb)
     have n1_ := am1_ (Kd.R_lower (Kd.R_new' ho0 (Kd.R_lt (lf1_ HO192))) (below_size (lw1_ HB)))
     have n2_ := am1_ (blk_below (g := gb185) (o := .cells #[.int .i64 a0_0, .slice A0_1 l0_1.length c0_1] 24 (0, 0)) (lb1_ BK185) hb)
     have n3_ := am1_ (blk_below (g := gb186) (o := .cells #[.int .i64 a1_0, .slice A1_1 l1_1.length c1_1] 24 (0, 0)) (lb1_ BK186) hb)
     have n4_ := am1_ (blk_below (g := gb202) (o := .cells #[.int .i64 0, .slice none 0 0] 29 (0, 0)) (lb1_ BK202) hb)
     have n5_ := am1_ (below_step (lw1_ HB) hb)
     clear HO192
     clear BK185
     clear BK186
     clear BK202
     clear HB
     have HO192 := n0_
     have HO196 := n1_
     have BK185 := n2_
     have BK186 := n3_
     have BK202 := n4_
     have HB := n5_
     clear n0_ n1_ n2_ n3_ n4_ n5_
     (try clear hb)
     (try clear hb2)
     (try clear hk)
     (try clear hi)
     (try clear ho0)
     obtain ⟨Ao37, co37, eo37⟩ := Kd.R_slice HO192.out
     (first | subst eo37 | (injection eo37 with f1_ f2_ f3_; have f4_ := f1_.symm; have f5_ := f3_.symm; clear f1_ f2_ f3_; subst f4_; subst f5_))
     obtain ⟨Ao38, co38, eo38⟩ := Kd.R_slice HO196.out
     (first | subst eo38 | (injection eo38 with f1_ f2_ f3_; have f4_ := f1_.symm; have f5_ := f3_.symm; clear f1_ f2_ f3_; subst f4_; subst f5_))
     refine hK.out _ _ ⟨(blk_cell BK185.out 0).trans rfl, (blk_cell BK185.out 1).trans rfl, (blk_cell BK186.out 0).trans rfl, (blk_cell BK186.out 1).trans rfl⟩ (fun hHeld => ?_)
     clear hK K
     refine norm_ (a' := ?_) ?_ ?_
     rotate_left
     ·show Act.put _ (some 31) _ = _
      simp only [Act.put, List.setIfInBounds_toArray, List.set_cons_zero, List.set_cons_succ, i64_w, i32_w]
      rfl
     refine one_ (i := 4) (N := some 32) #[true, true, true, true, true, false, false, false, true, false, false] rfl rfl (one_of HT_.out (by kernel_rfl)) (by decide) (fun K hK => ?_)
     refine goes_ Try.func47 (by kernel_rfl) rfl #[.agg #[.int .i64 t189, .slice Ao37 t190.length co37], .agg #[.int .i64 t193, .slice Ao38 t194.length co38]] (by rfl) rfl rfl lm1_ ?_
     with_reducible refine (spec_XorBits.calls k t189 _ _ t190 t193 _ _ t194 t197 t198 t201 _ ?side1 ?side2 ?side3 ?side4 A21.out).mono ?_
     (case side1 => exact lc1_ (Kd.R_reads' HO192.out).2.2)
     (case side2 => exact (Kd.R_reads' HO192.out).2.1)
     (case side3 => exact lc1_ (Kd.R_reads' HO196.out).2.2)
     (case side4 => exact (Kd.R_reads' HO196.out).2.1)
     rintro e w39 ⟨v199, rfl, ho0, hb⟩
     refine ⟨_, rfl, ?_⟩
     have n0_ := am1_ (Kd.R_elder' (lf1_ HO192) (Kd.R_base ho0) hb)
     have n1_ := am1_ (Kd.R_elder' (lf1_ HO196) (Kd.R_base ho0) hb)
     have n2_ := am1_ (Kd.R_lower (Kd.R_new' (Kd.R_new' ho0 (Kd.R_lt (lf1_ HO192))) (Kd.R_lt (lf1_ HO196))) (below_size (lw1_ HB)))
     have n3_ := am1_ (blk_below (g := gb185) (o := .cells #[.int .i64 a0_0, .slice A0_1 l0_1.length c0_1] 24 (0, 0)) (lb1_ BK185) hb)
     have n4_ := am1_ (blk_below (g := gb186) (o := .cells #[.int .i64 a1_0, .slice A1_1 l1_1.length c1_1] 24 (0, 0)) (lb1_ BK186) hb)
     have n5_ := am1_ (blk_below (g := gb202) (o := .cells #[.int .i64 0, .slice none 0 0] 29 (0, 0)) (lb1_ BK202) hb)
     have n6_ := am1_ (below_step (lw1_ HB) hb)
     clear HO192
     clear HO196
     clear BK185
     clear BK186
     clear BK202
     clear HB
     have HO192 := n0_
     have HO196 := n1_
     have HO200 := n2_
     have BK185 := n3_
     have BK186 := n4_
     have BK202 := n5_
     have HB := n6_
     clear n0_ n1_ n2_ n3_ n4_ n5_ n6_
     (try clear hb)
     (try clear hb2)
     (try clear hk)
     (try clear hi)
     (try clear ho0)
     refine hK.out _ _ ⟨(blk_cell BK185.out 0).trans rfl, (blk_cell BK185.out 1).trans rfl, (blk_cell BK186.out 0).trans rfl, (blk_cell BK186.out 1).trans rfl⟩ (fun hHeld => ?_)
     clear hK K
     refine norm_ (a' := ?_) ?_ ?_
     rotate_left
     ·show Act.put _ (some 32) _ = _
      simp only [Act.put, List.setIfInBounds_toArray, List.set_cons_zero, List.set_cons_succ, i64_w, i32_w]
      rfl
     refine pure_ (i := 5) (N := some 27) (v := ?_) (a' := ?_) #[true, true, true, true, true, true, false, false, true, false, false] rfl rfl (any_of HT_.out (by kernel_rfl)) (fun _ _ _ h => h) (Or.inl ⟨by rfl, ?_⟩) ?_ ?_
     rotate_left
     ·intro w'
      go_simp
      with_reducible rfl
     rotate_left
     ·simp only [Act.put, List.setIfInBounds_toArray, List.set_cons_zero, List.set_cons_succ, i64_w, i32_w]
      rfl
     refine pure_ (i := 6) (N := some 33) (v := ?_) (a' := ?_) #[true, true, true, true, true, true, true, false, true, false, false] rfl rfl (any_of HT_.out (by kernel_rfl)) (fun _ _ _ h => h) (Or.inl ⟨by rfl, ?_⟩) ?_ ?_
     rotate_left
     ·intro w'
      go_simp
      with_reducible rfl
     rotate_left
     ·simp only [Act.put, List.setIfInBounds_toArray, List.set_cons_zero, List.set_cons_succ, i64_w, i32_w]
      rfl
     refine pure_ (i := 7) (N := some 34) (v := ?_) (a' := ?_) #[true, true, true, true, true, true, true, true, true, false, false] rfl rfl (any_of HT_.out (by kernel_rfl)) (fun _ _ _ h => h) (Or.inl ⟨by rfl, ?_⟩) ?_ ?_
     rotate_left
     ·intro w'
      go_simp
      with_reducible rfl
     rotate_left
     ·simp only [Act.put, List.setIfInBounds_toArray, List.set_cons_zero, List.set_cons_succ, i64_w, i32_w]
      rfl
     exact norm_ (by simp only [putAll, Act.put, List.setIfInBounds_toArray, List.set_cons_zero, List.set_cons_succ]) (hCont (.slice Ao37 t190.length co37, .slice Ao38 t194.length co38, v199, gb202) _ ⟨hHeld, (by (with_reducible repeat (first | apply Kd.R_alloc | apply Kd.R_drewN | apply Kd.R_drew)); exact Kd.R_mono HO192.out (fun _ hk => ⟨hk.1.2, hk.2⟩)), (by (with_reducible repeat (first | apply Kd.R_alloc | apply Kd.R_drewN | apply Kd.R_drew)); exact Kd.R_mono HO196.out (fun _ hk => ⟨hk.1.2, hk.2⟩)), (by (with_reducible repeat (first | apply Kd.R_alloc | apply Kd.R_drewN | apply Kd.R_drew)); exact Kd.R_mono HO200.out (fun _ hk => ⟨hk.1.2, hk.2⟩)), (lb1_ BK185), (lb1_ BK186), (lb1_ BK202), GW202.out, GE202.out, NB185_202.out, NB202_185.out, NB186_202.out, NB202_186.out, (lw1_ HB)⟩)
   rintro ⟨v191, v195, v199, gb202⟩ w40 ⟨hS_, h0_, h1_, h2_, h3_, h4_, h5_, h6_, h7_, h8_, h9_, h10_, h11_, h12_⟩
   have n0_ : Aside0 (Kd.R (Kd.int .i64) 3 w40 w.heap.size (fun k_ => some k_ ≠ (v195 : Value).ownBlock ∧ some k_ ≠ (v199 : Value).ownBlock) v191 t190) := ⟨h0_⟩
   have n1_ : Aside0 (Kd.R (Kd.int .i64) 3 w40 w.heap.size (fun k_ => some k_ ≠ (v191 : Value).ownBlock ∧ some k_ ≠ (v199 : Value).ownBlock) v195 t194) := ⟨h1_⟩
   have n2_ : Aside0 (Kd.R (Kd.int .i64) 3 w40 w.heap.size (fun k_ => some k_ ≠ (v191 : Value).ownBlock ∧ some k_ ≠ (v195 : Value).ownBlock) v199 t198) := ⟨h2_⟩
   have n3_ : Aside0 (w40.heap[gb185]? = some (.cells #[.int .i64 a0_0, .slice A0_1 l0_1.length c0_1] 24 (0, 0))) := ⟨h3_⟩
   have n4_ : Aside0 (w40.heap[gb186]? = some (.cells #[.int .i64 a1_0, .slice A1_1 l1_1.length c1_1] 24 (0, 0))) := ⟨h4_⟩
   have n5_ : Aside0 (w40.heap[gb202]? = some (.cells #[.int .i64 0, .slice none 0 0] 29 (0, 0))) := ⟨h5_⟩
   have n6_ : Aside0 (w.heap.size ≤ gb202) := ⟨h6_⟩
   have n7_ : Aside0 (w.heap.size ≤ gb202) := ⟨h7_⟩
   have n8_ : Aside0 (gb185 ≠ gb202) := ⟨h8_⟩
   have n9_ : Aside0 (gb202 ≠ gb185) := ⟨h9_⟩
   have n10_ : Aside0 (gb186 ≠ gb202) := ⟨h10_⟩
   have n11_ : Aside0 (gb202 ≠ gb186) := ⟨h11_⟩
   have n12_ : Aside0 (Below w.heap.size w w40) := ⟨h12_⟩
   clear BK185
   clear BK186
   clear HB
   clear h0_ h1_ h2_ h3_ h4_ h5_ h6_ h7_ h8_ h9_ h10_ h11_ h12_
   have HO192 := n0_
   have HO196 := n1_
   have HO200 := n2_
   have BK185 := n3_
   have BK186 := n4_
   have BK202 := n5_
   have GW202 := n6_
   have GE202 := n7_
   have NB185_202 := n8_
   have NB202_185 := n9_
   have NB186_202 := n10_
   have NB202_186 := n11_
   have HB := n12_
   clear n0_ n1_ n2_ n3_ n4_ n5_ n6_ n7_ n8_ n9_ n10_ n11_ n12_
   have hHeld : w40.cell? ⟨gb185, 0, none⟩ = some (.int .i64 a0_0) ∧ w40.cell? ⟨gb185, 1, none⟩ = some (.slice A0_1 l0_1.length c0_1) ∧ w40.cell? ⟨gb186, 0, none⟩ = some (.int .i64 a1_0) ∧ w40.cell? ⟨gb186, 1, none⟩ = some (.slice A1_1 l1_1.length c1_1) := hS_
   obtain ⟨Ao42, co42, eo42⟩ := Kd.R_slice HO200.out
   (first | subst eo42 | (injection eo42 with f1_ f2_ f3_; have f4_ := f1_.symm; have f5_ := f3_.symm; clear f1_ f2_ f3_; subst f4_; subst f5_))
   refine norm_ (a' := ?_) ?_ ?_
   rotate_left
   ·simp only [putAll, Act.put, List.setIfInBounds_toArray, List.set_cons_zero, List.set_cons_succ]
    rfl
   refine one_ (i := 9) (N := none) #[true, true, true, true, true, true, true, true, true, true, false] rfl rfl (one_of HT_.out (by kernel_rfl)) (by decide) (fun K hK => ?_)
   have hs41 : w40.cell? ⟨gb202, 0, none⟩ = some (.int .i64 0) := (blk_cell BK202.out 0).trans rfl
   have hfs41 := blk_frozen BK202.out 0
   have hns41_0 := NB185_202.out
   have hns41_1 := NB186_202.out
   have hms41_0 := NB202_185.out
   have hms41_1 := NB202_186.out
   have hs43 : w40.cell? ⟨gb202, 1, none⟩ = some (.slice none 0 0) := (blk_cell BK202.out 1).trans rfl
   have hfs43 := blk_frozen BK202.out 1
   have hns43_0 := NB185_202.out
   have hns43_1 := NB186_202.out
   have hms43_0 := NB202_185.out
   have hms43_1 := NB202_186.out
   refine skip_ (w1 := ?_) (by rfl) rfl ?_ ?_
   rotate_left
   ·go_simp
    rfl
   refine hK.out _ _ ⟨((cell_far (p := ⟨gb202, _, none⟩) NB185_202.out _).trans (((cell_far (p := ⟨gb202, _, none⟩) NB185_202.out _).trans (hHeld.1)))), ((cell_far (p := ⟨gb202, _, none⟩) NB185_202.out _).trans (((cell_far (p := ⟨gb202, _, none⟩) NB185_202.out _).trans (hHeld.2.1)))), ((cell_far (p := ⟨gb202, _, none⟩) NB186_202.out _).trans (((cell_far (p := ⟨gb202, _, none⟩) NB186_202.out _).trans (hHeld.2.2.1)))), ((cell_far (p := ⟨gb202, _, none⟩) NB186_202.out _).trans (((cell_far (p := ⟨gb202, _, none⟩) NB186_202.out _).trans (hHeld.2.2.2))))⟩ (fun hHeld => ?_)
   clear hK K
   refine pure_ (i := 10) (N := some 7) (v := ?_) (a' := ?_) #[true, true, true, true, true, true, true, true, true, true, true] rfl rfl (any_of HT_.out (by kernel_rfl)) (fun _ _ _ h => h) (Or.inl ⟨by rfl, ?_⟩) ?_ ?_
   rotate_left
   ·intro w'
    go_simp
    with_reducible rfl
   rotate_left
   ·simp only [Act.put, List.setIfInBounds_toArray, List.set_cons_zero, List.set_cons_succ, i64_w, i32_w]
    rfl
   refine done_ (done_of HT_.out (by kernel_rfl)) ?_
   have hnb44 := NB185_202.out
   have hnc44 := NB202_185.out
   have hcz45_0 : w40.cell? ⟨gb185, 0, none⟩ = some (.int .i64 a0_0) := (blk_cell BK185.out 0).trans rfl
   have hcz45_1 : w40.cell? ⟨gb185, 1, none⟩ = some (.slice A0_1 l0_1.length c0_1) := (blk_cell BK185.out 1).trans rfl
   have hfz45_0 := blk_frozen BK185.out 0
   have hfz45_1 := blk_frozen BK185.out 1
   have Z3_ := am1_ (Kd.R_far (p := ⟨gb202, 1, none⟩) (Kd.R_far (p := ⟨gb202, 0, none⟩) (Kd.R_types HO200.out BK202.out (by decide)) (fun _ hk => hk.2) (.int .i64 t197)) (fun _ hk => hk.2) (.slice Ao42 t198.length co42))
   have Z2_ := am1_ (Kd.R_far (p := ⟨gb202, 1, none⟩) (Kd.R_far (p := ⟨gb202, 0, none⟩) (Kd.R_types HO196.out BK202.out (by decide)) (fun _ hk => hk.2) (.int .i64 t197)) (fun _ hk => hk.2) (.slice Ao42 t198.length co42))
   have Z1_ := am1_ (Kd.R_far (p := ⟨gb202, 1, none⟩) (Kd.R_far (p := ⟨gb202, 0, none⟩) (Kd.R_types HO192.out BK202.out (by decide)) (fun _ hk => hk.2) (.int .i64 t197)) (fun _ hk => hk.2) (.slice Ao42 t198.length co42))
   go_upto_region 12 with (first | ((with_reducible refine gate_callee (f := 22) rfl ?_); refine goesL_ (some 36) rfl rfl Try.func22 (by kernel_rfl) rfl #[.agg #[.int .i64 a0_0, .slice A0_1 l0_1.length c0_1]] rfl lm1_ ?_; (with_reducible refine (laws_toBits.calls k a0_0 _ _ l0_1 t203 t204 _ ?side1 ?side2 A22.out).mono ?_); (case side1 => exact Kd.C_below HR0_1.out (lw1_ HB)); (case side2 => exact HC0_1.out); rintro e w46 ⟨v205, rfl, ho0, hb⟩; refine ⟨_, rfl, ?_⟩; have n0_ := am1_ (Kd.R_elder' (lt1_ (Kd.R_mono Z1_.out (fun _ h_ => h_.1))) (Kd.R_base ho0) hb); have n1_ := am1_ (Kd.R_elder' (lt1_ (Kd.R_mono Z2_.out (fun _ h_ => h_.1))) (Kd.R_base ho0) hb); have n2_ := am1_ (Kd.R_elder' (lt1_ (Kd.R_mono Z3_.out (fun _ h_ => h_.1))) (Kd.R_base ho0) hb); have n3_ := am1_ (Kd.R_lower (Kd.R_new' (Kd.R_new' (Kd.R_new' ho0 (Kd.R_lt (lt1_ (Kd.R_mono Z1_.out (fun _ h_ => h_.1))))) (Kd.R_lt (lt1_ (Kd.R_mono Z2_.out (fun _ h_ => h_.1))))) (Kd.R_lt (lt1_ (Kd.R_mono Z3_.out (fun _ h_ => h_.1))))) (below_size (lw1_ HB))); have n4_ := am1_ (blk_below (g := gb185) (o := .cells #[.int .i64 a0_0, .slice A0_1 l0_1.length c0_1] 24 (0, 0)) (by (with_reducible repeat (first | refine blk_drewN ?_ _ | refine blk_drew ?_ | refine blk_alloc ?_ _)); refine blk_far ?_ NB185_202.out _; (with_reducible repeat (first | refine blk_drewN ?_ _ | refine blk_drew ?_ | refine blk_alloc ?_ _)); refine blk_far ?_ NB185_202.out _; (with_reducible repeat (first | refine blk_drewN ?_ _ | refine blk_drew ?_ | refine blk_alloc ?_ _)); exact BK185.out) hb); have n5_ := am1_ (blk_below (g := gb186) (o := .cells #[.int .i64 a1_0, .slice A1_1 l1_1.length c1_1] 24 (0, 0)) (by (with_reducible repeat (first | refine blk_drewN ?_ _ | refine blk_drew ?_ | refine blk_alloc ?_ _)); refine blk_far ?_ NB186_202.out _; (with_reducible repeat (first | refine blk_drewN ?_ _ | refine blk_drew ?_ | refine blk_alloc ?_ _)); refine blk_far ?_ NB186_202.out _; (with_reducible repeat (first | refine blk_drewN ?_ _ | refine blk_drew ?_ | refine blk_alloc ?_ _)); exact BK186.out) hb); have n6_ := am1_ (blk_below (g := gb202) (o := .cells #[.int .i64 t197, .slice Ao42 t198.length co42] 29 (0, 0)) (by (with_reducible repeat (first | refine blk_drewN ?_ _ | refine blk_drew ?_ | refine blk_alloc ?_ _)); refine blk_put (cs := #[.int .i64 t197, .slice none 0 0]) ?_ 1 _ rfl; (with_reducible repeat (first | refine blk_drewN ?_ _ | refine blk_drew ?_ | refine blk_alloc ?_ _)); refine blk_put (cs := #[.int .i64 0, .slice none 0 0]) ?_ 0 _ rfl; (with_reducible repeat (first | refine blk_drewN ?_ _ | refine blk_drew ?_ | refine blk_alloc ?_ _)); exact BK202.out) hb); have n7_ := am1_ (below_step (lw1_ HB) hb); clear HO192; clear HO196; clear HO200; clear BK185; clear BK186; clear BK202; clear HB; have HO192 := n0_; have HO196 := n1_; have HO200 := n2_; have HO206 := n3_; have BK185 := n4_; have BK186 := n5_; have BK202 := n6_; have HB := n7_; clear n0_ n1_ n2_ n3_ n4_ n5_ n6_ n7_; (try clear hb); (try clear hb2); (try clear hk); (try clear hi); (try clear ho0)) | ((with_reducible refine gate_dst (N := 8) rfl ?_); refine box_event ?hg (N := 8) ?hd (cs := #[.int .i64 0, .slice none 0 0]) (t := 29) ?hr ?_; (case hd => rfl); (case hg => rfl); (case hr => first | (go_simp; done) | (go_simp; rfl)); intro gb207 hg w47 hbox hb; have n0_ := am1_ (Kd.R_below (lf1_ HO192) hb); have n1_ := am1_ (Kd.R_below (lf1_ HO196) hb); have n2_ := am1_ (Kd.R_below (lf1_ HO200) hb); have n3_ := am1_ (Kd.R_below (lf1_ HO206) hb); have n4_ := am1_ (blk_below (g := gb185) (o := .cells #[.int .i64 a0_0, .slice A0_1 l0_1.length c0_1] 24 (0, 0)) (lb1_ BK185) hb); have n5_ := am1_ (blk_below (g := gb186) (o := .cells #[.int .i64 a1_0, .slice A1_1 l1_1.length c1_1] 24 (0, 0)) (lb1_ BK186) hb); have n6_ := am1_ (blk_below (g := gb202) (o := .cells #[.int .i64 t197, .slice Ao42 t198.length co42] 29 (0, 0)) (lb1_ BK202) hb); have n7_ := am1_ (below_step (lw1_ HB) hb); have n8_ := am1_ (hbox); have n9_ := am1_ ((by rw [hg]; exact (below_size (lw1_ HB)) : w.heap.size ≤ gb207)); have n10_ := am1_ ((by rw [hg]; exact (below_size (lw1_ HB)) : w.heap.size ≤ gb207)); have n11_ := am1_ ((by rw [hg]; exact Nat.ne_of_lt (blk_lt (g := gb185) (lb1_ BK185)) : gb185 ≠ gb207)); have n12_ := am1_ ((by rw [hg]; exact Nat.ne_of_gt (blk_lt (g := gb185) (lb1_ BK185)) : gb207 ≠ gb185)); have n13_ := am1_ ((by rw [hg]; exact Nat.ne_of_lt (blk_lt (g := gb186) (lb1_ BK186)) : gb186 ≠ gb207)); have n14_ := am1_ ((by rw [hg]; exact Nat.ne_of_gt (blk_lt (g := gb186) (lb1_ BK186)) : gb207 ≠ gb186)); have n15_ := am1_ ((by rw [hg]; exact Nat.ne_of_lt (blk_lt (g := gb202) (lb1_ BK202)) : gb202 ≠ gb207)); have n16_ := am1_ ((by rw [hg]; exact Nat.ne_of_gt (blk_lt (g := gb202) (lb1_ BK202)) : gb207 ≠ gb202)); clear HO192; clear HO196; clear HO200; clear HO206; clear BK185; clear BK186; clear BK202; clear HB; have HO192 := n0_; have HO196 := n1_; have HO200 := n2_; have HO206 := n3_; have BK185 := n4_; have BK186 := n5_; have BK202 := n6_; have HB := n7_; have BK207 := n8_; have GW207 := n9_; have GE207 := n10_; have NB185_207 := n11_; have NB207_185 := n12_; have NB186_207 := n13_; have NB207_186 := n14_; have NB202_207 := n15_; have NB207_202 := n16_; clear n0_ n1_ n2_ n3_ n4_ n5_ n6_ n7_ n8_ n9_ n10_ n11_ n12_ n13_ n14_ n15_ n16_; clear hb hbox hg; have hnb48 := NB207_185.out; have hnc48 := NB185_207.out; have hnb49 := NB207_186.out; have hnc49 := NB186_207.out; have hnb50 := NB207_202.out; have hnc50 := NB202_207.out; have hcz51_0 : w47.cell? ⟨gb207, 0, none⟩ = some (.int .i64 0) := (blk_cell BK207.out 0).trans rfl; have hcz51_1 : w47.cell? ⟨gb207, 1, none⟩ = some (.slice none 0 0) := (blk_cell BK207.out 1).trans rfl; have hfz51_0 := blk_frozen BK207.out 0; have hfz51_1 := blk_frozen BK207.out 1; obtain ⟨Ao52, co52, eo52⟩ := Kd.R_slice HO206.out; subst eo52; have hnb53 := NB186_202.out; have hnc53 := NB202_186.out; have hcz54_0 : w47.cell? ⟨gb186, 0, none⟩ = some (.int .i64 a1_0) := (blk_cell BK186.out 0).trans rfl; have hcz54_1 : w47.cell? ⟨gb186, 1, none⟩ = some (.slice A1_1 l1_1.length c1_1) := (blk_cell BK186.out 1).trans rfl; have hfz54_0 := blk_frozen BK186.out 0; have hfz54_1 := blk_frozen BK186.out 1) | ((with_reducible refine gate_callee (f := 22) rfl ?_); refine goesL_ (some 38) rfl rfl Try.func22 (by kernel_rfl) rfl #[.agg #[.int .i64 a1_0, .slice A1_1 l1_1.length c1_1]] rfl lm1_ ?_; (with_reducible refine (laws_toBits.calls k a1_0 _ _ l1_1 t208 t209 _ ?side1 ?side2 A23.out).mono ?_); (case side1 => exact Kd.C_below HR1_1.out (lw1_ HB)); (case side2 => exact HC1_1.out); rintro e w55 ⟨v210, rfl, ho0, hb⟩; refine ⟨_, rfl, ?_⟩; have n0_ := am1_ (Kd.R_elder' (lt1_ (Kd.R_mono (Kd.R_far (p := ⟨gb207, 1, none⟩) (Kd.R_far (p := ⟨gb207, 0, none⟩) (Kd.R_types HO192.out BK207.out (by decide)) (fun _ hk => hk.2) (.int .i64 t203)) (fun _ hk => hk.2) (.slice Ao52 t204.length co52)) (fun _ h_ => h_.1))) (Kd.R_base ho0) hb); have n1_ := am1_ (Kd.R_elder' (lt1_ (Kd.R_mono (Kd.R_far (p := ⟨gb207, 1, none⟩) (Kd.R_far (p := ⟨gb207, 0, none⟩) (Kd.R_types HO196.out BK207.out (by decide)) (fun _ hk => hk.2) (.int .i64 t203)) (fun _ hk => hk.2) (.slice Ao52 t204.length co52)) (fun _ h_ => h_.1))) (Kd.R_base ho0) hb); have n2_ := am1_ (Kd.R_elder' (lt1_ (Kd.R_mono (Kd.R_far (p := ⟨gb207, 1, none⟩) (Kd.R_far (p := ⟨gb207, 0, none⟩) (Kd.R_types HO200.out BK207.out (by decide)) (fun _ hk => hk.2) (.int .i64 t203)) (fun _ hk => hk.2) (.slice Ao52 t204.length co52)) (fun _ h_ => h_.1))) (Kd.R_base ho0) hb); have n3_ := am1_ (Kd.R_elder' (lt1_ (Kd.R_mono (Kd.R_far (p := ⟨gb207, 1, none⟩) (Kd.R_far (p := ⟨gb207, 0, none⟩) (Kd.R_types HO206.out BK207.out (by decide)) (fun _ hk => hk.2) (.int .i64 t203)) (fun _ hk => hk.2) (.slice Ao52 t204.length co52)) (fun _ h_ => h_.1))) (Kd.R_base ho0) hb); have n4_ := am1_ (Kd.R_lower (Kd.R_new' (Kd.R_new' (Kd.R_new' (Kd.R_new' ho0 (Kd.R_lt (lt1_ (Kd.R_mono (Kd.R_far (p := ⟨gb207, 1, none⟩) (Kd.R_far (p := ⟨gb207, 0, none⟩) (Kd.R_types HO192.out BK207.out (by decide)) (fun _ hk => hk.2) (.int .i64 t203)) (fun _ hk => hk.2) (.slice Ao52 t204.length co52)) (fun _ h_ => h_.1))))) (Kd.R_lt (lt1_ (Kd.R_mono (Kd.R_far (p := ⟨gb207, 1, none⟩) (Kd.R_far (p := ⟨gb207, 0, none⟩) (Kd.R_types HO196.out BK207.out (by decide)) (fun _ hk => hk.2) (.int .i64 t203)) (fun _ hk => hk.2) (.slice Ao52 t204.length co52)) (fun _ h_ => h_.1))))) (Kd.R_lt (lt1_ (Kd.R_mono (Kd.R_far (p := ⟨gb207, 1, none⟩) (Kd.R_far (p := ⟨gb207, 0, none⟩) (Kd.R_types HO200.out BK207.out (by decide)) (fun _ hk => hk.2) (.int .i64 t203)) (fun _ hk => hk.2) (.slice Ao52 t204.length co52)) (fun _ h_ => h_.1))))) (Kd.R_lt (lt1_ (Kd.R_mono (Kd.R_far (p := ⟨gb207, 1, none⟩) (Kd.R_far (p := ⟨gb207, 0, none⟩) (Kd.R_types HO206.out BK207.out (by decide)) (fun _ hk => hk.2) (.int .i64 t203)) (fun _ hk => hk.2) (.slice Ao52 t204.length co52)) (fun _ h_ => h_.1))))) (below_size (lw1_ HB))); have n5_ := am1_ (blk_below (g := gb185) (o := .cells #[.int .i64 a0_0, .slice A0_1 l0_1.length c0_1] 24 (0, 0)) (by (with_reducible repeat (first | refine blk_drewN ?_ _ | refine blk_drew ?_ | refine blk_alloc ?_ _)); refine blk_far ?_ NB185_207.out _; (with_reducible repeat (first | refine blk_drewN ?_ _ | refine blk_drew ?_ | refine blk_alloc ?_ _)); refine blk_far ?_ NB185_207.out _; (with_reducible repeat (first | refine blk_drewN ?_ _ | refine blk_drew ?_ | refine blk_alloc ?_ _)); exact BK185.out) hb); have n6_ := am1_ (blk_below (g := gb186) (o := .cells #[.int .i64 a1_0, .slice A1_1 l1_1.length c1_1] 24 (0, 0)) (by (with_reducible repeat (first | refine blk_drewN ?_ _ | refine blk_drew ?_ | refine blk_alloc ?_ _)); refine blk_far ?_ NB186_207.out _; (with_reducible repeat (first | refine blk_drewN ?_ _ | refine blk_drew ?_ | refine blk_alloc ?_ _)); refine blk_far ?_ NB186_207.out _; (with_reducible repeat (first | refine blk_drewN ?_ _ | refine blk_drew ?_ | refine blk_alloc ?_ _)); exact BK186.out) hb); have n7_ := am1_ (blk_below (g := gb202) (o := .cells #[.int .i64 t197, .slice Ao42 t198.length co42] 29 (0, 0)) (by (with_reducible repeat (first | refine blk_drewN ?_ _ | refine blk_drew ?_ | refine blk_alloc ?_ _)); refine blk_far ?_ NB202_207.out _; (with_reducible repeat (first | refine blk_drewN ?_ _ | refine blk_drew ?_ | refine blk_alloc ?_ _)); refine blk_far ?_ NB202_207.out _; (with_reducible repeat (first | refine blk_drewN ?_ _ | refine blk_drew ?_ | refine blk_alloc ?_ _)); exact BK202.out) hb); have n8_ := am1_ (blk_below (g := gb207) (o := .cells #[.int .i64 t203, .slice Ao52 t204.length co52] 29 (0, 0)) (by (with_reducible repeat (first | refine blk_drewN ?_ _ | refine blk_drew ?_ | refine blk_alloc ?_ _)); refine blk_put (cs := #[.int .i64 t203, .slice none 0 0]) ?_ 1 _ rfl; (with_reducible repeat (first | refine blk_drewN ?_ _ | refine blk_drew ?_ | refine blk_alloc ?_ _)); refine blk_put (cs := #[.int .i64 0, .slice none 0 0]) ?_ 0 _ rfl; (with_reducible repeat (first | refine blk_drewN ?_ _ | refine blk_drew ?_ | refine blk_alloc ?_ _)); exact BK207.out) hb); have n9_ := am1_ (below_step (lw1_ HB) hb); clear HO192; clear HO196; clear HO200; clear HO206; clear BK185; clear BK186; clear BK202; clear BK207; clear HB; have HO192 := n0_; have HO196 := n1_; have HO200 := n2_; have HO206 := n3_; have HO211 := n4_; have BK185 := n5_; have BK186 := n6_; have BK202 := n7_; have BK207 := n8_; have HB := n9_; clear n0_ n1_ n2_ n3_ n4_ n5_ n6_ n7_ n8_ n9_; (try clear hb); (try clear hb2); (try clear hk); (try clear hi); (try clear ho0)) | ((with_reducible refine gate_dst (N := 9) rfl ?_); refine box_event ?hg (N := 9) ?hd (cs := #[.int .i64 0, .slice none 0 0]) (t := 29) ?hr ?_; (case hd => rfl); (case hg => rfl); (case hr => first | (go_simp; done) | (go_simp; rfl)); intro gb212 hg w56 hbox hb; have n0_ := am1_ (Kd.R_below (lf1_ HO192) hb); have n1_ := am1_ (Kd.R_below (lf1_ HO196) hb); have n2_ := am1_ (Kd.R_below (lf1_ HO200) hb); have n3_ := am1_ (Kd.R_below (lf1_ HO206) hb); have n4_ := am1_ (Kd.R_below (lf1_ HO211) hb); have n5_ := am1_ (blk_below (g := gb185) (o := .cells #[.int .i64 a0_0, .slice A0_1 l0_1.length c0_1] 24 (0, 0)) (lb1_ BK185) hb); have n6_ := am1_ (blk_below (g := gb186) (o := .cells #[.int .i64 a1_0, .slice A1_1 l1_1.length c1_1] 24 (0, 0)) (lb1_ BK186) hb); have n7_ := am1_ (blk_below (g := gb202) (o := .cells #[.int .i64 t197, .slice Ao42 t198.length co42] 29 (0, 0)) (lb1_ BK202) hb); have n8_ := am1_ (blk_below (g := gb207) (o := .cells #[.int .i64 t203, .slice Ao52 t204.length co52] 29 (0, 0)) (lb1_ BK207) hb); have n9_ := am1_ (below_step (lw1_ HB) hb); have n10_ := am1_ (hbox); have n11_ := am1_ ((by rw [hg]; exact (below_size (lw1_ HB)) : w.heap.size ≤ gb212)); have n12_ := am1_ ((by rw [hg]; exact (below_size (lw1_ HB)) : w.heap.size ≤ gb212)); have n13_ := am1_ ((by rw [hg]; exact Nat.ne_of_lt (blk_lt (g := gb185) (lb1_ BK185)) : gb185 ≠ gb212)); have n14_ := am1_ ((by rw [hg]; exact Nat.ne_of_gt (blk_lt (g := gb185) (lb1_ BK185)) : gb212 ≠ gb185)); have n15_ := am1_ ((by rw [hg]; exact Nat.ne_of_lt (blk_lt (g := gb186) (lb1_ BK186)) : gb186 ≠ gb212)); have n16_ := am1_ ((by rw [hg]; exact Nat.ne_of_gt (blk_lt (g := gb186) (lb1_ BK186)) : gb212 ≠ gb186)); have n17_ := am1_ ((by rw [hg]; exact Nat.ne_of_lt (blk_lt (g := gb202) (lb1_ BK202)) : gb202 ≠ gb212)); have n18_ := am1_ ((by rw [hg]; exact Nat.ne_of_gt (blk_lt (g := gb202) (lb1_ BK202)) : gb212 ≠ gb202)); have n19_ := am1_ ((by rw [hg]; exact Nat.ne_of_lt (blk_lt (g := gb207) (lb1_ BK207)) : gb207 ≠ gb212)); have n20_ := am1_ ((by rw [hg]; exact Nat.ne_of_gt (blk_lt (g := gb207) (lb1_ BK207)) : gb212 ≠ gb207)); clear HO192; clear HO196; clear HO200; clear HO206; clear HO211; clear BK185; clear BK186; clear BK202; clear BK207; clear HB; have HO192 := n0_; have HO196 := n1_; have HO200 := n2_; have HO206 := n3_; have HO211 := n4_; have BK185 := n5_; have BK186 := n6_; have BK202 := n7_; have BK207 := n8_; have HB := n9_; have BK212 := n10_; have GW212 := n11_; have GE212 := n12_; have NB185_212 := n13_; have NB212_185 := n14_; have NB186_212 := n15_; have NB212_186 := n16_; have NB202_212 := n17_; have NB212_202 := n18_; have NB207_212 := n19_; have NB212_207 := n20_; clear n0_ n1_ n2_ n3_ n4_ n5_ n6_ n7_ n8_ n9_ n10_ n11_ n12_ n13_ n14_ n15_ n16_ n17_ n18_ n19_ n20_; clear hb hbox hg; have hnb57 := NB212_185.out; have hnc57 := NB185_212.out; have hnb58 := NB212_186.out; have hnc58 := NB186_212.out; have hnb59 := NB212_202.out; have hnc59 := NB202_212.out; have hnb60 := NB212_207.out; have hnc60 := NB207_212.out; have hcz61_0 : w56.cell? ⟨gb212, 0, none⟩ = some (.int .i64 0) := (blk_cell BK212.out 0).trans rfl; have hcz61_1 : w56.cell? ⟨gb212, 1, none⟩ = some (.slice none 0 0) := (blk_cell BK212.out 1).trans rfl; have hfz61_0 := blk_frozen BK212.out 0; have hfz61_1 := blk_frozen BK212.out 1; obtain ⟨Ao62, co62, eo62⟩ := Kd.R_slice HO211.out; subst eo62; have hcz63_0 : w56.cell? ⟨gb207, 0, none⟩ = some (.int .i64 t203) := (blk_cell BK207.out 0).trans rfl; have hcz63_1 : w56.cell? ⟨gb207, 1, none⟩ = some (.slice Ao52 t204.length co52) := (blk_cell BK207.out 1).trans rfl; have hfz63_0 := blk_frozen BK207.out 0; have hfz63_1 := blk_frozen BK207.out 1) | ((with_reducible refine gate_callee (f := 48) rfl ?_); refine goesL_ (some 42) rfl rfl Try.func48 (by kernel_rfl) rfl #[.agg #[.int .i64 t203, .slice Ao52 t204.length co52], .agg #[.int .i64 t208, .slice Ao62 t209.length co62]] rfl lm1_ ?_; (with_reducible refine (impl_XorBits.calls k t203 _ _ t204 t208 _ _ t209 t213 t214 t217 _ ?side1 ?side2 ?side3 ?side4 A24.out).mono ?_); (case side1 => refine (Kd.R_reads' (e := 3) (base := w.heap.size) (ok := fun k_ => ((((True ∧ some k_ ≠ (v191 : Value).ownBlock) ∧ some k_ ≠ (v195 : Value).ownBlock) ∧ some k_ ≠ (.slice Ao42 t198.length co42 : Value).ownBlock) ∧ some k_ ≠ (.slice Ao62 t209.length co62 : Value).ownBlock)) (n := t204.length) (c := co52) ?_).2.2; exact (lt1_ (Kd.R_mono (Kd.R_far (p := ⟨gb212, 1, none⟩) (Kd.R_far (p := ⟨gb212, 0, none⟩) (Kd.R_types HO206.out BK212.out (by decide)) (fun _ hk => hk.2) (.int .i64 t208)) (fun _ hk => hk.2) (.slice Ao62 t209.length co62)) (fun _ h_ => h_.1)))); (case side2 => exact (Kd.R_reads' HO206.out).2.1); (case side3 => refine (Kd.R_reads' (e := 3) (base := w.heap.size) (ok := fun k_ => ((((True ∧ some k_ ≠ (v191 : Value).ownBlock) ∧ some k_ ≠ (v195 : Value).ownBlock) ∧ some k_ ≠ (.slice Ao42 t198.length co42 : Value).ownBlock) ∧ some k_ ≠ (.slice Ao52 t204.length co52 : Value).ownBlock)) (n := t209.length) (c := co62) ?_).2.2; exact (lt1_ (Kd.R_mono (Kd.R_far (p := ⟨gb212, 1, none⟩) (Kd.R_far (p := ⟨gb212, 0, none⟩) (Kd.R_types HO211.out BK212.out (by decide)) (fun _ hk => hk.2) (.int .i64 t208)) (fun _ hk => hk.2) (.slice Ao62 t209.length co62)) (fun _ h_ => h_.1)))); (case side4 => exact (Kd.R_reads' HO211.out).2.1); rintro e w64 ⟨v215, rfl, ho0, hb⟩; refine ⟨_, rfl, ?_⟩; have n0_ := am1_ (Kd.R_elder' (lt1_ (Kd.R_mono (Kd.R_far (p := ⟨gb212, 1, none⟩) (Kd.R_far (p := ⟨gb212, 0, none⟩) (Kd.R_types HO192.out BK212.out (by decide)) (fun _ hk => hk.2) (.int .i64 t208)) (fun _ hk => hk.2) (.slice Ao62 t209.length co62)) (fun _ h_ => h_.1))) (Kd.R_base ho0) hb); have n1_ := am1_ (Kd.R_elder' (lt1_ (Kd.R_mono (Kd.R_far (p := ⟨gb212, 1, none⟩) (Kd.R_far (p := ⟨gb212, 0, none⟩) (Kd.R_types HO196.out BK212.out (by decide)) (fun _ hk => hk.2) (.int .i64 t208)) (fun _ hk => hk.2) (.slice Ao62 t209.length co62)) (fun _ h_ => h_.1))) (Kd.R_base ho0) hb); have n2_ := am1_ (Kd.R_elder' (lt1_ (Kd.R_mono (Kd.R_far (p := ⟨gb212, 1, none⟩) (Kd.R_far (p := ⟨gb212, 0, none⟩) (Kd.R_types HO200.out BK212.out (by decide)) (fun _ hk => hk.2) (.int .i64 t208)) (fun _ hk => hk.2) (.slice Ao62 t209.length co62)) (fun _ h_ => h_.1))) (Kd.R_base ho0) hb); have n3_ := am1_ (Kd.R_elder' (lt1_ (Kd.R_mono (Kd.R_far (p := ⟨gb212, 1, none⟩) (Kd.R_far (p := ⟨gb212, 0, none⟩) (Kd.R_types HO206.out BK212.out (by decide)) (fun _ hk => hk.2) (.int .i64 t208)) (fun _ hk => hk.2) (.slice Ao62 t209.length co62)) (fun _ h_ => h_.1))) (Kd.R_base ho0) hb); have n4_ := am1_ (Kd.R_elder' (lt1_ (Kd.R_mono (Kd.R_far (p := ⟨gb212, 1, none⟩) (Kd.R_far (p := ⟨gb212, 0, none⟩) (Kd.R_types HO211.out BK212.out (by decide)) (fun _ hk => hk.2) (.int .i64 t208)) (fun _ hk => hk.2) (.slice Ao62 t209.length co62)) (fun _ h_ => h_.1))) (Kd.R_base ho0) hb); have n5_ := am1_ (Kd.R_lower (Kd.R_new' (Kd.R_new' (Kd.R_new' (Kd.R_new' (Kd.R_new' ho0 (Kd.R_lt (lt1_ (Kd.R_mono (Kd.R_far (p := ⟨gb212, 1, none⟩) (Kd.R_far (p := ⟨gb212, 0, none⟩) (Kd.R_types HO192.out BK212.out (by decide)) (fun _ hk => hk.2) (.int .i64 t208)) (fun _ hk => hk.2) (.slice Ao62 t209.length co62)) (fun _ h_ => h_.1))))) (Kd.R_lt (lt1_ (Kd.R_mono (Kd.R_far (p := ⟨gb212, 1, none⟩) (Kd.R_far (p := ⟨gb212, 0, none⟩) (Kd.R_types HO196.out BK212.out (by decide)) (fun _ hk => hk.2) (.int .i64 t208)) (fun _ hk => hk.2) (.slice Ao62 t209.length co62)) (fun _ h_ => h_.1))))) (Kd.R_lt (lt1_ (Kd.R_mono (Kd.R_far (p := ⟨gb212, 1, none⟩) (Kd.R_far (p := ⟨gb212, 0, none⟩) (Kd.R_types HO200.out BK212.out (by decide)) (fun _ hk => hk.2) (.int .i64 t208)) (fun _ hk => hk.2) (.slice Ao62 t209.length co62)) (fun _ h_ => h_.1))))) (Kd.R_lt (lt1_ (Kd.R_mono (Kd.R_far (p := ⟨gb212, 1, none⟩) (Kd.R_far (p := ⟨gb212, 0, none⟩) (Kd.R_types HO206.out BK212.out (by decide)) (fun _ hk => hk.2) (.int .i64 t208)) (fun _ hk => hk.2) (.slice Ao62 t209.length co62)) (fun _ h_ => h_.1))))) (Kd.R_lt (lt1_ (Kd.R_mono (Kd.R_far (p := ⟨gb212, 1, none⟩) (Kd.R_far (p := ⟨gb212, 0, none⟩) (Kd.R_types HO211.out BK212.out (by decide)) (fun _ hk => hk.2) (.int .i64 t208)) (fun _ hk => hk.2) (.slice Ao62 t209.length co62)) (fun _ h_ => h_.1))))) (below_size (lw1_ HB))); have n6_ := am1_ (blk_below (g := gb185) (o := .cells #[.int .i64 a0_0, .slice A0_1 l0_1.length c0_1] 24 (0, 0)) (by (with_reducible repeat (first | refine blk_drewN ?_ _ | refine blk_drew ?_ | refine blk_alloc ?_ _)); refine blk_far ?_ NB185_212.out _; (with_reducible repeat (first | refine blk_drewN ?_ _ | refine blk_drew ?_ | refine blk_alloc ?_ _)); refine blk_far ?_ NB185_212.out _; (with_reducible repeat (first | refine blk_drewN ?_ _ | refine blk_drew ?_ | refine blk_alloc ?_ _)); exact BK185.out) hb); have n7_ := am1_ (blk_below (g := gb186) (o := .cells #[.int .i64 a1_0, .slice A1_1 l1_1.length c1_1] 24 (0, 0)) (by (with_reducible repeat (first | refine blk_drewN ?_ _ | refine blk_drew ?_ | refine blk_alloc ?_ _)); refine blk_far ?_ NB186_212.out _; (with_reducible repeat (first | refine blk_drewN ?_ _ | refine blk_drew ?_ | refine blk_alloc ?_ _)); refine blk_far ?_ NB186_212.out _; (with_reducible repeat (first | refine blk_drewN ?_ _ | refine blk_drew ?_ | refine blk_alloc ?_ _)); exact BK186.out) hb); have n8_ := am1_ (blk_below (g := gb202) (o := .cells #[.int .i64 t197, .slice Ao42 t198.length co42] 29 (0, 0)) (by (with_reducible repeat (first | refine blk_drewN ?_ _ | refine blk_drew ?_ | refine blk_alloc ?_ _)); refine blk_far ?_ NB202_212.out _; (with_reducible repeat (first | refine blk_drewN ?_ _ | refine blk_drew ?_ | refine blk_alloc ?_ _)); refine blk_far ?_ NB202_212.out _; (with_reducible repeat (first | refine blk_drewN ?_ _ | refine blk_drew ?_ | refine blk_alloc ?_ _)); exact BK202.out) hb); have n9_ := am1_ (blk_below (g := gb207) (o := .cells #[.int .i64 t203, .slice Ao52 t204.length co52] 29 (0, 0)) (by (with_reducible repeat (first | refine blk_drewN ?_ _ | refine blk_drew ?_ | refine blk_alloc ?_ _)); refine blk_far ?_ NB207_212.out _; (with_reducible repeat (first | refine blk_drewN ?_ _ | refine blk_drew ?_ | refine blk_alloc ?_ _)); refine blk_far ?_ NB207_212.out _; (with_reducible repeat (first | refine blk_drewN ?_ _ | refine blk_drew ?_ | refine blk_alloc ?_ _)); exact BK207.out) hb); have n10_ := am1_ (blk_below (g := gb212) (o := .cells #[.int .i64 t208, .slice Ao62 t209.length co62] 29 (0, 0)) (by (with_reducible repeat (first | refine blk_drewN ?_ _ | refine blk_drew ?_ | refine blk_alloc ?_ _)); refine blk_put (cs := #[.int .i64 t208, .slice none 0 0]) ?_ 1 _ rfl; (with_reducible repeat (first | refine blk_drewN ?_ _ | refine blk_drew ?_ | refine blk_alloc ?_ _)); refine blk_put (cs := #[.int .i64 0, .slice none 0 0]) ?_ 0 _ rfl; (with_reducible repeat (first | refine blk_drewN ?_ _ | refine blk_drew ?_ | refine blk_alloc ?_ _)); exact BK212.out) hb); have n11_ := am1_ (below_step (lw1_ HB) hb); clear HO192; clear HO196; clear HO200; clear HO206; clear HO211; clear BK185; clear BK186; clear BK202; clear BK207; clear BK212; clear HB; have HO192 := n0_; have HO196 := n1_; have HO200 := n2_; have HO206 := n3_; have HO211 := n4_; have HO216 := n5_; have BK185 := n6_; have BK186 := n7_; have BK202 := n8_; have BK207 := n9_; have BK212 := n10_; have HB := n11_; clear n0_ n1_ n2_ n3_ n4_ n5_ n6_ n7_ n8_ n9_ n10_ n11_; (try clear hb); (try clear hb2); (try clear hk); (try clear hi); (try clear ho0)) | ((with_reducible refine gate_dst (N := 10) rfl ?_); refine box_event ?hg (N := 10) ?hd (cs := #[.int .i64 0, .slice none 0 0]) (t := 29) ?hr ?_; (case hd => rfl); (case hg => rfl); (case hr => first | (go_simp; done) | (go_simp; rfl)); intro gb218 hg w65 hbox hb; have n0_ := am1_ (Kd.R_below (lf1_ HO192) hb); have n1_ := am1_ (Kd.R_below (lf1_ HO196) hb); have n2_ := am1_ (Kd.R_below (lf1_ HO200) hb); have n3_ := am1_ (Kd.R_below (lf1_ HO206) hb); have n4_ := am1_ (Kd.R_below (lf1_ HO211) hb); have n5_ := am1_ (Kd.R_below (lf1_ HO216) hb); have n6_ := am1_ (blk_below (g := gb185) (o := .cells #[.int .i64 a0_0, .slice A0_1 l0_1.length c0_1] 24 (0, 0)) (lb1_ BK185) hb); have n7_ := am1_ (blk_below (g := gb186) (o := .cells #[.int .i64 a1_0, .slice A1_1 l1_1.length c1_1] 24 (0, 0)) (lb1_ BK186) hb); have n8_ := am1_ (blk_below (g := gb202) (o := .cells #[.int .i64 t197, .slice Ao42 t198.length co42] 29 (0, 0)) (lb1_ BK202) hb); have n9_ := am1_ (blk_below (g := gb207) (o := .cells #[.int .i64 t203, .slice Ao52 t204.length co52] 29 (0, 0)) (lb1_ BK207) hb); have n10_ := am1_ (blk_below (g := gb212) (o := .cells #[.int .i64 t208, .slice Ao62 t209.length co62] 29 (0, 0)) (lb1_ BK212) hb); have n11_ := am1_ (below_step (lw1_ HB) hb); have n12_ := am1_ (hbox); have n13_ := am1_ ((by rw [hg]; exact (below_size (lw1_ HB)) : w.heap.size ≤ gb218)); have n14_ := am1_ ((by rw [hg]; exact (below_size (lw1_ HB)) : w.heap.size ≤ gb218)); have n15_ := am1_ ((by rw [hg]; exact Nat.ne_of_lt (blk_lt (g := gb185) (lb1_ BK185)) : gb185 ≠ gb218)); have n16_ := am1_ ((by rw [hg]; exact Nat.ne_of_gt (blk_lt (g := gb185) (lb1_ BK185)) : gb218 ≠ gb185)); have n17_ := am1_ ((by rw [hg]; exact Nat.ne_of_lt (blk_lt (g := gb186) (lb1_ BK186)) : gb186 ≠ gb218)); have n18_ := am1_ ((by rw [hg]; exact Nat.ne_of_gt (blk_lt (g := gb186) (lb1_ BK186)) : gb218 ≠ gb186)); have n19_ := am1_ ((by rw [hg]; exact Nat.ne_of_lt (blk_lt (g := gb202) (lb1_ BK202)) : gb202 ≠ gb218)); have n20_ := am1_ ((by rw [hg]; exact Nat.ne_of_gt (blk_lt (g := gb202) (lb1_ BK202)) : gb218 ≠ gb202)); have n21_ := am1_ ((by rw [hg]; exact Nat.ne_of_lt (blk_lt (g := gb207) (lb1_ BK207)) : gb207 ≠ gb218)); have n22_ := am1_ ((by rw [hg]; exact Nat.ne_of_gt (blk_lt (g := gb207) (lb1_ BK207)) : gb218 ≠ gb207)); have n23_ := am1_ ((by rw [hg]; exact Nat.ne_of_lt (blk_lt (g := gb212) (lb1_ BK212)) : gb212 ≠ gb218)); have n24_ := am1_ ((by rw [hg]; exact Nat.ne_of_gt (blk_lt (g := gb212) (lb1_ BK212)) : gb218 ≠ gb212)); clear HO192; clear HO196; clear HO200; clear HO206; clear HO211; clear HO216; clear BK185; clear BK186; clear BK202; clear BK207; clear BK212; clear HB; have HO192 := n0_; have HO196 := n1_; have HO200 := n2_; have HO206 := n3_; have HO211 := n4_; have HO216 := n5_; have BK185 := n6_; have BK186 := n7_; have BK202 := n8_; have BK207 := n9_; have BK212 := n10_; have HB := n11_; have BK218 := n12_; have GW218 := n13_; have GE218 := n14_; have NB185_218 := n15_; have NB218_185 := n16_; have NB186_218 := n17_; have NB218_186 := n18_; have NB202_218 := n19_; have NB218_202 := n20_; have NB207_218 := n21_; have NB218_207 := n22_; have NB212_218 := n23_; have NB218_212 := n24_; clear n0_ n1_ n2_ n3_ n4_ n5_ n6_ n7_ n8_ n9_ n10_ n11_ n12_ n13_ n14_ n15_ n16_ n17_ n18_ n19_ n20_ n21_ n22_ n23_ n24_; clear hb hbox hg; have hnb66 := NB218_185.out; have hnc66 := NB185_218.out; have hnb67 := NB218_186.out; have hnc67 := NB186_218.out; have hnb68 := NB218_202.out; have hnc68 := NB202_218.out; have hnb69 := NB218_207.out; have hnc69 := NB207_218.out; have hnb70 := NB218_212.out; have hnc70 := NB212_218.out; have hcz71_0 : w65.cell? ⟨gb218, 0, none⟩ = some (.int .i64 0) := (blk_cell BK218.out 0).trans rfl; have hcz71_1 : w65.cell? ⟨gb218, 1, none⟩ = some (.slice none 0 0) := (blk_cell BK218.out 1).trans rfl; have hfz71_0 := blk_frozen BK218.out 0; have hfz71_1 := blk_frozen BK218.out 1; obtain ⟨Ao72, co72, eo72⟩ := Kd.R_slice HO216.out; subst eo72))
   (try simp only [Act.put, List.setIfInBounds_toArray, List.set_cons_zero, List.set_cons_succ])
   go_cut [53] (fun v53 wc => ∃ (kq : Nat) (x53_24 : Bool), v53 = .bool x53_24 ∧ Aside0 (laws_FnExactXorBits.j0 kq t201 t217 x53_24 a0_0 l0_1 a1_0 l1_1 t197 t198 t203 t204 t208 t209 t213 t214 = some r) ∧ Aside0 (kq ≤ k) ∧ Aside0 (Kd.R (Kd.int .i64) 3 wc w.heap.size (fun k_ => some k_ ≠ ((.slice Ao52 t204.length co52) : Value).ownBlock ∧ some k_ ≠ ((.slice Ao62 t209.length co62) : Value).ownBlock ∧ some k_ ≠ ((.slice Ao72 t214.length co72) : Value).ownBlock) (.slice Ao42 t198.length co42) t198) ∧ Aside0 (Kd.R (Kd.int .i64) 3 wc w.heap.size (fun k_ => some k_ ≠ ((.slice Ao42 t198.length co42) : Value).ownBlock ∧ some k_ ≠ ((.slice Ao62 t209.length co62) : Value).ownBlock ∧ some k_ ≠ ((.slice Ao72 t214.length co72) : Value).ownBlock) (.slice Ao52 t204.length co52) t204) ∧ Aside0 (Kd.R (Kd.int .i64) 3 wc w.heap.size (fun k_ => some k_ ≠ ((.slice Ao42 t198.length co42) : Value).ownBlock ∧ some k_ ≠ ((.slice Ao52 t204.length co52) : Value).ownBlock ∧ some k_ ≠ ((.slice Ao72 t214.length co72) : Value).ownBlock) (.slice Ao62 t209.length co62) t209) ∧ Aside0 (Kd.R (Kd.int .i64) 3 wc w.heap.size (fun k_ => some k_ ≠ ((.slice Ao42 t198.length co42) : Value).ownBlock ∧ some k_ ≠ ((.slice Ao52 t204.length co52) : Value).ownBlock ∧ some k_ ≠ ((.slice Ao62 t209.length co62) : Value).ownBlock) (.slice Ao72 t214.length co72) t214) ∧ Aside0 (wc.heap[gb185]? = some (.cells #[.int .i64 a0_0, (.slice A0_1 l0_1.length c0_1)] 24 (0, 0))) ∧ Aside0 (wc.heap[gb186]? = some (.cells #[.int .i64 a1_0, (.slice A1_1 l1_1.length c1_1)] 24 (0, 0))) ∧ Aside0 (wc.heap[gb202]? = some (.cells #[.int .i64 t197, (.slice Ao42 t198.length co42)] 29 (0, 0))) ∧ Aside0 (wc.heap[gb207]? = some (.cells #[.int .i64 t203, (.slice Ao52 t204.length co52)] 29 (0, 0))) ∧ Aside0 (wc.heap[gb212]? = some (.cells #[.int .i64 t208, (.slice Ao62 t209.length co62)] 29 (0, 0))) ∧ Aside0 (wc.heap[gb218]? = some (.cells #[.int .i64 t213, (.slice Ao72 t214.length co72)] 29 (0, 0))) ∧ Aside0 (Below w.heap.size w wc))
   case first =>
    have H := HC25.out
    clear HC25
    replace H := Option.bind_eq_some_iff.mp H
    obtain ⟨t219, A730, H⟩ := H
    replace H : (if t219 = true then (laws_FnExactXorBits.j0 k t201 t217 (t217 != t201) a0_0 l0_1 a1_0 l1_1 t197 t198 t203 t204 t208 t209 t213 t214) else (none)) = some r := H
    have A73 := am1_ A730
    clear A730
    by_cases c74 : t219 = true
    ·subst c74
     have H1 : (laws_FnExactXorBits.j0 k t201 t217 (t217 != t201) a0_0 l0_1 a1_0 l1_1 t197 t198 t203 t204 t208 t209 t213 t214) = some r := by rw [if_pos rfl] at H; exact H
     clear H
     have H := H1
     clear H1
     have H' := am1_ H
     clear H
     have hnb75 := NB218_185.out
     have hnc75 := NB185_218.out
     have hnb76 := NB218_186.out
     have hnc76 := NB186_218.out
     have hnb77 := NB218_202.out
     have hnc77 := NB202_218.out
     have hnb78 := NB218_207.out
     have hnc78 := NB207_218.out
     have hnb79 := NB218_212.out
     have hnc79 := NB212_218.out
     have hcz80_0 : w65.cell? ⟨gb218, 0, none⟩ = some (.int .i64 0) := (blk_cell BK218.out 0).trans rfl
     have hcz80_1 : w65.cell? ⟨gb218, 1, none⟩ = some (.slice none 0 0) := (blk_cell BK218.out 1).trans rfl
     have hfz80_0 := blk_frozen BK218.out 0
     have hfz80_1 := blk_frozen BK218.out 1
     have hnb81 := NB202_185.out
     have hnc81 := NB185_202.out
     have hnb82 := NB202_186.out
     have hnc82 := NB186_202.out
     have hnb83 := NB202_207.out
     have hnc83 := NB207_202.out
     have hnb84 := NB202_212.out
     have hnc84 := NB212_202.out
     have hcz85_0 : w65.cell? ⟨gb202, 0, none⟩ = some (.int .i64 t197) := (blk_cell BK202.out 0).trans rfl
     have hcz85_1 : w65.cell? ⟨gb202, 1, none⟩ = some (.slice Ao42 t198.length co42) := (blk_cell BK202.out 1).trans rfl
     have hfz85_0 := blk_frozen BK202.out 0
     have hfz85_1 := blk_frozen BK202.out 1
     go_wp2_with (first | ((with_reducible refine gate_callee (f := 24) rfl ?_); refine goesL_ (some 47) rfl rfl Try.func24 (by kernel_rfl) rfl #[.agg #[.int .i64 t213, .slice Ao72 t214.length co72], .agg #[.int .i64 t197, .slice Ao42 t198.length co42]] rfl lm1_ ?_; (with_reducible refine (laws_eqBits.calls k t213 _ _ t214 t197 _ _ t198 true _ ?side1 ?side2 ?side3 ?side4 A73.out).mono ?_); (case side1 => refine (Kd.R_reads' (e := 3) (base := w.heap.size) (ok := fun k_ => (((((True ∧ some k_ ≠ (v191 : Value).ownBlock) ∧ some k_ ≠ (v195 : Value).ownBlock) ∧ some k_ ≠ (.slice Ao42 t198.length co42 : Value).ownBlock) ∧ some k_ ≠ (.slice Ao52 t204.length co52 : Value).ownBlock) ∧ some k_ ≠ (.slice Ao62 t209.length co62 : Value).ownBlock)) (n := t214.length) (c := co72) ?_).2.2; exact (lt1_ (Kd.R_mono (Kd.R_far (p := ⟨gb218, 1, none⟩) (Kd.R_far (p := ⟨gb218, 0, none⟩) (Kd.R_types HO216.out BK218.out (by decide)) (fun _ hk => hk.2) (.int .i64 t213)) (fun _ hk => hk.2) (.slice Ao72 t214.length co72)) (fun _ h_ => h_.1)))); (case side2 => exact (Kd.R_reads' HO216.out).2.1); (case side3 => refine (Kd.R_reads' (e := 3) (base := w.heap.size) (ok := fun k_ => ((((some k_ ≠ (v191 : Value).ownBlock ∧ some k_ ≠ (v195 : Value).ownBlock) ∧ some k_ ≠ (.slice Ao52 t204.length co52 : Value).ownBlock) ∧ some k_ ≠ (.slice Ao62 t209.length co62 : Value).ownBlock) ∧ some k_ ≠ (.slice Ao72 t214.length co72 : Value).ownBlock)) (n := t198.length) (c := co42) ?_).2.2; exact (lt1_ (Kd.R_mono (Kd.R_far (p := ⟨gb218, 1, none⟩) (Kd.R_far (p := ⟨gb218, 0, none⟩) (Kd.R_types HO200.out BK218.out (by decide)) (fun _ hk => hk.2) (.int .i64 t213)) (fun _ hk => hk.2) (.slice Ao72 t214.length co72)) (fun _ h_ => h_.1)))); (case side4 => exact (Kd.R_reads' HO200.out).2.1); rintro e w86 ⟨rfl, hb⟩; refine ⟨_, rfl, ?_⟩; have n0_ := am1_ (Kd.R_below (lt1_ (Kd.R_mono (Kd.R_far (p := ⟨gb218, 1, none⟩) (Kd.R_far (p := ⟨gb218, 0, none⟩) (Kd.R_types HO192.out BK218.out (by decide)) (fun _ hk => hk.2) (.int .i64 t213)) (fun _ hk => hk.2) (.slice Ao72 t214.length co72)) (fun _ h_ => h_.1))) hb); have n1_ := am1_ (Kd.R_below (lt1_ (Kd.R_mono (Kd.R_far (p := ⟨gb218, 1, none⟩) (Kd.R_far (p := ⟨gb218, 0, none⟩) (Kd.R_types HO196.out BK218.out (by decide)) (fun _ hk => hk.2) (.int .i64 t213)) (fun _ hk => hk.2) (.slice Ao72 t214.length co72)) (fun _ h_ => h_.1))) hb); have n2_ := am1_ (Kd.R_below (lt1_ (Kd.R_mono (Kd.R_far (p := ⟨gb218, 1, none⟩) (Kd.R_far (p := ⟨gb218, 0, none⟩) (Kd.R_types HO200.out BK218.out (by decide)) (fun _ hk => hk.2) (.int .i64 t213)) (fun _ hk => hk.2) (.slice Ao72 t214.length co72)) (fun _ h_ => h_.1))) hb); have n3_ := am1_ (Kd.R_below (lt1_ (Kd.R_mono (Kd.R_far (p := ⟨gb218, 1, none⟩) (Kd.R_far (p := ⟨gb218, 0, none⟩) (Kd.R_types HO206.out BK218.out (by decide)) (fun _ hk => hk.2) (.int .i64 t213)) (fun _ hk => hk.2) (.slice Ao72 t214.length co72)) (fun _ h_ => h_.1))) hb); have n4_ := am1_ (Kd.R_below (lt1_ (Kd.R_mono (Kd.R_far (p := ⟨gb218, 1, none⟩) (Kd.R_far (p := ⟨gb218, 0, none⟩) (Kd.R_types HO211.out BK218.out (by decide)) (fun _ hk => hk.2) (.int .i64 t213)) (fun _ hk => hk.2) (.slice Ao72 t214.length co72)) (fun _ h_ => h_.1))) hb); have n5_ := am1_ (Kd.R_below (lt1_ (Kd.R_mono (Kd.R_far (p := ⟨gb218, 1, none⟩) (Kd.R_far (p := ⟨gb218, 0, none⟩) (Kd.R_types HO216.out BK218.out (by decide)) (fun _ hk => hk.2) (.int .i64 t213)) (fun _ hk => hk.2) (.slice Ao72 t214.length co72)) (fun _ h_ => h_.1))) hb); have n6_ := am1_ (blk_below (g := gb185) (o := .cells #[.int .i64 a0_0, .slice A0_1 l0_1.length c0_1] 24 (0, 0)) (by (with_reducible repeat (first | refine blk_drewN ?_ _ | refine blk_drew ?_ | refine blk_alloc ?_ _)); refine blk_far ?_ NB185_218.out _; (with_reducible repeat (first | refine blk_drewN ?_ _ | refine blk_drew ?_ | refine blk_alloc ?_ _)); refine blk_far ?_ NB185_218.out _; (with_reducible repeat (first | refine blk_drewN ?_ _ | refine blk_drew ?_ | refine blk_alloc ?_ _)); exact BK185.out) hb); have n7_ := am1_ (blk_below (g := gb186) (o := .cells #[.int .i64 a1_0, .slice A1_1 l1_1.length c1_1] 24 (0, 0)) (by (with_reducible repeat (first | refine blk_drewN ?_ _ | refine blk_drew ?_ | refine blk_alloc ?_ _)); refine blk_far ?_ NB186_218.out _; (with_reducible repeat (first | refine blk_drewN ?_ _ | refine blk_drew ?_ | refine blk_alloc ?_ _)); refine blk_far ?_ NB186_218.out _; (with_reducible repeat (first | refine blk_drewN ?_ _ | refine blk_drew ?_ | refine blk_alloc ?_ _)); exact BK186.out) hb); have n8_ := am1_ (blk_below (g := gb202) (o := .cells #[.int .i64 t197, .slice Ao42 t198.length co42] 29 (0, 0)) (by (with_reducible repeat (first | refine blk_drewN ?_ _ | refine blk_drew ?_ | refine blk_alloc ?_ _)); refine blk_far ?_ NB202_218.out _; (with_reducible repeat (first | refine blk_drewN ?_ _ | refine blk_drew ?_ | refine blk_alloc ?_ _)); refine blk_far ?_ NB202_218.out _; (with_reducible repeat (first | refine blk_drewN ?_ _ | refine blk_drew ?_ | refine blk_alloc ?_ _)); exact BK202.out) hb); have n9_ := am1_ (blk_below (g := gb207) (o := .cells #[.int .i64 t203, .slice Ao52 t204.length co52] 29 (0, 0)) (by (with_reducible repeat (first | refine blk_drewN ?_ _ | refine blk_drew ?_ | refine blk_alloc ?_ _)); refine blk_far ?_ NB207_218.out _; (with_reducible repeat (first | refine blk_drewN ?_ _ | refine blk_drew ?_ | refine blk_alloc ?_ _)); refine blk_far ?_ NB207_218.out _; (with_reducible repeat (first | refine blk_drewN ?_ _ | refine blk_drew ?_ | refine blk_alloc ?_ _)); exact BK207.out) hb); have n10_ := am1_ (blk_below (g := gb212) (o := .cells #[.int .i64 t208, .slice Ao62 t209.length co62] 29 (0, 0)) (by (with_reducible repeat (first | refine blk_drewN ?_ _ | refine blk_drew ?_ | refine blk_alloc ?_ _)); refine blk_far ?_ NB212_218.out _; (with_reducible repeat (first | refine blk_drewN ?_ _ | refine blk_drew ?_ | refine blk_alloc ?_ _)); refine blk_far ?_ NB212_218.out _; (with_reducible repeat (first | refine blk_drewN ?_ _ | refine blk_drew ?_ | refine blk_alloc ?_ _)); exact BK212.out) hb); have n11_ := am1_ (blk_below (g := gb218) (o := .cells #[.int .i64 t213, .slice Ao72 t214.length co72] 29 (0, 0)) (by (with_reducible repeat (first | refine blk_drewN ?_ _ | refine blk_drew ?_ | refine blk_alloc ?_ _)); refine blk_put (cs := #[.int .i64 t213, .slice none 0 0]) ?_ 1 _ rfl; (with_reducible repeat (first | refine blk_drewN ?_ _ | refine blk_drew ?_ | refine blk_alloc ?_ _)); refine blk_put (cs := #[.int .i64 0, .slice none 0 0]) ?_ 0 _ rfl; (with_reducible repeat (first | refine blk_drewN ?_ _ | refine blk_drew ?_ | refine blk_alloc ?_ _)); exact BK218.out) hb); have n12_ := am1_ (below_step (lw1_ HB) hb); clear HO192; clear HO196; clear HO200; clear HO206; clear HO211; clear HO216; clear BK185; clear BK186; clear BK202; clear BK207; clear BK212; clear BK218; clear HB; have HO192 := n0_; have HO196 := n1_; have HO200 := n2_; have HO206 := n3_; have HO211 := n4_; have HO216 := n5_; have BK185 := n6_; have BK186 := n7_; have BK202 := n8_; have BK207 := n9_; have BK212 := n10_; have BK218 := n11_; have HB := n12_; clear n0_ n1_ n2_ n3_ n4_ n5_ n6_ n7_ n8_ n9_ n10_ n11_ n12_; (try clear hb); (try clear hb2); (try clear hk); (try clear hi)))
     go_meet
     case rel => exact ⟨_, ((t217 != t201)), (by first | rfl | (simp; done) | (simp [*]; done)), H', ⟨by first | omega | exact Nat.le_refl _⟩, ⟨by (with_reducible repeat (first | apply Kd.R_alloc | apply Kd.R_drewN | apply Kd.R_drew)); exact Kd.R_mono HO200.out (fun _ hk => ⟨hk.1.1.2, ⟨hk.1.2, hk.2⟩⟩)⟩, ⟨by (with_reducible repeat (first | apply Kd.R_alloc | apply Kd.R_drewN | apply Kd.R_drew)); exact Kd.R_mono HO206.out (fun _ hk => ⟨hk.1.1.2, ⟨hk.1.2, hk.2⟩⟩)⟩, ⟨by (with_reducible repeat (first | apply Kd.R_alloc | apply Kd.R_drewN | apply Kd.R_drew)); exact Kd.R_mono HO211.out (fun _ hk => ⟨hk.1.1.2, ⟨hk.1.2, hk.2⟩⟩)⟩, ⟨by (with_reducible repeat (first | apply Kd.R_alloc | apply Kd.R_drewN | apply Kd.R_drew)); exact Kd.R_mono HO216.out (fun _ hk => ⟨hk.1.1.2, ⟨hk.1.2, hk.2⟩⟩)⟩, ⟨lb1_ BK185⟩, ⟨lb1_ BK186⟩, ⟨lb1_ BK202⟩, ⟨lb1_ BK207⟩, ⟨lb1_ BK212⟩, ⟨lb1_ BK218⟩, ⟨lw1_ HB⟩⟩
    ·replace c74 := Bool.eq_false_iff.mpr c74
     subst c74
     have H1 : (none) = some r := by rw [if_neg (show ¬ (false = true) by decide)] at H; exact H
     clear H
     have H := H1
     clear H1
     exact absurd H (by simp)
   case rest =>
    clear HC25
    try clear c1
    try clear c2
    try clear p2
    try clear c4
    try clear c5
    try clear c6
    try clear c7
    try clear c8
    try clear c22
    try clear c24
    try clear c44
    try clear c47
    try clear c48
    try clear c49
    try clear c50
    try clear c53
    try clear c57
    try clear c58
    try clear c59
    try clear c60
    try clear c66
    try clear c67
    try clear c68
    try clear c69
    try clear c70
    try clear c74
    try clear c75
    try clear c76
    try clear c77
    try clear c78
    try clear c79
    try clear c81
    try clear c82
    try clear c83
    try clear c84
    try clear hcz45_0
    try clear hcz45_1
    try clear hcz51_0
    try clear hcz51_1
    try clear hcz54_0
    try clear hcz54_1
    try clear hcz61_0
    try clear hcz61_1
    try clear hcz63_0
    try clear hcz63_1
    try clear hcz71_0
    try clear hcz71_1
    try clear hcz80_0
    try clear hcz80_1
    try clear hcz85_0
    try clear hcz85_1
    try clear hfz45_0
    try clear hfz45_1
    try clear hfz51_0
    try clear hfz51_1
    try clear hfz54_0
    try clear hfz54_1
    try clear hfz61_0
    try clear hfz61_1
    try clear hfz63_0
    try clear hfz63_1
    try clear hfz71_0
    try clear hfz71_1
    try clear hfz80_0
    try clear hfz80_1
    try clear hfz85_0
    try clear hfz85_1
    obtain ⟨kq, x53_24, rfl, HA, HJ24, HO_203001, HO_208001, HO_213001, HO_219001, BK185, BK186, BK202, BK207, BK212, BK218, HB⟩ := hcut
    cases kq with
    | zero => exact absurd HA.out (by simp [laws_FnExactXorBits.j0])
    | succ kj24 =>
     have H := HA.out
     clear HA
     simp only [laws_FnExactXorBits.j0] at H
     by_cases c87 : x53_24 = true
     ·subst c87
      have H1 : (none) = some r := by rw [if_pos rfl] at H; exact H
      clear H
      have H := H1
      clear H1
      exact absurd H (by simp)
     ·replace c87 := Bool.eq_false_iff.mpr c87
      subst c87
      have H1 : ((laws_toBits.f kj24 a0_0 l0_1).bind fun bt220 => ((laws_eqBits.f kj24 t203 t204 bt220.1 bt220.2).bind fun t224 => (if t224 = true then ((laws_toBits.f kj24 a1_0 l1_1).bind fun bt225 => ((laws_eqBits.f kj24 t208 t209 bt225.1 bt225.2).bind fun t229 => (if t229 = true then ((laws_markBits.f kj24 t203 t204 1).bind fun bt230 => ((laws_markBits.f kj24 t208 t209 bt230.1).bind fun bt232 => (if bt232.1 < 0 then (none) else ((laws_eqBits.f kj24 t213 t214 t197 t198).bind fun t234 => (if t234 = true then (laws_FnExactXorBits.j1 kj24 t201 (t217 != t201) a0_0 l0_1 a1_0 l1_1 t197 t198 t213 t214) else (none)))))) else (none)))) else (none)))) = some r := by rw [if_neg (show ¬ (false = true) by decide)] at H; exact H
      clear H
      have H := H1
      clear H1
      replace H := Option.bind_eq_some_iff.mp H
      obtain ⟨⟨t220, t221⟩, A880, H⟩ := H
      replace H : ((laws_eqBits.f kj24 t203 t204 t220 t221).bind fun t224 => (if t224 = true then ((laws_toBits.f kj24 a1_0 l1_1).bind fun bt225 => ((laws_eqBits.f kj24 t208 t209 bt225.1 bt225.2).bind fun t229 => (if t229 = true then ((laws_markBits.f kj24 t203 t204 1).bind fun bt230 => ((laws_markBits.f kj24 t208 t209 bt230.1).bind fun bt232 => (if bt232.1 < 0 then (none) else ((laws_eqBits.f kj24 t213 t214 t197 t198).bind fun t234 => (if t234 = true then (laws_FnExactXorBits.j1 kj24 t201 (t217 != t201) a0_0 l0_1 a1_0 l1_1 t197 t198 t213 t214) else (none)))))) else (none)))) else (none))) = some r := H
      have A88 := am1_ A880
      clear A880
      replace H := Option.bind_eq_some_iff.mp H
      obtain ⟨t224, A890, H⟩ := H
      replace H : (if t224 = true then ((laws_toBits.f kj24 a1_0 l1_1).bind fun bt225 => ((laws_eqBits.f kj24 t208 t209 bt225.1 bt225.2).bind fun t229 => (if t229 = true then ((laws_markBits.f kj24 t203 t204 1).bind fun bt230 => ((laws_markBits.f kj24 t208 t209 bt230.1).bind fun bt232 => (if bt232.1 < 0 then (none) else ((laws_eqBits.f kj24 t213 t214 t197 t198).bind fun t234 => (if t234 = true then (laws_FnExactXorBits.j1 kj24 t201 (t217 != t201) a0_0 l0_1 a1_0 l1_1 t197 t198 t213 t214) else (none)))))) else (none)))) else (none)) = some r := H
      have A89 := am1_ A890
      clear A890
      by_cases c90 : t224 = true
      ·subst c90
       have H1 : ((laws_toBits.f kj24 a1_0 l1_1).bind fun bt225 => ((laws_eqBits.f kj24 t208 t209 bt225.1 bt225.2).bind fun t229 => (if t229 = true then ((laws_markBits.f kj24 t203 t204 1).bind fun bt230 => ((laws_markBits.f kj24 t208 t209 bt230.1).bind fun bt232 => (if bt232.1 < 0 then (none) else ((laws_eqBits.f kj24 t213 t214 t197 t198).bind fun t234 => (if t234 = true then (laws_FnExactXorBits.j1 kj24 t201 (t217 != t201) a0_0 l0_1 a1_0 l1_1 t197 t198 t213 t214) else (none)))))) else (none)))) = some r := by rw [if_pos rfl] at H; exact H
       clear H
       have H := H1
       clear H1
       replace H := Option.bind_eq_some_iff.mp H
       obtain ⟨⟨t225, t226⟩, A910, H⟩ := H
       replace H : ((laws_eqBits.f kj24 t208 t209 t225 t226).bind fun t229 => (if t229 = true then ((laws_markBits.f kj24 t203 t204 1).bind fun bt230 => ((laws_markBits.f kj24 t208 t209 bt230.1).bind fun bt232 => (if bt232.1 < 0 then (none) else ((laws_eqBits.f kj24 t213 t214 t197 t198).bind fun t234 => (if t234 = true then (laws_FnExactXorBits.j1 kj24 t201 (t217 != t201) a0_0 l0_1 a1_0 l1_1 t197 t198 t213 t214) else (none)))))) else (none))) = some r := H
       have A91 := am1_ A910
       clear A910
       replace H := Option.bind_eq_some_iff.mp H
       obtain ⟨t229, A920, H⟩ := H
       replace H : (if t229 = true then ((laws_markBits.f kj24 t203 t204 1).bind fun bt230 => ((laws_markBits.f kj24 t208 t209 bt230.1).bind fun bt232 => (if bt232.1 < 0 then (none) else ((laws_eqBits.f kj24 t213 t214 t197 t198).bind fun t234 => (if t234 = true then (laws_FnExactXorBits.j1 kj24 t201 (t217 != t201) a0_0 l0_1 a1_0 l1_1 t197 t198 t213 t214) else (none)))))) else (none)) = some r := H
       have A92 := am1_ A920
       clear A920
       by_cases c93 : t229 = true
       ·subst c93
        have H1 : ((laws_markBits.f kj24 t203 t204 1).bind fun bt230 => ((laws_markBits.f kj24 t208 t209 bt230.1).bind fun bt232 => (if bt232.1 < 0 then (none) else ((laws_eqBits.f kj24 t213 t214 t197 t198).bind fun t234 => (if t234 = true then (laws_FnExactXorBits.j1 kj24 t201 (t217 != t201) a0_0 l0_1 a1_0 l1_1 t197 t198 t213 t214) else (none)))))) = some r := by rw [if_pos rfl] at H; exact H
        clear H
        have H := H1
        clear H1
        replace H := Option.bind_eq_some_iff.mp H
        obtain ⟨⟨t230, t231⟩, A940, H⟩ := H
        replace H : ((laws_markBits.f kj24 t208 t209 t230).bind fun bt232 => (if bt232.1 < 0 then (none) else ((laws_eqBits.f kj24 t213 t214 t197 t198).bind fun t234 => (if t234 = true then (laws_FnExactXorBits.j1 kj24 t201 (t217 != t201) a0_0 l0_1 a1_0 l1_1 t197 t198 t213 t214) else (none))))) = some r := H
        have A94 := am1_ A940
        clear A940
        replace H := Option.bind_eq_some_iff.mp H
        obtain ⟨⟨t232, t233⟩, A950, H⟩ := H
        replace H : (if t232 < 0 then (none) else ((laws_eqBits.f kj24 t213 t214 t197 t198).bind fun t234 => (if t234 = true then (laws_FnExactXorBits.j1 kj24 t201 (t217 != t201) a0_0 l0_1 a1_0 l1_1 t197 t198 t213 t214) else (none)))) = some r := H
        have A95 := am1_ A950
        clear A950
        have HC96 := am1_ H
        clear H
        try go_wp2
        have n0_ := am1_ (Kd.R_drew HO_203001.out)
        have n1_ := am1_ (Kd.R_drew HO_208001.out)
        have n2_ := am1_ (Kd.R_drew HO_213001.out)
        have n3_ := am1_ (Kd.R_drew HO_219001.out)
        have n4_ := am1_ (blk_drew BK185.out)
        have n5_ := am1_ (blk_drew BK186.out)
        have n6_ := am1_ (blk_drew BK202.out)
        have n7_ := am1_ (blk_drew BK207.out)
        have n8_ := am1_ (blk_drew BK212.out)
        have n9_ := am1_ (blk_drew BK218.out)
        have n10_ := am1_ (below_drew1 HB.out)
        clear HO_203001
        clear HO_208001
        clear HO_213001
        clear HO_219001
        clear BK185
        clear BK186
        clear BK202
        clear BK207
        clear BK212
        clear BK218
        clear HB
        have HO_203001 := n0_
        have HO_208001 := n1_
        have HO_213001 := n2_
        have HO_219001 := n3_
        have BK185 := n4_
        have BK186 := n5_
        have BK202 := n6_
        have BK207 := n7_
        have BK212 := n8_
        have BK218 := n9_
        have HB := n10_
        clear n0_ n1_ n2_ n3_ n4_ n5_ n6_ n7_ n8_ n9_ n10_
        refine start_ (n := 5) (S := fun w' => w'.cell? ⟨gb207, 0, none⟩ = some (.int .i64 t203) ∧ w'.cell? ⟨gb207, 1, none⟩ = some (.slice Ao52 t204.length co52) ∧ w'.cell? ⟨gb185, 0, none⟩ = some (.int .i64 a0_0) ∧ w'.cell? ⟨gb185, 1, none⟩ = some (.slice A0_1 l0_1.length c0_1)) (ds := []) #[false, false, false, false, false] (by kernel_rfl) rfl rfl ⟨(blk_cell BK207.out 0).trans rfl, (blk_cell BK207.out 1).trans rfl, (blk_cell BK185.out 0).trans rfl, (blk_cell BK185.out 1).trans rfl⟩ (fun hHeld => ?_)
        generalize wc.drew = w97 at HO_203001 HO_208001 HO_213001 HO_219001 BK185 BK186 BK202 BK207 BK212 BK218 HB hHeld ⊢
        refine take_ (i := 0) (N := some 54) (v := ?_) (a' := ?_) #[true, false, false, false, false] rfl rfl (by kernel_rfl) (fun _ _ _ h => h) (Or.inl ⟨by rfl, ?_⟩) hHeld ?_ ?_
        rotate_left
        ·rintro w' ⟨s0, s1, s2, s3⟩
         go_simp
         with_reducible rfl
        rotate_left
        ·simp only [Act.put, List.setIfInBounds_toArray, List.set_cons_zero, List.set_cons_succ, i64_w, i32_w]
         rfl
        refine take_ (i := 1) (N := some 55) (v := ?_) (a' := ?_) #[true, true, false, false, false] rfl rfl (by kernel_rfl) (fun _ _ _ h => h) (Or.inl ⟨by rfl, ?_⟩) hHeld ?_ ?_
        rotate_left
        ·rintro w' ⟨s0, s1, s2, s3⟩
         go_simp
         with_reducible rfl
        rotate_left
        ·simp only [Act.put, List.setIfInBounds_toArray, List.set_cons_zero, List.set_cons_succ, i64_w, i32_w]
         rfl
        refine one_ (i := 2) (N := some 56) #[true, true, true, false, false] rfl rfl (by kernel_rfl) (by decide) (fun K hK => ?_)
        refine goes_ Try.func22 (by kernel_rfl) rfl #[.agg #[.int .i64 a0_0, .slice A0_1 l0_1.length c0_1]] (by rfl) rfl rfl lm1_ ?_
        with_reducible refine (laws_toBits.calls kj24 a0_0 _ _ l0_1 t220 t221 _ ?side1 ?side2 A88.out).mono ?_
        (case side1 => exact lc1_ (Kd.C_below HR0_1.out HB.out))
        (case side2 => exact HC0_1.out)
        rintro e w98 ⟨v222, rfl, ho0, hb⟩
        refine ⟨_, rfl, ?_⟩
        have n0_ := am1_ (Kd.R_elder' (lf1_ HO_203001) (Kd.R_base ho0) hb)
        have n1_ := am1_ (Kd.R_elder' (lf1_ HO_208001) (Kd.R_base ho0) hb)
        have n2_ := am1_ (Kd.R_elder' (lf1_ HO_213001) (Kd.R_base ho0) hb)
        have n3_ := am1_ (Kd.R_elder' (lf1_ HO_219001) (Kd.R_base ho0) hb)
        have n4_ := am1_ (Kd.R_lower (Kd.R_new' (Kd.R_new' (Kd.R_new' (Kd.R_new' ho0 (Kd.R_lt (lf1_ HO_203001))) (Kd.R_lt (lf1_ HO_208001))) (Kd.R_lt (lf1_ HO_213001))) (Kd.R_lt (lf1_ HO_219001))) (below_size (lw1_ HB)))
        have n5_ := am1_ (blk_below (g := gb185) (o := .cells #[.int .i64 a0_0, .slice A0_1 l0_1.length c0_1] 24 (0, 0)) (lb1_ BK185) hb)
        have n6_ := am1_ (blk_below (g := gb186) (o := .cells #[.int .i64 a1_0, .slice A1_1 l1_1.length c1_1] 24 (0, 0)) (lb1_ BK186) hb)
        have n7_ := am1_ (blk_below (g := gb202) (o := .cells #[.int .i64 t197, .slice Ao42 t198.length co42] 29 (0, 0)) (lb1_ BK202) hb)
        have n8_ := am1_ (blk_below (g := gb207) (o := .cells #[.int .i64 t203, .slice Ao52 t204.length co52] 29 (0, 0)) (lb1_ BK207) hb)
        have n9_ := am1_ (blk_below (g := gb212) (o := .cells #[.int .i64 t208, .slice Ao62 t209.length co62] 29 (0, 0)) (lb1_ BK212) hb)
        have n10_ := am1_ (blk_below (g := gb218) (o := .cells #[.int .i64 t213, .slice Ao72 t214.length co72] 29 (0, 0)) (lb1_ BK218) hb)
        have n11_ := am1_ (below_step (lw1_ HB) hb)
        clear HO_203001
        clear HO_208001
        clear HO_213001
        clear HO_219001
        clear BK185
        clear BK186
        clear BK202
        clear BK207
        clear BK212
        clear BK218
        clear HB
        have HO_203001 := n0_
        have HO_208001 := n1_
        have HO_213001 := n2_
        have HO_219001 := n3_
        have HO223 := n4_
        have BK185 := n5_
        have BK186 := n6_
        have BK202 := n7_
        have BK207 := n8_
        have BK212 := n9_
        have BK218 := n10_
        have HB := n11_
        clear n0_ n1_ n2_ n3_ n4_ n5_ n6_ n7_ n8_ n9_ n10_ n11_
        (try clear hb)
        (try clear hb2)
        (try clear hk)
        (try clear hi)
        (try clear ho0)
        obtain ⟨Ao99, co99, eo99⟩ := Kd.R_slice HO223.out
        (first | subst eo99 | (injection eo99 with f1_ f2_ f3_; have f4_ := f1_.symm; have f5_ := f3_.symm; clear f1_ f2_ f3_; subst f4_; subst f5_))
        refine hK.out _ _ ⟨(blk_cell BK207.out 0).trans rfl, (blk_cell BK207.out 1).trans rfl, (blk_cell BK185.out 0).trans rfl, (blk_cell BK185.out 1).trans rfl⟩ (fun hHeld => ?_)
        clear hK K
        refine norm_ (a' := ?_) ?_ ?_
        rotate_left
        ·show Act.put _ (some 56) _ = _
         simp only [Act.put, List.setIfInBounds_toArray, List.set_cons_zero, List.set_cons_succ, i64_w, i32_w]
         rfl
        refine one_ (i := 3) (N := some 57) #[true, true, true, true, false] rfl rfl (by kernel_rfl) (by decide) (fun K hK => ?_)
        refine goes_ Try.func24 (by kernel_rfl) rfl #[.agg #[.int .i64 t203, .slice Ao52 t204.length co52], .agg #[.int .i64 t220, .slice Ao99 t221.length co99]] (by rfl) rfl rfl lm1_ ?_
        with_reducible refine (laws_eqBits.calls kj24 t203 _ _ t204 t220 _ _ t221 true _ ?side1 ?side2 ?side3 ?side4 A89.out).mono ?_
        (case side1 => exact lc1_ (Kd.R_reads' HO_208001.out).2.2)
        (case side2 => exact (Kd.R_reads' HO_208001.out).2.1)
        (case side3 => exact lc1_ (Kd.R_reads' HO223.out).2.2)
        (case side4 => exact (Kd.R_reads' HO223.out).2.1)
        rintro e w100 ⟨rfl, hb⟩
        refine ⟨_, rfl, ?_⟩
        have n0_ := am1_ (Kd.R_below (lf1_ HO_203001) hb)
        have n1_ := am1_ (Kd.R_below (lf1_ HO_208001) hb)
        have n2_ := am1_ (Kd.R_below (lf1_ HO_213001) hb)
        have n3_ := am1_ (Kd.R_below (lf1_ HO_219001) hb)
        have n4_ := am1_ (Kd.R_below (lf1_ HO223) hb)
        have n5_ := am1_ (blk_below (g := gb185) (o := .cells #[.int .i64 a0_0, .slice A0_1 l0_1.length c0_1] 24 (0, 0)) (lb1_ BK185) hb)
        have n6_ := am1_ (blk_below (g := gb186) (o := .cells #[.int .i64 a1_0, .slice A1_1 l1_1.length c1_1] 24 (0, 0)) (lb1_ BK186) hb)
        have n7_ := am1_ (blk_below (g := gb202) (o := .cells #[.int .i64 t197, .slice Ao42 t198.length co42] 29 (0, 0)) (lb1_ BK202) hb)
        have n8_ := am1_ (blk_below (g := gb207) (o := .cells #[.int .i64 t203, .slice Ao52 t204.length co52] 29 (0, 0)) (lb1_ BK207) hb)
        have n9_ := am1_ (blk_below (g := gb212) (o := .cells #[.int .i64 t208, .slice Ao62 t209.length co62] 29 (0, 0)) (lb1_ BK212) hb)
        have n10_ := am1_ (blk_below (g := gb218) (o := .cells #[.int .i64 t213, .slice Ao72 t214.length co72] 29 (0, 0)) (lb1_ BK218) hb)
        have n11_ := am1_ (below_step (lw1_ HB) hb)
        clear HO_203001
        clear HO_208001
        clear HO_213001
        clear HO_219001
        clear HO223
        clear BK185
        clear BK186
        clear BK202
        clear BK207
        clear BK212
        clear BK218
        clear HB
        have HO_203001 := n0_
        have HO_208001 := n1_
        have HO_213001 := n2_
        have HO_219001 := n3_
        have HO223 := n4_
        have BK185 := n5_
        have BK186 := n6_
        have BK202 := n7_
        have BK207 := n8_
        have BK212 := n9_
        have BK218 := n10_
        have HB := n11_
        clear n0_ n1_ n2_ n3_ n4_ n5_ n6_ n7_ n8_ n9_ n10_ n11_
        (try clear hb)
        (try clear hb2)
        (try clear hk)
        (try clear hi)
        refine hK.out _ _ ⟨(blk_cell BK207.out 0).trans rfl, (blk_cell BK207.out 1).trans rfl, (blk_cell BK185.out 0).trans rfl, (blk_cell BK185.out 1).trans rfl⟩ (fun hHeld => ?_)
        clear hK K
        refine norm_ (a' := ?_) ?_ ?_
        rotate_left
        ·show Act.put _ (some 57) _ = _
         simp only [Act.put, List.setIfInBounds_toArray, List.set_cons_zero, List.set_cons_succ, i64_w, i32_w]
         rfl
        refine pure_ (i := 4) (N := some 58) (v := ?_) (a' := ?_) #[true, true, true, true, true] rfl rfl (by kernel_rfl) (fun _ _ _ h => h) (Or.inl ⟨by rfl, ?_⟩) ?_ ?_
        rotate_left
        ·intro w'
         go_simp
         with_reducible rfl
        rotate_left
        ·simp only [Act.put, List.setIfInBounds_toArray, List.set_cons_zero, List.set_cons_succ, i64_w, i32_w]
         rfl
        refine done_ (by kernel_rfl) ?_
        try go_wp2
        have n0_ := am1_ (Kd.R_drew HO_203001.out)
        have n1_ := am1_ (Kd.R_drew HO_208001.out)
        have n2_ := am1_ (Kd.R_drew HO_213001.out)
        have n3_ := am1_ (Kd.R_drew HO_219001.out)
        have n4_ := am1_ (Kd.R_drew HO223.out)
        have n5_ := am1_ (blk_drew BK185.out)
        have n6_ := am1_ (blk_drew BK186.out)
        have n7_ := am1_ (blk_drew BK202.out)
        have n8_ := am1_ (blk_drew BK207.out)
        have n9_ := am1_ (blk_drew BK212.out)
        have n10_ := am1_ (blk_drew BK218.out)
        have n11_ := am1_ (below_drew1 HB.out)
        clear HO_203001
        clear HO_208001
        clear HO_213001
        clear HO_219001
        clear HO223
        clear BK185
        clear BK186
        clear BK202
        clear BK207
        clear BK212
        clear BK218
        clear HB
        have HO_203001 := n0_
        have HO_208001 := n1_
        have HO_213001 := n2_
        have HO_219001 := n3_
        have HO223 := n4_
        have BK185 := n5_
        have BK186 := n6_
        have BK202 := n7_
        have BK207 := n8_
        have BK212 := n9_
        have BK218 := n10_
        have HB := n11_
        clear n0_ n1_ n2_ n3_ n4_ n5_ n6_ n7_ n8_ n9_ n10_ n11_
        refine start_ (n := 5) (S := fun w' => w'.cell? ⟨gb212, 0, none⟩ = some (.int .i64 t208) ∧ w'.cell? ⟨gb212, 1, none⟩ = some (.slice Ao62 t209.length co62) ∧ w'.cell? ⟨gb186, 0, none⟩ = some (.int .i64 a1_0) ∧ w'.cell? ⟨gb186, 1, none⟩ = some (.slice A1_1 l1_1.length c1_1)) (ds := []) #[false, false, false, false, false] (by kernel_rfl) rfl rfl ⟨(blk_cell BK212.out 0).trans rfl, (blk_cell BK212.out 1).trans rfl, (blk_cell BK186.out 0).trans rfl, (blk_cell BK186.out 1).trans rfl⟩ (fun hHeld => ?_)
        generalize w100.drew = w101 at HO_203001 HO_208001 HO_213001 HO_219001 HO223 BK185 BK186 BK202 BK207 BK212 BK218 HB hHeld ⊢
        refine take_ (i := 0) (N := some 59) (v := ?_) (a' := ?_) #[true, false, false, false, false] rfl rfl (by kernel_rfl) (fun _ _ _ h => h) (Or.inl ⟨by rfl, ?_⟩) hHeld ?_ ?_
        rotate_left
        ·rintro w' ⟨s0, s1, s2, s3⟩
         go_simp
         with_reducible rfl
        rotate_left
        ·simp only [Act.put, List.setIfInBounds_toArray, List.set_cons_zero, List.set_cons_succ, i64_w, i32_w]
         rfl
        refine take_ (i := 1) (N := some 60) (v := ?_) (a' := ?_) #[true, true, false, false, false] rfl rfl (by kernel_rfl) (fun _ _ _ h => h) (Or.inl ⟨by rfl, ?_⟩) hHeld ?_ ?_
        rotate_left
        ·rintro w' ⟨s0, s1, s2, s3⟩
         go_simp
         with_reducible rfl
        rotate_left
        ·simp only [Act.put, List.setIfInBounds_toArray, List.set_cons_zero, List.set_cons_succ, i64_w, i32_w]
         rfl
        refine one_ (i := 2) (N := some 61) #[true, true, true, false, false] rfl rfl (by kernel_rfl) (by decide) (fun K hK => ?_)
        refine goes_ Try.func22 (by kernel_rfl) rfl #[.agg #[.int .i64 a1_0, .slice A1_1 l1_1.length c1_1]] (by rfl) rfl rfl lm1_ ?_
        with_reducible refine (laws_toBits.calls kj24 a1_0 _ _ l1_1 t225 t226 _ ?side1 ?side2 A91.out).mono ?_
        (case side1 => exact lc1_ (Kd.C_below HR1_1.out HB.out))
        (case side2 => exact HC1_1.out)
        rintro e w102 ⟨v227, rfl, ho0, hb⟩
        refine ⟨_, rfl, ?_⟩
        have n0_ := am1_ (Kd.R_elder' (lf1_ HO_203001) (Kd.R_base ho0) hb)
        have n1_ := am1_ (Kd.R_elder' (lf1_ HO_208001) (Kd.R_base ho0) hb)
        have n2_ := am1_ (Kd.R_elder' (lf1_ HO_213001) (Kd.R_base ho0) hb)
        have n3_ := am1_ (Kd.R_elder' (lf1_ HO_219001) (Kd.R_base ho0) hb)
        have n4_ := am1_ (Kd.R_elder' (lf1_ HO223) (Kd.R_base ho0) hb)
        have n5_ := am1_ (Kd.R_lower (Kd.R_new' (Kd.R_new' (Kd.R_new' (Kd.R_new' (Kd.R_new' ho0 (Kd.R_lt (lf1_ HO_203001))) (Kd.R_lt (lf1_ HO_208001))) (Kd.R_lt (lf1_ HO_213001))) (Kd.R_lt (lf1_ HO_219001))) (Kd.R_lt (lf1_ HO223))) (below_size (lw1_ HB)))
        have n6_ := am1_ (blk_below (g := gb185) (o := .cells #[.int .i64 a0_0, .slice A0_1 l0_1.length c0_1] 24 (0, 0)) (lb1_ BK185) hb)
        have n7_ := am1_ (blk_below (g := gb186) (o := .cells #[.int .i64 a1_0, .slice A1_1 l1_1.length c1_1] 24 (0, 0)) (lb1_ BK186) hb)
        have n8_ := am1_ (blk_below (g := gb202) (o := .cells #[.int .i64 t197, .slice Ao42 t198.length co42] 29 (0, 0)) (lb1_ BK202) hb)
        have n9_ := am1_ (blk_below (g := gb207) (o := .cells #[.int .i64 t203, .slice Ao52 t204.length co52] 29 (0, 0)) (lb1_ BK207) hb)
        have n10_ := am1_ (blk_below (g := gb212) (o := .cells #[.int .i64 t208, .slice Ao62 t209.length co62] 29 (0, 0)) (lb1_ BK212) hb)
        have n11_ := am1_ (blk_below (g := gb218) (o := .cells #[.int .i64 t213, .slice Ao72 t214.length co72] 29 (0, 0)) (lb1_ BK218) hb)
        have n12_ := am1_ (below_step (lw1_ HB) hb)
        clear HO_203001
        clear HO_208001
        clear HO_213001
        clear HO_219001
        clear HO223
        clear BK185
        clear BK186
        clear BK202
        clear BK207
        clear BK212
        clear BK218
        clear HB
        have HO_203001 := n0_
        have HO_208001 := n1_
        have HO_213001 := n2_
        have HO_219001 := n3_
        have HO223 := n4_
        have HO228 := n5_
        have BK185 := n6_
        have BK186 := n7_
        have BK202 := n8_
        have BK207 := n9_
        have BK212 := n10_
        have BK218 := n11_
        have HB := n12_
        clear n0_ n1_ n2_ n3_ n4_ n5_ n6_ n7_ n8_ n9_ n10_ n11_ n12_
        (try clear hb)
        (try clear hb2)
        (try clear hk)
        (try clear hi)
        (try clear ho0)
        obtain ⟨Ao103, co103, eo103⟩ := Kd.R_slice HO228.out
        (first | subst eo103 | (injection eo103 with f1_ f2_ f3_; have f4_ := f1_.symm; have f5_ := f3_.symm; clear f1_ f2_ f3_; subst f4_; subst f5_))
        refine hK.out _ _ ⟨(blk_cell BK212.out 0).trans rfl, (blk_cell BK212.out 1).trans rfl, (blk_cell BK186.out 0).trans rfl, (blk_cell BK186.out 1).trans rfl⟩ (fun hHeld => ?_)
        clear hK K
        refine norm_ (a' := ?_) ?_ ?_
        rotate_left
        ·show Act.put _ (some 61) _ = _
         simp only [Act.put, List.setIfInBounds_toArray, List.set_cons_zero, List.set_cons_succ, i64_w, i32_w]
         rfl
        refine one_ (i := 3) (N := some 62) #[true, true, true, true, false] rfl rfl (by kernel_rfl) (by decide) (fun K hK => ?_)
        refine goes_ Try.func24 (by kernel_rfl) rfl #[.agg #[.int .i64 t208, .slice Ao62 t209.length co62], .agg #[.int .i64 t225, .slice Ao103 t226.length co103]] (by rfl) rfl rfl lm1_ ?_
        with_reducible refine (laws_eqBits.calls kj24 t208 _ _ t209 t225 _ _ t226 true _ ?side1 ?side2 ?side3 ?side4 A92.out).mono ?_
        (case side1 => exact lc1_ (Kd.R_reads' HO_213001.out).2.2)
        (case side2 => exact (Kd.R_reads' HO_213001.out).2.1)
        (case side3 => exact lc1_ (Kd.R_reads' HO228.out).2.2)
        (case side4 => exact (Kd.R_reads' HO228.out).2.1)
        rintro e w104 ⟨rfl, hb⟩
        refine ⟨_, rfl, ?_⟩
        have n0_ := am1_ (Kd.R_below (lf1_ HO_203001) hb)
        have n1_ := am1_ (Kd.R_below (lf1_ HO_208001) hb)
        have n2_ := am1_ (Kd.R_below (lf1_ HO_213001) hb)
        have n3_ := am1_ (Kd.R_below (lf1_ HO_219001) hb)
        have n4_ := am1_ (Kd.R_below (lf1_ HO223) hb)
        have n5_ := am1_ (Kd.R_below (lf1_ HO228) hb)
        have n6_ := am1_ (blk_below (g := gb185) (o := .cells #[.int .i64 a0_0, .slice A0_1 l0_1.length c0_1] 24 (0, 0)) (lb1_ BK185) hb)
        have n7_ := am1_ (blk_below (g := gb186) (o := .cells #[.int .i64 a1_0, .slice A1_1 l1_1.length c1_1] 24 (0, 0)) (lb1_ BK186) hb)
        have n8_ := am1_ (blk_below (g := gb202) (o := .cells #[.int .i64 t197, .slice Ao42 t198.length co42] 29 (0, 0)) (lb1_ BK202) hb)
        have n9_ := am1_ (blk_below (g := gb207) (o := .cells #[.int .i64 t203, .slice Ao52 t204.length co52] 29 (0, 0)) (lb1_ BK207) hb)
        have n10_ := am1_ (blk_below (g := gb212) (o := .cells #[.int .i64 t208, .slice Ao62 t209.length co62] 29 (0, 0)) (lb1_ BK212) hb)
        have n11_ := am1_ (blk_below (g := gb218) (o := .cells #[.int .i64 t213, .slice Ao72 t214.length co72] 29 (0, 0)) (lb1_ BK218) hb)
        have n12_ := am1_ (below_step (lw1_ HB) hb)
        clear HO_203001
        clear HO_208001
        clear HO_213001
        clear HO_219001
        clear HO223
        clear HO228
        clear BK185
        clear BK186
        clear BK202
        clear BK207
        clear BK212
        clear BK218
        clear HB
        have HO_203001 := n0_
        have HO_208001 := n1_
        have HO_213001 := n2_
        have HO_219001 := n3_
        have HO223 := n4_
        have HO228 := n5_
        have BK185 := n6_
        have BK186 := n7_
        have BK202 := n8_
        have BK207 := n9_
        have BK212 := n10_
        have BK218 := n11_
        have HB := n12_
        clear n0_ n1_ n2_ n3_ n4_ n5_ n6_ n7_ n8_ n9_ n10_ n11_ n12_
        (try clear hb)
        (try clear hb2)
        (try clear hk)
        (try clear hi)
        refine hK.out _ _ ⟨(blk_cell BK212.out 0).trans rfl, (blk_cell BK212.out 1).trans rfl, (blk_cell BK186.out 0).trans rfl, (blk_cell BK186.out 1).trans rfl⟩ (fun hHeld => ?_)
        clear hK K
        refine norm_ (a' := ?_) ?_ ?_
        rotate_left
        ·show Act.put _ (some 62) _ = _
         simp only [Act.put, List.setIfInBounds_toArray, List.set_cons_zero, List.set_cons_succ, i64_w, i32_w]
         rfl
        refine pure_ (i := 4) (N := some 63) (v := ?_) (a' := ?_) #[true, true, true, true, true] rfl rfl (by kernel_rfl) (fun _ _ _ h => h) (Or.inl ⟨by rfl, ?_⟩) ?_ ?_
        rotate_left
        ·intro w'
         go_simp
         with_reducible rfl
        rotate_left
        ·simp only [Act.put, List.setIfInBounds_toArray, List.set_cons_zero, List.set_cons_succ, i64_w, i32_w]
         rfl
        refine done_ (by kernel_rfl) ?_
        have hnb105 := NB207_185.out
        have hnc105 := NB185_207.out
        have hnb106 := NB207_186.out
        have hnc106 := NB186_207.out
        have hnb107 := NB207_202.out
        have hnc107 := NB202_207.out
        have hnb108 := NB207_212.out
        have hnc108 := NB212_207.out
        have hnb109 := NB207_218.out
        have hnc109 := NB218_207.out
        have hcz110_0 : w104.cell? ⟨gb207, 0, none⟩ = some (.int .i64 t203) := (blk_cell BK207.out 0).trans rfl
        have hcz110_1 : w104.cell? ⟨gb207, 1, none⟩ = some (.slice Ao52 t204.length co52) := (blk_cell BK207.out 1).trans rfl
        have hfz110_0 := blk_frozen BK207.out 0
        have hfz110_1 := blk_frozen BK207.out 1
        go_upto_region 21 with (first | ((with_reducible refine gate_callee (f := 25) rfl ?_); refine goesL_ (some 66) rfl rfl Try.func25 (by kernel_rfl) rfl #[.agg #[.int .i64 t203, .slice Ao52 t204.length co52], .int .i64 1] rfl lm1_ ?_; (with_reducible refine (laws_markBits.calls kj24 t203 (fun k_ => some k_ = (.slice Ao52 t204.length co52 : Value).ownBlock) (.slice Ao52 t204.length co52) t204 1 t230 t231 w _ ?side1 ?side2 A94.out).mono ?_); (case side1 => repeat (first | (with_reducible first | exact HB.out | apply below_alloc | apply pw_below_drewN | apply below_drew1 | refine below_set ?_ GE185.out | refine below_set ?_ GE186.out | refine below_set ?_ GE202.out | refine below_set ?_ GE207.out | refine below_set ?_ GE212.out | refine below_set ?_ GE218.out) | exact HB.out)); (case side2 => exact Kd.R_tight rfl HO_208001.out); rintro e w111 ⟨rfl, hy0, hb, hkp⟩; refine ⟨_, rfl, ?_⟩; have n0_ := am1_ (Kd.R_mono (ok' := fun k_ => some k_ ≠ (.slice Ao52 t204.length co52 : Value).ownBlock ∧ some k_ ≠ (.slice Ao62 t209.length co62 : Value).ownBlock ∧ some k_ ≠ (.slice Ao72 t214.length co72 : Value).ownBlock ∧ some k_ ≠ (.slice Ao99 t221.length co99 : Value).ownBlock ∧ some k_ ≠ (.slice Ao103 t226.length co103 : Value).ownBlock) (Kd.R_keptB (HO_203001.out) hkp (fun k_ hk_ hs_ => (hk_.1.1.1) hs_)) (fun k_ hk_ => ⟨hk_.1.1.1.1, hk_.1.1.1.2.1, hk_.1.1.1.2.2, hk_.1.1.2, hk_.1.2⟩)); have n1_ := am1_ (Kd.R_reok rfl hy0 (fun k_ e_ => HO_208001.out.1 k_ e_)); have n2_ := am1_ (Kd.R_mono (ok' := fun k_ => some k_ ≠ (.slice Ao42 t198.length co42 : Value).ownBlock ∧ some k_ ≠ (.slice Ao52 t204.length co52 : Value).ownBlock ∧ some k_ ≠ (.slice Ao72 t214.length co72 : Value).ownBlock ∧ some k_ ≠ (.slice Ao99 t221.length co99 : Value).ownBlock ∧ some k_ ≠ (.slice Ao103 t226.length co103 : Value).ownBlock) (Kd.R_keptB (HO_213001.out) hkp (fun k_ hk_ hs_ => (hk_.1.1.2.1) hs_)) (fun k_ hk_ => ⟨hk_.1.1.1.1, hk_.1.1.1.2.1, hk_.1.1.1.2.2, hk_.1.1.2, hk_.1.2⟩)); have n3_ := am1_ (Kd.R_mono (ok' := fun k_ => some k_ ≠ (.slice Ao42 t198.length co42 : Value).ownBlock ∧ some k_ ≠ (.slice Ao52 t204.length co52 : Value).ownBlock ∧ some k_ ≠ (.slice Ao62 t209.length co62 : Value).ownBlock ∧ some k_ ≠ (.slice Ao99 t221.length co99 : Value).ownBlock ∧ some k_ ≠ (.slice Ao103 t226.length co103 : Value).ownBlock) (Kd.R_keptB (HO_219001.out) hkp (fun k_ hk_ hs_ => (hk_.1.1.2.1) hs_)) (fun k_ hk_ => ⟨hk_.1.1.1.1, hk_.1.1.1.2.1, hk_.1.1.1.2.2, hk_.1.1.2, hk_.1.2⟩)); have n4_ := am1_ (blk_kept (lb1_ BK185) hkp (fun hs_ => (fun e_ => (Kd.R_ne HO_208001.out BK185.out (by decide)) e_) hs_)); have n5_ := am1_ (blk_kept (lb1_ BK186) hkp (fun hs_ => (fun e_ => (Kd.R_ne HO_208001.out BK186.out (by decide)) e_) hs_)); have n6_ := am1_ (blk_kept (lb1_ BK202) hkp (fun hs_ => (fun e_ => (Kd.R_ne HO_208001.out BK202.out (by decide)) e_) hs_)); have n7_ := am1_ (blk_kept (lb1_ BK207) hkp (fun hs_ => (fun e_ => (Kd.R_ne HO_208001.out BK207.out (by decide)) e_) hs_)); have n8_ := am1_ (blk_kept (lb1_ BK212) hkp (fun hs_ => (fun e_ => (Kd.R_ne HO_208001.out BK212.out (by decide)) e_) hs_)); have n9_ := am1_ (blk_kept (lb1_ BK218) hkp (fun hs_ => (fun e_ => (Kd.R_ne HO_208001.out BK218.out (by decide)) e_) hs_)); have n10_ := am1_ (Kd.R_mono (ok' := fun k_ => some k_ ≠ (.slice Ao42 t198.length co42 : Value).ownBlock ∧ some k_ ≠ (.slice Ao52 t204.length co52 : Value).ownBlock ∧ some k_ ≠ (.slice Ao62 t209.length co62 : Value).ownBlock ∧ some k_ ≠ (.slice Ao72 t214.length co72 : Value).ownBlock ∧ some k_ ≠ (.slice Ao103 t226.length co103 : Value).ownBlock) (Kd.R_keptB (HO223.out) hkp (fun k_ hk_ hs_ => (hk_.1.1.1.2) hs_)) (fun k_ hk_ => ⟨hk_.1.1.1.1.1.2, hk_.1.1.1.1.2, hk_.1.1.1.2, hk_.1.1.2, hk_.1.2⟩)); have n11_ := am1_ (Kd.R_mono (ok' := fun k_ => some k_ ≠ (.slice Ao42 t198.length co42 : Value).ownBlock ∧ some k_ ≠ (.slice Ao52 t204.length co52 : Value).ownBlock ∧ some k_ ≠ (.slice Ao62 t209.length co62 : Value).ownBlock ∧ some k_ ≠ (.slice Ao72 t214.length co72 : Value).ownBlock ∧ some k_ ≠ (.slice Ao99 t221.length co99 : Value).ownBlock) (Kd.R_keptB (HO228.out) hkp (fun k_ hk_ hs_ => (hk_.1.1.1.2) hs_)) (fun k_ hk_ => ⟨hk_.1.1.1.1.1.2, hk_.1.1.1.1.2, hk_.1.1.1.2, hk_.1.1.2, hk_.1.2⟩)); have n12_ := am1_ (hb); clear HO_203001; clear HO_208001; clear HO_213001; clear HO_219001; clear BK185; clear BK186; clear BK202; clear BK207; clear BK212; clear BK218; clear HO223; clear HO228; clear HB; have HO_203001 := n0_; have HO_208001 := n1_; have HO_213001 := n2_; have HO_219001 := n3_; have BK185 := n4_; have BK186 := n5_; have BK202 := n6_; have BK207 := n7_; have BK212 := n8_; have BK218 := n9_; have HO223 := n10_; have HO228 := n11_; have HB := n12_; clear n0_ n1_ n2_ n3_ n4_ n5_ n6_ n7_ n8_ n9_ n10_ n11_ n12_; (try clear hb); (try clear hkp); (try clear hy0); have hnb112 := NB212_185.out; have hnc112 := NB185_212.out; have hnb113 := NB212_186.out; have hnc113 := NB186_212.out; have hnb114 := NB212_202.out; have hnc114 := NB202_212.out; have hnb115 := NB212_218.out; have hnc115 := NB218_212.out; have hcz116_0 : w111.cell? ⟨gb212, 0, none⟩ = some (.int .i64 t208) := (blk_cell BK212.out 0).trans rfl; have hcz116_1 : w111.cell? ⟨gb212, 1, none⟩ = some (.slice Ao62 t209.length co62) := (blk_cell BK212.out 1).trans rfl; have hfz116_0 := blk_frozen BK212.out 0; have hfz116_1 := blk_frozen BK212.out 1) | ((with_reducible refine gate_callee (f := 25) rfl ?_); refine goesL_ (some 69) rfl rfl Try.func25 (by kernel_rfl) rfl #[.agg #[.int .i64 t208, .slice Ao62 t209.length co62], .int .i64 t230] rfl lm1_ ?_; (with_reducible refine (laws_markBits.calls kj24 t208 (fun k_ => some k_ = (.slice Ao62 t209.length co62 : Value).ownBlock) (.slice Ao62 t209.length co62) t209 t230 t232 t233 w _ ?side1 ?side2 A95.out).mono ?_); (case side1 => repeat (first | (with_reducible first | exact HB.out | apply below_alloc | apply pw_below_drewN | apply below_drew1 | refine below_set ?_ GE185.out | refine below_set ?_ GE186.out | refine below_set ?_ GE202.out | refine below_set ?_ GE207.out | refine below_set ?_ GE212.out | refine below_set ?_ GE218.out) | exact HB.out)); (case side2 => exact Kd.R_tight rfl HO_213001.out); rintro e w117 ⟨rfl, hy0, hb, hkp⟩; refine ⟨_, rfl, ?_⟩; have n0_ := am1_ (Kd.R_mono (ok' := fun k_ => some k_ ≠ (.slice Ao52 t204.length co52 : Value).ownBlock ∧ some k_ ≠ (.slice Ao62 t209.length co62 : Value).ownBlock ∧ some k_ ≠ (.slice Ao72 t214.length co72 : Value).ownBlock ∧ some k_ ≠ (.slice Ao99 t221.length co99 : Value).ownBlock ∧ some k_ ≠ (.slice Ao103 t226.length co103 : Value).ownBlock) (Kd.R_keptB (HO_203001.out) hkp (fun k_ hk_ hs_ => (hk_.2.1) hs_)) (fun k_ hk_ => ⟨hk_.1.1, hk_.1.2.1, hk_.1.2.2.1, hk_.1.2.2.2.1, hk_.1.2.2.2.2⟩)); have n1_ := am1_ (Kd.R_mono (ok' := fun k_ => some k_ ≠ (.slice Ao42 t198.length co42 : Value).ownBlock ∧ some k_ ≠ (.slice Ao62 t209.length co62 : Value).ownBlock ∧ some k_ ≠ (.slice Ao72 t214.length co72 : Value).ownBlock ∧ some k_ ≠ (.slice Ao99 t221.length co99 : Value).ownBlock ∧ some k_ ≠ (.slice Ao103 t226.length co103 : Value).ownBlock) (Kd.R_keptB (HO_208001.out) hkp (fun k_ hk_ hs_ => (hk_.1.1.2.1) hs_)) (fun k_ hk_ => ⟨hk_.1.1.1.1, hk_.1.1.1.2.1, hk_.1.1.1.2.2, hk_.1.1.2, hk_.1.2⟩)); have n2_ := am1_ (Kd.R_reok rfl hy0 (fun k_ e_ => HO_213001.out.1 k_ e_)); have n3_ := am1_ (Kd.R_mono (ok' := fun k_ => some k_ ≠ (.slice Ao42 t198.length co42 : Value).ownBlock ∧ some k_ ≠ (.slice Ao52 t204.length co52 : Value).ownBlock ∧ some k_ ≠ (.slice Ao62 t209.length co62 : Value).ownBlock ∧ some k_ ≠ (.slice Ao99 t221.length co99 : Value).ownBlock ∧ some k_ ≠ (.slice Ao103 t226.length co103 : Value).ownBlock) (Kd.R_keptB (HO_219001.out) hkp (fun k_ hk_ hs_ => (hk_.2.2.1) hs_)) (fun k_ hk_ => ⟨hk_.1.1, hk_.1.2.1, hk_.1.2.2.1, hk_.1.2.2.2.1, hk_.1.2.2.2.2⟩)); have n4_ := am1_ (blk_kept (lb1_ BK185) hkp (fun hs_ => (fun e_ => (Kd.R_ne HO_213001.out BK185.out (by decide)) e_) hs_)); have n5_ := am1_ (blk_kept (lb1_ BK186) hkp (fun hs_ => (fun e_ => (Kd.R_ne HO_213001.out BK186.out (by decide)) e_) hs_)); have n6_ := am1_ (blk_kept (lb1_ BK202) hkp (fun hs_ => (fun e_ => (Kd.R_ne HO_213001.out BK202.out (by decide)) e_) hs_)); have n7_ := am1_ (blk_kept (lb1_ BK207) hkp (fun hs_ => (fun e_ => (Kd.R_ne HO_213001.out BK207.out (by decide)) e_) hs_)); have n8_ := am1_ (blk_kept (lb1_ BK212) hkp (fun hs_ => (fun e_ => (Kd.R_ne HO_213001.out BK212.out (by decide)) e_) hs_)); have n9_ := am1_ (blk_kept (lb1_ BK218) hkp (fun hs_ => (fun e_ => (Kd.R_ne HO_213001.out BK218.out (by decide)) e_) hs_)); have n10_ := am1_ (Kd.R_mono (ok' := fun k_ => some k_ ≠ (.slice Ao42 t198.length co42 : Value).ownBlock ∧ some k_ ≠ (.slice Ao52 t204.length co52 : Value).ownBlock ∧ some k_ ≠ (.slice Ao62 t209.length co62 : Value).ownBlock ∧ some k_ ≠ (.slice Ao72 t214.length co72 : Value).ownBlock ∧ some k_ ≠ (.slice Ao103 t226.length co103 : Value).ownBlock) (Kd.R_keptB (HO223.out) hkp (fun k_ hk_ hs_ => (hk_.2.2.1) hs_)) (fun k_ hk_ => ⟨hk_.1.1, hk_.1.2.1, hk_.1.2.2.1, hk_.1.2.2.2.1, hk_.1.2.2.2.2⟩)); have n11_ := am1_ (Kd.R_mono (ok' := fun k_ => some k_ ≠ (.slice Ao42 t198.length co42 : Value).ownBlock ∧ some k_ ≠ (.slice Ao52 t204.length co52 : Value).ownBlock ∧ some k_ ≠ (.slice Ao62 t209.length co62 : Value).ownBlock ∧ some k_ ≠ (.slice Ao72 t214.length co72 : Value).ownBlock ∧ some k_ ≠ (.slice Ao99 t221.length co99 : Value).ownBlock) (Kd.R_keptB (HO228.out) hkp (fun k_ hk_ hs_ => (hk_.2.2.1) hs_)) (fun k_ hk_ => ⟨hk_.1.1, hk_.1.2.1, hk_.1.2.2.1, hk_.1.2.2.2.1, hk_.1.2.2.2.2⟩)); have n12_ := am1_ (hb); clear HO_203001; clear HO_208001; clear HO_213001; clear HO_219001; clear BK185; clear BK186; clear BK202; clear BK207; clear BK212; clear BK218; clear HO223; clear HO228; clear HB; have HO_203001 := n0_; have HO_208001 := n1_; have HO_213001 := n2_; have HO_219001 := n3_; have BK185 := n4_; have BK186 := n5_; have BK202 := n6_; have BK207 := n7_; have BK212 := n8_; have BK218 := n9_; have HO223 := n10_; have HO228 := n11_; have HB := n12_; clear n0_ n1_ n2_ n3_ n4_ n5_ n6_ n7_ n8_ n9_ n10_ n11_ n12_; (try clear hb); (try clear hkp); (try clear hy0)))
        (try simp only [Act.put, List.setIfInBounds_toArray, List.set_cons_zero, List.set_cons_succ])
        go_cut [82] (fun v82 wc => ∃ (kq : Nat) (x82_95 : Bool), v82 = .bool x82_95 ∧ Aside0 (laws_FnExactXorBits.j1 kq t201 x82_95 a0_0 l0_1 a1_0 l1_1 t197 t198 t213 t214 = some r) ∧ Aside0 (kq ≤ kj24) ∧ Aside0 (Kd.R (Kd.int .i64) 3 wc w.heap.size (fun k_ => some k_ ≠ ((.slice Ao52 t204.length co52) : Value).ownBlock ∧ some k_ ≠ ((.slice Ao62 t209.length co62) : Value).ownBlock ∧ some k_ ≠ ((.slice Ao72 t214.length co72) : Value).ownBlock) (.slice Ao42 t198.length co42) t198) ∧ Aside0 (Kd.R (Kd.int .i64) 3 wc w.heap.size (fun k_ => some k_ ≠ ((.slice Ao42 t198.length co42) : Value).ownBlock ∧ some k_ ≠ ((.slice Ao62 t209.length co62) : Value).ownBlock ∧ some k_ ≠ ((.slice Ao72 t214.length co72) : Value).ownBlock) (.slice Ao52 t204.length co52) t231) ∧ Aside0 (Kd.R (Kd.int .i64) 3 wc w.heap.size (fun k_ => some k_ ≠ ((.slice Ao42 t198.length co42) : Value).ownBlock ∧ some k_ ≠ ((.slice Ao52 t204.length co52) : Value).ownBlock ∧ some k_ ≠ ((.slice Ao72 t214.length co72) : Value).ownBlock) (.slice Ao62 t209.length co62) t233) ∧ Aside0 (Kd.R (Kd.int .i64) 3 wc w.heap.size (fun k_ => some k_ ≠ ((.slice Ao42 t198.length co42) : Value).ownBlock ∧ some k_ ≠ ((.slice Ao52 t204.length co52) : Value).ownBlock ∧ some k_ ≠ ((.slice Ao62 t209.length co62) : Value).ownBlock) (.slice Ao72 t214.length co72) t214) ∧ Aside0 (wc.heap[gb185]? = some (.cells #[.int .i64 a0_0, (.slice A0_1 l0_1.length c0_1)] 24 (0, 0))) ∧ Aside0 (wc.heap[gb186]? = some (.cells #[.int .i64 a1_0, (.slice A1_1 l1_1.length c1_1)] 24 (0, 0))) ∧ Aside0 (wc.heap[gb202]? = some (.cells #[.int .i64 t197, (.slice Ao42 t198.length co42)] 29 (0, 0))) ∧ Aside0 (wc.heap[gb207]? = some (.cells #[.int .i64 t203, (.slice Ao52 t204.length co52)] 29 (0, 0))) ∧ Aside0 (wc.heap[gb212]? = some (.cells #[.int .i64 t208, (.slice Ao62 t209.length co62)] 29 (0, 0))) ∧ Aside0 (wc.heap[gb218]? = some (.cells #[.int .i64 t213, (.slice Ao72 t214.length co72)] 29 (0, 0))) ∧ Aside0 (Below w.heap.size w wc))
        case first =>
         have H := HC96.out
         clear HC96
         by_cases c118 : t232 < 0
         ·rw [if_pos c118] at H
          exact absurd H (by simp)
         ·rw [if_neg c118] at H
          have c118b0 : decide (t232 < 0) = false := decide_eq_false c118
          clear c118
          (first | rw [c118b0] | (simp only [i64_w, i32_w]; rw [c118b0]) | skip)
          replace H := Option.bind_eq_some_iff.mp H
          obtain ⟨t234, A1190, H⟩ := H
          replace H : (if t234 = true then (laws_FnExactXorBits.j1 kj24 t201 (t217 != t201) a0_0 l0_1 a1_0 l1_1 t197 t198 t213 t214) else (none)) = some r := H
          have A119 := am1_ A1190
          clear A1190
          by_cases c120 : t234 = true
          ·subst c120
           have H1 : (laws_FnExactXorBits.j1 kj24 t201 (t217 != t201) a0_0 l0_1 a1_0 l1_1 t197 t198 t213 t214) = some r := by rw [if_pos rfl] at H; exact H
           clear H
           have H := H1
           clear H1
           have H' := am1_ H
           clear H
           have hnb121 := NB218_185.out
           have hnc121 := NB185_218.out
           have hnb122 := NB218_186.out
           have hnc122 := NB186_218.out
           have hnb123 := NB218_202.out
           have hnc123 := NB202_218.out
           have hnb124 := NB218_207.out
           have hnc124 := NB207_218.out
           have hnb125 := NB218_212.out
           have hnc125 := NB212_218.out
           have hcz126_0 : w117.cell? ⟨gb218, 0, none⟩ = some (.int .i64 t213) := (blk_cell BK218.out 0).trans rfl
           have hcz126_1 : w117.cell? ⟨gb218, 1, none⟩ = some (.slice Ao72 t214.length co72) := (blk_cell BK218.out 1).trans rfl
           have hfz126_0 := blk_frozen BK218.out 0
           have hfz126_1 := blk_frozen BK218.out 1
           have hnb127 := NB202_185.out
           have hnc127 := NB185_202.out
           have hnb128 := NB202_186.out
           have hnc128 := NB186_202.out
           have hnb129 := NB202_207.out
           have hnc129 := NB207_202.out
           have hnb130 := NB202_212.out
           have hnc130 := NB212_202.out
           have hcz131_0 : w117.cell? ⟨gb202, 0, none⟩ = some (.int .i64 t197) := (blk_cell BK202.out 0).trans rfl
           have hcz131_1 : w117.cell? ⟨gb202, 1, none⟩ = some (.slice Ao42 t198.length co42) := (blk_cell BK202.out 1).trans rfl
           have hfz131_0 := blk_frozen BK202.out 0
           have hfz131_1 := blk_frozen BK202.out 1
           go_wp2_with (first | (go_at_call 24; (with_reducible refine (laws_eqBits.calls kj24 t213 _ _ t214 t197 _ _ t198 true _ ?side1 ?side2 ?side3 ?side4 A119.out).mono ?_); (case side1 => exact lc1_ (Kd.R_reads' HO_219001.out).2.2); (case side2 => exact (Kd.R_reads' HO_219001.out).2.1); (case side3 => exact lc1_ (Kd.R_reads' HO_203001.out).2.2); (case side4 => exact (Kd.R_reads' HO_203001.out).2.1); rintro e w132 ⟨rfl, hb⟩; have n0_ := am1_ (Kd.R_below (lf1_ HO_203001) hb); have n1_ := am1_ (Kd.R_below (lf1_ HO_208001) hb); have n2_ := am1_ (Kd.R_below (lf1_ HO_213001) hb); have n3_ := am1_ (Kd.R_below (lf1_ HO_219001) hb); have n4_ := am1_ (Kd.R_below (lf1_ HO223) hb); have n5_ := am1_ (Kd.R_below (lf1_ HO228) hb); have n6_ := am1_ (blk_below (g := gb185) (o := .cells #[.int .i64 a0_0, .slice A0_1 l0_1.length c0_1] 24 (0, 0)) (lb1_ BK185) hb); have n7_ := am1_ (blk_below (g := gb186) (o := .cells #[.int .i64 a1_0, .slice A1_1 l1_1.length c1_1] 24 (0, 0)) (lb1_ BK186) hb); have n8_ := am1_ (blk_below (g := gb202) (o := .cells #[.int .i64 t197, .slice Ao42 t198.length co42] 29 (0, 0)) (lb1_ BK202) hb); have n9_ := am1_ (blk_below (g := gb207) (o := .cells #[.int .i64 t203, .slice Ao52 t204.length co52] 29 (0, 0)) (lb1_ BK207) hb); have n10_ := am1_ (blk_below (g := gb212) (o := .cells #[.int .i64 t208, .slice Ao62 t209.length co62] 29 (0, 0)) (lb1_ BK212) hb); have n11_ := am1_ (blk_below (g := gb218) (o := .cells #[.int .i64 t213, .slice Ao72 t214.length co72] 29 (0, 0)) (lb1_ BK218) hb); have n12_ := am1_ (below_step (lw1_ HB) hb); clear HO_203001; clear HO_208001; clear HO_213001; clear HO_219001; clear HO223; clear HO228; clear BK185; clear BK186; clear BK202; clear BK207; clear BK212; clear BK218; clear HB; have HO_203001 := n0_; have HO_208001 := n1_; have HO_213001 := n2_; have HO_219001 := n3_; have HO223 := n4_; have HO228 := n5_; have BK185 := n6_; have BK186 := n7_; have BK202 := n8_; have BK207 := n9_; have BK212 := n10_; have BK218 := n11_; have HB := n12_; clear n0_ n1_ n2_ n3_ n4_ n5_ n6_ n7_ n8_ n9_ n10_ n11_ n12_; (try clear hb); (try clear hb2); (try clear hk); (try clear hi)))
           go_meet
           case rel => exact ⟨_, ((t217 != t201)), (by first | rfl | (simp; done) | (simp [*]; done)), H', ⟨by have := HJ24.out; first | omega | exact Nat.le_refl _⟩, ⟨by (with_reducible repeat (first | apply Kd.R_alloc | apply Kd.R_drewN | apply Kd.R_drew)); exact Kd.R_mono HO_203001.out (fun _ hk => ⟨hk.1, ⟨hk.2.1, hk.2.2.1⟩⟩)⟩, ⟨by (with_reducible repeat (first | apply Kd.R_alloc | apply Kd.R_drewN | apply Kd.R_drew)); exact Kd.R_mono HO_208001.out (fun _ hk => ⟨hk.1, ⟨hk.2.1, hk.2.2.1⟩⟩)⟩, ⟨by (with_reducible repeat (first | apply Kd.R_alloc | apply Kd.R_drewN | apply Kd.R_drew)); exact Kd.R_mono HO_213001.out (fun _ hk => ⟨hk.1, ⟨hk.2.1, hk.2.2.1⟩⟩)⟩, ⟨by (with_reducible repeat (first | apply Kd.R_alloc | apply Kd.R_drewN | apply Kd.R_drew)); exact Kd.R_mono HO_219001.out (fun _ hk => ⟨hk.1, ⟨hk.2.1, hk.2.2.1⟩⟩)⟩, ⟨lb1_ BK185⟩, ⟨lb1_ BK186⟩, ⟨lb1_ BK202⟩, ⟨lb1_ BK207⟩, ⟨lb1_ BK212⟩, ⟨lb1_ BK218⟩, ⟨lw1_ HB⟩⟩
          ·replace c120 := Bool.eq_false_iff.mpr c120
           subst c120
           have H1 : (none) = some r := by rw [if_neg (show ¬ (false = true) by decide)] at H; exact H
           clear H
           have H := H1
           clear H1
           exact absurd H (by simp)
        case rest =>
         clear HC96
         try clear c1
         try clear c2
         try clear p2
         try clear c4
         try clear c5
         try clear c6
         try clear c7
         try clear c8
         try clear c9
         try clear c10
         try clear c11
         try clear c12
         try clear c13
         try clear c22
         try clear c24
         try clear c25
         try clear c44
         try clear c47
         try clear c48
         try clear c49
         try clear c50
         try clear c53
         try clear c57
         try clear c58
         try clear c59
         try clear c60
         try clear c66
         try clear c67
         try clear c68
         try clear c69
         try clear c70
         try clear c74
         try clear c75
         try clear c76
         try clear c77
         try clear c78
         try clear c79
         try clear c81
         try clear c82
         try clear c83
         try clear c84
         try clear c87
         try clear c90
         try clear c93
         try clear c105
         try clear c106
         try clear c107
         try clear c108
         try clear c109
         try clear c112
         try clear c113
         try clear c114
         try clear c115
         try clear c118
         try clear c118b0
         try clear c120
         try clear c121
         try clear c122
         try clear c123
         try clear c124
         try clear c125
         try clear c127
         try clear c128
         try clear c129
         try clear c130
         try clear hcz110_0
         try clear hcz110_1
         try clear hcz116_0
         try clear hcz116_1
         try clear hcz126_0
         try clear hcz126_1
         try clear hcz131_0
         try clear hcz131_1
         try clear hcz45_0
         try clear hcz45_1
         try clear hcz51_0
         try clear hcz51_1
         try clear hcz54_0
         try clear hcz54_1
         try clear hcz61_0
         try clear hcz61_1
         try clear hcz63_0
         try clear hcz63_1
         try clear hcz71_0
         try clear hcz71_1
         try clear hcz80_0
         try clear hcz80_1
         try clear hcz85_0
         try clear hcz85_1
         try clear hfz110_0
         try clear hfz110_1
         try clear hfz116_0
         try clear hfz116_1
         try clear hfz126_0
         try clear hfz126_1
         try clear hfz131_0
         try clear hfz131_1
         try clear hfz45_0
         try clear hfz45_1
         try clear hfz51_0
         try clear hfz51_1
         try clear hfz54_0
         try clear hfz54_1
         try clear hfz61_0
         try clear hfz61_1
         try clear hfz63_0
         try clear hfz63_1
         try clear hfz71_0
         try clear hfz71_1
         try clear hfz80_0
         try clear hfz80_1
         try clear hfz85_0
         try clear hfz85_1
         try clear p2
         obtain ⟨kq, x82_95, rfl, HA, HJ95, HO_203001, HO_208001, HO_213001, HO_219001, BK185, BK186, BK202, BK207, BK212, BK218, HB⟩ := hcut
         have hl208001_95 := (Kd.R_reads' HO_208001.out).1
         rw [hl208001_95] at HO_208001
         (try simp only [hl208001_95])
         (try simp only [hl208001_95] at BK185)
         (try simp only [hl208001_95] at BK186)
         (try simp only [hl208001_95] at BK202)
         (try simp only [hl208001_95] at BK207)
         (try simp only [hl208001_95] at BK212)
         (try simp only [hl208001_95] at BK218)
         (try simp only [hl208001_95] at HO_203001)
         (try simp only [hl208001_95] at HO_213001)
         (try simp only [hl208001_95] at HO_219001)
         have hl213001_95 := (Kd.R_reads' HO_213001.out).1
         rw [hl213001_95] at HO_213001
         (try simp only [hl213001_95])
         (try simp only [hl213001_95] at BK185)
         (try simp only [hl213001_95] at BK186)
         (try simp only [hl213001_95] at BK202)
         (try simp only [hl213001_95] at BK207)
         (try simp only [hl213001_95] at BK212)
         (try simp only [hl213001_95] at BK218)
         (try simp only [hl213001_95] at HO_203001)
         (try simp only [hl213001_95] at HO_208001)
         (try simp only [hl213001_95] at HO_219001)
         cases kq with
         | zero => exact absurd HA.out (by simp [laws_FnExactXorBits.j1])
         | succ kj95 =>
          have H := HA.out
          clear HA
          simp only [laws_FnExactXorBits.j1] at H
          by_cases c133 : x82_95 = true
          ·subst c133
           have H1 : (none) = some r := by rw [if_pos rfl] at H; exact H
           clear H
           have H := H1
           clear H1
           exact absurd H (by simp)
          ·replace c133 := Bool.eq_false_iff.mpr c133
           subst c133
           have H1 : ((laws_markBits.f kj95 t213 t214 1).bind fun bt235 => ((laws_heldBits.f kj95 t213 bt235.2 1).bind fun t237 => (if t237 < 0 then (none) else (if t237 = bt235.1 then ((laws_toBits.f kj95 a0_0 l0_1).bind fun bt238 => ((laws_toBits.f kj95 a1_0 l1_1).bind fun bt242 => ((impl_XorBits.f kj95 bt238.1 bt238.2 bt242.1 bt242.2).bind fun bt246 => ((laws_eqBits.f kj95 bt246.1 bt246.2.1 t197 t198).bind fun t252 => (if t252 = true then (laws_FnExactXorBits.j2 kj95 bt235.1 (bt246.2.2 != t201) t213 bt235.2) else (none)))))) else (none))))) = some r := by rw [if_neg (show ¬ (false = true) by decide)] at H; exact H
           clear H
           have H := H1
           clear H1
           replace H := Option.bind_eq_some_iff.mp H
           obtain ⟨⟨t235, t236⟩, A1340, H⟩ := H
           replace H : ((laws_heldBits.f kj95 t213 t236 1).bind fun t237 => (if t237 < 0 then (none) else (if t237 = t235 then ((laws_toBits.f kj95 a0_0 l0_1).bind fun bt238 => ((laws_toBits.f kj95 a1_0 l1_1).bind fun bt242 => ((impl_XorBits.f kj95 bt238.1 bt238.2 bt242.1 bt242.2).bind fun bt246 => ((laws_eqBits.f kj95 bt246.1 bt246.2.1 t197 t198).bind fun t252 => (if t252 = true then (laws_FnExactXorBits.j2 kj95 t235 (bt246.2.2 != t201) t213 t236) else (none)))))) else (none)))) = some r := H
           have A134 := am1_ A1340
           clear A1340
           replace H := Option.bind_eq_some_iff.mp H
           obtain ⟨t237, A1350, H⟩ := H
           replace H : (if t237 < 0 then (none) else (if t237 = t235 then ((laws_toBits.f kj95 a0_0 l0_1).bind fun bt238 => ((laws_toBits.f kj95 a1_0 l1_1).bind fun bt242 => ((impl_XorBits.f kj95 bt238.1 bt238.2 bt242.1 bt242.2).bind fun bt246 => ((laws_eqBits.f kj95 bt246.1 bt246.2.1 t197 t198).bind fun t252 => (if t252 = true then (laws_FnExactXorBits.j2 kj95 t235 (bt246.2.2 != t201) t213 t236) else (none)))))) else (none))) = some r := H
           have A135 := am1_ A1350
           clear A1350
           by_cases c136 : t237 < 0
           ·rw [if_pos c136] at H
            exact absurd H (by simp)
           ·rw [if_neg c136] at H
            have c136b0 : decide (t237 < 0) = false := decide_eq_false c136
            clear c136
            by_cases c137 : t237 = t235
            ·rw [if_pos c137] at H
             have c137b0 : (t237 == t235) = true := beq_iff_eq.mpr c137
             have c137b1 : (t237 != t235) = false := bne_eq_false_iff_eq.mpr c137
             clear c137
             replace H := Option.bind_eq_some_iff.mp H
             obtain ⟨⟨t238, t239⟩, A1380, H⟩ := H
             replace H : ((laws_toBits.f kj95 a1_0 l1_1).bind fun bt242 => ((impl_XorBits.f kj95 t238 t239 bt242.1 bt242.2).bind fun bt246 => ((laws_eqBits.f kj95 bt246.1 bt246.2.1 t197 t198).bind fun t252 => (if t252 = true then (laws_FnExactXorBits.j2 kj95 t235 (bt246.2.2 != t201) t213 t236) else (none))))) = some r := H
             have A138 := am1_ A1380
             clear A1380
             replace H := Option.bind_eq_some_iff.mp H
             obtain ⟨⟨t242, t243⟩, A1390, H⟩ := H
             replace H : ((impl_XorBits.f kj95 t238 t239 t242 t243).bind fun bt246 => ((laws_eqBits.f kj95 bt246.1 bt246.2.1 t197 t198).bind fun t252 => (if t252 = true then (laws_FnExactXorBits.j2 kj95 t235 (bt246.2.2 != t201) t213 t236) else (none)))) = some r := H
             have A139 := am1_ A1390
             clear A1390
             replace H := Option.bind_eq_some_iff.mp H
             obtain ⟨⟨t246, t247, t250⟩, A1400, H⟩ := H
             replace H : ((laws_eqBits.f kj95 t246 t247 t197 t198).bind fun t252 => (if t252 = true then (laws_FnExactXorBits.j2 kj95 t235 (t250 != t201) t213 t236) else (none))) = some r := H
             have A140 := am1_ A1400
             clear A1400
             have HC141 := am1_ H
             clear H
             have hnb142 := NB218_185.out
             have hnc142 := NB185_218.out
             have hnb143 := NB218_186.out
             have hnc143 := NB186_218.out
             have hnb144 := NB218_202.out
             have hnc144 := NB202_218.out
             have hnb145 := NB218_207.out
             have hnc145 := NB207_218.out
             have hnb146 := NB218_212.out
             have hnc146 := NB212_218.out
             have hcz147_0 : wc.cell? ⟨gb218, 0, none⟩ = some (.int .i64 t213) := (blk_cell BK218.out 0).trans rfl
             have hcz147_1 : wc.cell? ⟨gb218, 1, none⟩ = some (.slice Ao72 t214.length co72) := (blk_cell BK218.out 1).trans rfl
             have hfz147_0 := blk_frozen BK218.out 0
             have hfz147_1 := blk_frozen BK218.out 1
             try go_wp2_with (first | ((with_reducible refine gate_callee (f := 25) rfl ?_); refine goesL_ (some 85) rfl rfl Try.func25 (by kernel_rfl) rfl #[.agg #[.int .i64 t213, .slice Ao72 t214.length co72], .int .i64 1] rfl lm1_ ?_; (with_reducible refine (laws_markBits.calls kj95 t213 (fun k_ => some k_ = (.slice Ao72 t214.length co72 : Value).ownBlock) (.slice Ao72 t214.length co72) t214 1 t235 t236 w _ ?side1 ?side2 A134.out).mono ?_); (case side1 => repeat (first | (with_reducible first | exact HB.out | apply below_alloc | apply pw_below_drewN | apply below_drew1 | refine below_set ?_ GE185.out | refine below_set ?_ GE186.out | refine below_set ?_ GE202.out | refine below_set ?_ GE207.out | refine below_set ?_ GE212.out | refine below_set ?_ GE218.out) | exact HB.out)); (case side2 => exact Kd.R_tight rfl HO_219001.out); rintro e w148 ⟨rfl, hy0, hb, hkp⟩; refine ⟨_, rfl, ?_⟩; have n0_ := am1_ (Kd.R_mono (ok' := fun k_ => some k_ ≠ (.slice Ao52 t231.length co52 : Value).ownBlock ∧ some k_ ≠ (.slice Ao62 t233.length co62 : Value).ownBlock ∧ some k_ ≠ (.slice Ao72 t214.length co72 : Value).ownBlock) (Kd.R_keptB (HO_203001.out) hkp (fun k_ hk_ hs_ => (hk_.2.2) hs_)) (fun k_ hk_ => ⟨hk_.1.1, hk_.1.2.1, hk_.1.2.2⟩)); have n1_ := am1_ (Kd.R_mono (ok' := fun k_ => some k_ ≠ (.slice Ao42 t198.length co42 : Value).ownBlock ∧ some k_ ≠ (.slice Ao62 t233.length co62 : Value).ownBlock ∧ some k_ ≠ (.slice Ao72 t214.length co72 : Value).ownBlock) (Kd.R_keptB (HO_208001.out) hkp (fun k_ hk_ hs_ => (hk_.2.2) hs_)) (fun k_ hk_ => ⟨hk_.1.1, hk_.1.2.1, hk_.1.2.2⟩)); have n2_ := am1_ (Kd.R_mono (ok' := fun k_ => some k_ ≠ (.slice Ao42 t198.length co42 : Value).ownBlock ∧ some k_ ≠ (.slice Ao52 t231.length co52 : Value).ownBlock ∧ some k_ ≠ (.slice Ao72 t214.length co72 : Value).ownBlock) (Kd.R_keptB (HO_213001.out) hkp (fun k_ hk_ hs_ => (hk_.2.2) hs_)) (fun k_ hk_ => ⟨hk_.1.1, hk_.1.2.1, hk_.1.2.2⟩)); have n3_ := am1_ (Kd.R_reok rfl hy0 (fun k_ e_ => HO_219001.out.1 k_ e_)); have n4_ := am1_ (blk_kept (lb1_ BK185) hkp (fun hs_ => (fun e_ => (Kd.R_ne HO_219001.out BK185.out (by decide)) e_) hs_)); have n5_ := am1_ (blk_kept (lb1_ BK186) hkp (fun hs_ => (fun e_ => (Kd.R_ne HO_219001.out BK186.out (by decide)) e_) hs_)); have n6_ := am1_ (blk_kept (lb1_ BK202) hkp (fun hs_ => (fun e_ => (Kd.R_ne HO_219001.out BK202.out (by decide)) e_) hs_)); have n7_ := am1_ (blk_kept (lb1_ BK207) hkp (fun hs_ => (fun e_ => (Kd.R_ne HO_219001.out BK207.out (by decide)) e_) hs_)); have n8_ := am1_ (blk_kept (lb1_ BK212) hkp (fun hs_ => (fun e_ => (Kd.R_ne HO_219001.out BK212.out (by decide)) e_) hs_)); have n9_ := am1_ (blk_kept (lb1_ BK218) hkp (fun hs_ => (fun e_ => (Kd.R_ne HO_219001.out BK218.out (by decide)) e_) hs_)); have n10_ := am1_ (hb); clear HO_203001; clear HO_208001; clear HO_213001; clear HO_219001; clear BK185; clear BK186; clear BK202; clear BK207; clear BK212; clear BK218; clear HB; have HO_203001 := n0_; have HO_208001 := n1_; have HO_213001 := n2_; have HO_219001 := n3_; have BK185 := n4_; have BK186 := n5_; have BK202 := n6_; have BK207 := n7_; have BK212 := n8_; have BK218 := n9_; have HB := n10_; clear n0_ n1_ n2_ n3_ n4_ n5_ n6_ n7_ n8_ n9_ n10_; (try clear hb); (try clear hkp); (try clear hy0); have hcz149_0 : w148.cell? ⟨gb218, 0, none⟩ = some (.int .i64 t213) := (blk_cell BK218.out 0).trans rfl; have hcz149_1 : w148.cell? ⟨gb218, 1, none⟩ = some (.slice Ao72 t214.length co72) := (blk_cell BK218.out 1).trans rfl; have hfz149_0 := blk_frozen BK218.out 0; have hfz149_1 := blk_frozen BK218.out 1) | ((with_reducible refine gate_callee (f := 49) rfl ?_); refine goesL_ (some 88) rfl rfl Try.func49 (by kernel_rfl) rfl #[.agg #[.int .i64 t213, .slice Ao72 t236.length co72], .int .i64 1] rfl (by (try simp only [List.map_toArray, List.map_cons, List.map_nil]); first | done | (rw [show t236.length = t214.length from (Kd.R_reads' HO_219001.out).1.symm] <;> rfl) | rfl | (simp only [List.length_drop, List.length_take]; rfl)) ?_; (with_reducible refine (laws_heldBits.calls kj95 t213 _ _ t236 1 t237 _ ?side1 ?side2 A135.out).mono ?_); (case side1 => exact lc1_ (Kd.R_reads' HO_219001.out).2.2); (case side2 => rw [show t236.length = t214.length from (Kd.R_reads' HO_219001.out).1.symm]; exact (Kd.R_reads' HO_219001.out).2.1); rintro e w150 ⟨rfl, hb⟩; refine ⟨_, rfl, ?_⟩; have n0_ := am1_ (Kd.R_below (lf1_ HO_203001) hb); have n1_ := am1_ (Kd.R_below (lf1_ HO_208001) hb); have n2_ := am1_ (Kd.R_below (lf1_ HO_213001) hb); have n3_ := am1_ (Kd.R_below (lf1_ HO_219001) hb); have n4_ := am1_ (blk_below (g := gb185) (o := .cells #[.int .i64 a0_0, .slice A0_1 l0_1.length c0_1] 24 (0, 0)) (lb1_ BK185) hb); have n5_ := am1_ (blk_below (g := gb186) (o := .cells #[.int .i64 a1_0, .slice A1_1 l1_1.length c1_1] 24 (0, 0)) (lb1_ BK186) hb); have n6_ := am1_ (blk_below (g := gb202) (o := .cells #[.int .i64 t197, .slice Ao42 t198.length co42] 29 (0, 0)) (lb1_ BK202) hb); have n7_ := am1_ (blk_below (g := gb207) (o := .cells #[.int .i64 t203, .slice Ao52 t231.length co52] 29 (0, 0)) (lb1_ BK207) hb); have n8_ := am1_ (blk_below (g := gb212) (o := .cells #[.int .i64 t208, .slice Ao62 t233.length co62] 29 (0, 0)) (lb1_ BK212) hb); have n9_ := am1_ (blk_below (g := gb218) (o := .cells #[.int .i64 t213, .slice Ao72 t214.length co72] 29 (0, 0)) (lb1_ BK218) hb); have n10_ := am1_ (below_step (lw1_ HB) hb); clear HO_203001; clear HO_208001; clear HO_213001; clear HO_219001; clear BK185; clear BK186; clear BK202; clear BK207; clear BK212; clear BK218; clear HB; have HO_203001 := n0_; have HO_208001 := n1_; have HO_213001 := n2_; have HO_219001 := n3_; have BK185 := n4_; have BK186 := n5_; have BK202 := n6_; have BK207 := n7_; have BK212 := n8_; have BK218 := n9_; have HB := n10_; clear n0_ n1_ n2_ n3_ n4_ n5_ n6_ n7_ n8_ n9_ n10_; (try clear hb); (try clear hb2); (try clear hk); (try clear hi)))
             have n0_ := am1_ (Kd.R_drew HO_203001.out)
             have n1_ := am1_ (Kd.R_drew HO_208001.out)
             have n2_ := am1_ (Kd.R_drew HO_213001.out)
             have n3_ := am1_ (Kd.R_drew HO_219001.out)
             have n4_ := am1_ (blk_drew BK185.out)
             have n5_ := am1_ (blk_drew BK186.out)
             have n6_ := am1_ (blk_drew BK202.out)
             have n7_ := am1_ (blk_drew BK207.out)
             have n8_ := am1_ (blk_drew BK212.out)
             have n9_ := am1_ (blk_drew BK218.out)
             have n10_ := am1_ (below_drew1 HB.out)
             clear HO_203001
             clear HO_208001
             clear HO_213001
             clear HO_219001
             clear BK185
             clear BK186
             clear BK202
             clear BK207
             clear BK212
             clear BK218
             clear HB
             have HO_203001 := n0_
             have HO_208001 := n1_
             have HO_213001 := n2_
             have HO_219001 := n3_
             have BK185 := n4_
             have BK186 := n5_
             have BK202 := n6_
             have BK207 := n7_
             have BK212 := n8_
             have BK218 := n9_
             have HB := n10_
             clear n0_ n1_ n2_ n3_ n4_ n5_ n6_ n7_ n8_ n9_ n10_
             refine start_ (n := 11) (S := fun w' => w'.cell? ⟨gb185, 0, none⟩ = some (.int .i64 a0_0) ∧ w'.cell? ⟨gb185, 1, none⟩ = some (.slice A0_1 l0_1.length c0_1) ∧ w'.cell? ⟨gb186, 0, none⟩ = some (.int .i64 a1_0) ∧ w'.cell? ⟨gb186, 1, none⟩ = some (.slice A1_1 l1_1.length c1_1)) (ds := []) #[false, false, false, false, false, false, false, false, false, false, false] (by kernel_rfl) rfl rfl ⟨(blk_cell BK185.out 0).trans rfl, (blk_cell BK185.out 1).trans rfl, (blk_cell BK186.out 0).trans rfl, (blk_cell BK186.out 1).trans rfl⟩ (fun hHeld => ?_); refine with_tabW laws_FnExactXorBits.tab31 laws_FnExactXorBits.bits31 (fun HT_ HW_ => ?_)
             generalize w150.drew = w151 at HO_203001 HO_208001 HO_213001 HO_219001 BK185 BK186 BK202 BK207 BK212 BK218 HB hHeld ⊢
             refine take_ (i := 0) (N := some 95) (v := ?_) (a' := ?_) #[true, false, false, false, false, false, false, false, false, false, false] rfl rfl (take_ofW HT_.out HW_.out (by kernel_rfl)) (fun _ _ _ h => h) (Or.inl ⟨by rfl, ?_⟩) hHeld ?_ ?_
             rotate_left
             ·rintro w' ⟨s0, s1, s2, s3⟩
              go_simp
              with_reducible rfl
             rotate_left
             ·simp only [Act.put, List.setIfInBounds_toArray, List.set_cons_zero, List.set_cons_succ, i64_w, i32_w]
              rfl
             refine take_ (i := 2) (N := some 97) (v := ?_) (a' := ?_) #[true, false, true, false, false, false, false, false, false, false, false] rfl rfl (take_ofW HT_.out HW_.out (by kernel_rfl)) (fun _ _ _ h => h) (Or.inl ⟨by rfl, ?_⟩) hHeld ?_ ?_
             rotate_left
             ·rintro w' ⟨s0, s1, s2, s3⟩
              go_simp
              with_reducible rfl
             rotate_left
             ·simp only [Act.put, List.setIfInBounds_toArray, List.set_cons_zero, List.set_cons_succ, i64_w, i32_w]
              rfl
             refine join_ (σ := Value × Value × Value × Nat) 2 #[true, true, true, true, true, true, true, true, true, false, false] (fun s_ => [(96, .agg #[.int .i64 t238, s_.1]), (98, .agg #[.int .i64 t242, s_.2.1]), (99, .tuple #[.agg #[.int .i64 t246, s_.2.2.1], .bool t250]), (15, .pointer (some ⟨s_.2.2.2, 0, none⟩)), (94, .tuple #[.agg #[.int .i64 t246, s_.2.2.1], .bool t250]), (100, .agg #[.int .i64 t246, s_.2.2.1]), (101, .bool t250)]) (fun s_ w' => (w'.cell? ⟨gb185, 0, none⟩ = some (.int .i64 a0_0) ∧ w'.cell? ⟨gb185, 1, none⟩ = some (.slice A0_1 l0_1.length c0_1) ∧ w'.cell? ⟨gb186, 0, none⟩ = some (.int .i64 a1_0) ∧ w'.cell? ⟨gb186, 1, none⟩ = some (.slice A1_1 l1_1.length c1_1)) ∧ (Kd.R (Kd.int .i64) 3 w' w.heap.size (fun k_ => some k_ ≠ (s_.2.1 : Value).ownBlock ∧ some k_ ≠ (s_.2.2.1 : Value).ownBlock ∧ some k_ ≠ (.slice Ao42 t198.length co42 : Value).ownBlock ∧ some k_ ≠ (.slice Ao52 t231.length co52 : Value).ownBlock ∧ some k_ ≠ (.slice Ao62 t233.length co62 : Value).ownBlock ∧ some k_ ≠ (.slice Ao72 t214.length co72 : Value).ownBlock) s_.1 t239) ∧ (Kd.R (Kd.int .i64) 3 w' w.heap.size (fun k_ => some k_ ≠ (s_.1 : Value).ownBlock ∧ some k_ ≠ (s_.2.2.1 : Value).ownBlock ∧ some k_ ≠ (.slice Ao42 t198.length co42 : Value).ownBlock ∧ some k_ ≠ (.slice Ao52 t231.length co52 : Value).ownBlock ∧ some k_ ≠ (.slice Ao62 t233.length co62 : Value).ownBlock ∧ some k_ ≠ (.slice Ao72 t214.length co72 : Value).ownBlock) s_.2.1 t243) ∧ (Kd.R (Kd.int .i64) 3 w' w.heap.size (fun k_ => some k_ ≠ (s_.1 : Value).ownBlock ∧ some k_ ≠ (s_.2.1 : Value).ownBlock ∧ some k_ ≠ (.slice Ao42 t198.length co42 : Value).ownBlock ∧ some k_ ≠ (.slice Ao52 t231.length co52 : Value).ownBlock ∧ some k_ ≠ (.slice Ao62 t233.length co62 : Value).ownBlock ∧ some k_ ≠ (.slice Ao72 t214.length co72 : Value).ownBlock) s_.2.2.1 t247) ∧ (Kd.R (Kd.int .i64) 3 w' w.heap.size (fun k_ => some k_ ≠ (s_.1 : Value).ownBlock ∧ some k_ ≠ (s_.2.1 : Value).ownBlock ∧ some k_ ≠ (s_.2.2.1 : Value).ownBlock ∧ some k_ ≠ (.slice Ao52 t231.length co52 : Value).ownBlock ∧ some k_ ≠ (.slice Ao62 t233.length co62 : Value).ownBlock ∧ some k_ ≠ (.slice Ao72 t214.length co72 : Value).ownBlock) (.slice Ao42 t198.length co42) t198) ∧ (Kd.R (Kd.int .i64) 3 w' w.heap.size (fun k_ => some k_ ≠ (s_.1 : Value).ownBlock ∧ some k_ ≠ (s_.2.1 : Value).ownBlock ∧ some k_ ≠ (s_.2.2.1 : Value).ownBlock ∧ some k_ ≠ (.slice Ao42 t198.length co42 : Value).ownBlock ∧ some k_ ≠ (.slice Ao62 t233.length co62 : Value).ownBlock ∧ some k_ ≠ (.slice Ao72 t214.length co72 : Value).ownBlock) (.slice Ao52 t231.length co52) t231) ∧ (Kd.R (Kd.int .i64) 3 w' w.heap.size (fun k_ => some k_ ≠ (s_.1 : Value).ownBlock ∧ some k_ ≠ (s_.2.1 : Value).ownBlock ∧ some k_ ≠ (s_.2.2.1 : Value).ownBlock ∧ some k_ ≠ (.slice Ao42 t198.length co42 : Value).ownBlock ∧ some k_ ≠ (.slice Ao52 t231.length co52 : Value).ownBlock ∧ some k_ ≠ (.slice Ao72 t214.length co72 : Value).ownBlock) (.slice Ao62 t233.length co62) t233) ∧ (Kd.R (Kd.int .i64) 3 w' w.heap.size (fun k_ => some k_ ≠ (s_.1 : Value).ownBlock ∧ some k_ ≠ (s_.2.1 : Value).ownBlock ∧ some k_ ≠ (s_.2.2.1 : Value).ownBlock ∧ some k_ ≠ (.slice Ao42 t198.length co42 : Value).ownBlock ∧ some k_ ≠ (.slice Ao52 t231.length co52 : Value).ownBlock ∧ some k_ ≠ (.slice Ao62 t233.length co62 : Value).ownBlock) (.slice Ao72 t214.length co72) t236) ∧ (w'.heap[gb185]? = some (.cells #[.int .i64 a0_0, .slice A0_1 l0_1.length c0_1] 24 (0, 0))) ∧ (w'.heap[gb186]? = some (.cells #[.int .i64 a1_0, .slice A1_1 l1_1.length c1_1] 24 (0, 0))) ∧ (w'.heap[gb202]? = some (.cells #[.int .i64 t197, .slice Ao42 t198.length co42] 29 (0, 0))) ∧ (w'.heap[gb207]? = some (.cells #[.int .i64 t203, .slice Ao52 t231.length co52] 29 (0, 0))) ∧ (w'.heap[gb212]? = some (.cells #[.int .i64 t208, .slice Ao62 t233.length co62] 29 (0, 0))) ∧ (w'.heap[gb218]? = some (.cells #[.int .i64 t213, .slice Ao72 t214.length co72] 29 (0, 0))) ∧ (w'.heap[s_.2.2.2]? = some (.cells #[.int .i64 0, .slice none 0 0] 29 (0, 0))) ∧ (w.heap.size ≤ s_.2.2.2) ∧ (w.heap.size ≤ s_.2.2.2) ∧ (gb185 ≠ s_.2.2.2) ∧ (s_.2.2.2 ≠ gb185) ∧ (gb186 ≠ s_.2.2.2) ∧ (s_.2.2.2 ≠ gb186) ∧ (gb202 ≠ s_.2.2.2) ∧ (s_.2.2.2 ≠ gb202) ∧ (gb207 ≠ s_.2.2.2) ∧ (s_.2.2.2 ≠ gb207) ∧ (gb212 ≠ s_.2.2.2) ∧ (s_.2.2.2 ≠ gb212) ∧ (gb218 ≠ s_.2.2.2) ∧ (s_.2.2.2 ≠ gb218) ∧ (Below w.heap.size w w')) ?_ ?_
             rotate_left
             ·intro hCont
              refine two_ (i := 1) (j := 8) (Ni := some 96) (Nj := some 15) #[true, true, true, false, false, false, false, false, false, false, false] #[true, false, true, false, false, false, false, false, true, false, false] rfl rfl rfl rfl (two_of HT_.out (by kernel_rfl)) (by decide) (by decide) (fun K hK => ?_) (fun K hK => ?_)
              ·skip
               refine goes_ Try.func22 (by kernel_rfl) rfl #[.agg #[.int .i64 a0_0, .slice A0_1 l0_1.length c0_1]] (by rfl) rfl rfl lm1_ ?_
               with_reducible refine (laws_toBits.calls kj95 a0_0 _ _ l0_1 t238 t239 _ ?side1 ?side2 A138.out).mono ?_
               (case side1 => exact lc1_ (Kd.C_below HR0_1.out HB.out))
               (case side2 => exact HC0_1.out)
               rintro e w152 ⟨v240, rfl, ho0, hb⟩
               refine ⟨_, rfl, ?_⟩
               have n0_ := am1_ (Kd.R_elder' (lf1_ HO_203001) (Kd.R_base ho0) hb)
               have n1_ := am1_ (Kd.R_elder' (lf1_ HO_208001) (Kd.R_base ho0) hb)
               have n2_ := am1_ (Kd.R_elder' (lf1_ HO_213001) (Kd.R_base ho0) hb)
               have n3_ := am1_ (Kd.R_elder' (lf1_ HO_219001) (Kd.R_base ho0) hb)
               have n4_ := am1_ (Kd.R_lower (Kd.R_new' (Kd.R_new' (Kd.R_new' (Kd.R_new' ho0 (Kd.R_lt (lf1_ HO_203001))) (Kd.R_lt (lf1_ HO_208001))) (Kd.R_lt (lf1_ HO_213001))) (Kd.R_lt (lf1_ HO_219001))) (below_size (lw1_ HB)))
               have n5_ := am1_ (blk_below (g := gb185) (o := .cells #[.int .i64 a0_0, .slice A0_1 l0_1.length c0_1] 24 (0, 0)) (lb1_ BK185) hb)
               have n6_ := am1_ (blk_below (g := gb186) (o := .cells #[.int .i64 a1_0, .slice A1_1 l1_1.length c1_1] 24 (0, 0)) (lb1_ BK186) hb)
               have n7_ := am1_ (blk_below (g := gb202) (o := .cells #[.int .i64 t197, .slice Ao42 t198.length co42] 29 (0, 0)) (lb1_ BK202) hb)
               have n8_ := am1_ (blk_below (g := gb207) (o := .cells #[.int .i64 t203, .slice Ao52 t231.length co52] 29 (0, 0)) (lb1_ BK207) hb)
               have n9_ := am1_ (blk_below (g := gb212) (o := .cells #[.int .i64 t208, .slice Ao62 t233.length co62] 29 (0, 0)) (lb1_ BK212) hb)
               have n10_ := am1_ (blk_below (g := gb218) (o := .cells #[.int .i64 t213, .slice Ao72 t214.length co72] 29 (0, 0)) (lb1_ BK218) hb)
               have n11_ := am1_ (below_step (lw1_ HB) hb)
               clear HO_203001
               clear HO_208001
               clear HO_213001
               clear HO_219001
               clear BK185
               clear BK186
               clear BK202
               clear BK207
               clear BK212
               clear BK218
               clear HB
               have HO_203001 := n0_
               have HO_208001 := n1_
               have HO_213001 := n2_
               have HO_219001 := n3_
               have HO241 := n4_
               have BK185 := n5_
               have BK186 := n6_
               have BK202 := n7_
               have BK207 := n8_
               have BK212 := n9_
               have BK218 := n10_
               have HB := n11_
               clear n0_ n1_ n2_ n3_ n4_ n5_ n6_ n7_ n8_ n9_ n10_ n11_
               (try clear hb)
               (try clear hb2)
               (try clear hk)
               (try clear hi)
               (try clear ho0)
               refine hK.out _ _ ⟨(blk_cell BK185.out 0).trans rfl, (blk_cell BK185.out 1).trans rfl, (blk_cell BK186.out 0).trans rfl, (blk_cell BK186.out 1).trans rfl⟩ (fun hHeld => ?_)
               clear hK K
               refine norm_ (a' := ?_) ?_ ?_
               rotate_left
               ·show Act.put _ (some 96) _ = _
                simp only [Act.put, List.setIfInBounds_toArray, List.set_cons_zero, List.set_cons_succ, i64_w, i32_w]
                rfl
               refine two_ (i := 3) (j := 8) (Ni := some 98) (Nj := some 15) #[true, true, true, true, false, false, false, false, false, false, false] #[true, true, true, false, false, false, false, false, true, false, false] rfl rfl rfl rfl (two_of HT_.out (by kernel_rfl)) (by decide) (by decide) (fun K hK => ?_) (fun K hK => ?_)
               ·skip
                refine goes_ Try.func22 (by kernel_rfl) rfl #[.agg #[.int .i64 a1_0, .slice A1_1 l1_1.length c1_1]] (by rfl) rfl rfl lm1_ ?_
                with_reducible refine (laws_toBits.calls kj95 a1_0 _ _ l1_1 t242 t243 _ ?side1 ?side2 A139.out).mono ?_
                (case side1 => exact lc1_ (Kd.C_below HR1_1.out HB.out))
                (case side2 => exact HC1_1.out)
                rintro e w153 ⟨v244, rfl, ho0, hb⟩
                refine ⟨_, rfl, ?_⟩
                have n0_ := am1_ (Kd.R_elder' (lf1_ HO_203001) (Kd.R_base ho0) hb)
                have n1_ := am1_ (Kd.R_elder' (lf1_ HO_208001) (Kd.R_base ho0) hb)
                have n2_ := am1_ (Kd.R_elder' (lf1_ HO_213001) (Kd.R_base ho0) hb)
                have n3_ := am1_ (Kd.R_elder' (lf1_ HO_219001) (Kd.R_base ho0) hb)
                have n4_ := am1_ (Kd.R_elder' (lf1_ HO241) (Kd.R_base ho0) hb)
                have n5_ := am1_ (Kd.R_lower (Kd.R_new' (Kd.R_new' (Kd.R_new' (Kd.R_new' (Kd.R_new' ho0 (Kd.R_lt (lf1_ HO_203001))) (Kd.R_lt (lf1_ HO_208001))) (Kd.R_lt (lf1_ HO_213001))) (Kd.R_lt (lf1_ HO_219001))) (Kd.R_lt (lf1_ HO241))) (below_size (lw1_ HB)))
                have n6_ := am1_ (blk_below (g := gb185) (o := .cells #[.int .i64 a0_0, .slice A0_1 l0_1.length c0_1] 24 (0, 0)) (lb1_ BK185) hb)
                have n7_ := am1_ (blk_below (g := gb186) (o := .cells #[.int .i64 a1_0, .slice A1_1 l1_1.length c1_1] 24 (0, 0)) (lb1_ BK186) hb)
                have n8_ := am1_ (blk_below (g := gb202) (o := .cells #[.int .i64 t197, .slice Ao42 t198.length co42] 29 (0, 0)) (lb1_ BK202) hb)
                have n9_ := am1_ (blk_below (g := gb207) (o := .cells #[.int .i64 t203, .slice Ao52 t231.length co52] 29 (0, 0)) (lb1_ BK207) hb)
                have n10_ := am1_ (blk_below (g := gb212) (o := .cells #[.int .i64 t208, .slice Ao62 t233.length co62] 29 (0, 0)) (lb1_ BK212) hb)
                have n11_ := am1_ (blk_below (g := gb218) (o := .cells #[.int .i64 t213, .slice Ao72 t214.length co72] 29 (0, 0)) (lb1_ BK218) hb)
                have n12_ := am1_ (below_step (lw1_ HB) hb)
                clear HO_203001
                clear HO_208001
                clear HO_213001
                clear HO_219001
                clear HO241
                clear BK185
                clear BK186
                clear BK202
                clear BK207
                clear BK212
                clear BK218
                clear HB
                have HO_203001 := n0_
                have HO_208001 := n1_
                have HO_213001 := n2_
                have HO_219001 := n3_
                have HO241 := n4_
                have HO245 := n5_
                have BK185 := n6_
                have BK186 := n7_
                have BK202 := n8_
                have BK207 := n9_
                have BK212 := n10_
                have BK218 := n11_
                have HB := n12_
                clear n0_ n1_ n2_ n3_ n4_ n5_ n6_ n7_ n8_ n9_ n10_ n11_ n12_
                (try clear hb)
                (try clear hb2)
                (try clear hk)
                (try clear hi)
                (try clear ho0)
                obtain ⟨Ao154, co154, eo154⟩ := Kd.R_slice HO241.out
                (first | subst eo154 | (injection eo154 with f1_ f2_ f3_; have f4_ := f1_.symm; have f5_ := f3_.symm; clear f1_ f2_ f3_; subst f4_; subst f5_))
                obtain ⟨Ao155, co155, eo155⟩ := Kd.R_slice HO245.out
                (first | subst eo155 | (injection eo155 with f1_ f2_ f3_; have f4_ := f1_.symm; have f5_ := f3_.symm; clear f1_ f2_ f3_; subst f4_; subst f5_))
                refine hK.out _ _ ⟨(blk_cell BK185.out 0).trans rfl, (blk_cell BK185.out 1).trans rfl, (blk_cell BK186.out 0).trans rfl, (blk_cell BK186.out 1).trans rfl⟩ (fun hHeld => ?_)
                clear hK K
                refine norm_ (a' := ?_) ?_ ?_
                rotate_left
                ·show Act.put _ (some 98) _ = _
                 simp only [Act.put, List.setIfInBounds_toArray, List.set_cons_zero, List.set_cons_succ, i64_w, i32_w]
                 rfl
                refine two_ (i := 4) (j := 8) (Ni := some 99) (Nj := some 15) #[true, true, true, true, true, false, false, false, false, false, false] #[true, true, true, true, false, false, false, false, true, false, false] rfl rfl rfl rfl (two_of HT_.out (by kernel_rfl)) (by decide) (by decide) (fun K hK => ?_) (fun K hK => ?_)
                ·skip
                 refine goes_ Try.func48 (by kernel_rfl) rfl #[.agg #[.int .i64 t238, .slice Ao154 t239.length co154], .agg #[.int .i64 t242, .slice Ao155 t243.length co155]] (by rfl) rfl rfl lm1_ ?_
                 with_reducible refine (impl_XorBits.calls kj95 t238 _ _ t239 t242 _ _ t243 t246 t247 t250 _ ?side1 ?side2 ?side3 ?side4 A140.out).mono ?_
                 (case side1 => exact lc1_ (Kd.R_reads' HO241.out).2.2)
                 (case side2 => exact (Kd.R_reads' HO241.out).2.1)
                 (case side3 => exact lc1_ (Kd.R_reads' HO245.out).2.2)
                 (case side4 => exact (Kd.R_reads' HO245.out).2.1)
                 rintro e w156 ⟨v248, rfl, ho0, hb⟩
                 refine ⟨_, rfl, ?_⟩
                 have n0_ := am1_ (Kd.R_elder' (lf1_ HO_203001) (Kd.R_base ho0) hb)
                 have n1_ := am1_ (Kd.R_elder' (lf1_ HO_208001) (Kd.R_base ho0) hb)
                 have n2_ := am1_ (Kd.R_elder' (lf1_ HO_213001) (Kd.R_base ho0) hb)
                 have n3_ := am1_ (Kd.R_elder' (lf1_ HO_219001) (Kd.R_base ho0) hb)
                 have n4_ := am1_ (Kd.R_elder' (lf1_ HO241) (Kd.R_base ho0) hb)
                 have n5_ := am1_ (Kd.R_elder' (lf1_ HO245) (Kd.R_base ho0) hb)
                 have n6_ := am1_ (Kd.R_lower (Kd.R_new' (Kd.R_new' (Kd.R_new' (Kd.R_new' (Kd.R_new' (Kd.R_new' ho0 (Kd.R_lt (lf1_ HO_203001))) (Kd.R_lt (lf1_ HO_208001))) (Kd.R_lt (lf1_ HO_213001))) (Kd.R_lt (lf1_ HO_219001))) (Kd.R_lt (lf1_ HO241))) (Kd.R_lt (lf1_ HO245))) (below_size (lw1_ HB)))
                 have n7_ := am1_ (blk_below (g := gb185) (o := .cells #[.int .i64 a0_0, .slice A0_1 l0_1.length c0_1] 24 (0, 0)) (lb1_ BK185) hb)
                 have n8_ := am1_ (blk_below (g := gb186) (o := .cells #[.int .i64 a1_0, .slice A1_1 l1_1.length c1_1] 24 (0, 0)) (lb1_ BK186) hb)
                 have n9_ := am1_ (blk_below (g := gb202) (o := .cells #[.int .i64 t197, .slice Ao42 t198.length co42] 29 (0, 0)) (lb1_ BK202) hb)
                 have n10_ := am1_ (blk_below (g := gb207) (o := .cells #[.int .i64 t203, .slice Ao52 t231.length co52] 29 (0, 0)) (lb1_ BK207) hb)
                 have n11_ := am1_ (blk_below (g := gb212) (o := .cells #[.int .i64 t208, .slice Ao62 t233.length co62] 29 (0, 0)) (lb1_ BK212) hb)
                 have n12_ := am1_ (blk_below (g := gb218) (o := .cells #[.int .i64 t213, .slice Ao72 t214.length co72] 29 (0, 0)) (lb1_ BK218) hb)
                 have n13_ := am1_ (below_step (lw1_ HB) hb)
                 clear HO_203001
                 clear HO_208001
                 clear HO_213001
                 clear HO_219001
                 clear HO241
                 clear HO245
                 clear BK185
                 clear BK186
                 clear BK202
                 clear BK207
                 clear BK212
                 clear BK218
                 clear HB
                 have HO_203001 := n0_
                 have HO_208001 := n1_
                 have HO_213001 := n2_
                 have HO_219001 := n3_
                 have HO241 := n4_
                 have HO245 := n5_
                 have HO249 := n6_
                 have BK185 := n7_
                 have BK186 := n8_
                 have BK202 := n9_
                 have BK207 := n10_
                 have BK212 := n11_
                 have BK218 := n12_
                 have HB := n13_
                 clear n0_ n1_ n2_ n3_ n4_ n5_ n6_ n7_ n8_ n9_ n10_ n11_ n12_ n13_
                 (try clear hb)
                 (try clear hb2)
                 (try clear hk)
                 (try clear hi)
                 (try clear ho0)
                 refine hK.out _ _ ⟨(blk_cell BK185.out 0).trans rfl, (blk_cell BK185.out 1).trans rfl, (blk_cell BK186.out 0).trans rfl, (blk_cell BK186.out 1).trans rfl⟩ (fun hHeld => ?_)
                 clear hK K
                 refine norm_ (a' := ?_) ?_ ?_
                 rotate_left
                 ·show Act.put _ (some 99) _ = _
                  simp only [Act.put, List.setIfInBounds_toArray, List.set_cons_zero, List.set_cons_succ, i64_w, i32_w]
                  rfl
                 refine pure_ (i := 5) (N := some 94) (v := ?_) (a' := ?_) #[true, true, true, true, true, true, false, false, false, false, false] rfl rfl (any_of HT_.out (by kernel_rfl)) (fun _ _ _ h => h) (Or.inl ⟨by rfl, ?_⟩) ?_ ?_
                 rotate_left
                 ·intro w'
                  go_simp
                  with_reducible rfl
                 rotate_left
                 ·simp only [Act.put, List.setIfInBounds_toArray, List.set_cons_zero, List.set_cons_succ, i64_w, i32_w]
                  rfl
                 refine pure_ (i := 6) (N := some 100) (v := ?_) (a' := ?_) #[true, true, true, true, true, true, true, false, false, false, false] rfl rfl (any_of HT_.out (by kernel_rfl)) (fun _ _ _ h => h) (Or.inl ⟨by rfl, ?_⟩) ?_ ?_
                 rotate_left
                 ·intro w'
                  go_simp
                  with_reducible rfl
                 rotate_left
                 ·simp only [Act.put, List.setIfInBounds_toArray, List.set_cons_zero, List.set_cons_succ, i64_w, i32_w]
                  rfl
                 refine pure_ (i := 7) (N := some 101) (v := ?_) (a' := ?_) #[true, true, true, true, true, true, true, true, false, false, false] rfl rfl (any_of HT_.out (by kernel_rfl)) (fun _ _ _ h => h) (Or.inl ⟨by rfl, ?_⟩) ?_ ?_
                 rotate_left
                 ·intro w'
                  go_simp
                  with_reducible rfl
                 rotate_left
                 ·simp only [Act.put, List.setIfInBounds_toArray, List.set_cons_zero, List.set_cons_succ, i64_w, i32_w]
                  rfl
                 refine one_ (i := 8) (N := some 15) #[true, true, true, true, true, true, true, true, true, false, false] rfl rfl (one_of HT_.out (by kernel_rfl)) (by decide) (fun K hK => ?_)
                 refine box_step ?hg (N := 15) ?hd (cs := #[.int .i64 0, .slice none 0 0]) (t := 29) ?hr ?_; (case hd => rfl); (case hg => rfl); (case hr => first | (go_simp; done) | (go_simp; rfl))
                 intro gb251 hg w157 hbox hb
                 have n0_ := am1_ (Kd.R_below (lf1_ HO_203001) hb)
                 have n1_ := am1_ (Kd.R_below (lf1_ HO_208001) hb)
                 have n2_ := am1_ (Kd.R_below (lf1_ HO_213001) hb)
                 have n3_ := am1_ (Kd.R_below (lf1_ HO_219001) hb)
                 have n4_ := am1_ (Kd.R_below (lf1_ HO241) hb)
                 have n5_ := am1_ (Kd.R_below (lf1_ HO245) hb)
                 have n6_ := am1_ (Kd.R_below (lf1_ HO249) hb)
                 have n7_ := am1_ (blk_below (g := gb185) (o := .cells #[.int .i64 a0_0, .slice A0_1 l0_1.length c0_1] 24 (0, 0)) (lb1_ BK185) hb)
                 have n8_ := am1_ (blk_below (g := gb186) (o := .cells #[.int .i64 a1_0, .slice A1_1 l1_1.length c1_1] 24 (0, 0)) (lb1_ BK186) hb)
                 have n9_ := am1_ (blk_below (g := gb202) (o := .cells #[.int .i64 t197, .slice Ao42 t198.length co42] 29 (0, 0)) (lb1_ BK202) hb)
                 have n10_ := am1_ (blk_below (g := gb207) (o := .cells #[.int .i64 t203, .slice Ao52 t231.length co52] 29 (0, 0)) (lb1_ BK207) hb)
                 have n11_ := am1_ (blk_below (g := gb212) (o := .cells #[.int .i64 t208, .slice Ao62 t233.length co62] 29 (0, 0)) (lb1_ BK212) hb)
                 have n12_ := am1_ (blk_below (g := gb218) (o := .cells #[.int .i64 t213, .slice Ao72 t214.length co72] 29 (0, 0)) (lb1_ BK218) hb)
                 have n13_ := am1_ (below_step (lw1_ HB) hb)
                 have n14_ := am1_ (hbox)
                 have n15_ := am1_ ((by rw [hg]; exact (below_size (lw1_ HB)) : w.heap.size ≤ gb251))
                 have n16_ := am1_ ((by rw [hg]; exact (below_size (lw1_ HB)) : w.heap.size ≤ gb251))
                 have n17_ := am1_ ((by rw [hg]; exact Nat.ne_of_lt (blk_lt (g := gb185) (lb1_ BK185)) : gb185 ≠ gb251))
                 have n18_ := am1_ ((by rw [hg]; exact Nat.ne_of_gt (blk_lt (g := gb185) (lb1_ BK185)) : gb251 ≠ gb185))
                 have n19_ := am1_ ((by rw [hg]; exact Nat.ne_of_lt (blk_lt (g := gb186) (lb1_ BK186)) : gb186 ≠ gb251))
                 have n20_ := am1_ ((by rw [hg]; exact Nat.ne_of_gt (blk_lt (g := gb186) (lb1_ BK186)) : gb251 ≠ gb186))
                 have n21_ := am1_ ((by rw [hg]; exact Nat.ne_of_lt (blk_lt (g := gb202) (lb1_ BK202)) : gb202 ≠ gb251))
                 have n22_ := am1_ ((by rw [hg]; exact Nat.ne_of_gt (blk_lt (g := gb202) (lb1_ BK202)) : gb251 ≠ gb202))
                 have n23_ := am1_ ((by rw [hg]; exact Nat.ne_of_lt (blk_lt (g := gb207) (lb1_ BK207)) : gb207 ≠ gb251))
                 have n24_ := am1_ ((by rw [hg]; exact Nat.ne_of_gt (blk_lt (g := gb207) (lb1_ BK207)) : gb251 ≠ gb207))
                 have n25_ := am1_ ((by rw [hg]; exact Nat.ne_of_lt (blk_lt (g := gb212) (lb1_ BK212)) : gb212 ≠ gb251))
                 have n26_ := am1_ ((by rw [hg]; exact Nat.ne_of_gt (blk_lt (g := gb212) (lb1_ BK212)) : gb251 ≠ gb212))
                 have n27_ := am1_ ((by rw [hg]; exact Nat.ne_of_lt (blk_lt (g := gb218) (lb1_ BK218)) : gb218 ≠ gb251))
                 have n28_ := am1_ ((by rw [hg]; exact Nat.ne_of_gt (blk_lt (g := gb218) (lb1_ BK218)) : gb251 ≠ gb218))
                 clear HO_203001
                 clear HO_208001
                 clear HO_213001
                 clear HO_219001
                 clear HO241
                 clear HO245
                 clear HO249
                 clear BK185
                 clear BK186
                 clear BK202
                 clear BK207
                 clear BK212
                 clear BK218
                 clear HB
                 have HO_203001 := n0_
                 have HO_208001 := n1_
                 have HO_213001 := n2_
                 have HO_219001 := n3_
                 have HO241 := n4_
                 have HO245 := n5_
                 have HO249 := n6_
                 have BK185 := n7_
                 have BK186 := n8_
                 have BK202 := n9_
                 have BK207 := n10_
                 have BK212 := n11_
                 have BK218 := n12_
                 have HB := n13_
                 have BK251 := n14_
                 have GW251 := n15_
                 have GE251 := n16_
                 have NB185_251 := n17_
                 have NB251_185 := n18_
                 have NB186_251 := n19_
                 have NB251_186 := n20_
                 have NB202_251 := n21_
                 have NB251_202 := n22_
                 have NB207_251 := n23_
                 have NB251_207 := n24_
                 have NB212_251 := n25_
                 have NB251_212 := n26_
                 have NB218_251 := n27_
                 have NB251_218 := n28_
                 clear n0_ n1_ n2_ n3_ n4_ n5_ n6_ n7_ n8_ n9_ n10_ n11_ n12_ n13_ n14_ n15_ n16_ n17_ n18_ n19_ n20_ n21_ n22_ n23_ n24_ n25_ n26_ n27_ n28_
                 clear hb hbox hg
                 refine hK.out _ _ ⟨(blk_cell BK185.out 0).trans rfl, (blk_cell BK185.out 1).trans rfl, (blk_cell BK186.out 0).trans rfl, (blk_cell BK186.out 1).trans rfl⟩ (fun hHeld => ?_)
                 clear hK K
                 refine norm_ (a' := ?_) ?_ ?_
                 rotate_left
                 ·show Act.put _ (some 15) _ = _
                  simp only [Act.put, List.setIfInBounds_toArray, List.set_cons_zero, List.set_cons_succ, i64_w, i32_w]
                  rfl
                 exact norm_ (by simp only [putAll, Act.put, List.setIfInBounds_toArray, List.set_cons_zero, List.set_cons_succ]) (hCont (.slice Ao154 t239.length co154, .slice Ao155 t243.length co155, v248, gb251) _ ⟨hHeld, (by (with_reducible repeat (first | apply Kd.R_alloc | apply Kd.R_drewN | apply Kd.R_drew)); exact Kd.R_mono HO241.out (fun _ hk => ⟨hk.1.2, ⟨hk.2, ⟨hk.1.1.1.1.1.2, ⟨hk.1.1.1.1.2, ⟨hk.1.1.1.2, hk.1.1.2⟩⟩⟩⟩⟩)), (by (with_reducible repeat (first | apply Kd.R_alloc | apply Kd.R_drewN | apply Kd.R_drew)); exact Kd.R_mono HO245.out (fun _ hk => ⟨hk.1.2, ⟨hk.2, ⟨hk.1.1.1.1.1.2, ⟨hk.1.1.1.1.2, ⟨hk.1.1.1.2, hk.1.1.2⟩⟩⟩⟩⟩)), (by (with_reducible repeat (first | apply Kd.R_alloc | apply Kd.R_drewN | apply Kd.R_drew)); exact Kd.R_mono HO249.out (fun _ hk => ⟨hk.1.2, ⟨hk.2, ⟨hk.1.1.1.1.1.2, ⟨hk.1.1.1.1.2, ⟨hk.1.1.1.2, hk.1.1.2⟩⟩⟩⟩⟩)), (by (with_reducible repeat (first | apply Kd.R_alloc | apply Kd.R_drewN | apply Kd.R_drew)); exact Kd.R_mono HO_203001.out (fun _ hk => ⟨hk.1.1.2, ⟨hk.1.2, ⟨hk.2, ⟨hk.1.1.1.1, ⟨hk.1.1.1.2.1, hk.1.1.1.2.2⟩⟩⟩⟩⟩)), (by (with_reducible repeat (first | apply Kd.R_alloc | apply Kd.R_drewN | apply Kd.R_drew)); exact Kd.R_mono HO_208001.out (fun _ hk => ⟨hk.1.1.2, ⟨hk.1.2, ⟨hk.2, ⟨hk.1.1.1.1, ⟨hk.1.1.1.2.1, hk.1.1.1.2.2⟩⟩⟩⟩⟩)), (by (with_reducible repeat (first | apply Kd.R_alloc | apply Kd.R_drewN | apply Kd.R_drew)); exact Kd.R_mono HO_213001.out (fun _ hk => ⟨hk.1.1.2, ⟨hk.1.2, ⟨hk.2, ⟨hk.1.1.1.1, ⟨hk.1.1.1.2.1, hk.1.1.1.2.2⟩⟩⟩⟩⟩)), (by (with_reducible repeat (first | apply Kd.R_alloc | apply Kd.R_drewN | apply Kd.R_drew)); exact Kd.R_mono HO_219001.out (fun _ hk => ⟨hk.1.1.2, ⟨hk.1.2, ⟨hk.2, ⟨hk.1.1.1.1, ⟨hk.1.1.1.2.1, hk.1.1.1.2.2⟩⟩⟩⟩⟩)), (lb1_ BK185), (lb1_ BK186), (lb1_ BK202), (lb1_ BK207), (lb1_ BK212), (lb1_ BK218), (lb1_ BK251), GW251.out, GE251.out, NB185_251.out, NB251_185.out, NB186_251.out, NB251_186.out, NB202_251.out, NB251_202.out, NB207_251.out, NB251_207.out, NB212_251.out, NB251_212.out, NB218_251.out, NB251_218.out, (lw1_ HB)⟩)
                ·skip
                 refine box_step ?hg (N := 15) ?hd (cs := #[.int .i64 0, .slice none 0 0]) (t := 29) ?hr ?_; (case hd => rfl); (case hg => rfl); (case hr => first | (go_simp; done) | (go_simp; rfl))
                 intro gb251 hg w154 hbox hb
                 have n0_ := am1_ (Kd.R_below (lf1_ HO_203001) hb)
                 have n1_ := am1_ (Kd.R_below (lf1_ HO_208001) hb)
                 have n2_ := am1_ (Kd.R_below (lf1_ HO_213001) hb)
                 have n3_ := am1_ (Kd.R_below (lf1_ HO_219001) hb)
                 have n4_ := am1_ (Kd.R_below (lf1_ HO241) hb)
                 have n5_ := am1_ (Kd.R_below (lf1_ HO245) hb)
                 have n6_ := am1_ (blk_below (g := gb185) (o := .cells #[.int .i64 a0_0, .slice A0_1 l0_1.length c0_1] 24 (0, 0)) (lb1_ BK185) hb)
                 have n7_ := am1_ (blk_below (g := gb186) (o := .cells #[.int .i64 a1_0, .slice A1_1 l1_1.length c1_1] 24 (0, 0)) (lb1_ BK186) hb)
                 have n8_ := am1_ (blk_below (g := gb202) (o := .cells #[.int .i64 t197, .slice Ao42 t198.length co42] 29 (0, 0)) (lb1_ BK202) hb)
                 have n9_ := am1_ (blk_below (g := gb207) (o := .cells #[.int .i64 t203, .slice Ao52 t231.length co52] 29 (0, 0)) (lb1_ BK207) hb)
                 have n10_ := am1_ (blk_below (g := gb212) (o := .cells #[.int .i64 t208, .slice Ao62 t233.length co62] 29 (0, 0)) (lb1_ BK212) hb)
                 have n11_ := am1_ (blk_below (g := gb218) (o := .cells #[.int .i64 t213, .slice Ao72 t214.length co72] 29 (0, 0)) (lb1_ BK218) hb)
                 have n12_ := am1_ (below_step (lw1_ HB) hb)
                 have n13_ := am1_ (hbox)
                 have n14_ := am1_ ((by rw [hg]; exact (below_size (lw1_ HB)) : w.heap.size ≤ gb251))
                 have n15_ := am1_ ((by rw [hg]; exact (below_size (lw1_ HB)) : w.heap.size ≤ gb251))
                 have n16_ := am1_ ((by rw [hg]; exact Nat.ne_of_lt (blk_lt (g := gb185) (lb1_ BK185)) : gb185 ≠ gb251))
                 have n17_ := am1_ ((by rw [hg]; exact Nat.ne_of_gt (blk_lt (g := gb185) (lb1_ BK185)) : gb251 ≠ gb185))
                 have n18_ := am1_ ((by rw [hg]; exact Nat.ne_of_lt (blk_lt (g := gb186) (lb1_ BK186)) : gb186 ≠ gb251))
                 have n19_ := am1_ ((by rw [hg]; exact Nat.ne_of_gt (blk_lt (g := gb186) (lb1_ BK186)) : gb251 ≠ gb186))
                 have n20_ := am1_ ((by rw [hg]; exact Nat.ne_of_lt (blk_lt (g := gb202) (lb1_ BK202)) : gb202 ≠ gb251))
                 have n21_ := am1_ ((by rw [hg]; exact Nat.ne_of_gt (blk_lt (g := gb202) (lb1_ BK202)) : gb251 ≠ gb202))
                 have n22_ := am1_ ((by rw [hg]; exact Nat.ne_of_lt (blk_lt (g := gb207) (lb1_ BK207)) : gb207 ≠ gb251))
                 have n23_ := am1_ ((by rw [hg]; exact Nat.ne_of_gt (blk_lt (g := gb207) (lb1_ BK207)) : gb251 ≠ gb207))
                 have n24_ := am1_ ((by rw [hg]; exact Nat.ne_of_lt (blk_lt (g := gb212) (lb1_ BK212)) : gb212 ≠ gb251))
                 have n25_ := am1_ ((by rw [hg]; exact Nat.ne_of_gt (blk_lt (g := gb212) (lb1_ BK212)) : gb251 ≠ gb212))
                 have n26_ := am1_ ((by rw [hg]; exact Nat.ne_of_lt (blk_lt (g := gb218) (lb1_ BK218)) : gb218 ≠ gb251))
                 have n27_ := am1_ ((by rw [hg]; exact Nat.ne_of_gt (blk_lt (g := gb218) (lb1_ BK218)) : gb251 ≠ gb218))
                 clear HO_203001
                 clear HO_208001
                 clear HO_213001
                 clear HO_219001
                 clear HO241
                 clear HO245
                 clear BK185
                 clear BK186
                 clear BK202
                 clear BK207
                 clear BK212
                 clear BK218
                 clear HB
                 have HO_203001 := n0_
                 have HO_208001 := n1_
                 have HO_213001 := n2_
                 have HO_219001 := n3_
                 have HO241 := n4_
                 have HO245 := n5_
                 have BK185 := n6_
                 have BK186 := n7_
                 have BK202 := n8_
                 have BK207 := n9_
                 have BK212 := n10_
                 have BK218 := n11_
                 have HB := n12_
                 have BK251 := n13_
                 have GW251 := n14_
                 have GE251 := n15_
                 have NB185_251 := n16_
                 have NB251_185 := n17_
                 have NB186_251 := n18_
                 have NB251_186 := n19_
                 have NB202_251 := n20_
                 have NB251_202 := n21_
                 have NB207_251 := n22_
                 have NB251_207 := n23_
                 have NB212_251 := n24_
                 have NB251_212 := n25_
                 have NB218_251 := n26_
                 have NB251_218 := n27_
                 clear n0_ n1_ n2_ n3_ n4_ n5_ n6_ n7_ n8_ n9_ n10_ n11_ n12_ n13_ n14_ n15_ n16_ n17_ n18_ n19_ n20_ n21_ n22_ n23_ n24_ n25_ n26_ n27_
                 clear hb hbox hg
                 obtain ⟨Ao155, co155, eo155⟩ := Kd.R_slice HO241.out
                 (first | subst eo155 | (injection eo155 with f1_ f2_ f3_; have f4_ := f1_.symm; have f5_ := f3_.symm; clear f1_ f2_ f3_; subst f4_; subst f5_))
                 obtain ⟨Ao156, co156, eo156⟩ := Kd.R_slice HO245.out
                 (first | subst eo156 | (injection eo156 with f1_ f2_ f3_; have f4_ := f1_.symm; have f5_ := f3_.symm; clear f1_ f2_ f3_; subst f4_; subst f5_))
                 refine hK.out _ _ ⟨(blk_cell BK185.out 0).trans rfl, (blk_cell BK185.out 1).trans rfl, (blk_cell BK186.out 0).trans rfl, (blk_cell BK186.out 1).trans rfl⟩ (fun hHeld => ?_)
                 clear hK K
                 refine norm_ (a' := ?_) ?_ ?_
                 rotate_left
                 ·show Act.put _ (some 15) _ = _
                  simp only [Act.put, List.setIfInBounds_toArray, List.set_cons_zero, List.set_cons_succ, i64_w, i32_w]
                  rfl
                 refine one_ (i := 4) (N := some 99) #[true, true, true, true, true, false, false, false, true, false, false] rfl rfl (one_of HT_.out (by kernel_rfl)) (by decide) (fun K hK => ?_)
                 refine goes_ Try.func48 (by kernel_rfl) rfl #[.agg #[.int .i64 t238, .slice Ao155 t239.length co155], .agg #[.int .i64 t242, .slice Ao156 t243.length co156]] (by rfl) rfl rfl lm1_ ?_
                 with_reducible refine (impl_XorBits.calls kj95 t238 _ _ t239 t242 _ _ t243 t246 t247 t250 _ ?side1 ?side2 ?side3 ?side4 A140.out).mono ?_
                 (case side1 => exact lc1_ (Kd.R_reads' HO241.out).2.2)
                 (case side2 => exact (Kd.R_reads' HO241.out).2.1)
                 (case side3 => exact lc1_ (Kd.R_reads' HO245.out).2.2)
                 (case side4 => exact (Kd.R_reads' HO245.out).2.1)
                 rintro e w157 ⟨v248, rfl, ho0, hb⟩
                 refine ⟨_, rfl, ?_⟩
                 have n0_ := am1_ (Kd.R_elder' (lf1_ HO_203001) (Kd.R_base ho0) hb)
                 have n1_ := am1_ (Kd.R_elder' (lf1_ HO_208001) (Kd.R_base ho0) hb)
                 have n2_ := am1_ (Kd.R_elder' (lf1_ HO_213001) (Kd.R_base ho0) hb)
                 have n3_ := am1_ (Kd.R_elder' (lf1_ HO_219001) (Kd.R_base ho0) hb)
                 have n4_ := am1_ (Kd.R_elder' (lf1_ HO241) (Kd.R_base ho0) hb)
                 have n5_ := am1_ (Kd.R_elder' (lf1_ HO245) (Kd.R_base ho0) hb)
                 have n6_ := am1_ (Kd.R_lower (Kd.R_new' (Kd.R_new' (Kd.R_new' (Kd.R_new' (Kd.R_new' (Kd.R_new' ho0 (Kd.R_lt (lf1_ HO_203001))) (Kd.R_lt (lf1_ HO_208001))) (Kd.R_lt (lf1_ HO_213001))) (Kd.R_lt (lf1_ HO_219001))) (Kd.R_lt (lf1_ HO241))) (Kd.R_lt (lf1_ HO245))) (below_size (lw1_ HB)))
                 have n7_ := am1_ (blk_below (g := gb185) (o := .cells #[.int .i64 a0_0, .slice A0_1 l0_1.length c0_1] 24 (0, 0)) (lb1_ BK185) hb)
                 have n8_ := am1_ (blk_below (g := gb186) (o := .cells #[.int .i64 a1_0, .slice A1_1 l1_1.length c1_1] 24 (0, 0)) (lb1_ BK186) hb)
                 have n9_ := am1_ (blk_below (g := gb202) (o := .cells #[.int .i64 t197, .slice Ao42 t198.length co42] 29 (0, 0)) (lb1_ BK202) hb)
                 have n10_ := am1_ (blk_below (g := gb207) (o := .cells #[.int .i64 t203, .slice Ao52 t231.length co52] 29 (0, 0)) (lb1_ BK207) hb)
                 have n11_ := am1_ (blk_below (g := gb212) (o := .cells #[.int .i64 t208, .slice Ao62 t233.length co62] 29 (0, 0)) (lb1_ BK212) hb)
                 have n12_ := am1_ (blk_below (g := gb218) (o := .cells #[.int .i64 t213, .slice Ao72 t214.length co72] 29 (0, 0)) (lb1_ BK218) hb)
                 have n13_ := am1_ (blk_below (g := gb251) (o := .cells #[.int .i64 0, .slice none 0 0] 29 (0, 0)) (lb1_ BK251) hb)
                 have n14_ := am1_ (below_step (lw1_ HB) hb)
                 clear HO_203001
                 clear HO_208001
                 clear HO_213001
                 clear HO_219001
                 clear HO241
                 clear HO245
                 clear BK185
                 clear BK186
                 clear BK202
                 clear BK207
                 clear BK212
                 clear BK218
                 clear BK251
                 clear HB
                 have HO_203001 := n0_
                 have HO_208001 := n1_
                 have HO_213001 := n2_
                 have HO_219001 := n3_
                 have HO241 := n4_
                 have HO245 := n5_
                 have HO249 := n6_
                 have BK185 := n7_
                 have BK186 := n8_
                 have BK202 := n9_
                 have BK207 := n10_
                 have BK212 := n11_
                 have BK218 := n12_
                 have BK251 := n13_
                 have HB := n14_
                 clear n0_ n1_ n2_ n3_ n4_ n5_ n6_ n7_ n8_ n9_ n10_ n11_ n12_ n13_ n14_
                 (try clear hb)
                 (try clear hb2)
                 (try clear hk)
                 (try clear hi)
                 (try clear ho0)
                 refine hK.out _ _ ⟨(blk_cell BK185.out 0).trans rfl, (blk_cell BK185.out 1).trans rfl, (blk_cell BK186.out 0).trans rfl, (blk_cell BK186.out 1).trans rfl⟩ (fun hHeld => ?_)
                 clear hK K
                 refine norm_ (a' := ?_) ?_ ?_
                 rotate_left
                 ·show Act.put _ (some 99) _ = _
                  simp only [Act.put, List.setIfInBounds_toArray, List.set_cons_zero, List.set_cons_succ, i64_w, i32_w]
                  rfl
                 refine pure_ (i := 5) (N := some 94) (v := ?_) (a' := ?_) #[true, true, true, true, true, true, false, false, true, false, false] rfl rfl (any_of HT_.out (by kernel_rfl)) (fun _ _ _ h => h) (Or.inl ⟨by rfl, ?_⟩) ?_ ?_
                 rotate_left
                 ·intro w'
                  go_simp
                  with_reducible rfl
                 rotate_left
                 ·simp only [Act.put, List.setIfInBounds_toArray, List.set_cons_zero, List.set_cons_succ, i64_w, i32_w]
                  rfl
                 refine pure_ (i := 6) (N := some 100) (v := ?_) (a' := ?_) #[true, true, true, true, true, true, true, false, true, false, false] rfl rfl (any_of HT_.out (by kernel_rfl)) (fun _ _ _ h => h) (Or.inl ⟨by rfl, ?_⟩) ?_ ?_
                 rotate_left
                 ·intro w'
                  go_simp
                  with_reducible rfl
                 rotate_left
                 ·simp only [Act.put, List.setIfInBounds_toArray, List.set_cons_zero, List.set_cons_succ, i64_w, i32_w]
                  rfl
                 refine pure_ (i := 7) (N := some 101) (v := ?_) (a' := ?_) #[true, true, true, true, true, true, true, true, true, false, false] rfl rfl (any_of HT_.out (by kernel_rfl)) (fun _ _ _ h => h) (Or.inl ⟨by rfl, ?_⟩) ?_ ?_
                 rotate_left
                 ·intro w'
                  go_simp
                  with_reducible rfl
                 rotate_left
                 ·simp only [Act.put, List.setIfInBounds_toArray, List.set_cons_zero, List.set_cons_succ, i64_w, i32_w]
                  rfl
                 exact norm_ (by simp only [putAll, Act.put, List.setIfInBounds_toArray, List.set_cons_zero, List.set_cons_succ]) (hCont (.slice Ao155 t239.length co155, .slice Ao156 t243.length co156, v248, gb251) _ ⟨hHeld, (by (with_reducible repeat (first | apply Kd.R_alloc | apply Kd.R_drewN | apply Kd.R_drew)); exact Kd.R_mono HO241.out (fun _ hk => ⟨hk.1.2, ⟨hk.2, ⟨hk.1.1.1.1.1.2, ⟨hk.1.1.1.1.2, ⟨hk.1.1.1.2, hk.1.1.2⟩⟩⟩⟩⟩)), (by (with_reducible repeat (first | apply Kd.R_alloc | apply Kd.R_drewN | apply Kd.R_drew)); exact Kd.R_mono HO245.out (fun _ hk => ⟨hk.1.2, ⟨hk.2, ⟨hk.1.1.1.1.1.2, ⟨hk.1.1.1.1.2, ⟨hk.1.1.1.2, hk.1.1.2⟩⟩⟩⟩⟩)), (by (with_reducible repeat (first | apply Kd.R_alloc | apply Kd.R_drewN | apply Kd.R_drew)); exact Kd.R_mono HO249.out (fun _ hk => ⟨hk.1.2, ⟨hk.2, ⟨hk.1.1.1.1.1.2, ⟨hk.1.1.1.1.2, ⟨hk.1.1.1.2, hk.1.1.2⟩⟩⟩⟩⟩)), (by (with_reducible repeat (first | apply Kd.R_alloc | apply Kd.R_drewN | apply Kd.R_drew)); exact Kd.R_mono HO_203001.out (fun _ hk => ⟨hk.1.1.2, ⟨hk.1.2, ⟨hk.2, ⟨hk.1.1.1.1, ⟨hk.1.1.1.2.1, hk.1.1.1.2.2⟩⟩⟩⟩⟩)), (by (with_reducible repeat (first | apply Kd.R_alloc | apply Kd.R_drewN | apply Kd.R_drew)); exact Kd.R_mono HO_208001.out (fun _ hk => ⟨hk.1.1.2, ⟨hk.1.2, ⟨hk.2, ⟨hk.1.1.1.1, ⟨hk.1.1.1.2.1, hk.1.1.1.2.2⟩⟩⟩⟩⟩)), (by (with_reducible repeat (first | apply Kd.R_alloc | apply Kd.R_drewN | apply Kd.R_drew)); exact Kd.R_mono HO_213001.out (fun _ hk => ⟨hk.1.1.2, ⟨hk.1.2, ⟨hk.2, ⟨hk.1.1.1.1, ⟨hk.1.1.1.2.1, hk.1.1.1.2.2⟩⟩⟩⟩⟩)), (by (with_reducible repeat (first | apply Kd.R_alloc | apply Kd.R_drewN | apply Kd.R_drew)); exact Kd.R_mono HO_219001.out (fun _ hk => ⟨hk.1.1.2, ⟨hk.1.2, ⟨hk.2, ⟨hk.1.1.1.1, ⟨hk.1.1.1.2.1, hk.1.1.1.2.2⟩⟩⟩⟩⟩)), (lb1_ BK185), (lb1_ BK186), (lb1_ BK202), (lb1_ BK207), (lb1_ BK212), (lb1_ BK218), (lb1_ BK251), GW251.out, GE251.out, NB185_251.out, NB251_185.out, NB186_251.out, NB251_186.out, NB202_251.out, NB251_202.out, NB207_251.out, NB251_207.out, NB212_251.out, NB251_212.out, NB218_251.out, NB251_218.out, (lw1_ HB)⟩)
               ·skip
                refine box_step ?hg (N := 15) ?hd (cs := #[.int .i64 0, .slice none 0 0]) (t := 29) ?hr ?_; (case hd => rfl); (case hg => rfl); (case hr => first | (go_simp; done) | (go_simp; rfl))
                intro gb251 hg w153 hbox hb
                have n0_ := am1_ (Kd.R_below (lf1_ HO_203001) hb)
                have n1_ := am1_ (Kd.R_below (lf1_ HO_208001) hb)
                have n2_ := am1_ (Kd.R_below (lf1_ HO_213001) hb)
                have n3_ := am1_ (Kd.R_below (lf1_ HO_219001) hb)
                have n4_ := am1_ (Kd.R_below (lf1_ HO241) hb)
                have n5_ := am1_ (blk_below (g := gb185) (o := .cells #[.int .i64 a0_0, .slice A0_1 l0_1.length c0_1] 24 (0, 0)) (lb1_ BK185) hb)
                have n6_ := am1_ (blk_below (g := gb186) (o := .cells #[.int .i64 a1_0, .slice A1_1 l1_1.length c1_1] 24 (0, 0)) (lb1_ BK186) hb)
                have n7_ := am1_ (blk_below (g := gb202) (o := .cells #[.int .i64 t197, .slice Ao42 t198.length co42] 29 (0, 0)) (lb1_ BK202) hb)
                have n8_ := am1_ (blk_below (g := gb207) (o := .cells #[.int .i64 t203, .slice Ao52 t231.length co52] 29 (0, 0)) (lb1_ BK207) hb)
                have n9_ := am1_ (blk_below (g := gb212) (o := .cells #[.int .i64 t208, .slice Ao62 t233.length co62] 29 (0, 0)) (lb1_ BK212) hb)
                have n10_ := am1_ (blk_below (g := gb218) (o := .cells #[.int .i64 t213, .slice Ao72 t214.length co72] 29 (0, 0)) (lb1_ BK218) hb)
                have n11_ := am1_ (below_step (lw1_ HB) hb)
                have n12_ := am1_ (hbox)
                have n13_ := am1_ ((by rw [hg]; exact (below_size (lw1_ HB)) : w.heap.size ≤ gb251))
                have n14_ := am1_ ((by rw [hg]; exact (below_size (lw1_ HB)) : w.heap.size ≤ gb251))
                have n15_ := am1_ ((by rw [hg]; exact Nat.ne_of_lt (blk_lt (g := gb185) (lb1_ BK185)) : gb185 ≠ gb251))
                have n16_ := am1_ ((by rw [hg]; exact Nat.ne_of_gt (blk_lt (g := gb185) (lb1_ BK185)) : gb251 ≠ gb185))
                have n17_ := am1_ ((by rw [hg]; exact Nat.ne_of_lt (blk_lt (g := gb186) (lb1_ BK186)) : gb186 ≠ gb251))
                have n18_ := am1_ ((by rw [hg]; exact Nat.ne_of_gt (blk_lt (g := gb186) (lb1_ BK186)) : gb251 ≠ gb186))
                have n19_ := am1_ ((by rw [hg]; exact Nat.ne_of_lt (blk_lt (g := gb202) (lb1_ BK202)) : gb202 ≠ gb251))
                have n20_ := am1_ ((by rw [hg]; exact Nat.ne_of_gt (blk_lt (g := gb202) (lb1_ BK202)) : gb251 ≠ gb202))
                have n21_ := am1_ ((by rw [hg]; exact Nat.ne_of_lt (blk_lt (g := gb207) (lb1_ BK207)) : gb207 ≠ gb251))
                have n22_ := am1_ ((by rw [hg]; exact Nat.ne_of_gt (blk_lt (g := gb207) (lb1_ BK207)) : gb251 ≠ gb207))
                have n23_ := am1_ ((by rw [hg]; exact Nat.ne_of_lt (blk_lt (g := gb212) (lb1_ BK212)) : gb212 ≠ gb251))
                have n24_ := am1_ ((by rw [hg]; exact Nat.ne_of_gt (blk_lt (g := gb212) (lb1_ BK212)) : gb251 ≠ gb212))
                have n25_ := am1_ ((by rw [hg]; exact Nat.ne_of_lt (blk_lt (g := gb218) (lb1_ BK218)) : gb218 ≠ gb251))
                have n26_ := am1_ ((by rw [hg]; exact Nat.ne_of_gt (blk_lt (g := gb218) (lb1_ BK218)) : gb251 ≠ gb218))
                clear HO_203001
                clear HO_208001
                clear HO_213001
                clear HO_219001
                clear HO241
                clear BK185
                clear BK186
                clear BK202
                clear BK207
                clear BK212
                clear BK218
                clear HB
                have HO_203001 := n0_
                have HO_208001 := n1_
                have HO_213001 := n2_
                have HO_219001 := n3_
                have HO241 := n4_
                have BK185 := n5_
                have BK186 := n6_
                have BK202 := n7_
                have BK207 := n8_
                have BK212 := n9_
                have BK218 := n10_
                have HB := n11_
                have BK251 := n12_
                have GW251 := n13_
                have GE251 := n14_
                have NB185_251 := n15_
                have NB251_185 := n16_
                have NB186_251 := n17_
                have NB251_186 := n18_
                have NB202_251 := n19_
                have NB251_202 := n20_
                have NB207_251 := n21_
                have NB251_207 := n22_
                have NB212_251 := n23_
                have NB251_212 := n24_
                have NB218_251 := n25_
                have NB251_218 := n26_
                clear n0_ n1_ n2_ n3_ n4_ n5_ n6_ n7_ n8_ n9_ n10_ n11_ n12_ n13_ n14_ n15_ n16_ n17_ n18_ n19_ n20_ n21_ n22_ n23_ n24_ n25_ n26_
                clear hb hbox hg
                refine hK.out _ _ ⟨(blk_cell BK185.out 0).trans rfl, (blk_cell BK185.out 1).trans rfl, (blk_cell BK186.out 0).trans rfl, (blk_cell BK186.out 1).trans rfl⟩ (fun hHeld => ?_)
                clear hK K
                refine norm_ (a' := ?_) ?_ ?_
                rotate_left
                ·show Act.put _ (some 15) _ = _
                 simp only [Act.put, List.setIfInBounds_toArray, List.set_cons_zero, List.set_cons_succ, i64_w, i32_w]
                 rfl
                refine one_ (i := 3) (N := some 98) #[true, true, true, true, false, false, false, false, true, false, false] rfl rfl (one_of HT_.out (by kernel_rfl)) (by decide) (fun K hK => ?_)
                refine goes_ Try.func22 (by kernel_rfl) rfl #[.agg #[.int .i64 a1_0, .slice A1_1 l1_1.length c1_1]] (by rfl) rfl rfl lm1_ ?_
                with_reducible refine (laws_toBits.calls kj95 a1_0 _ _ l1_1 t242 t243 _ ?side1 ?side2 A139.out).mono ?_
                (case side1 => exact lc1_ (Kd.C_below HR1_1.out HB.out))
                (case side2 => exact HC1_1.out)
                rintro e w154 ⟨v244, rfl, ho0, hb⟩
                refine ⟨_, rfl, ?_⟩
                have n0_ := am1_ (Kd.R_elder' (lf1_ HO_203001) (Kd.R_base ho0) hb)
                have n1_ := am1_ (Kd.R_elder' (lf1_ HO_208001) (Kd.R_base ho0) hb)
                have n2_ := am1_ (Kd.R_elder' (lf1_ HO_213001) (Kd.R_base ho0) hb)
                have n3_ := am1_ (Kd.R_elder' (lf1_ HO_219001) (Kd.R_base ho0) hb)
                have n4_ := am1_ (Kd.R_elder' (lf1_ HO241) (Kd.R_base ho0) hb)
                have n5_ := am1_ (Kd.R_lower (Kd.R_new' (Kd.R_new' (Kd.R_new' (Kd.R_new' (Kd.R_new' ho0 (Kd.R_lt (lf1_ HO_203001))) (Kd.R_lt (lf1_ HO_208001))) (Kd.R_lt (lf1_ HO_213001))) (Kd.R_lt (lf1_ HO_219001))) (Kd.R_lt (lf1_ HO241))) (below_size (lw1_ HB)))
                have n6_ := am1_ (blk_below (g := gb185) (o := .cells #[.int .i64 a0_0, .slice A0_1 l0_1.length c0_1] 24 (0, 0)) (lb1_ BK185) hb)
                have n7_ := am1_ (blk_below (g := gb186) (o := .cells #[.int .i64 a1_0, .slice A1_1 l1_1.length c1_1] 24 (0, 0)) (lb1_ BK186) hb)
                have n8_ := am1_ (blk_below (g := gb202) (o := .cells #[.int .i64 t197, .slice Ao42 t198.length co42] 29 (0, 0)) (lb1_ BK202) hb)
                have n9_ := am1_ (blk_below (g := gb207) (o := .cells #[.int .i64 t203, .slice Ao52 t231.length co52] 29 (0, 0)) (lb1_ BK207) hb)
                have n10_ := am1_ (blk_below (g := gb212) (o := .cells #[.int .i64 t208, .slice Ao62 t233.length co62] 29 (0, 0)) (lb1_ BK212) hb)
                have n11_ := am1_ (blk_below (g := gb218) (o := .cells #[.int .i64 t213, .slice Ao72 t214.length co72] 29 (0, 0)) (lb1_ BK218) hb)
                have n12_ := am1_ (blk_below (g := gb251) (o := .cells #[.int .i64 0, .slice none 0 0] 29 (0, 0)) (lb1_ BK251) hb)
                have n13_ := am1_ (below_step (lw1_ HB) hb)
                clear HO_203001
                clear HO_208001
                clear HO_213001
                clear HO_219001
                clear HO241
                clear BK185
                clear BK186
                clear BK202
                clear BK207
                clear BK212
                clear BK218
                clear BK251
                clear HB
                have HO_203001 := n0_
                have HO_208001 := n1_
                have HO_213001 := n2_
                have HO_219001 := n3_
                have HO241 := n4_
                have HO245 := n5_
                have BK185 := n6_
                have BK186 := n7_
                have BK202 := n8_
                have BK207 := n9_
                have BK212 := n10_
                have BK218 := n11_
                have BK251 := n12_
                have HB := n13_
                clear n0_ n1_ n2_ n3_ n4_ n5_ n6_ n7_ n8_ n9_ n10_ n11_ n12_ n13_
                (try clear hb)
                (try clear hb2)
                (try clear hk)
                (try clear hi)
                (try clear ho0)
                obtain ⟨Ao155, co155, eo155⟩ := Kd.R_slice HO241.out
                (first | subst eo155 | (injection eo155 with f1_ f2_ f3_; have f4_ := f1_.symm; have f5_ := f3_.symm; clear f1_ f2_ f3_; subst f4_; subst f5_))
                obtain ⟨Ao156, co156, eo156⟩ := Kd.R_slice HO245.out
                (first | subst eo156 | (injection eo156 with f1_ f2_ f3_; have f4_ := f1_.symm; have f5_ := f3_.symm; clear f1_ f2_ f3_; subst f4_; subst f5_))
                refine hK.out _ _ ⟨(blk_cell BK185.out 0).trans rfl, (blk_cell BK185.out 1).trans rfl, (blk_cell BK186.out 0).trans rfl, (blk_cell BK186.out 1).trans rfl⟩ (fun hHeld => ?_)
                clear hK K
                refine norm_ (a' := ?_) ?_ ?_
                rotate_left
                ·show Act.put _ (some 98) _ = _
                 simp only [Act.put, List.setIfInBounds_toArray, List.set_cons_zero, List.set_cons_succ, i64_w, i32_w]
                 rfl
                refine one_ (i := 4) (N := some 99) #[true, true, true, true, true, false, false, false, true, false, false] rfl rfl (one_of HT_.out (by kernel_rfl)) (by decide) (fun K hK => ?_)
                refine goes_ Try.func48 (by kernel_rfl) rfl #[.agg #[.int .i64 t238, .slice Ao155 t239.length co155], .agg #[.int .i64 t242, .slice Ao156 t243.length co156]] (by rfl) rfl rfl lm1_ ?_
                with_reducible refine (impl_XorBits.calls kj95 t238 _ _ t239 t242 _ _ t243 t246 t247 t250 _ ?side1 ?side2 ?side3 ?side4 A140.out).mono ?_
                (case side1 => exact lc1_ (Kd.R_reads' HO241.out).2.2)
                (case side2 => exact (Kd.R_reads' HO241.out).2.1)
                (case side3 => exact lc1_ (Kd.R_reads' HO245.out).2.2)
                (case side4 => exact (Kd.R_reads' HO245.out).2.1)
                rintro e w157 ⟨v248, rfl, ho0, hb⟩
                refine ⟨_, rfl, ?_⟩
                have n0_ := am1_ (Kd.R_elder' (lf1_ HO_203001) (Kd.R_base ho0) hb)
                have n1_ := am1_ (Kd.R_elder' (lf1_ HO_208001) (Kd.R_base ho0) hb)
                have n2_ := am1_ (Kd.R_elder' (lf1_ HO_213001) (Kd.R_base ho0) hb)
                have n3_ := am1_ (Kd.R_elder' (lf1_ HO_219001) (Kd.R_base ho0) hb)
                have n4_ := am1_ (Kd.R_elder' (lf1_ HO241) (Kd.R_base ho0) hb)
                have n5_ := am1_ (Kd.R_elder' (lf1_ HO245) (Kd.R_base ho0) hb)
                have n6_ := am1_ (Kd.R_lower (Kd.R_new' (Kd.R_new' (Kd.R_new' (Kd.R_new' (Kd.R_new' (Kd.R_new' ho0 (Kd.R_lt (lf1_ HO_203001))) (Kd.R_lt (lf1_ HO_208001))) (Kd.R_lt (lf1_ HO_213001))) (Kd.R_lt (lf1_ HO_219001))) (Kd.R_lt (lf1_ HO241))) (Kd.R_lt (lf1_ HO245))) (below_size (lw1_ HB)))
                have n7_ := am1_ (blk_below (g := gb185) (o := .cells #[.int .i64 a0_0, .slice A0_1 l0_1.length c0_1] 24 (0, 0)) (lb1_ BK185) hb)
                have n8_ := am1_ (blk_below (g := gb186) (o := .cells #[.int .i64 a1_0, .slice A1_1 l1_1.length c1_1] 24 (0, 0)) (lb1_ BK186) hb)
                have n9_ := am1_ (blk_below (g := gb202) (o := .cells #[.int .i64 t197, .slice Ao42 t198.length co42] 29 (0, 0)) (lb1_ BK202) hb)
                have n10_ := am1_ (blk_below (g := gb207) (o := .cells #[.int .i64 t203, .slice Ao52 t231.length co52] 29 (0, 0)) (lb1_ BK207) hb)
                have n11_ := am1_ (blk_below (g := gb212) (o := .cells #[.int .i64 t208, .slice Ao62 t233.length co62] 29 (0, 0)) (lb1_ BK212) hb)
                have n12_ := am1_ (blk_below (g := gb218) (o := .cells #[.int .i64 t213, .slice Ao72 t214.length co72] 29 (0, 0)) (lb1_ BK218) hb)
                have n13_ := am1_ (blk_below (g := gb251) (o := .cells #[.int .i64 0, .slice none 0 0] 29 (0, 0)) (lb1_ BK251) hb)
                have n14_ := am1_ (below_step (lw1_ HB) hb)
                clear HO_203001
                clear HO_208001
                clear HO_213001
                clear HO_219001
                clear HO241
                clear HO245
                clear BK185
                clear BK186
                clear BK202
                clear BK207
                clear BK212
                clear BK218
                clear BK251
                clear HB
                have HO_203001 := n0_
                have HO_208001 := n1_
                have HO_213001 := n2_
                have HO_219001 := n3_
                have HO241 := n4_
                have HO245 := n5_
                have HO249 := n6_
                have BK185 := n7_
                have BK186 := n8_
                have BK202 := n9_
                have BK207 := n10_
                have BK212 := n11_
                have BK218 := n12_
                have BK251 := n13_
                have HB := n14_
                clear n0_ n1_ n2_ n3_ n4_ n5_ n6_ n7_ n8_ n9_ n10_ n11_ n12_ n13_ n14_
                (try clear hb)
                (try clear hb2)
                (try clear hk)
                (try clear hi)
                (try clear ho0)
                refine hK.out _ _ ⟨(blk_cell BK185.out 0).trans rfl, (blk_cell BK185.out 1).trans rfl, (blk_cell BK186.out 0).trans rfl, (blk_cell BK186.out 1).trans rfl⟩ (fun hHeld => ?_)
                clear hK K
                refine norm_ (a' := ?_) ?_ ?_
                rotate_left
                ·show Act.put _ (some 99) _ = _
                 simp only [Act.put, List.setIfInBounds_toArray, List.set_cons_zero, List.set_cons_succ, i64_w, i32_w]
                 rfl
                refine pure_ (i := 5) (N := some 94) (v := ?_) (a' := ?_) #[true, true, true, true, true, true, false, false, true, false, false] rfl rfl (any_of HT_.out (by kernel_rfl)) (fun _ _ _ h => h) (Or.inl ⟨by rfl, ?_⟩) ?_ ?_
                rotate_left
                ·intro w'
                 go_simp
                 with_reducible rfl
                rotate_left
                ·simp only [Act.put, List.setIfInBounds_toArray, List.set_cons_zero, List.set_cons_succ, i64_w, i32_w]
                 rfl
                refine pure_ (i := 6) (N := some 100) (v := ?_) (a' := ?_) #[true, true, true, true, true, true, true, false, true, false, false] rfl rfl (any_of HT_.out (by kernel_rfl)) (fun _ _ _ h => h) (Or.inl ⟨by rfl, ?_⟩) ?_ ?_
                rotate_left
                ·intro w'
                 go_simp
                 with_reducible rfl
                rotate_left
                ·simp only [Act.put, List.setIfInBounds_toArray, List.set_cons_zero, List.set_cons_succ, i64_w, i32_w]
                 rfl
                refine pure_ (i := 7) (N := some 101) (v := ?_) (a' := ?_) #[true, true, true, true, true, true, true, true, true, false, false] rfl rfl (any_of HT_.out (by kernel_rfl)) (fun _ _ _ h => h) (Or.inl ⟨by rfl, ?_⟩) ?_ ?_
                rotate_left
                ·intro w'
                 go_simp
                 with_reducible rfl
                rotate_left
                ·simp only [Act.put, List.setIfInBounds_toArray, List.set_cons_zero, List.set_cons_succ, i64_w, i32_w]
                 rfl
                exact norm_ (by simp only [putAll, Act.put, List.setIfInBounds_toArray, List.set_cons_zero, List.set_cons_succ]) (hCont (.slice Ao155 t239.length co155, .slice Ao156 t243.length co156, v248, gb251) _ ⟨hHeld, (by (with_reducible repeat (first | apply Kd.R_alloc | apply Kd.R_drewN | apply Kd.R_drew)); exact Kd.R_mono HO241.out (fun _ hk => ⟨hk.1.2, ⟨hk.2, ⟨hk.1.1.1.1.1.2, ⟨hk.1.1.1.1.2, ⟨hk.1.1.1.2, hk.1.1.2⟩⟩⟩⟩⟩)), (by (with_reducible repeat (first | apply Kd.R_alloc | apply Kd.R_drewN | apply Kd.R_drew)); exact Kd.R_mono HO245.out (fun _ hk => ⟨hk.1.2, ⟨hk.2, ⟨hk.1.1.1.1.1.2, ⟨hk.1.1.1.1.2, ⟨hk.1.1.1.2, hk.1.1.2⟩⟩⟩⟩⟩)), (by (with_reducible repeat (first | apply Kd.R_alloc | apply Kd.R_drewN | apply Kd.R_drew)); exact Kd.R_mono HO249.out (fun _ hk => ⟨hk.1.2, ⟨hk.2, ⟨hk.1.1.1.1.1.2, ⟨hk.1.1.1.1.2, ⟨hk.1.1.1.2, hk.1.1.2⟩⟩⟩⟩⟩)), (by (with_reducible repeat (first | apply Kd.R_alloc | apply Kd.R_drewN | apply Kd.R_drew)); exact Kd.R_mono HO_203001.out (fun _ hk => ⟨hk.1.1.2, ⟨hk.1.2, ⟨hk.2, ⟨hk.1.1.1.1, ⟨hk.1.1.1.2.1, hk.1.1.1.2.2⟩⟩⟩⟩⟩)), (by (with_reducible repeat (first | apply Kd.R_alloc | apply Kd.R_drewN | apply Kd.R_drew)); exact Kd.R_mono HO_208001.out (fun _ hk => ⟨hk.1.1.2, ⟨hk.1.2, ⟨hk.2, ⟨hk.1.1.1.1, ⟨hk.1.1.1.2.1, hk.1.1.1.2.2⟩⟩⟩⟩⟩)), (by (with_reducible repeat (first | apply Kd.R_alloc | apply Kd.R_drewN | apply Kd.R_drew)); exact Kd.R_mono HO_213001.out (fun _ hk => ⟨hk.1.1.2, ⟨hk.1.2, ⟨hk.2, ⟨hk.1.1.1.1, ⟨hk.1.1.1.2.1, hk.1.1.1.2.2⟩⟩⟩⟩⟩)), (by (with_reducible repeat (first | apply Kd.R_alloc | apply Kd.R_drewN | apply Kd.R_drew)); exact Kd.R_mono HO_219001.out (fun _ hk => ⟨hk.1.1.2, ⟨hk.1.2, ⟨hk.2, ⟨hk.1.1.1.1, ⟨hk.1.1.1.2.1, hk.1.1.1.2.2⟩⟩⟩⟩⟩)), (lb1_ BK185), (lb1_ BK186), (lb1_ BK202), (lb1_ BK207), (lb1_ BK212), (lb1_ BK218), (lb1_ BK251), GW251.out, GE251.out, NB185_251.out, NB251_185.out, NB186_251.out, NB251_186.out, NB202_251.out, NB251_202.out, NB207_251.out, NB251_207.out, NB212_251.out, NB251_212.out, NB218_251.out, NB251_218.out, (lw1_ HB)⟩)
              ·skip
               refine box_step ?hg (N := 15) ?hd (cs := #[.int .i64 0, .slice none 0 0]) (t := 29) ?hr ?_; (case hd => rfl); (case hg => rfl); (case hr => first | (go_simp; done) | (go_simp; rfl))
               intro gb251 hg w152 hbox hb
               have n0_ := am1_ (Kd.R_below (lf1_ HO_203001) hb)
               have n1_ := am1_ (Kd.R_below (lf1_ HO_208001) hb)
               have n2_ := am1_ (Kd.R_below (lf1_ HO_213001) hb)
               have n3_ := am1_ (Kd.R_below (lf1_ HO_219001) hb)
               have n4_ := am1_ (blk_below (g := gb185) (o := .cells #[.int .i64 a0_0, .slice A0_1 l0_1.length c0_1] 24 (0, 0)) (lb1_ BK185) hb)
               have n5_ := am1_ (blk_below (g := gb186) (o := .cells #[.int .i64 a1_0, .slice A1_1 l1_1.length c1_1] 24 (0, 0)) (lb1_ BK186) hb)
               have n6_ := am1_ (blk_below (g := gb202) (o := .cells #[.int .i64 t197, .slice Ao42 t198.length co42] 29 (0, 0)) (lb1_ BK202) hb)
               have n7_ := am1_ (blk_below (g := gb207) (o := .cells #[.int .i64 t203, .slice Ao52 t231.length co52] 29 (0, 0)) (lb1_ BK207) hb)
               have n8_ := am1_ (blk_below (g := gb212) (o := .cells #[.int .i64 t208, .slice Ao62 t233.length co62] 29 (0, 0)) (lb1_ BK212) hb)
               have n9_ := am1_ (blk_below (g := gb218) (o := .cells #[.int .i64 t213, .slice Ao72 t214.length co72] 29 (0, 0)) (lb1_ BK218) hb)
               have n10_ := am1_ (below_step (lw1_ HB) hb)
               have n11_ := am1_ (hbox)
               have n12_ := am1_ ((by rw [hg]; exact (below_size (lw1_ HB)) : w.heap.size ≤ gb251))
               have n13_ := am1_ ((by rw [hg]; exact (below_size (lw1_ HB)) : w.heap.size ≤ gb251))
               have n14_ := am1_ ((by rw [hg]; exact Nat.ne_of_lt (blk_lt (g := gb185) (lb1_ BK185)) : gb185 ≠ gb251))
               have n15_ := am1_ ((by rw [hg]; exact Nat.ne_of_gt (blk_lt (g := gb185) (lb1_ BK185)) : gb251 ≠ gb185))
               have n16_ := am1_ ((by rw [hg]; exact Nat.ne_of_lt (blk_lt (g := gb186) (lb1_ BK186)) : gb186 ≠ gb251))
               have n17_ := am1_ ((by rw [hg]; exact Nat.ne_of_gt (blk_lt (g := gb186) (lb1_ BK186)) : gb251 ≠ gb186))
               have n18_ := am1_ ((by rw [hg]; exact Nat.ne_of_lt (blk_lt (g := gb202) (lb1_ BK202)) : gb202 ≠ gb251))
               have n19_ := am1_ ((by rw [hg]; exact Nat.ne_of_gt (blk_lt (g := gb202) (lb1_ BK202)) : gb251 ≠ gb202))
               have n20_ := am1_ ((by rw [hg]; exact Nat.ne_of_lt (blk_lt (g := gb207) (lb1_ BK207)) : gb207 ≠ gb251))
               have n21_ := am1_ ((by rw [hg]; exact Nat.ne_of_gt (blk_lt (g := gb207) (lb1_ BK207)) : gb251 ≠ gb207))
               have n22_ := am1_ ((by rw [hg]; exact Nat.ne_of_lt (blk_lt (g := gb212) (lb1_ BK212)) : gb212 ≠ gb251))
               have n23_ := am1_ ((by rw [hg]; exact Nat.ne_of_gt (blk_lt (g := gb212) (lb1_ BK212)) : gb251 ≠ gb212))
               have n24_ := am1_ ((by rw [hg]; exact Nat.ne_of_lt (blk_lt (g := gb218) (lb1_ BK218)) : gb218 ≠ gb251))
               have n25_ := am1_ ((by rw [hg]; exact Nat.ne_of_gt (blk_lt (g := gb218) (lb1_ BK218)) : gb251 ≠ gb218))
               clear HO_203001
               clear HO_208001
               clear HO_213001
               clear HO_219001
               clear BK185
               clear BK186
               clear BK202
               clear BK207
               clear BK212
               clear BK218
               clear HB
               have HO_203001 := n0_
               have HO_208001 := n1_
               have HO_213001 := n2_
               have HO_219001 := n3_
               have BK185 := n4_
               have BK186 := n5_
               have BK202 := n6_
               have BK207 := n7_
               have BK212 := n8_
               have BK218 := n9_
               have HB := n10_
               have BK251 := n11_
               have GW251 := n12_
               have GE251 := n13_
               have NB185_251 := n14_
               have NB251_185 := n15_
               have NB186_251 := n16_
               have NB251_186 := n17_
               have NB202_251 := n18_
               have NB251_202 := n19_
               have NB207_251 := n20_
               have NB251_207 := n21_
               have NB212_251 := n22_
               have NB251_212 := n23_
               have NB218_251 := n24_
               have NB251_218 := n25_
               clear n0_ n1_ n2_ n3_ n4_ n5_ n6_ n7_ n8_ n9_ n10_ n11_ n12_ n13_ n14_ n15_ n16_ n17_ n18_ n19_ n20_ n21_ n22_ n23_ n24_ n25_
               clear hb hbox hg
               refine hK.out _ _ ⟨(blk_cell BK185.out 0).trans rfl, (blk_cell BK185.out 1).trans rfl, (blk_cell BK186.out 0).trans rfl, (blk_cell BK186.out 1).trans rfl⟩ (fun hHeld => ?_)
               clear hK K
               refine norm_ (a' := ?_) ?_ ?_
               rotate_left
               ·show Act.put _ (some 15) _ = _
                simp only [Act.put, List.setIfInBounds_toArray, List.set_cons_zero, List.set_cons_succ, i64_w, i32_w]
                rfl
               refine one_ (i := 1) (N := some 96) #[true, true, true, false, false, false, false, false, true, false, false] rfl rfl (one_of HT_.out (by kernel_rfl)) (by decide) (fun K hK => ?_)
               refine goes_ Try.func22 (by kernel_rfl) rfl #[.agg #[.int .i64 a0_0, .slice A0_1 l0_1.length c0_1]] (by rfl) rfl rfl lm1_ ?_
               with_reducible refine (laws_toBits.calls kj95 a0_0 _ _ l0_1 t238 t239 _ ?side1 ?side2 A138.out).mono ?_
               (case side1 => exact lc1_ (Kd.C_below HR0_1.out HB.out))
               (case side2 => exact HC0_1.out)
               rintro e w153 ⟨v240, rfl, ho0, hb⟩
               refine ⟨_, rfl, ?_⟩
               have n0_ := am1_ (Kd.R_elder' (lf1_ HO_203001) (Kd.R_base ho0) hb)
               have n1_ := am1_ (Kd.R_elder' (lf1_ HO_208001) (Kd.R_base ho0) hb)
               have n2_ := am1_ (Kd.R_elder' (lf1_ HO_213001) (Kd.R_base ho0) hb)
               have n3_ := am1_ (Kd.R_elder' (lf1_ HO_219001) (Kd.R_base ho0) hb)
               have n4_ := am1_ (Kd.R_lower (Kd.R_new' (Kd.R_new' (Kd.R_new' (Kd.R_new' ho0 (Kd.R_lt (lf1_ HO_203001))) (Kd.R_lt (lf1_ HO_208001))) (Kd.R_lt (lf1_ HO_213001))) (Kd.R_lt (lf1_ HO_219001))) (below_size (lw1_ HB)))
               have n5_ := am1_ (blk_below (g := gb185) (o := .cells #[.int .i64 a0_0, .slice A0_1 l0_1.length c0_1] 24 (0, 0)) (lb1_ BK185) hb)
               have n6_ := am1_ (blk_below (g := gb186) (o := .cells #[.int .i64 a1_0, .slice A1_1 l1_1.length c1_1] 24 (0, 0)) (lb1_ BK186) hb)
               have n7_ := am1_ (blk_below (g := gb202) (o := .cells #[.int .i64 t197, .slice Ao42 t198.length co42] 29 (0, 0)) (lb1_ BK202) hb)
               have n8_ := am1_ (blk_below (g := gb207) (o := .cells #[.int .i64 t203, .slice Ao52 t231.length co52] 29 (0, 0)) (lb1_ BK207) hb)
               have n9_ := am1_ (blk_below (g := gb212) (o := .cells #[.int .i64 t208, .slice Ao62 t233.length co62] 29 (0, 0)) (lb1_ BK212) hb)
               have n10_ := am1_ (blk_below (g := gb218) (o := .cells #[.int .i64 t213, .slice Ao72 t214.length co72] 29 (0, 0)) (lb1_ BK218) hb)
               have n11_ := am1_ (blk_below (g := gb251) (o := .cells #[.int .i64 0, .slice none 0 0] 29 (0, 0)) (lb1_ BK251) hb)
               have n12_ := am1_ (below_step (lw1_ HB) hb)
               clear HO_203001
               clear HO_208001
               clear HO_213001
               clear HO_219001
               clear BK185
               clear BK186
               clear BK202
               clear BK207
               clear BK212
               clear BK218
               clear BK251
               clear HB
               have HO_203001 := n0_
               have HO_208001 := n1_
               have HO_213001 := n2_
               have HO_219001 := n3_
               have HO241 := n4_
               have BK185 := n5_
               have BK186 := n6_
               have BK202 := n7_
               have BK207 := n8_
               have BK212 := n9_
               have BK218 := n10_
               have BK251 := n11_
               have HB := n12_
               clear n0_ n1_ n2_ n3_ n4_ n5_ n6_ n7_ n8_ n9_ n10_ n11_ n12_
               (try clear hb)
               (try clear hb2)
               (try clear hk)
               (try clear hi)
               (try clear ho0)
               refine hK.out _ _ ⟨(blk_cell BK185.out 0).trans rfl, (blk_cell BK185.out 1).trans rfl, (blk_cell BK186.out 0).trans rfl, (blk_cell BK186.out 1).trans rfl⟩ (fun hHeld => ?_)
               clear hK K
               refine norm_ (a' := ?_) ?_ ?_
               rotate_left
               ·show Act.put _ (some 96) _ = _
                simp only [Act.put, List.setIfInBounds_toArray, List.set_cons_zero, List.set_cons_succ, i64_w, i32_w]
                rfl
               refine one_ (i := 3) (N := some 98) #[true, true, true, true, false, false, false, false, true, false, false] rfl rfl (one_of HT_.out (by kernel_rfl)) (by decide) (fun K hK => ?_)
               refine goes_ Try.func22 (by kernel_rfl) rfl #[.agg #[.int .i64 a1_0, .slice A1_1 l1_1.length c1_1]] (by rfl) rfl rfl lm1_ ?_
               with_reducible refine (laws_toBits.calls kj95 a1_0 _ _ l1_1 t242 t243 _ ?side1 ?side2 A139.out).mono ?_
               (case side1 => exact lc1_ (Kd.C_below HR1_1.out HB.out))
               (case side2 => exact HC1_1.out)
               rintro e w154 ⟨v244, rfl, ho0, hb⟩
               refine ⟨_, rfl, ?_⟩
               have n0_ := am1_ (Kd.R_elder' (lf1_ HO_203001) (Kd.R_base ho0) hb)
               have n1_ := am1_ (Kd.R_elder' (lf1_ HO_208001) (Kd.R_base ho0) hb)
               have n2_ := am1_ (Kd.R_elder' (lf1_ HO_213001) (Kd.R_base ho0) hb)
               have n3_ := am1_ (Kd.R_elder' (lf1_ HO_219001) (Kd.R_base ho0) hb)
               have n4_ := am1_ (Kd.R_elder' (lf1_ HO241) (Kd.R_base ho0) hb)
               have n5_ := am1_ (Kd.R_lower (Kd.R_new' (Kd.R_new' (Kd.R_new' (Kd.R_new' (Kd.R_new' ho0 (Kd.R_lt (lf1_ HO_203001))) (Kd.R_lt (lf1_ HO_208001))) (Kd.R_lt (lf1_ HO_213001))) (Kd.R_lt (lf1_ HO_219001))) (Kd.R_lt (lf1_ HO241))) (below_size (lw1_ HB)))
               have n6_ := am1_ (blk_below (g := gb185) (o := .cells #[.int .i64 a0_0, .slice A0_1 l0_1.length c0_1] 24 (0, 0)) (lb1_ BK185) hb)
               have n7_ := am1_ (blk_below (g := gb186) (o := .cells #[.int .i64 a1_0, .slice A1_1 l1_1.length c1_1] 24 (0, 0)) (lb1_ BK186) hb)
               have n8_ := am1_ (blk_below (g := gb202) (o := .cells #[.int .i64 t197, .slice Ao42 t198.length co42] 29 (0, 0)) (lb1_ BK202) hb)
               have n9_ := am1_ (blk_below (g := gb207) (o := .cells #[.int .i64 t203, .slice Ao52 t231.length co52] 29 (0, 0)) (lb1_ BK207) hb)
               have n10_ := am1_ (blk_below (g := gb212) (o := .cells #[.int .i64 t208, .slice Ao62 t233.length co62] 29 (0, 0)) (lb1_ BK212) hb)
               have n11_ := am1_ (blk_below (g := gb218) (o := .cells #[.int .i64 t213, .slice Ao72 t214.length co72] 29 (0, 0)) (lb1_ BK218) hb)
               have n12_ := am1_ (blk_below (g := gb251) (o := .cells #[.int .i64 0, .slice none 0 0] 29 (0, 0)) (lb1_ BK251) hb)
               have n13_ := am1_ (below_step (lw1_ HB) hb)
               clear HO_203001
               clear HO_208001
               clear HO_213001
               clear HO_219001
               clear HO241
               clear BK185
               clear BK186
               clear BK202
               clear BK207
               clear BK212
               clear BK218
               clear BK251
               clear HB
               have HO_203001 := n0_
               have HO_208001 := n1_
               have HO_213001 := n2_
               have HO_219001 := n3_
               have HO241 := n4_
               have HO245 := n5_
               have BK185 := n6_
               have BK186 := n7_
               have BK202 := n8_
               have BK207 := n9_
               have BK212 := n10_
               have BK218 := n11_
               have BK251 := n12_
               have HB := n13_
               clear n0_ n1_ n2_ n3_ n4_ n5_ n6_ n7_ n8_ n9_ n10_ n11_ n12_ n13_
               (try clear hb)
               (try clear hb2)
               (try clear hk)
               (try clear hi)
               (try clear ho0)
               obtain ⟨Ao155, co155, eo155⟩ := Kd.R_slice HO241.out
               (first | subst eo155 | (injection eo155 with f1_ f2_ f3_; have f4_ := f1_.symm; have f5_ := f3_.symm; clear f1_ f2_ f3_; subst f4_; subst f5_))
               obtain ⟨Ao156, co156, eo156⟩ := Kd.R_slice HO245.out
               (first | subst eo156 | (injection eo156 with f1_ f2_ f3_; have f4_ := f1_.symm; have f5_ := f3_.symm; clear f1_ f2_ f3_; subst f4_; subst f5_))
               refine hK.out _ _ ⟨(blk_cell BK185.out 0).trans rfl, (blk_cell BK185.out 1).trans rfl, (blk_cell BK186.out 0).trans rfl, (blk_cell BK186.out 1).trans rfl⟩ (fun hHeld => ?_)
               clear hK K
               refine norm_ (a' := ?_) ?_ ?_
               rotate_left
               ·show Act.put _ (some 98) _ = _
                simp only [Act.put, List.setIfInBounds_toArray, List.set_cons_zero, List.set_cons_succ, i64_w, i32_w]
                rfl
               refine one_ (i := 4) (N := some 99) #[true, true, true, true, true, false, false, false, true, false, false] rfl rfl (one_of HT_.out (by kernel_rfl)) (by decide) (fun K hK => ?_)
               refine goes_ Try.func48 (by kernel_rfl) rfl #[.agg #[.int .i64 t238, .slice Ao155 t239.length co155], .agg #[.int .i64 t242, .slice Ao156 t243.length co156]] (by rfl) rfl rfl lm1_ ?_
               with_reducible refine (impl_XorBits.calls kj95 t238 _ _ t239 t242 _ _ t243 t246 t247 t250 _ ?side1 ?side2 ?side3 ?side4 A140.out).mono ?_
               (case side1 => exact lc1_ (Kd.R_reads' HO241.out).2.2)
               (case side2 => exact (Kd.R_reads' HO241.out).2.1)
               (case side3 => exact lc1_ (Kd.R_reads' HO245.out).2.2)
               (case side4 => exact (Kd.R_reads' HO245.out).2.1)
               rintro e w157 ⟨v248, rfl, ho0, hb⟩
               refine ⟨_, rfl, ?_⟩
               have n0_ := am1_ (Kd.R_elder' (lf1_ HO_203001) (Kd.R_base ho0) hb)
               have n1_ := am1_ (Kd.R_elder' (lf1_ HO_208001) (Kd.R_base ho0) hb)
               have n2_ := am1_ (Kd.R_elder' (lf1_ HO_213001) (Kd.R_base ho0) hb)
               have n3_ := am1_ (Kd.R_elder' (lf1_ HO_219001) (Kd.R_base ho0) hb)
               have n4_ := am1_ (Kd.R_elder' (lf1_ HO241) (Kd.R_base ho0) hb)
               have n5_ := am1_ (Kd.R_elder' (lf1_ HO245) (Kd.R_base ho0) hb)
               have n6_ := am1_ (Kd.R_lower (Kd.R_new' (Kd.R_new' (Kd.R_new' (Kd.R_new' (Kd.R_new' (Kd.R_new' ho0 (Kd.R_lt (lf1_ HO_203001))) (Kd.R_lt (lf1_ HO_208001))) (Kd.R_lt (lf1_ HO_213001))) (Kd.R_lt (lf1_ HO_219001))) (Kd.R_lt (lf1_ HO241))) (Kd.R_lt (lf1_ HO245))) (below_size (lw1_ HB)))
               have n7_ := am1_ (blk_below (g := gb185) (o := .cells #[.int .i64 a0_0, .slice A0_1 l0_1.length c0_1] 24 (0, 0)) (lb1_ BK185) hb)
               have n8_ := am1_ (blk_below (g := gb186) (o := .cells #[.int .i64 a1_0, .slice A1_1 l1_1.length c1_1] 24 (0, 0)) (lb1_ BK186) hb)
               have n9_ := am1_ (blk_below (g := gb202) (o := .cells #[.int .i64 t197, .slice Ao42 t198.length co42] 29 (0, 0)) (lb1_ BK202) hb)
               have n10_ := am1_ (blk_below (g := gb207) (o := .cells #[.int .i64 t203, .slice Ao52 t231.length co52] 29 (0, 0)) (lb1_ BK207) hb)
               have n11_ := am1_ (blk_below (g := gb212) (o := .cells #[.int .i64 t208, .slice Ao62 t233.length co62] 29 (0, 0)) (lb1_ BK212) hb)
               have n12_ := am1_ (blk_below (g := gb218) (o := .cells #[.int .i64 t213, .slice Ao72 t214.length co72] 29 (0, 0)) (lb1_ BK218) hb)
               have n13_ := am1_ (blk_below (g := gb251) (o := .cells #[.int .i64 0, .slice none 0 0] 29 (0, 0)) (lb1_ BK251) hb)
               have n14_ := am1_ (below_step (lw1_ HB) hb)
               clear HO_203001
               clear HO_208001
               clear HO_213001
               clear HO_219001
               clear HO241
               clear HO245
               clear BK185
               clear BK186
               clear BK202
               clear BK207
               clear BK212
               clear BK218
               clear BK251
               clear HB
               have HO_203001 := n0_
               have HO_208001 := n1_
               have HO_213001 := n2_
               have HO_219001 := n3_
               have HO241 := n4_
               have HO245 := n5_
               have HO249 := n6_
               have BK185 := n7_
               have BK186 := n8_
               have BK202 := n9_
               have BK207 := n10_
               have BK212 := n11_
               have BK218 := n12_
               have BK251 := n13_
               have HB := n14_
               clear n0_ n1_ n2_ n3_ n4_ n5_ n6_ n7_ n8_ n9_ n10_ n11_ n12_ n13_ n14_
               (try clear hb)
               (try clear hb2)
               (try clear hk)
               (try clear hi)
               (try clear ho0)
               refine hK.out _ _ ⟨(blk_cell BK185.out 0).trans rfl, (blk_cell BK185.out 1).trans rfl, (blk_cell BK186.out 0).trans rfl, (blk_cell BK186.out 1).trans rfl⟩ (fun hHeld => ?_)
               clear hK K
               refine norm_ (a' := ?_) ?_ ?_
               rotate_left
               ·show Act.put _ (some 99) _ = _
                simp only [Act.put, List.setIfInBounds_toArray, List.set_cons_zero, List.set_cons_succ, i64_w, i32_w]
                rfl
               refine pure_ (i := 5) (N := some 94) (v := ?_) (a' := ?_) #[true, true, true, true, true, true, false, false, true, false, false] rfl rfl (any_of HT_.out (by kernel_rfl)) (fun _ _ _ h => h) (Or.inl ⟨by rfl, ?_⟩) ?_ ?_
               rotate_left
               ·intro w'
                go_simp
                with_reducible rfl
               rotate_left
               ·simp only [Act.put, List.setIfInBounds_toArray, List.set_cons_zero, List.set_cons_succ, i64_w, i32_w]
                rfl
               refine pure_ (i := 6) (N := some 100) (v := ?_) (a' := ?_) #[true, true, true, true, true, true, true, false, true, false, false] rfl rfl (any_of HT_.out (by kernel_rfl)) (fun _ _ _ h => h) (Or.inl ⟨by rfl, ?_⟩) ?_ ?_
               rotate_left
               ·intro w'
                go_simp
                with_reducible rfl
               rotate_left
               ·simp only [Act.put, List.setIfInBounds_toArray, List.set_cons_zero, List.set_cons_succ, i64_w, i32_w]
                rfl
               refine pure_ (i := 7) (N := some 101) (v := ?_) (a' := ?_) #[true, true, true, true, true, true, true, true, true, false, false] rfl rfl (any_of HT_.out (by kernel_rfl)) (fun _ _ _ h => h) (Or.inl ⟨by rfl, ?_⟩) ?_ ?_
               rotate_left
               ·intro w'
                go_simp
                with_reducible rfl
               rotate_left
               ·simp only [Act.put, List.setIfInBounds_toArray, List.set_cons_zero, List.set_cons_succ, i64_w, i32_w]
                rfl
               exact norm_ (by simp only [putAll, Act.put, List.setIfInBounds_toArray, List.set_cons_zero, List.set_cons_succ]) (hCont (.slice Ao155 t239.length co155, .slice Ao156 t243.length co156, v248, gb251) _ ⟨hHeld, (by (with_reducible repeat (first | apply Kd.R_alloc | apply Kd.R_drewN | apply Kd.R_drew)); exact Kd.R_mono HO241.out (fun _ hk => ⟨hk.1.2, ⟨hk.2, ⟨hk.1.1.1.1.1.2, ⟨hk.1.1.1.1.2, ⟨hk.1.1.1.2, hk.1.1.2⟩⟩⟩⟩⟩)), (by (with_reducible repeat (first | apply Kd.R_alloc | apply Kd.R_drewN | apply Kd.R_drew)); exact Kd.R_mono HO245.out (fun _ hk => ⟨hk.1.2, ⟨hk.2, ⟨hk.1.1.1.1.1.2, ⟨hk.1.1.1.1.2, ⟨hk.1.1.1.2, hk.1.1.2⟩⟩⟩⟩⟩)), (by (with_reducible repeat (first | apply Kd.R_alloc | apply Kd.R_drewN | apply Kd.R_drew)); exact Kd.R_mono HO249.out (fun _ hk => ⟨hk.1.2, ⟨hk.2, ⟨hk.1.1.1.1.1.2, ⟨hk.1.1.1.1.2, ⟨hk.1.1.1.2, hk.1.1.2⟩⟩⟩⟩⟩)), (by (with_reducible repeat (first | apply Kd.R_alloc | apply Kd.R_drewN | apply Kd.R_drew)); exact Kd.R_mono HO_203001.out (fun _ hk => ⟨hk.1.1.2, ⟨hk.1.2, ⟨hk.2, ⟨hk.1.1.1.1, ⟨hk.1.1.1.2.1, hk.1.1.1.2.2⟩⟩⟩⟩⟩)), (by (with_reducible repeat (first | apply Kd.R_alloc | apply Kd.R_drewN | apply Kd.R_drew)); exact Kd.R_mono HO_208001.out (fun _ hk => ⟨hk.1.1.2, ⟨hk.1.2, ⟨hk.2, ⟨hk.1.1.1.1, ⟨hk.1.1.1.2.1, hk.1.1.1.2.2⟩⟩⟩⟩⟩)), (by (with_reducible repeat (first | apply Kd.R_alloc | apply Kd.R_drewN | apply Kd.R_drew)); exact Kd.R_mono HO_213001.out (fun _ hk => ⟨hk.1.1.2, ⟨hk.1.2, ⟨hk.2, ⟨hk.1.1.1.1, ⟨hk.1.1.1.2.1, hk.1.1.1.2.2⟩⟩⟩⟩⟩)), (by (with_reducible repeat (first | apply Kd.R_alloc | apply Kd.R_drewN | apply Kd.R_drew)); exact Kd.R_mono HO_219001.out (fun _ hk => ⟨hk.1.1.2, ⟨hk.1.2, ⟨hk.2, ⟨hk.1.1.1.1, ⟨hk.1.1.1.2.1, hk.1.1.1.2.2⟩⟩⟩⟩⟩)), (lb1_ BK185), (lb1_ BK186), (lb1_ BK202), (lb1_ BK207), (lb1_ BK212), (lb1_ BK218), (lb1_ BK251), GW251.out, GE251.out, NB185_251.out, NB251_185.out, NB186_251.out, NB251_186.out, NB202_251.out, NB251_202.out, NB207_251.out, NB251_207.out, NB212_251.out, NB251_212.out, NB218_251.out, NB251_218.out, (lw1_ HB)⟩)
             rintro ⟨v240, v244, v248, gb251⟩ w158 ⟨hS_, h0_, h1_, h2_, h3_, h4_, h5_, h6_, h7_, h8_, h9_, h10_, h11_, h12_, h13_, h14_, h15_, h16_, h17_, h18_, h19_, h20_, h21_, h22_, h23_, h24_, h25_, h26_, h27_, h28_⟩
             have n0_ : Aside0 (Kd.R (Kd.int .i64) 3 w158 w.heap.size (fun k_ => some k_ ≠ (v244 : Value).ownBlock ∧ some k_ ≠ (v248 : Value).ownBlock ∧ some k_ ≠ (.slice Ao42 t198.length co42 : Value).ownBlock ∧ some k_ ≠ (.slice Ao52 t231.length co52 : Value).ownBlock ∧ some k_ ≠ (.slice Ao62 t233.length co62 : Value).ownBlock ∧ some k_ ≠ (.slice Ao72 t214.length co72 : Value).ownBlock) v240 t239) := ⟨h0_⟩
             have n1_ : Aside0 (Kd.R (Kd.int .i64) 3 w158 w.heap.size (fun k_ => some k_ ≠ (v240 : Value).ownBlock ∧ some k_ ≠ (v248 : Value).ownBlock ∧ some k_ ≠ (.slice Ao42 t198.length co42 : Value).ownBlock ∧ some k_ ≠ (.slice Ao52 t231.length co52 : Value).ownBlock ∧ some k_ ≠ (.slice Ao62 t233.length co62 : Value).ownBlock ∧ some k_ ≠ (.slice Ao72 t214.length co72 : Value).ownBlock) v244 t243) := ⟨h1_⟩
             have n2_ : Aside0 (Kd.R (Kd.int .i64) 3 w158 w.heap.size (fun k_ => some k_ ≠ (v240 : Value).ownBlock ∧ some k_ ≠ (v244 : Value).ownBlock ∧ some k_ ≠ (.slice Ao42 t198.length co42 : Value).ownBlock ∧ some k_ ≠ (.slice Ao52 t231.length co52 : Value).ownBlock ∧ some k_ ≠ (.slice Ao62 t233.length co62 : Value).ownBlock ∧ some k_ ≠ (.slice Ao72 t214.length co72 : Value).ownBlock) v248 t247) := ⟨h2_⟩
             have n3_ : Aside0 (Kd.R (Kd.int .i64) 3 w158 w.heap.size (fun k_ => some k_ ≠ (v240 : Value).ownBlock ∧ some k_ ≠ (v244 : Value).ownBlock ∧ some k_ ≠ (v248 : Value).ownBlock ∧ some k_ ≠ (.slice Ao52 t231.length co52 : Value).ownBlock ∧ some k_ ≠ (.slice Ao62 t233.length co62 : Value).ownBlock ∧ some k_ ≠ (.slice Ao72 t214.length co72 : Value).ownBlock) (.slice Ao42 t198.length co42) t198) := ⟨h3_⟩
             have n4_ : Aside0 (Kd.R (Kd.int .i64) 3 w158 w.heap.size (fun k_ => some k_ ≠ (v240 : Value).ownBlock ∧ some k_ ≠ (v244 : Value).ownBlock ∧ some k_ ≠ (v248 : Value).ownBlock ∧ some k_ ≠ (.slice Ao42 t198.length co42 : Value).ownBlock ∧ some k_ ≠ (.slice Ao62 t233.length co62 : Value).ownBlock ∧ some k_ ≠ (.slice Ao72 t214.length co72 : Value).ownBlock) (.slice Ao52 t231.length co52) t231) := ⟨h4_⟩
             have n5_ : Aside0 (Kd.R (Kd.int .i64) 3 w158 w.heap.size (fun k_ => some k_ ≠ (v240 : Value).ownBlock ∧ some k_ ≠ (v244 : Value).ownBlock ∧ some k_ ≠ (v248 : Value).ownBlock ∧ some k_ ≠ (.slice Ao42 t198.length co42 : Value).ownBlock ∧ some k_ ≠ (.slice Ao52 t231.length co52 : Value).ownBlock ∧ some k_ ≠ (.slice Ao72 t214.length co72 : Value).ownBlock) (.slice Ao62 t233.length co62) t233) := ⟨h5_⟩
             have n6_ : Aside0 (Kd.R (Kd.int .i64) 3 w158 w.heap.size (fun k_ => some k_ ≠ (v240 : Value).ownBlock ∧ some k_ ≠ (v244 : Value).ownBlock ∧ some k_ ≠ (v248 : Value).ownBlock ∧ some k_ ≠ (.slice Ao42 t198.length co42 : Value).ownBlock ∧ some k_ ≠ (.slice Ao52 t231.length co52 : Value).ownBlock ∧ some k_ ≠ (.slice Ao62 t233.length co62 : Value).ownBlock) (.slice Ao72 t214.length co72) t236) := ⟨h6_⟩
             have n7_ : Aside0 (w158.heap[gb185]? = some (.cells #[.int .i64 a0_0, .slice A0_1 l0_1.length c0_1] 24 (0, 0))) := ⟨h7_⟩
             have n8_ : Aside0 (w158.heap[gb186]? = some (.cells #[.int .i64 a1_0, .slice A1_1 l1_1.length c1_1] 24 (0, 0))) := ⟨h8_⟩
             have n9_ : Aside0 (w158.heap[gb202]? = some (.cells #[.int .i64 t197, .slice Ao42 t198.length co42] 29 (0, 0))) := ⟨h9_⟩
             have n10_ : Aside0 (w158.heap[gb207]? = some (.cells #[.int .i64 t203, .slice Ao52 t231.length co52] 29 (0, 0))) := ⟨h10_⟩
             have n11_ : Aside0 (w158.heap[gb212]? = some (.cells #[.int .i64 t208, .slice Ao62 t233.length co62] 29 (0, 0))) := ⟨h11_⟩
             have n12_ : Aside0 (w158.heap[gb218]? = some (.cells #[.int .i64 t213, .slice Ao72 t214.length co72] 29 (0, 0))) := ⟨h12_⟩
             have n13_ : Aside0 (w158.heap[gb251]? = some (.cells #[.int .i64 0, .slice none 0 0] 29 (0, 0))) := ⟨h13_⟩
             have n14_ : Aside0 (w.heap.size ≤ gb251) := ⟨h14_⟩
             have n15_ : Aside0 (w.heap.size ≤ gb251) := ⟨h15_⟩
             have n16_ : Aside0 (gb185 ≠ gb251) := ⟨h16_⟩
             have n17_ : Aside0 (gb251 ≠ gb185) := ⟨h17_⟩
             have n18_ : Aside0 (gb186 ≠ gb251) := ⟨h18_⟩
             have n19_ : Aside0 (gb251 ≠ gb186) := ⟨h19_⟩
             have n20_ : Aside0 (gb202 ≠ gb251) := ⟨h20_⟩
             have n21_ : Aside0 (gb251 ≠ gb202) := ⟨h21_⟩
             have n22_ : Aside0 (gb207 ≠ gb251) := ⟨h22_⟩
             have n23_ : Aside0 (gb251 ≠ gb207) := ⟨h23_⟩
             have n24_ : Aside0 (gb212 ≠ gb251) := ⟨h24_⟩
             have n25_ : Aside0 (gb251 ≠ gb212) := ⟨h25_⟩
             have n26_ : Aside0 (gb218 ≠ gb251) := ⟨h26_⟩
             have n27_ : Aside0 (gb251 ≠ gb218) := ⟨h27_⟩
             have n28_ : Aside0 (Below w.heap.size w w158) := ⟨h28_⟩
             clear HO_203001
             clear HO_208001
             clear HO_213001
             clear HO_219001
             clear BK185
             clear BK186
             clear BK202
             clear BK207
             clear BK212
             clear BK218
             clear HB
             clear h0_ h1_ h2_ h3_ h4_ h5_ h6_ h7_ h8_ h9_ h10_ h11_ h12_ h13_ h14_ h15_ h16_ h17_ h18_ h19_ h20_ h21_ h22_ h23_ h24_ h25_ h26_ h27_ h28_
             have HO241 := n0_
             have HO245 := n1_
             have HO249 := n2_
             have HO_203001 := n3_
             have HO_208001 := n4_
             have HO_213001 := n5_
             have HO_219001 := n6_
             have BK185 := n7_
             have BK186 := n8_
             have BK202 := n9_
             have BK207 := n10_
             have BK212 := n11_
             have BK218 := n12_
             have BK251 := n13_
             have GW251 := n14_
             have GE251 := n15_
             have NB185_251 := n16_
             have NB251_185 := n17_
             have NB186_251 := n18_
             have NB251_186 := n19_
             have NB202_251 := n20_
             have NB251_202 := n21_
             have NB207_251 := n22_
             have NB251_207 := n23_
             have NB212_251 := n24_
             have NB251_212 := n25_
             have NB218_251 := n26_
             have NB251_218 := n27_
             have HB := n28_
             clear n0_ n1_ n2_ n3_ n4_ n5_ n6_ n7_ n8_ n9_ n10_ n11_ n12_ n13_ n14_ n15_ n16_ n17_ n18_ n19_ n20_ n21_ n22_ n23_ n24_ n25_ n26_ n27_ n28_
             have hHeld : w158.cell? ⟨gb185, 0, none⟩ = some (.int .i64 a0_0) ∧ w158.cell? ⟨gb185, 1, none⟩ = some (.slice A0_1 l0_1.length c0_1) ∧ w158.cell? ⟨gb186, 0, none⟩ = some (.int .i64 a1_0) ∧ w158.cell? ⟨gb186, 1, none⟩ = some (.slice A1_1 l1_1.length c1_1) := hS_
             obtain ⟨Ao160, co160, eo160⟩ := Kd.R_slice HO249.out
             (first | subst eo160 | (injection eo160 with f1_ f2_ f3_; have f4_ := f1_.symm; have f5_ := f3_.symm; clear f1_ f2_ f3_; subst f4_; subst f5_))
             refine norm_ (a' := ?_) ?_ ?_
             rotate_left
             ·simp only [putAll, Act.put, List.setIfInBounds_toArray, List.set_cons_zero, List.set_cons_succ]
              rfl
             refine one_ (i := 9) (N := none) #[true, true, true, true, true, true, true, true, true, true, false] rfl rfl (one_of HT_.out (by kernel_rfl)) (by decide) (fun K hK => ?_)
             have hs159 : w158.cell? ⟨gb251, 0, none⟩ = some (.int .i64 0) := (blk_cell BK251.out 0).trans rfl
             have hfs159 := blk_frozen BK251.out 0
             have hns159_0 := NB185_251.out
             have hns159_1 := NB186_251.out
             have hns159_2 := NB202_251.out
             have hns159_3 := NB207_251.out
             have hns159_4 := NB212_251.out
             have hns159_5 := NB218_251.out
             have hms159_0 := NB251_185.out
             have hms159_1 := NB251_186.out
             have hms159_2 := NB251_202.out
             have hms159_3 := NB251_207.out
             have hms159_4 := NB251_212.out
             have hms159_5 := NB251_218.out
             have hs161 : w158.cell? ⟨gb251, 1, none⟩ = some (.slice none 0 0) := (blk_cell BK251.out 1).trans rfl
             have hfs161 := blk_frozen BK251.out 1
             have hns161_0 := NB185_251.out
             have hns161_1 := NB186_251.out
             have hns161_2 := NB202_251.out
             have hns161_3 := NB207_251.out
             have hns161_4 := NB212_251.out
             have hns161_5 := NB218_251.out
             have hms161_0 := NB251_185.out
             have hms161_1 := NB251_186.out
             have hms161_2 := NB251_202.out
             have hms161_3 := NB251_207.out
             have hms161_4 := NB251_212.out
             have hms161_5 := NB251_218.out
             refine skip_ (w1 := ?_) (by rfl) rfl ?_ ?_
             rotate_left
             ·go_simp
              rfl
             refine hK.out _ _ ⟨((cell_far (p := ⟨gb251, _, none⟩) NB185_251.out _).trans (((cell_far (p := ⟨gb251, _, none⟩) NB185_251.out _).trans (hHeld.1)))), ((cell_far (p := ⟨gb251, _, none⟩) NB185_251.out _).trans (((cell_far (p := ⟨gb251, _, none⟩) NB185_251.out _).trans (hHeld.2.1)))), ((cell_far (p := ⟨gb251, _, none⟩) NB186_251.out _).trans (((cell_far (p := ⟨gb251, _, none⟩) NB186_251.out _).trans (hHeld.2.2.1)))), ((cell_far (p := ⟨gb251, _, none⟩) NB186_251.out _).trans (((cell_far (p := ⟨gb251, _, none⟩) NB186_251.out _).trans (hHeld.2.2.2))))⟩ (fun hHeld => ?_)
             clear hK K
             refine pure_ (i := 10) (N := some 16) (v := ?_) (a' := ?_) #[true, true, true, true, true, true, true, true, true, true, true] rfl rfl (any_of HT_.out (by kernel_rfl)) (fun _ _ _ h => h) (Or.inl ⟨by rfl, ?_⟩) ?_ ?_
             rotate_left
             ·intro w'
              go_simp
              with_reducible rfl
             rotate_left
             ·simp only [Act.put, List.setIfInBounds_toArray, List.set_cons_zero, List.set_cons_succ, i64_w, i32_w]
              rfl
             refine done_ (done_of HT_.out (by kernel_rfl)) ?_
             go_upto_region 32 with (fail)
             go_cut [110] (fun v110 wc => ∃ (kq : Nat) (x110_140 : Bool), v110 = .bool x110_140 ∧ Aside0 (laws_FnExactXorBits.j2 kq t235 x110_140 t213 t236 = some r) ∧ Aside0 (kq ≤ kj95) ∧ Aside0 (Kd.R (Kd.int .i64) 3 wc w.heap.size (fun k_ => some k_ ≠ ((.slice Ao52 t231.length co52) : Value).ownBlock ∧ some k_ ≠ ((.slice Ao62 t233.length co62) : Value).ownBlock ∧ some k_ ≠ ((.slice Ao72 t214.length co72) : Value).ownBlock ∧ some k_ ≠ ((.slice Ao160 t247.length co160) : Value).ownBlock) (.slice Ao42 t198.length co42) t198) ∧ Aside0 (Kd.R (Kd.int .i64) 3 wc w.heap.size (fun k_ => some k_ ≠ ((.slice Ao42 t198.length co42) : Value).ownBlock ∧ some k_ ≠ ((.slice Ao62 t233.length co62) : Value).ownBlock ∧ some k_ ≠ ((.slice Ao72 t214.length co72) : Value).ownBlock ∧ some k_ ≠ ((.slice Ao160 t247.length co160) : Value).ownBlock) (.slice Ao52 t231.length co52) t231) ∧ Aside0 (Kd.R (Kd.int .i64) 3 wc w.heap.size (fun k_ => some k_ ≠ ((.slice Ao42 t198.length co42) : Value).ownBlock ∧ some k_ ≠ ((.slice Ao52 t231.length co52) : Value).ownBlock ∧ some k_ ≠ ((.slice Ao72 t214.length co72) : Value).ownBlock ∧ some k_ ≠ ((.slice Ao160 t247.length co160) : Value).ownBlock) (.slice Ao62 t233.length co62) t233) ∧ Aside0 (Kd.R (Kd.int .i64) 3 wc w.heap.size (fun k_ => some k_ ≠ ((.slice Ao42 t198.length co42) : Value).ownBlock ∧ some k_ ≠ ((.slice Ao52 t231.length co52) : Value).ownBlock ∧ some k_ ≠ ((.slice Ao62 t233.length co62) : Value).ownBlock ∧ some k_ ≠ ((.slice Ao160 t247.length co160) : Value).ownBlock) (.slice Ao72 t214.length co72) t236) ∧ Aside0 (Kd.R (Kd.int .i64) 3 wc w.heap.size (fun k_ => some k_ ≠ ((.slice Ao42 t198.length co42) : Value).ownBlock ∧ some k_ ≠ ((.slice Ao52 t231.length co52) : Value).ownBlock ∧ some k_ ≠ ((.slice Ao62 t233.length co62) : Value).ownBlock ∧ some k_ ≠ ((.slice Ao72 t214.length co72) : Value).ownBlock) (.slice Ao160 t247.length co160) t247) ∧ Aside0 (wc.heap[gb185]? = some (.cells #[.int .i64 a0_0, (.slice A0_1 l0_1.length c0_1)] 24 (0, 0))) ∧ Aside0 (wc.heap[gb186]? = some (.cells #[.int .i64 a1_0, (.slice A1_1 l1_1.length c1_1)] 24 (0, 0))) ∧ Aside0 (wc.heap[gb202]? = some (.cells #[.int .i64 t197, (.slice Ao42 t198.length co42)] 29 (0, 0))) ∧ Aside0 (wc.heap[gb207]? = some (.cells #[.int .i64 t203, (.slice Ao52 t231.length co52)] 29 (0, 0))) ∧ Aside0 (wc.heap[gb212]? = some (.cells #[.int .i64 t208, (.slice Ao62 t233.length co62)] 29 (0, 0))) ∧ Aside0 (wc.heap[gb218]? = some (.cells #[.int .i64 t213, (.slice Ao72 t214.length co72)] 29 (0, 0))) ∧ Aside0 (wc.heap[gb251]? = some (.cells #[.int .i64 t246, (.slice Ao160 t247.length co160)] 29 (0, 0))) ∧ Aside0 (Below w.heap.size w wc))
             case first =>
              have H := HC141.out
              clear HC141
              replace H := Option.bind_eq_some_iff.mp H
              obtain ⟨t252, A1620, H⟩ := H
              replace H : (if t252 = true then (laws_FnExactXorBits.j2 kj95 t235 (t250 != t201) t213 t236) else (none)) = some r := H
              have A162 := am1_ A1620
              clear A1620
              by_cases c163 : t252 = true
              ·subst c163
               have H1 : (laws_FnExactXorBits.j2 kj95 t235 (t250 != t201) t213 t236) = some r := by rw [if_pos rfl] at H; exact H
               clear H
               have H := H1
               clear H1
               have H' := am1_ H
               clear H
               have hnb164 := NB251_185.out
               have hnc164 := NB185_251.out
               have hnb165 := NB251_186.out
               have hnc165 := NB186_251.out
               have hnb166 := NB251_202.out
               have hnc166 := NB202_251.out
               have hnb167 := NB251_207.out
               have hnc167 := NB207_251.out
               have hnb168 := NB251_212.out
               have hnc168 := NB212_251.out
               have hnb169 := NB251_218.out
               have hnc169 := NB218_251.out
               have hcz170_0 : w158.cell? ⟨gb251, 0, none⟩ = some (.int .i64 0) := (blk_cell BK251.out 0).trans rfl
               have hcz170_1 : w158.cell? ⟨gb251, 1, none⟩ = some (.slice none 0 0) := (blk_cell BK251.out 1).trans rfl
               have hfz170_0 := blk_frozen BK251.out 0
               have hfz170_1 := blk_frozen BK251.out 1
               have hnb171 := NB202_185.out
               have hnc171 := NB185_202.out
               have hnb172 := NB202_186.out
               have hnc172 := NB186_202.out
               have hnb173 := NB202_207.out
               have hnc173 := NB207_202.out
               have hnb174 := NB202_212.out
               have hnc174 := NB212_202.out
               have hnb175 := NB202_218.out
               have hnc175 := NB218_202.out
               have hcz176_0 : w158.cell? ⟨gb202, 0, none⟩ = some (.int .i64 t197) := (blk_cell BK202.out 0).trans rfl
               have hcz176_1 : w158.cell? ⟨gb202, 1, none⟩ = some (.slice Ao42 t198.length co42) := (blk_cell BK202.out 1).trans rfl
               have hfz176_0 := blk_frozen BK202.out 0
               have hfz176_1 := blk_frozen BK202.out 1
               have Z5_ := am1_ (Kd.R_far (p := ⟨gb251, 1, none⟩) (Kd.R_far (p := ⟨gb251, 0, none⟩) (Kd.R_types HO249.out BK251.out (by decide)) (fun _ hk => hk.2) (.int .i64 t246)) (fun _ hk => hk.2) (.slice Ao160 t247.length co160))
               have Z4_ := am1_ (Kd.R_far (p := ⟨gb251, 1, none⟩) (Kd.R_far (p := ⟨gb251, 0, none⟩) (Kd.R_types HO_203001.out BK251.out (by decide)) (fun _ hk => hk.2) (.int .i64 t246)) (fun _ hk => hk.2) (.slice Ao160 t247.length co160))
               go_wp2_with (first | ((with_reducible refine gate_callee (f := 24) rfl ?_); refine goesL_ (some 104) rfl rfl Try.func24 (by kernel_rfl) rfl #[.agg #[.int .i64 t246, .slice Ao160 t247.length co160], .agg #[.int .i64 t197, .slice Ao42 t198.length co42]] rfl lm1_ ?_; (with_reducible refine (laws_eqBits.calls kj95 t246 _ _ t247 t197 _ _ t198 true _ ?side1 ?side2 ?side3 ?side4 A162.out).mono ?_); (case side1 => refine (Kd.R_reads' (e := 3) (base := w.heap.size) (ok := fun k_ => (some k_ ≠ (v240 : Value).ownBlock ∧ (some k_ ≠ (v244 : Value).ownBlock ∧ (some k_ ≠ (.slice Ao42 t198.length co42 : Value).ownBlock ∧ (some k_ ≠ (.slice Ao52 t231.length co52 : Value).ownBlock ∧ (some k_ ≠ (.slice Ao62 t233.length co62 : Value).ownBlock ∧ some k_ ≠ (.slice Ao72 t214.length co72 : Value).ownBlock)))))) (n := t247.length) (c := co160) ?_).2.2; exact (lt1_ (Kd.R_mono Z5_.out (fun _ h_ => h_.1)))); (case side2 => exact (Kd.R_reads' HO249.out).2.1); (case side3 => refine (Kd.R_reads' (e := 3) (base := w.heap.size) (ok := fun k_ => (some k_ ≠ (v240 : Value).ownBlock ∧ (some k_ ≠ (v244 : Value).ownBlock ∧ (some k_ ≠ (.slice Ao160 t247.length co160 : Value).ownBlock ∧ (some k_ ≠ (.slice Ao52 t231.length co52 : Value).ownBlock ∧ (some k_ ≠ (.slice Ao62 t233.length co62 : Value).ownBlock ∧ some k_ ≠ (.slice Ao72 t214.length co72 : Value).ownBlock)))))) (n := t198.length) (c := co42) ?_).2.2; exact (lt1_ (Kd.R_mono Z4_.out (fun _ h_ => h_.1)))); (case side4 => exact (Kd.R_reads' HO_203001.out).2.1); rintro e w177 ⟨rfl, hb⟩; refine ⟨_, rfl, ?_⟩; have n0_ := am1_ (Kd.R_below (lt1_ (Kd.R_mono Z4_.out (fun _ h_ => h_.1))) hb); have n1_ := am1_ (Kd.R_below (lt1_ (Kd.R_mono (Kd.R_far (p := ⟨gb251, 1, none⟩) (Kd.R_far (p := ⟨gb251, 0, none⟩) (Kd.R_types HO_208001.out BK251.out (by decide)) (fun _ hk => hk.2) (.int .i64 t246)) (fun _ hk => hk.2) (.slice Ao160 t247.length co160)) (fun _ h_ => h_.1))) hb); have n2_ := am1_ (Kd.R_below (lt1_ (Kd.R_mono (Kd.R_far (p := ⟨gb251, 1, none⟩) (Kd.R_far (p := ⟨gb251, 0, none⟩) (Kd.R_types HO_213001.out BK251.out (by decide)) (fun _ hk => hk.2) (.int .i64 t246)) (fun _ hk => hk.2) (.slice Ao160 t247.length co160)) (fun _ h_ => h_.1))) hb); have n3_ := am1_ (Kd.R_below (lt1_ (Kd.R_mono (Kd.R_far (p := ⟨gb251, 1, none⟩) (Kd.R_far (p := ⟨gb251, 0, none⟩) (Kd.R_types HO_219001.out BK251.out (by decide)) (fun _ hk => hk.2) (.int .i64 t246)) (fun _ hk => hk.2) (.slice Ao160 t247.length co160)) (fun _ h_ => h_.1))) hb); have n4_ := am1_ (Kd.R_below (lt1_ (Kd.R_mono (Kd.R_far (p := ⟨gb251, 1, none⟩) (Kd.R_far (p := ⟨gb251, 0, none⟩) (Kd.R_types HO241.out BK251.out (by decide)) (fun _ hk => hk.2) (.int .i64 t246)) (fun _ hk => hk.2) (.slice Ao160 t247.length co160)) (fun _ h_ => h_.1))) hb); have n5_ := am1_ (Kd.R_below (lt1_ (Kd.R_mono (Kd.R_far (p := ⟨gb251, 1, none⟩) (Kd.R_far (p := ⟨gb251, 0, none⟩) (Kd.R_types HO245.out BK251.out (by decide)) (fun _ hk => hk.2) (.int .i64 t246)) (fun _ hk => hk.2) (.slice Ao160 t247.length co160)) (fun _ h_ => h_.1))) hb); have n6_ := am1_ (Kd.R_below (lt1_ (Kd.R_mono Z5_.out (fun _ h_ => h_.1))) hb); have n7_ := am1_ (blk_below (g := gb185) (o := .cells #[.int .i64 a0_0, .slice A0_1 l0_1.length c0_1] 24 (0, 0)) (by (with_reducible repeat (first | refine blk_drewN ?_ _ | refine blk_drew ?_ | refine blk_alloc ?_ _)); refine blk_far ?_ NB185_251.out _; (with_reducible repeat (first | refine blk_drewN ?_ _ | refine blk_drew ?_ | refine blk_alloc ?_ _)); refine blk_far ?_ NB185_251.out _; (with_reducible repeat (first | refine blk_drewN ?_ _ | refine blk_drew ?_ | refine blk_alloc ?_ _)); exact BK185.out) hb); have n8_ := am1_ (blk_below (g := gb186) (o := .cells #[.int .i64 a1_0, .slice A1_1 l1_1.length c1_1] 24 (0, 0)) (by (with_reducible repeat (first | refine blk_drewN ?_ _ | refine blk_drew ?_ | refine blk_alloc ?_ _)); refine blk_far ?_ NB186_251.out _; (with_reducible repeat (first | refine blk_drewN ?_ _ | refine blk_drew ?_ | refine blk_alloc ?_ _)); refine blk_far ?_ NB186_251.out _; (with_reducible repeat (first | refine blk_drewN ?_ _ | refine blk_drew ?_ | refine blk_alloc ?_ _)); exact BK186.out) hb); have n9_ := am1_ (blk_below (g := gb202) (o := .cells #[.int .i64 t197, .slice Ao42 t198.length co42] 29 (0, 0)) (by (with_reducible repeat (first | refine blk_drewN ?_ _ | refine blk_drew ?_ | refine blk_alloc ?_ _)); refine blk_far ?_ NB202_251.out _; (with_reducible repeat (first | refine blk_drewN ?_ _ | refine blk_drew ?_ | refine blk_alloc ?_ _)); refine blk_far ?_ NB202_251.out _; (with_reducible repeat (first | refine blk_drewN ?_ _ | refine blk_drew ?_ | refine blk_alloc ?_ _)); exact BK202.out) hb); have n10_ := am1_ (blk_below (g := gb207) (o := .cells #[.int .i64 t203, .slice Ao52 t231.length co52] 29 (0, 0)) (by (with_reducible repeat (first | refine blk_drewN ?_ _ | refine blk_drew ?_ | refine blk_alloc ?_ _)); refine blk_far ?_ NB207_251.out _; (with_reducible repeat (first | refine blk_drewN ?_ _ | refine blk_drew ?_ | refine blk_alloc ?_ _)); refine blk_far ?_ NB207_251.out _; (with_reducible repeat (first | refine blk_drewN ?_ _ | refine blk_drew ?_ | refine blk_alloc ?_ _)); exact BK207.out) hb); have n11_ := am1_ (blk_below (g := gb212) (o := .cells #[.int .i64 t208, .slice Ao62 t233.length co62] 29 (0, 0)) (by (with_reducible repeat (first | refine blk_drewN ?_ _ | refine blk_drew ?_ | refine blk_alloc ?_ _)); refine blk_far ?_ NB212_251.out _; (with_reducible repeat (first | refine blk_drewN ?_ _ | refine blk_drew ?_ | refine blk_alloc ?_ _)); refine blk_far ?_ NB212_251.out _; (with_reducible repeat (first | refine blk_drewN ?_ _ | refine blk_drew ?_ | refine blk_alloc ?_ _)); exact BK212.out) hb); have n12_ := am1_ (blk_below (g := gb218) (o := .cells #[.int .i64 t213, .slice Ao72 t214.length co72] 29 (0, 0)) (by (with_reducible repeat (first | refine blk_drewN ?_ _ | refine blk_drew ?_ | refine blk_alloc ?_ _)); refine blk_far ?_ NB218_251.out _; (with_reducible repeat (first | refine blk_drewN ?_ _ | refine blk_drew ?_ | refine blk_alloc ?_ _)); refine blk_far ?_ NB218_251.out _; (with_reducible repeat (first | refine blk_drewN ?_ _ | refine blk_drew ?_ | refine blk_alloc ?_ _)); exact BK218.out) hb); have n13_ := am1_ (blk_below (g := gb251) (o := .cells #[.int .i64 t246, .slice Ao160 t247.length co160] 29 (0, 0)) (by (with_reducible repeat (first | refine blk_drewN ?_ _ | refine blk_drew ?_ | refine blk_alloc ?_ _)); refine blk_put (cs := #[.int .i64 t246, .slice none 0 0]) ?_ 1 _ rfl; (with_reducible repeat (first | refine blk_drewN ?_ _ | refine blk_drew ?_ | refine blk_alloc ?_ _)); refine blk_put (cs := #[.int .i64 0, .slice none 0 0]) ?_ 0 _ rfl; (with_reducible repeat (first | refine blk_drewN ?_ _ | refine blk_drew ?_ | refine blk_alloc ?_ _)); exact BK251.out) hb); have n14_ := am1_ (below_step (lw1_ HB) hb); clear HO_203001; clear HO_208001; clear HO_213001; clear HO_219001; clear HO241; clear HO245; clear HO249; clear BK185; clear BK186; clear BK202; clear BK207; clear BK212; clear BK218; clear BK251; clear HB; have HO_203001 := n0_; have HO_208001 := n1_; have HO_213001 := n2_; have HO_219001 := n3_; have HO241 := n4_; have HO245 := n5_; have HO249 := n6_; have BK185 := n7_; have BK186 := n8_; have BK202 := n9_; have BK207 := n10_; have BK212 := n11_; have BK218 := n12_; have BK251 := n13_; have HB := n14_; clear n0_ n1_ n2_ n3_ n4_ n5_ n6_ n7_ n8_ n9_ n10_ n11_ n12_ n13_ n14_; (try clear hb); (try clear hb2); (try clear hk); (try clear hi)))
               go_meet
               case rel => exact ⟨_, ((t250 != t201)), (by first | rfl | (simp; done) | (simp [*]; done)), H', ⟨by have := HJ24.out; have := HJ95.out; first | omega | exact Nat.le_refl _⟩, ⟨by (try simp only [hl208001_95]); (try simp only [hl213001_95]); (with_reducible repeat (first | apply Kd.R_alloc | apply Kd.R_drewN | apply Kd.R_drew)); exact Kd.R_mono HO_203001.out (fun _ hk => ⟨hk.2.2.2.1, ⟨hk.2.2.2.2.1, ⟨hk.2.2.2.2.2, hk.2.2.1⟩⟩⟩)⟩, ⟨by (try simp only [hl208001_95]); (try simp only [hl213001_95]); (with_reducible repeat (first | apply Kd.R_alloc | apply Kd.R_drewN | apply Kd.R_drew)); exact Kd.R_mono HO_208001.out (fun _ hk => ⟨hk.2.2.2.1, ⟨hk.2.2.2.2.1, ⟨hk.2.2.2.2.2, hk.2.2.1⟩⟩⟩)⟩, ⟨by (try simp only [hl208001_95]); (try simp only [hl213001_95]); (with_reducible repeat (first | apply Kd.R_alloc | apply Kd.R_drewN | apply Kd.R_drew)); exact Kd.R_mono HO_213001.out (fun _ hk => ⟨hk.2.2.2.1, ⟨hk.2.2.2.2.1, ⟨hk.2.2.2.2.2, hk.2.2.1⟩⟩⟩)⟩, ⟨by (try simp only [hl208001_95]); (try simp only [hl213001_95]); (with_reducible repeat (first | apply Kd.R_alloc | apply Kd.R_drewN | apply Kd.R_drew)); exact Kd.R_mono HO_219001.out (fun _ hk => ⟨hk.2.2.2.1, ⟨hk.2.2.2.2.1, ⟨hk.2.2.2.2.2, hk.2.2.1⟩⟩⟩)⟩, ⟨by (try simp only [hl208001_95]); (try simp only [hl213001_95]); (with_reducible repeat (first | apply Kd.R_alloc | apply Kd.R_drewN | apply Kd.R_drew)); exact Kd.R_mono HO249.out (fun _ hk => ⟨hk.2.2.1, ⟨hk.2.2.2.1, ⟨hk.2.2.2.2.1, hk.2.2.2.2.2⟩⟩⟩)⟩, ⟨by (try simp only [hl208001_95]); (try simp only [hl213001_95]); (with_reducible repeat (first | refine blk_drewN ?_ _ | refine blk_drew ?_ | refine blk_alloc ?_ _)); exact BK185.out⟩, ⟨by (try simp only [hl208001_95]); (try simp only [hl213001_95]); (with_reducible repeat (first | refine blk_drewN ?_ _ | refine blk_drew ?_ | refine blk_alloc ?_ _)); exact BK186.out⟩, ⟨by (try simp only [hl208001_95]); (try simp only [hl213001_95]); (with_reducible repeat (first | refine blk_drewN ?_ _ | refine blk_drew ?_ | refine blk_alloc ?_ _)); exact BK202.out⟩, ⟨by (try simp only [hl208001_95]); (try simp only [hl213001_95]); (with_reducible repeat (first | refine blk_drewN ?_ _ | refine blk_drew ?_ | refine blk_alloc ?_ _)); exact BK207.out⟩, ⟨by (try simp only [hl208001_95]); (try simp only [hl213001_95]); (with_reducible repeat (first | refine blk_drewN ?_ _ | refine blk_drew ?_ | refine blk_alloc ?_ _)); exact BK212.out⟩, ⟨by (try simp only [hl208001_95]); (try simp only [hl213001_95]); (with_reducible repeat (first | refine blk_drewN ?_ _ | refine blk_drew ?_ | refine blk_alloc ?_ _)); exact BK218.out⟩, ⟨by (try simp only [hl208001_95]); (try simp only [hl213001_95]); (with_reducible repeat (first | refine blk_drewN ?_ _ | refine blk_drew ?_ | refine blk_alloc ?_ _)); exact BK251.out⟩, ⟨lw1_ HB⟩⟩
              ·replace c163 := Bool.eq_false_iff.mpr c163
               subst c163
               have H1 : (none) = some r := by rw [if_neg (show ¬ (false = true) by decide)] at H; exact H
               clear H
               have H := H1
               clear H1
               exact absurd H (by simp)
             case rest =>
              clear HC141
              try clear c1
              try clear c2
              try clear p2
              try clear c4
              try clear c16
              try clear c17
              try clear c22
              try clear c24
              try clear c48
              try clear c163
              try clear c164
              try clear c165
              try clear c166
              try clear c167
              try clear c168
              try clear c169
              try clear c171
              try clear c172
              try clear c173
              try clear c174
              try clear c175
              try clear hcz170_0
              try clear hcz170_1
              try clear hcz176_0
              try clear hcz176_1
              try clear hfz170_0
              try clear hfz170_1
              try clear hfz176_0
              try clear hfz176_1
              obtain ⟨kq, x110_140, rfl, HA, HJ140, HO_203001, HO_208001, HO_213001, HO_219001, HO_252001, BK185, BK186, BK202, BK207, BK212, BK218, BK251, HB⟩ := hcut
              have hl219001_140 := (Kd.R_reads' HO_219001.out).1
              rw [hl219001_140] at HO_219001
              (try simp only [hl219001_140])
              (try simp only [hl219001_140] at BK185)
              (try simp only [hl219001_140] at BK186)
              (try simp only [hl219001_140] at BK202)
              (try simp only [hl219001_140] at BK207)
              (try simp only [hl219001_140] at BK212)
              (try simp only [hl219001_140] at BK218)
              (try simp only [hl219001_140] at BK251)
              (try simp only [hl219001_140] at HO_203001)
              (try simp only [hl219001_140] at HO_208001)
              (try simp only [hl219001_140] at HO_213001)
              (try simp only [hl219001_140] at HO_252001)
              cases kq with
              | zero => exact absurd HA.out (by simp [laws_FnExactXorBits.j2])
              | succ kj140 =>
               have H := HA.out
               clear HA
               simp only [laws_FnExactXorBits.j2] at H
               by_cases c178 : x110_140 = true
               ·subst c178
                have H1 : (none) = some r := by rw [if_pos rfl] at H; exact H
                clear H
                have H := H1
                clear H1
                exact absurd H (by simp)
               ·replace c178 := Bool.eq_false_iff.mpr c178
                subst c178
                have H1 : ((laws_heldBits.f kj140 t213 t236 1).bind fun t253 => (if t253 < 0 then (none) else (if t253 = t235 then (some true) else (none)))) = some r := by rw [if_neg (show ¬ (false = true) by decide)] at H; exact H
                clear H
                have H := H1
                clear H1
                replace H := Option.bind_eq_some_iff.mp H
                obtain ⟨t253, A1790, H⟩ := H
                replace H : (if t253 < 0 then (none) else (if t253 = t235 then (some true) else (none))) = some r := H
                have A179 := am1_ A1790
                clear A1790
                by_cases c180 : t253 < 0
                ·rw [if_pos c180] at H
                 exact absurd H (by simp)
                ·rw [if_neg c180] at H
                 have c180b0 : decide (t253 < 0) = false := decide_eq_false c180
                 clear c180
                 by_cases c181 : t253 = t235
                 ·rw [if_pos c181] at H
                  have c181b0 : (t253 == t235) = true := beq_iff_eq.mpr c181
                  have c181b1 : (t253 != t235) = false := bne_eq_false_iff_eq.mpr c181
                  clear c181
                  obtain rfl := Option.some.inj H
                  have hnb182 := NB218_185.out
                  have hnc182 := NB185_218.out
                  have hnb183 := NB218_186.out
                  have hnc183 := NB186_218.out
                  have hnb184 := NB218_202.out
                  have hnc184 := NB202_218.out
                  have hnb185 := NB218_207.out
                  have hnc185 := NB207_218.out
                  have hnb186 := NB218_212.out
                  have hnc186 := NB212_218.out
                  have hnb187 := NB218_251.out
                  have hnc187 := NB251_218.out
                  have hcz188_0 : wc.cell? ⟨gb218, 0, none⟩ = some (.int .i64 t213) := (blk_cell BK218.out 0).trans rfl
                  have hcz188_1 : wc.cell? ⟨gb218, 1, none⟩ = some (.slice Ao72 t236.length co72) := (blk_cell BK218.out 1).trans rfl
                  have hfz188_0 := blk_frozen BK218.out 0
                  have hfz188_1 := blk_frozen BK218.out 1
                  go_wp2_with (first | ((with_reducible refine gate_callee (f := 49) rfl ?_); refine goesL_ (some 113) rfl rfl Try.func49 (by kernel_rfl) rfl #[.agg #[.int .i64 t213, .slice Ao72 t236.length co72], .int .i64 1] rfl lm1_ ?_; (with_reducible refine (laws_heldBits.calls kj140 t213 _ _ t236 1 t253 _ ?side1 ?side2 A179.out).mono ?_); (case side1 => exact lc1_ (Kd.R_reads' HO_219001.out).2.2); (case side2 => exact (Kd.R_reads' HO_219001.out).2.1); rintro e w189 ⟨rfl, hb⟩; refine ⟨_, rfl, ?_⟩; have n0_ := am1_ (Kd.R_below (lf1_ HO_203001) hb); have n1_ := am1_ (Kd.R_below (lf1_ HO_208001) hb); have n2_ := am1_ (Kd.R_below (lf1_ HO_213001) hb); have n3_ := am1_ (Kd.R_below (lf1_ HO_219001) hb); have n4_ := am1_ (Kd.R_below (lf1_ HO_252001) hb); have n5_ := am1_ (blk_below (g := gb185) (o := .cells #[.int .i64 a0_0, .slice A0_1 l0_1.length c0_1] 24 (0, 0)) (lb1_ BK185) hb); have n6_ := am1_ (blk_below (g := gb186) (o := .cells #[.int .i64 a1_0, .slice A1_1 l1_1.length c1_1] 24 (0, 0)) (lb1_ BK186) hb); have n7_ := am1_ (blk_below (g := gb202) (o := .cells #[.int .i64 t197, .slice Ao42 t198.length co42] 29 (0, 0)) (lb1_ BK202) hb); have n8_ := am1_ (blk_below (g := gb207) (o := .cells #[.int .i64 t203, .slice Ao52 t231.length co52] 29 (0, 0)) (lb1_ BK207) hb); have n9_ := am1_ (blk_below (g := gb212) (o := .cells #[.int .i64 t208, .slice Ao62 t233.length co62] 29 (0, 0)) (lb1_ BK212) hb); have n10_ := am1_ (blk_below (g := gb218) (o := .cells #[.int .i64 t213, .slice Ao72 t236.length co72] 29 (0, 0)) (lb1_ BK218) hb); have n11_ := am1_ (blk_below (g := gb251) (o := .cells #[.int .i64 t246, .slice Ao160 t247.length co160] 29 (0, 0)) (lb1_ BK251) hb); have n12_ := am1_ (below_step (lw1_ HB) hb); clear HO_203001; clear HO_208001; clear HO_213001; clear HO_219001; clear HO_252001; clear BK185; clear BK186; clear BK202; clear BK207; clear BK212; clear BK218; clear BK251; clear HB; have HO_203001 := n0_; have HO_208001 := n1_; have HO_213001 := n2_; have HO_219001 := n3_; have HO_252001 := n4_; have BK185 := n5_; have BK186 := n6_; have BK202 := n7_; have BK207 := n8_; have BK212 := n9_; have BK218 := n10_; have BK251 := n11_; have HB := n12_; clear n0_ n1_ n2_ n3_ n4_ n5_ n6_ n7_ n8_ n9_ n10_ n11_ n12_; (try clear hb); (try clear hb2); (try clear hk); (try clear hi)))
                  go_ret
                  exact ⟨by first | rfl | (simp [errW_none, errW_some] <;> rfl) | (simp [*, errW_none, errW_some] <;> rfl), lw1_ HB⟩
                 ·rw [if_neg c181] at H
                  exact absurd H (by simp)
            ·rw [if_neg c137] at H
             exact absurd H (by simp)
       ·replace c93 := Bool.eq_false_iff.mpr c93
        subst c93
        have H1 : (none) = some r := by rw [if_neg (show ¬ (false = true) by decide)] at H; exact H
        clear H
        have H := H1
        clear H1
        exact absurd H (by simp)
      ·replace c90 := Bool.eq_false_iff.mpr c90
       subst c90
       have H1 : (none) = some r := by rw [if_neg (show ¬ (false = true) by decide)] at H; exact H
       clear H
       have H := H1
       clear H1
       exact absurd H (by simp)

/-- The plain statement of laws_FnExactXorBits. -/
def laws_FnExactXorBits.Pure : Prop := ∀ (a0_0 : Int) (l0_1 : List Int) (a1_0 : Int) (l1_1 : List Int), (Lit.int .i64 a0_0).wf = true → l0_1.length ≤ maxLen → (∀ x ∈ l0_1, (Lit.int .i64 x).wf = true) → (Lit.int .i64 a1_0).wf = true → l1_1.length ≤ maxLen → (∀ x ∈ l1_1, (Lit.int .i64 x).wf = true) → ∃ k, laws_FnExactXorBits.f k a0_0 l0_1 a1_0 l1_1 = some true

end Go.Proofs.Ytpidlhpjcjaojaa.PFnExactXorBits
