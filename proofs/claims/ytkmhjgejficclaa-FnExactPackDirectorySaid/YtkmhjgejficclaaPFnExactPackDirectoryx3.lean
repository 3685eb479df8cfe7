-- Laid by a program of this session: the print of the kit with additions of ours (wip/tools/patchprint.py). Nothing of it is trusted: Lean checks it.
import Derived.Test.YtkmhjgejficclaaPFnExactPackDirectoryx0
import Derived.Test.YtkmhjgejficclaaPFnExactPackDirectoryx2
namespace Go.Proofs.Ytkmhjgejficclaa.PFnExactPackDirectory
open Go.RowKit Go.Proofs.YtkmhjgejficclaaW.PrintWords Go.Proofs.YtkmhjgejficclaaW.PrintLast Go.Proofs.YtkmhjgejficclaaW.PrintMore
attribute [local go_sem] max2_int min2_int max_two min_two max_three min_three max_four min_four   -- for this text's walks alone
set_option linter.unusedVariables false
set_option linter.unusedSimpArgs false

theorem am11_ {p : Prop} (h : p) : Aside0 p := ⟨h⟩
theorem lm11_ {P : Prop} (h : P := by (try simp only [List.map_toArray, List.map_cons, List.map_nil]); first | done | rfl | (simp only [List.length_drop, List.length_take]; rfl)) : P := h
theorem lc11_ {P Q : Prop} (h : P) (f : P → Q := by intro h_; repeat (first | exact h_ | (with_reducible refine Kd.C_alloc ?_ _) | (with_reducible refine Kd.C_drewN ?_ _) | (with_reducible refine Kd.C_drew ?_))) : Q := f h
theorem lt11_ {P Q : Prop} (h : P) (f : P → Q := by intro h_; (with_reducible repeat (first | apply Kd.R_alloc | apply Kd.R_drewN | apply Kd.R_drew)); exact h_) : Q := f h
theorem lf11_ {P Q : Prop} (h : Aside0 P) (f : P → Q := by intro h_; (with_reducible repeat (first | apply Kd.R_alloc | apply Kd.R_drewN | apply Kd.R_drew)); exact h_) : Q := f h.out
theorem lb11_ {P Q : Prop} (h : Aside0 P) (f : P → Q := by intro h_; (with_reducible repeat (first | refine blk_drewN ?_ _ | refine blk_drew ?_ | refine blk_alloc ?_ _)); exact h_) : Q := f h.out
theorem lw11_ {P Q : Prop} (h : Aside0 P) (f : P → Q := by intro h_; repeat (first | (with_reducible first | exact h_ | apply below_alloc | apply pw_below_drewN | apply below_drew1 | refine below_set ?_ (Aside0.out (by assumption))) | exact h_)) : Q := f h.out
/-! ### spec_raOf: function 95 -/
def spec_raOf.l0 : Nat → Int → Int → List Int → Int → List Int → List Int → List Int → Option (Int × List Int × List Int × List Int)
 | 0, _, _, _, _, _, _, _ => none
 | k + 1, x4, x177000, x177001, x183000, x183001, x183002, x183003 => if x4 < x177000 then (if (Int.tmod x4 64) = 0 then ((spec_biCount.f k x177000 x177001 0 x4).bind fun t183 => (if x183002.length < 17592186044416 then ((spec_biCount.f k x177000 x177001 (wrap64 ((wrap64 (Int.tdiv x4 64)) * 64)) x4).bind fun t187 => (if x183003.length < 17592186044416 then (spec_raOf.l0 k (wrap64 (x4 + 16)) x177000 x177001 x183000 x183001 (x183002 ++ [t183]) (x183003 ++ [t187])) else (none))) else (none))) else ((spec_biCount.f k x177000 x177001 (wrap64 ((wrap64 (Int.tdiv x4 64)) * 64)) x4).bind fun t191 => (if x183003.length < 17592186044416 then (spec_raOf.l0 k (wrap64 (x4 + 16)) x177000 x177001 x183000 x183001 x183002 (x183003 ++ [t191])) else (none)))) else (some (x183000, x183001, x183002, x183003))
def spec_raOf.f (k : Nat) (a0_0 : Int) (l0_1 : List Int) : Option (Int × List Int × List Int × List Int) := (spec_biOwn.f a0_0 l0_1).bind fun bt178 => (spec_raOf.l0 k 0 a0_0 l0_1 bt178.1 bt178.2 ([] : List Int) ([] : List Int))
theorem spec_raOf.mono_l : ∀ k, (∀ y0 y1 y2 y3 y4 y5 y6, LeO (spec_raOf.l0 k y0 y1 y2 y3 y4 y5 y6) (spec_raOf.l0 (k + 1) y0 y1 y2 y3 y4 y5 y6))
 | 0 => fun _ _ _ _ _ _ _ r h => by simp [spec_raOf.l0] at h
 | k + 1 => by
  have ih0 := spec_raOf.mono_l k
  ·intro y0 y1 y2 y3 y4 y5 y6
   unfold spec_raOf.l0
   repeat' first
   | (with_reducible exact ih0 _ _ _ _ _ _ _)
   | (with_reducible exact spec_biCount.mono _ _ _ _ _)
   | (with_reducible exact LeO.refl _)
   | (with_reducible exact LeO.none _)
   | (with_reducible refine LeO.ite ?_ ?_)
   | (with_reducible refine LeO.bind ?_ (fun _ => ?_))
   | exact ih0 _ _ _ _ _ _ _
   | exact spec_biCount.mono _ _ _ _ _
   | exact LeO.none _
   | refine LeO.ite ?_ ?_
   | refine LeO.bind ?_ (fun _ => ?_)
theorem spec_raOf.mono : ∀ a0 a1 k, LeO (spec_raOf.f k a0 a1) (spec_raOf.f (k + 1) a0 a1) := by
 intro a0 a1 k
 have ih0 := spec_raOf.mono_l k
 unfold spec_raOf.f
 repeat' first
   | (with_reducible exact ih0 _ _ _ _ _ _ _)
   | (with_reducible exact spec_biCount.mono _ _ _ _ _)
   | (with_reducible exact LeO.refl _)
   | (with_reducible exact LeO.none _)
   | (with_reducible refine LeO.ite ?_ ?_)
   | (with_reducible refine LeO.bind ?_ (fun _ => ?_))
   | exact ih0 _ _ _ _ _ _ _
   | exact spec_biCount.mono _ _ _ _ _
   | exact LeO.none _
   | refine LeO.ite ?_ ?_
   | refine LeO.bind ?_ (fun _ => ?_)
def spec_raOf.T6 : Bool × List (List Nat × List Nat) := (true, [([], []), ([0], [0]), ([], []), ([], []), ([2, 3], [2, 3]), ([4], [4]), ([1, 5, 4], [1, 5]), ([0, 1, 2, 3, 4, 5, 6], []), ([7, 6, 6, 0, 1, 2, 3, 4, 5, 6], [6, 7])])
def spec_raOf.B6 : List Nat := [0, 1, 0, 0, 12, 28, 63, 127, 255]
theorem spec_raOf.tab6 : rtab .any (opsOf Try.f95 6) = spec_raOf.T6 := by kernel_rfl
theorem spec_raOf.bits6 : waitsOk spec_raOf.T6.2 spec_raOf.B6 = true := by kernel_rfl
def spec_raOf.T7 : Bool × List (List Nat × List Nat) := (true, [([], []), ([0], [0]), ([], []), ([], []), ([3], [3]), ([4], [4]), ([], []), ([2, 5, 6], [2, 5, 6]), ([7], [7]), ([1, 8, 7], [1, 8]), ([0, 1, 2, 3, 4, 5, 6, 7, 8, 9], []), ([10, 9, 9, 0, 1, 2, 3, 4, 5, 6, 7, 8, 9], [9, 10])])
def spec_raOf.B7 : List Nat := [0, 1, 0, 0, 8, 24, 0, 124, 252, 511, 1023, 2047]
theorem spec_raOf.tab7 : rtab .any (opsOf Try.f95 7) = spec_raOf.T7 := by kernel_rfl
theorem spec_raOf.bits7 : waitsOk spec_raOf.T7.2 spec_raOf.B7 = true := by kernel_rfl
set_option maxHeartbeats 8000000 in
set_option maxRecDepth 100000 in
theorem spec_raOf.calls (k : Nat) (a0_0 : Int) (A0_1 : Option Addr) (c0_1 : Nat) (l0_1 : List Int) (r1 : Int) (r2 : List Int) (r3 : List Int) (r4 : List Int) (w : World) (hr0_1 : Kd.C (Kd.int .i64) w A0_1 l0_1.length l0_1) (hc0_1 : l0_1.length ≤ c0_1) (h : spec_raOf.f k a0_0 l0_1 = some (r1, r2, r3, r4)) :
  Calls Try.prog 95 #[.agg #[.int .i64 a0_0, .slice A0_1 l0_1.length c0_1]] w fun e w' => ∃ v1_ v2_ v3_ : Value, e = .returned (.agg #[.int .i64 r1, v1_, v2_, v3_]) ∧ Kd.R (Kd.int .i64) 3 w' w.heap.size (fun k_ => some k_ ≠ (v2_ : Value).ownBlock ∧ some k_ ≠ (v3_ : Value).ownBlock) v1_ r2 ∧ Kd.R (Kd.int .i64) 3 w' w.heap.size (fun k_ => some k_ ≠ (v1_ : Value).ownBlock ∧ some k_ ≠ (v3_ : Value).ownBlock) v2_ r3 ∧ Kd.R (Kd.int .i64) 3 w' w.heap.size (fun k_ => some k_ ≠ (v1_ : Value).ownBlock ∧ some k_ ≠ (v2_ : Value).ownBlock) v3_ r4 ∧ Below w.heap.size w w' := by
 have hu26 := Try.underlying26
 have hu48 := Try.underlying48
 have HR0_1 := am11_ hr0_1
 have HC0_1 := am11_ hc0_1
 clear hr0_1 hc0_1
 have HB := am11_ (Below.refl w.heap.size w)
 have H : ((spec_biOwn.f a0_0 l0_1).bind fun bt178 => (spec_raOf.l0 k 0 a0_0 l0_1 bt178.1 bt178.2 ([] : List Int) ([] : List Int))) = some (r1, r2, r3, r4) := h
 clear h
 replace H := Option.bind_eq_some_iff.mp H
 obtain ⟨⟨t178, t179⟩, A20, H⟩ := H
 replace H : (spec_raOf.l0 k 0 a0_0 l0_1 t178 t179 ([] : List Int) ([] : List Int)) = some (r1, r2, r3, r4) := H
 have A2 := am11_ A20
 clear A20
 have H' := am11_ H
 clear H
 go_enter Try.func95, Try.ntmps95
 go_wp2_with (first | ((with_reducible refine gate_dst (N := 1) rfl ?_); refine box_event ?hg (N := 1) ?hd (cs := #[.int .i64 a0_0, .slice A0_1 l0_1.length c0_1]) (t := 26) ?hr ?_; (case hd => rfl); (case hg => rfl); (case hr => first | (go_simp; done) | (go_simp; rfl)); intro gb176 hg w3 hbox hb; have n0_ := am11_ (below_step (lw11_ HB) hb); have n1_ := am11_ (hbox); have n2_ := am11_ ((by rw [hg]; exact (below_size (lw11_ HB)) : w.heap.size ≤ gb176)); have n3_ := am11_ ((by rw [hg]; exact (below_size (lw11_ HB)) : w.heap.size ≤ gb176)); clear HB; have HB := n0_; have BK176 := n1_; have GW176 := n2_; have GE176 := n3_; clear n0_ n1_ n2_ n3_; clear hb hbox hg) | ((with_reducible refine gate_dst (N := 2) rfl ?_); refine box_event ?hg (N := 2) ?hd (cs := #[.int .i64 0, .slice none 0 0, .slice none 0 0, .slice none 0 0]) (t := 48) ?hr ?_; (case hd => rfl); (case hg => rfl); (case hr => first | (go_simp; done) | (go_simp; rfl)); intro gb177 hg w4 hbox hb; have n0_ := am11_ (blk_below (g := gb176) (o := .cells #[.int .i64 a0_0, .slice A0_1 l0_1.length c0_1] 26 (0, 0)) (lb11_ BK176) hb); have n1_ := am11_ (below_step (lw11_ HB) hb); have n2_ := am11_ (hbox); have n3_ := am11_ ((by rw [hg]; exact (below_size (lw11_ HB)) : w.heap.size ≤ gb177)); have n4_ := am11_ ((by rw [hg]; exact (below_size (lw11_ HB)) : w.heap.size ≤ gb177)); have n5_ := am11_ ((by rw [hg]; exact Nat.ne_of_lt (blk_lt (g := gb176) (lb11_ BK176)) : gb176 ≠ gb177)); have n6_ := am11_ ((by rw [hg]; exact Nat.ne_of_gt (blk_lt (g := gb176) (lb11_ BK176)) : gb177 ≠ gb176)); clear BK176; clear HB; have BK176 := n0_; have HB := n1_; have BK177 := n2_; have GW177 := n3_; have GE177 := n4_; have NB176_177 := n5_; have NB177_176 := n6_; clear n0_ n1_ n2_ n3_ n4_ n5_ n6_; clear hb hbox hg; have hnb5 := NB176_177.out; have hnc5 := NB177_176.out; have hcz6_0 : w4.cell? ⟨gb176, 0, none⟩ = some (.int .i64 a0_0) := (blk_cell BK176.out 0).trans rfl; have hcz6_1 : w4.cell? ⟨gb176, 1, none⟩ = some (.slice A0_1 l0_1.length c0_1) := (blk_cell BK176.out 1).trans rfl; have hfz6_0 := blk_frozen BK176.out 0; have hfz6_1 := blk_frozen BK176.out 1) | ((with_reducible refine gate_callee (f := 128) rfl ?_); refine goesL_ (some 6) rfl rfl Try.func128 (by kernel_rfl) rfl #[.agg #[.int .i64 a0_0, .slice A0_1 l0_1.length c0_1]] rfl lm11_ ?_; (with_reducible refine (spec_biOwn.calls a0_0 _ _ l0_1 t178 t179 _ ?side1 ?side2 A2.out).mono ?_); (case side1 => exact lc11_ (Kd.C_below HR0_1.out HB.out)); (case side2 => exact HC0_1.out); rintro e w7 ⟨v180, rfl, ho0, hb⟩; refine ⟨_, rfl, ?_⟩; have n0_ := am11_ (Kd.R_lower ho0 (below_size (lw11_ HB))); have n1_ := am11_ (blk_below (g := gb176) (o := .cells #[.int .i64 a0_0, .slice A0_1 l0_1.length c0_1] 26 (0, 0)) (lb11_ BK176) hb); have n2_ := am11_ (blk_below (g := gb177) (o := .cells #[.int .i64 0, .slice none 0 0, .slice none 0 0, .slice none 0 0] 48 (0, 0)) (lb11_ BK177) hb); have n3_ := am11_ (below_step (lw11_ HB) hb); clear BK176; clear BK177; clear HB; have HO181 := n0_; have BK176 := n1_; have BK177 := n2_; have HB := n3_; clear n0_ n1_ n2_ n3_; (try clear hb); (try clear hb2); (try clear hk); (try clear hi); (try clear ho0); obtain ⟨Ao8, co8, eo8⟩ := Kd.R_slice HO181.out; subst eo8) | ((with_reducible refine gate_dst (N := 3) rfl ?_); refine box_event ?hg (N := 3) ?hd (cs := #[.int .i64 0, .slice none 0 0, .slice none 0 0, .slice none 0 0]) (t := 48) ?hr ?_; (case hd => rfl); (case hg => rfl); (case hr => first | (go_simp; done) | (go_simp; rfl)); intro gb182 hg w9 hbox hb; have n0_ := am11_ (Kd.R_below (lf11_ HO181) hb); have n1_ := am11_ (blk_below (g := gb176) (o := .cells #[.int .i64 a0_0, .slice A0_1 l0_1.length c0_1] 26 (0, 0)) (lb11_ BK176) hb); have n2_ := am11_ (blk_below (g := gb177) (o := .cells #[.int .i64 0, .slice none 0 0, .slice none 0 0, .slice none 0 0] 48 (0, 0)) (lb11_ BK177) hb); have n3_ := am11_ (below_step (lw11_ HB) hb); have n4_ := am11_ (hbox); have n5_ := am11_ ((by rw [hg]; exact (below_size (lw11_ HB)) : w.heap.size ≤ gb182)); have n6_ := am11_ ((by rw [hg]; exact (below_size (lw11_ HB)) : w.heap.size ≤ gb182)); have n7_ := am11_ ((by rw [hg]; exact Nat.ne_of_lt (blk_lt (g := gb176) (lb11_ BK176)) : gb176 ≠ gb182)); have n8_ := am11_ ((by rw [hg]; exact Nat.ne_of_gt (blk_lt (g := gb176) (lb11_ BK176)) : gb182 ≠ gb176)); have n9_ := am11_ ((by rw [hg]; exact Nat.ne_of_lt (blk_lt (g := gb177) (lb11_ BK177)) : gb177 ≠ gb182)); have n10_ := am11_ ((by rw [hg]; exact Nat.ne_of_gt (blk_lt (g := gb177) (lb11_ BK177)) : gb182 ≠ gb177)); clear HO181; clear BK176; clear BK177; clear HB; have HO181 := n0_; have BK176 := n1_; have BK177 := n2_; have HB := n3_; have BK182 := n4_; have GW182 := n5_; have GE182 := n6_; have NB176_182 := n7_; have NB182_176 := n8_; have NB177_182 := n9_; have NB182_177 := n10_; clear n0_ n1_ n2_ n3_ n4_ n5_ n6_ n7_ n8_ n9_ n10_; clear hb hbox hg; have hnb10 := NB182_176.out; have hnc10 := NB176_182.out; have hnb11 := NB182_177.out; have hnc11 := NB177_182.out; have hcz12_0 : w9.cell? ⟨gb182, 0, none⟩ = some (.int .i64 0) := (blk_cell BK182.out 0).trans rfl; have hcz12_1 : w9.cell? ⟨gb182, 1, none⟩ = some (.slice none 0 0) := (blk_cell BK182.out 1).trans rfl; have hcz12_2 : w9.cell? ⟨gb182, 2, none⟩ = some (.slice none 0 0) := (blk_cell BK182.out 2).trans rfl; have hcz12_3 : w9.cell? ⟨gb182, 3, none⟩ = some (.slice none 0 0) := (blk_cell BK182.out 3).trans rfl; have hfz12_0 := blk_frozen BK182.out 0; have hfz12_1 := blk_frozen BK182.out 1; have hfz12_2 := blk_frozen BK182.out 2; have hfz12_3 := blk_frozen BK182.out 3))
 go_loopg [4] k (fun kq v4 w' => ∃ (x4_1 : Int) (x183002_1 : List Int) (x183003_1 : List Int) (u183002 : Value) (u183003 : Value), v4 = .int .i64 x4_1 ∧ Aside0 (spec_raOf.l0 kq x4_1 a0_0 l0_1 t178 t179 x183002_1 x183003_1 = some (r1, r2, r3, r4)) ∧ Aside0 (kq ≤ k) ∧ Aside0 (Kd.R (Kd.int .i64) 3 w' w.heap.size (fun k_ => some k_ ≠ (u183002 : Value).ownBlock ∧ some k_ ≠ (u183003 : Value).ownBlock) (.slice Ao8 t179.length co8) t179) ∧ Aside0 (Kd.R (Kd.int .i64) 3 w' w.heap.size (fun k_ => some k_ ≠ ((.slice Ao8 t179.length co8) : Value).ownBlock ∧ some k_ ≠ (u183003 : Value).ownBlock) u183002 x183002_1) ∧ Aside0 (Kd.R (Kd.int .i64) 3 w' w.heap.size (fun k_ => some k_ ≠ ((.slice Ao8 t179.length co8) : Value).ownBlock ∧ some k_ ≠ (u183002 : Value).ownBlock) u183003 x183003_1) ∧ Aside0 (w'.heap[gb176]? = some (.cells #[.int .i64 a0_0, (.slice A0_1 l0_1.length c0_1)] 26 (0, 0))) ∧ Aside0 (w'.heap[gb177]? = some (.cells #[.int .i64 0, (.slice none 0 0), (.slice none 0 0), (.slice none 0 0)] 48 (0, 0))) ∧ Aside0 (w'.heap[gb182]? = some (.cells #[.int .i64 t178, (.slice Ao8 t179.length co8), u183002, u183003] 48 (0, 0))) ∧ Aside0 (Below w.heap.size w w'))
 case atStart => exact ⟨(0), (([] : List Int)), (([] : List Int)), (.slice none 0 0), (.slice none 0 0), (by first | rfl | (simp; done) | (simp [*]; done)), H', ⟨Nat.le_refl _⟩, ⟨by (with_reducible repeat (first | apply Kd.R_alloc | apply Kd.R_drewN | apply Kd.R_drew)); exact Kd.R_mono (Kd.R_far (p := ⟨gb182, 3, none⟩) (Kd.R_far (p := ⟨gb182, 2, none⟩) (Kd.R_far (p := ⟨gb182, 1, none⟩) (Kd.R_far (p := ⟨gb182, 0, none⟩) (Kd.R_types HO181.out BK182.out (by decide)) (fun _ hk => hk.2) (.int .i64 t178)) (fun _ hk => hk.2) (.slice Ao8 t179.length co8)) (fun _ hk => hk.2) (.slice none 0 0)) (fun _ hk => hk.2) (.slice none 0 0)) (fun _ hk => ⟨(by simp [Value.ownBlock]), (by simp [Value.ownBlock])⟩)⟩, ⟨by first | exact Kd.R_nil _ _ _ _ _ | exact Kd.N_nil _ _ _ _ _ | exact Kd.V_nil _ _ _ _ _ | exact Kd.Q_nil _ _ _ _ _ | exact Kd.S_nil _ _ _ _ _⟩, ⟨by first | exact Kd.R_nil _ _ _ _ _ | exact Kd.N_nil _ _ _ _ _ | exact Kd.V_nil _ _ _ _ _ | exact Kd.Q_nil _ _ _ _ _ | exact Kd.S_nil _ _ _ _ _⟩, ⟨by (with_reducible repeat (first | refine blk_drewN ?_ _ | refine blk_drew ?_ | refine blk_alloc ?_ _)); refine blk_far ?_ NB176_182.out _; (with_reducible repeat (first | refine blk_drewN ?_ _ | refine blk_drew ?_ | refine blk_alloc ?_ _)); refine blk_far ?_ NB176_182.out _; (with_reducible repeat (first | refine blk_drewN ?_ _ | refine blk_drew ?_ | refine blk_alloc ?_ _)); refine blk_far ?_ NB176_182.out _; (with_reducible repeat (first | refine blk_drewN ?_ _ | refine blk_drew ?_ | refine blk_alloc ?_ _)); refine blk_far ?_ NB176_182.out _; (with_reducible repeat (first | refine blk_drewN ?_ _ | refine blk_drew ?_ | refine blk_alloc ?_ _)); exact BK176.out⟩, ⟨by (with_reducible repeat (first | refine blk_drewN ?_ _ | refine blk_drew ?_ | refine blk_alloc ?_ _)); refine blk_far ?_ NB177_182.out _; (with_reducible repeat (first | refine blk_drewN ?_ _ | refine blk_drew ?_ | refine blk_alloc ?_ _)); refine blk_far ?_ NB177_182.out _; (with_reducible repeat (first | refine blk_drewN ?_ _ | refine blk_drew ?_ | refine blk_alloc ?_ _)); refine blk_far ?_ NB177_182.out _; (with_reducible repeat (first | refine blk_drewN ?_ _ | refine blk_drew ?_ | refine blk_alloc ?_ _)); refine blk_far ?_ NB177_182.out _; (with_reducible repeat (first | refine blk_drewN ?_ _ | refine blk_drew ?_ | refine blk_alloc ?_ _)); exact BK177.out⟩, ⟨by (with_reducible repeat (first | refine blk_drewN ?_ _ | refine blk_drew ?_ | refine blk_alloc ?_ _)); refine blk_put (cs := #[.int .i64 t178, .slice Ao8 t179.length co8, .slice none 0 0, .slice none 0 0]) ?_ 3 _ rfl; (with_reducible repeat (first | refine blk_drewN ?_ _ | refine blk_drew ?_ | refine blk_alloc ?_ _)); refine blk_put (cs := #[.int .i64 t178, .slice Ao8 t179.length co8, .slice none 0 0, .slice none 0 0]) ?_ 2 _ rfl; (with_reducible repeat (first | refine blk_drewN ?_ _ | refine blk_drew ?_ | refine blk_alloc ?_ _)); refine blk_put (cs := #[.int .i64 t178, .slice none 0 0, .slice none 0 0, .slice none 0 0]) ?_ 1 _ rfl; (with_reducible repeat (first | refine blk_drewN ?_ _ | refine blk_drew ?_ | refine blk_alloc ?_ _)); refine blk_put (cs := #[.int .i64 0, .slice none 0 0, .slice none 0 0, .slice none 0 0]) ?_ 0 _ rfl; (with_reducible repeat (first | refine blk_drewN ?_ _ | refine blk_drew ?_ | refine blk_alloc ?_ _)); exact BK182.out⟩, ⟨lw11_ HB⟩⟩
 case round =>
  clear H'
  try clear c1
  try clear p2
  try clear c5
  try clear c9
  try clear c10
  try clear c11
  try clear c12
  try clear hcz12_0
  try clear hcz12_1
  try clear hcz12_2
  try clear hcz12_3
  try clear hcz6_0
  try clear hcz6_1
  try clear hfz12_0
  try clear hfz12_1
  try clear hfz12_2
  try clear hfz12_3
  try clear hfz6_0
  try clear hfz6_1
  obtain ⟨x4_1, x183002_1, x183003_1, u183002, u183003, rfl, HA, HK1, HO_183001, HO_183002, HO_183003, BK176, BK177, BK182, HB⟩ := hrel
  cases gk with
  | zero => exact absurd HA.out (by simp [spec_raOf.l0])
  | succ k1 =>
   have H := HA.out
   clear HA
   simp only [spec_raOf.l0] at H
   by_cases c13 : x4_1 < a0_0
   ·rw [if_pos c13] at H
    have c13b0 : decide (x4_1 < a0_0) = true := decide_eq_true c13
    clear c13
    by_cases c14 : (Int.tmod x4_1 64) = 0
    ·rw [if_pos c14] at H
     have c14b0 : ((Int.tmod x4_1 64) == 0) = true := beq_iff_eq.mpr c14
     have c14b1 : ((Int.tmod x4_1 64) != 0) = false := bne_eq_false_iff_eq.mpr c14
     clear c14
     replace H := Option.bind_eq_some_iff.mp H
     obtain ⟨t183, A150, H⟩ := H
     replace H : (if x183002_1.length < 17592186044416 then ((spec_biCount.f k1 a0_0 l0_1 (wrap64 ((wrap64 (Int.tdiv x4_1 64)) * 64)) x4_1).bind fun t187 => (if x183003_1.length < 17592186044416 then (spec_raOf.l0 k1 (wrap64 (x4_1 + 16)) a0_0 l0_1 t178 t179 (x183002_1 ++ [t183]) (x183003_1 ++ [t187])) else (none))) else (none)) = some (r1, r2, r3, r4) := H
     have A15 := am11_ A150
     clear A150
     by_cases c16 : x183002_1.length < 17592186044416
     ·rw [if_pos c16] at H
      have LMc16 := am11_ c16
      clear c16
      obtain ⟨y184, hy184⟩ : ∃ y_ : List Int, y_ = (x183002_1 ++ [t183]) := ⟨_, rfl⟩
      replace H : ((spec_biCount.f k1 a0_0 l0_1 (wrap64 ((wrap64 (Int.tdiv x4_1 64)) * 64)) x4_1).bind fun t187 => (if x183003_1.length < 17592186044416 then (spec_raOf.l0 k1 (wrap64 (x4_1 + 16)) a0_0 l0_1 t178 t179 y184 (x183003_1 ++ [t187])) else (none))) = some (r1, r2, r3, r4) := by first | (rw [hy184]; with_reducible exact H) | (have H2_ := (Option.bind_some _ _).symm.trans H; rw [hy184]; with_reducible exact H2_) | (have H2_ := (Option.bind_some _ _).symm.trans H; with_reducible exact H2_) | with_reducible exact H | (rw [hy184]; exact H) | exact H
      have Ny184 := am11_ hy184
      clear hy184
      replace H := Option.bind_eq_some_iff.mp H
      obtain ⟨t187, A170, H⟩ := H
      replace H : (if x183003_1.length < 17592186044416 then (spec_raOf.l0 k1 (wrap64 (x4_1 + 16)) a0_0 l0_1 t178 t179 y184 (x183003_1 ++ [t187])) else (none)) = some (r1, r2, r3, r4) := H
      have A17 := am11_ A170
      clear A170
      by_cases c18 : x183003_1.length < 17592186044416
      ·rw [if_pos c18] at H
       have LMc18 := am11_ c18
       clear c18
       obtain ⟨y188, hy188⟩ : ∃ y_ : List Int, y_ = (x183003_1 ++ [t187]) := ⟨_, rfl⟩
       replace H : (spec_raOf.l0 k1 (wrap64 (x4_1 + 16)) a0_0 l0_1 t178 t179 y184 y188) = some (r1, r2, r3, r4) := by first | (rw [hy188]; with_reducible exact H) | (have H2_ := (Option.bind_some _ _).symm.trans H; rw [hy188]; with_reducible exact H2_) | (have H2_ := (Option.bind_some _ _).symm.trans H; with_reducible exact H2_) | with_reducible exact H | (rw [hy188]; exact H) | exact H
       have Ny188 := am11_ hy188
       clear hy188
       have H' := am11_ H
       clear H
       have hnb19 := NB176_177.out
       have hnc19 := NB177_176.out
       have hnb20 := NB176_182.out
       have hnc20 := NB182_176.out
       have hcz21_0 : wr.cell? ⟨gb176, 0, none⟩ = some (.int .i64 a0_0) := (blk_cell BK176.out 0).trans rfl
       have hcz21_1 : wr.cell? ⟨gb176, 1, none⟩ = some (.slice A0_1 l0_1.length c0_1) := (blk_cell BK176.out 1).trans rfl
       have hfz21_0 := blk_frozen BK176.out 0
       have hfz21_1 := blk_frozen BK176.out 1
       try go_wp2
       have n0_ := am11_ (Kd.R_drew HO_183001.out)
       have n1_ := am11_ (Kd.R_drew HO_183002.out)
       have n2_ := am11_ (Kd.R_drew HO_183003.out)
       have n3_ := am11_ (blk_drew BK176.out)
       have n4_ := am11_ (blk_drew BK177.out)
       have n5_ := am11_ (blk_drew BK182.out)
       have n6_ := am11_ (below_drew1 HB.out)
       clear HO_183001
       clear HO_183002
       clear HO_183003
       clear BK176
       clear BK177
       clear BK182
       clear HB
       have HO_183001 := n0_
       have HO_183002 := n1_
       have HO_183003 := n2_
       have BK176 := n3_
       have BK177 := n4_
       have BK182 := n5_
       have HB := n6_
       clear n0_ n1_ n2_ n3_ n4_ n5_ n6_
       refine start_ (n := 9) (S := fun w' => w'.cell? ⟨gb182, 0, none⟩ = some (.int .i64 t178) ∧ w'.cell? ⟨gb182, 1, none⟩ = some (.slice Ao8 t179.length co8) ∧ w'.cell? ⟨gb182, 2, none⟩ = some (u183002) ∧ w'.cell? ⟨gb182, 3, none⟩ = some (u183003) ∧ w'.cell? ⟨gb176, 0, none⟩ = some (.int .i64 a0_0) ∧ w'.cell? ⟨gb176, 1, none⟩ = some (.slice A0_1 l0_1.length c0_1)) (ds := [8]) #[false, false, false, false, false, false, false, false, false] (by kernel_rfl) rfl rfl ⟨(blk_cell BK182.out 0).trans rfl, (blk_cell BK182.out 1).trans rfl, (blk_cell BK182.out 2).trans rfl, (blk_cell BK182.out 3).trans rfl, (blk_cell BK176.out 0).trans rfl, (blk_cell BK176.out 1).trans rfl⟩ (fun hHeld => ?_); refine with_tabW spec_raOf.tab6 spec_raOf.bits6 (fun HT_ HW_ => ?_)
       generalize wr.drew = w22 at HO_183001 HO_183002 HO_183003 BK176 BK177 BK182 HB hHeld ⊢
       refine pure_ (i := 0) (N := some 17) (v := ?_) (a' := ?_) #[true, false, false, false, false, false, false, false, false] rfl rfl (any_of HT_.out (by kernel_rfl)) (fun _ _ _ h => h) (Or.inl ⟨by rfl, ?_⟩) ?_ ?_
       rotate_left
       ·intro w'
        go_simp
        with_reducible rfl
       rotate_left
       ·simp only [Act.put, List.setIfInBounds_toArray, List.set_cons_zero, List.set_cons_succ, i64_w, i32_w]
        rfl
       refine pure_ (i := 3) (N := some 20) (v := ?_) (a' := ?_) #[true, false, false, true, false, false, false, false, false] rfl rfl (any_of HT_.out (by kernel_rfl)) (fun _ _ _ h => h) (Or.inl ⟨by rfl, ?_⟩) ?_ ?_
       rotate_left
       ·intro w'
        go_simp
        with_reducible rfl
       rotate_left
       ·simp only [Act.put, List.setIfInBounds_toArray, List.set_cons_zero, List.set_cons_succ, i64_w, i32_w]
        rfl
       refine take_ (i := 1) (N := some 18) (v := ?_) (a' := ?_) #[true, true, false, true, false, false, false, false, false] rfl rfl (take_ofW HT_.out HW_.out (by kernel_rfl)) (fun _ _ _ h => h) (Or.inl ⟨by rfl, ?_⟩) hHeld ?_ ?_
       rotate_left
       ·rintro w' ⟨s0, s1, s2, s3, s4, s5⟩
        go_simp
        with_reducible rfl
       rotate_left
       ·simp only [Act.put, List.setIfInBounds_toArray, List.set_cons_zero, List.set_cons_succ, i64_w, i32_w]
        rfl
       refine take_ (i := 2) (N := some 19) (v := ?_) (a' := ?_) #[true, true, true, true, false, false, false, false, false] rfl rfl (take_ofW HT_.out HW_.out (by kernel_rfl)) (fun _ _ _ h => h) (Or.inl ⟨by rfl, ?_⟩) hHeld ?_ ?_
       rotate_left
       ·rintro w' ⟨s0, s1, s2, s3, s4, s5⟩
        go_simp
        with_reducible rfl
       rotate_left
       ·simp only [Act.put, List.setIfInBounds_toArray, List.set_cons_zero, List.set_cons_succ, i64_w, i32_w]
        rfl
       refine one_ (i := 4) (N := some 21) #[true, true, true, true, true, false, false, false, false] rfl rfl (one_of HT_.out (by kernel_rfl)) (by decide) (fun K hK => ?_)
       refine goes_ Try.func129 (by kernel_rfl) rfl #[.agg #[.int .i64 a0_0, .slice A0_1 l0_1.length c0_1], .int .i64 0, .int .i64 x4_1] (by rfl) rfl rfl lm11_ ?_
       with_reducible refine (spec_biCount.calls k1 a0_0 _ _ l0_1 0 x4_1 t183 _ ?side1 ?side2 A15.out).mono ?_
       (case side1 => exact lc11_ (Kd.C_below HR0_1.out HB.out))
       (case side2 => exact HC0_1.out)
       rintro e w23 ⟨rfl, hb⟩
       refine ⟨_, rfl, ?_⟩
       have n0_ := am11_ (Kd.R_below (lf11_ HO_183001) hb)
       have n1_ := am11_ (Kd.R_below (lf11_ HO_183002) hb)
       have n2_ := am11_ (Kd.R_below (lf11_ HO_183003) hb)
       have n3_ := am11_ (blk_below (g := gb176) (o := .cells #[.int .i64 a0_0, .slice A0_1 l0_1.length c0_1] 26 (0, 0)) (lb11_ BK176) hb)
       have n4_ := am11_ (blk_below (g := gb177) (o := .cells #[.int .i64 0, .slice none 0 0, .slice none 0 0, .slice none 0 0] 48 (0, 0)) (lb11_ BK177) hb)
       have n5_ := am11_ (blk_below (g := gb182) (o := .cells #[.int .i64 t178, .slice Ao8 t179.length co8, u183002, u183003] 48 (0, 0)) (lb11_ BK182) hb)
       have n6_ := am11_ (below_step (lw11_ HB) hb)
       clear HO_183001
       clear HO_183002
       clear HO_183003
       clear BK176
       clear BK177
       clear BK182
       clear HB
       have HO_183001 := n0_
       have HO_183002 := n1_
       have HO_183003 := n2_
       have BK176 := n3_
       have BK177 := n4_
       have BK182 := n5_
       have HB := n6_
       clear n0_ n1_ n2_ n3_ n4_ n5_ n6_
       (try clear hb)
       (try clear hb2)
       (try clear hk)
       (try clear hi)
       refine hK.out _ _ ⟨(blk_cell BK182.out 0).trans rfl, (blk_cell BK182.out 1).trans rfl, (blk_cell BK182.out 2).trans rfl, (blk_cell BK182.out 3).trans rfl, (blk_cell BK176.out 0).trans rfl, (blk_cell BK176.out 1).trans rfl⟩ (fun hHeld => ?_)
       clear hK K
       refine norm_ (a' := ?_) ?_ ?_
       rotate_left
       ·show Act.put _ (some 21) _ = _
        simp only [Act.put, List.setIfInBounds_toArray, List.set_cons_zero, List.set_cons_succ, i64_w, i32_w]
        rfl
       refine one_ (i := 5) (N := some 22) #[true, true, true, true, true, true, false, false, false] rfl rfl (one_of HT_.out (by kernel_rfl)) (by decide) (fun K hK => ?_)
       refine value_ (w1 := ?_) (v := ?_) (by rfl) rfl ?_ ?_
       rotate_left 2
       ·go_simp
        constructor
        ·rfl
        ·rfl
       refine hK.out _ _ ⟨(blk_cell (blk_alloc BK182.out _) 0).trans rfl, (blk_cell (blk_alloc BK182.out _) 1).trans rfl, (blk_cell (blk_alloc BK182.out _) 2).trans rfl, (blk_cell (blk_alloc BK182.out _) 3).trans rfl, (blk_cell (blk_alloc BK176.out _) 0).trans rfl, (blk_cell (blk_alloc BK176.out _) 1).trans rfl⟩ (fun hHeld => ?_)
       clear hK K
       refine norm_ (a' := ?_) ?_ ?_
       rotate_left
       ·show Act.put _ (some 22) _ = _
        simp only [Act.put, List.setIfInBounds_toArray, List.set_cons_zero, List.set_cons_succ, i64_w, i32_w]
        rfl
       refine one_ (i := 6) (N := some 23) #[true, true, true, true, true, true, true, false, false] rfl rfl (one_of HT_.out (by kernel_rfl)) (by decide) (fun K hK => ?_)
       refine Kd.R_append_step (Kd.int .i64) (w0 := w) w.heap.size (by rfl) (.tmp 18) (.tmp 22) 22 3 (.int .i64 0) 8 rfl Try.underlying22 info3 rfl (by decide) (by omega) u183002 x183002_1 t183 [.int .i64 t183] (fun k_ => some k_ ≠ (.slice Ao8 t179.length co8 : Value).ownBlock ∧ some k_ ≠ (u183003 : Value).ownBlock) (fun _ => False) rfl rfl ?aP (fun _ hk => hk.elim) ?aF ?aO ?aB ?aS ?aL ?_
       (case aP => exact rfl)
       (case aB => exact (lw11_ HB))
       (case aF => exact (fun k_ hk => ⟨Kd.fresh' (Kd.R_lt (lf11_ HO_183001)) k_ hk, Kd.fresh' (Kd.R_lt (lf11_ HO_183003)) k_ hk⟩))
       (case aO => exact (lf11_ HO_183002))
       (case aS => exact (below_size (lw11_ HB)))
       (case aL => have := LMc16.out; omega)
       intro v185 w24 ho hb hg hat
       rw [← Ny184.out] at ho
       have n0_ := am11_ (Kd.R_after (ok := (fun k_ => some k_ ≠ (u183003 : Value).ownBlock)) (by (with_reducible repeat (first | apply Kd.R_alloc | apply Kd.R_drewN | apply Kd.R_drew)); exact Kd.R_mono HO_183001.out (fun _ hk => ⟨hk.2, hk.1⟩)) hg hat)
       have n1_ := am11_ (Kd.R_after (ok := (fun k_ => some k_ ≠ (.slice Ao8 t179.length co8 : Value).ownBlock)) (lf11_ HO_183003) hg hat)
       have n2_ := am11_ (blk_grown (g := gb176) (o := .cells #[.int .i64 a0_0, .slice A0_1 l0_1.length c0_1] 26 (0, 0)) (lb11_ BK176) hg (Kd.R_ne HO_183002.out BK176.out (by decide)))
       have n3_ := am11_ (blk_grown (g := gb177) (o := .cells #[.int .i64 0, .slice none 0 0, .slice none 0 0, .slice none 0 0] 48 (0, 0)) (lb11_ BK177) hg (Kd.R_ne HO_183002.out BK177.out (by decide)))
       have n4_ := am11_ (blk_grown (g := gb182) (o := .cells #[.int .i64 t178, .slice Ao8 t179.length co8, u183002, u183003] 48 (0, 0)) (lb11_ BK182) hg (Kd.R_ne HO_183002.out BK182.out (by decide)))
       have n5_ := am11_ (hb)
       have n6_ := am11_ (ho)
       clear HO_183001
       clear HO_183003
       clear BK176
       clear BK177
       clear BK182
       clear HB
       clear HO_183002
       have HO_183001 := n0_
       have HO_183003 := n1_
       have BK176 := n2_
       have BK177 := n3_
       have BK182 := n4_
       have HB := n5_
       have HO186 := n6_
       clear n0_ n1_ n2_ n3_ n4_ n5_ n6_
       clear ho hb hg hat
       obtain ⟨Ao25, co25, eo25⟩ := Kd.R_slice HO186.out
       (first | subst eo25 | (injection eo25 with f1_ f2_ f3_; have f4_ := f1_.symm; have f5_ := f3_.symm; clear f1_ f2_ f3_; subst f4_; subst f5_))
       refine hK.out _ _ ⟨(blk_cell BK182.out 0).trans rfl, (blk_cell BK182.out 1).trans rfl, (blk_cell BK182.out 2).trans rfl, (blk_cell BK182.out 3).trans rfl, (blk_cell BK176.out 0).trans rfl, (blk_cell BK176.out 1).trans rfl⟩ (fun hHeld => ?_)
       clear hK K
       refine norm_ (a' := ?_) ?_ ?_
       rotate_left
       ·show Act.put _ (some 23) _ = _
        simp only [Act.put, List.setIfInBounds_toArray, List.set_cons_zero, List.set_cons_succ, i64_w, i32_w]
        rfl
       refine pure_ (i := 7) (N := some 24) (v := ?_) (a' := ?_) #[true, true, true, true, true, true, true, true, false] rfl rfl (any_of HT_.out (by kernel_rfl)) (fun _ _ _ h => h) (Or.inl ⟨by rfl, ?_⟩) ?_ ?_
       rotate_left
       ·intro w'
        go_simp
        with_reducible rfl
       rotate_left
       ·simp only [Act.put, List.setIfInBounds_toArray, List.set_cons_zero, List.set_cons_succ, i64_w, i32_w]
        rfl
       refine last_ (i := 8) (N := none) #[true, true, true, true, true, true, true, true, true] rfl rfl (one_of HT_.out (by kernel_rfl)) (by decide) (fun K hK => ?_)
       have hs26 : w24.cell? ⟨gb182, 2, none⟩ = some (u183002) := (blk_cell BK182.out 2).trans rfl
       have hfs26 := blk_frozen BK182.out 2
       have hns26_0 := NB176_182.out
       have hns26_1 := NB177_182.out
       have hms26_0 := NB182_176.out
       have hms26_1 := NB182_177.out
       refine skip_ (w1 := ?_) (by rfl) rfl ?_ ?_
       rotate_left
       ·go_simp
        rfl
       refine hK.out _ _ ?_
       clear hK K
       refine done_ (done_of HT_.out (by kernel_rfl)) ?_
       try go_wp2
       have n0_ : Aside0 (Kd.R (Kd.int .i64) 3 (w24.setCell ⟨gb182, 2, none⟩ (.slice Ao25 y184.length co25)) w.heap.size (fun k_ => some k_ ≠ (u183003 : Value).ownBlock ∧ some k_ ≠ (.slice Ao25 y184.length co25 : Value).ownBlock) (.slice Ao8 t179.length co8) t179) := ⟨by (with_reducible repeat (first | apply Kd.R_alloc | apply Kd.R_drewN | apply Kd.R_drew)); exact Kd.R_mono (Kd.R_far (p := ⟨gb182, 2, none⟩) (Kd.R_types HO_183001.out BK182.out (by decide)) (fun _ hk => hk.2) (.slice Ao25 y184.length co25)) (fun _ hk => ⟨hk.1.1, hk.1.2⟩)⟩
       have n1_ : Aside0 (Kd.R (Kd.int .i64) 3 (w24.setCell ⟨gb182, 2, none⟩ (.slice Ao25 y184.length co25)) w.heap.size (fun k_ => some k_ ≠ (.slice Ao8 t179.length co8 : Value).ownBlock ∧ some k_ ≠ (.slice Ao25 y184.length co25 : Value).ownBlock) u183003 x183003_1) := ⟨by (with_reducible repeat (first | apply Kd.R_alloc | apply Kd.R_drewN | apply Kd.R_drew)); exact Kd.R_mono (Kd.R_far (p := ⟨gb182, 2, none⟩) (Kd.R_types HO_183003.out BK182.out (by decide)) (fun _ hk => hk.2) (.slice Ao25 y184.length co25)) (fun _ hk => ⟨hk.1.1, hk.1.2⟩)⟩
       have n2_ : Aside0 (Kd.R (Kd.int .i64) 3 (w24.setCell ⟨gb182, 2, none⟩ (.slice Ao25 y184.length co25)) w.heap.size (fun k_ => some k_ ≠ (.slice Ao8 t179.length co8 : Value).ownBlock ∧ some k_ ≠ (u183003 : Value).ownBlock) (.slice Ao25 y184.length co25) y184) := ⟨by (with_reducible repeat (first | apply Kd.R_alloc | apply Kd.R_drewN | apply Kd.R_drew)); exact Kd.R_mono (Kd.R_far (p := ⟨gb182, 2, none⟩) (Kd.R_types HO186.out BK182.out (by decide)) (fun _ hk => hk.2) (.slice Ao25 y184.length co25)) (fun _ hk => ⟨hk.1.1, hk.1.2⟩)⟩
       have n3_ : Aside0 ((w24.setCell ⟨gb182, 2, none⟩ (.slice Ao25 y184.length co25)).heap[gb176]? = some (.cells #[.int .i64 a0_0, .slice A0_1 l0_1.length c0_1] 26 (0, 0))) := ⟨by (with_reducible repeat (first | refine blk_drewN ?_ _ | refine blk_drew ?_ | refine blk_alloc ?_ _)); refine blk_far ?_ NB176_182.out _; (with_reducible repeat (first | refine blk_drewN ?_ _ | refine blk_drew ?_ | refine blk_alloc ?_ _)); exact BK176.out⟩
       have n4_ : Aside0 ((w24.setCell ⟨gb182, 2, none⟩ (.slice Ao25 y184.length co25)).heap[gb177]? = some (.cells #[.int .i64 0, .slice none 0 0, .slice none 0 0, .slice none 0 0] 48 (0, 0))) := ⟨by (with_reducible repeat (first | refine blk_drewN ?_ _ | refine blk_drew ?_ | refine blk_alloc ?_ _)); refine blk_far ?_ NB177_182.out _; (with_reducible repeat (first | refine blk_drewN ?_ _ | refine blk_drew ?_ | refine blk_alloc ?_ _)); exact BK177.out⟩
       have n5_ : Aside0 ((w24.setCell ⟨gb182, 2, none⟩ (.slice Ao25 y184.length co25)).heap[gb182]? = some (.cells #[.int .i64 t178, .slice Ao8 t179.length co8, .slice Ao25 y184.length co25, u183003] 48 (0, 0))) := ⟨by (with_reducible repeat (first | refine blk_drewN ?_ _ | refine blk_drew ?_ | refine blk_alloc ?_ _)); refine blk_put (cs := #[.int .i64 t178, .slice Ao8 t179.length co8, u183002, u183003]) ?_ 2 _ rfl; (with_reducible repeat (first | refine blk_drewN ?_ _ | refine blk_drew ?_ | refine blk_alloc ?_ _)); exact BK182.out⟩
       have n6_ : Aside0 (Below w.heap.size w (w24.setCell ⟨gb182, 2, none⟩ (.slice Ao25 y184.length co25))) := ⟨lw11_ HB⟩
       (try clear HO_183001)
       (try clear HO_183003)
       (try clear HO186)
       (try clear BK176)
       (try clear BK177)
       (try clear BK182)
       (try clear HB)
       generalize (w24.setCell ⟨gb182, 2, none⟩ (.slice Ao25 y184.length co25)) = w27 at n0_ n1_ n2_ n3_ n4_ n5_ n6_ ⊢
       have HO_183001 := n0_
       have HO_183003 := n1_
       have HO186 := n2_
       have BK176 := n3_
       have BK177 := n4_
       have BK182 := n5_
       have HB := n6_
       clear n0_ n1_ n2_ n3_ n4_ n5_ n6_
       have n0_ := am11_ (Kd.R_drew HO_183001.out)
       have n1_ := am11_ (Kd.R_drew HO_183003.out)
       have n2_ := am11_ (Kd.R_drew HO186.out)
       have n3_ := am11_ (blk_drew BK176.out)
       have n4_ := am11_ (blk_drew BK177.out)
       have n5_ := am11_ (blk_drew BK182.out)
       have n6_ := am11_ (below_drew1 HB.out)
       clear HO_183001
       clear HO_183003
       clear HO186
       clear BK176
       clear BK177
       clear BK182
       clear HB
       have HO_183001 := n0_
       have HO_183003 := n1_
       have HO186 := n2_
       have BK176 := n3_
       have BK177 := n4_
       have BK182 := n5_
       have HB := n6_
       clear n0_ n1_ n2_ n3_ n4_ n5_ n6_
       refine start_ (n := 12) (S := fun w' => w'.cell? ⟨gb182, 0, none⟩ = some (.int .i64 t178) ∧ w'.cell? ⟨gb182, 1, none⟩ = some (.slice Ao8 t179.length co8) ∧ w'.cell? ⟨gb182, 2, none⟩ = some (.slice Ao25 y184.length co25) ∧ w'.cell? ⟨gb182, 3, none⟩ = some (u183003) ∧ w'.cell? ⟨gb176, 0, none⟩ = some (.int .i64 a0_0) ∧ w'.cell? ⟨gb176, 1, none⟩ = some (.slice A0_1 l0_1.length c0_1)) (ds := [11]) #[false, false, false, false, false, false, false, false, false, false, false, false] (by kernel_rfl) rfl rfl ⟨(blk_cell BK182.out 0).trans rfl, (blk_cell BK182.out 1).trans rfl, (blk_cell BK182.out 2).trans rfl, (blk_cell BK182.out 3).trans rfl, (blk_cell BK176.out 0).trans rfl, (blk_cell BK176.out 1).trans rfl⟩ (fun hHeld => ?_); refine with_tabW spec_raOf.tab7 spec_raOf.bits7 (fun HT_ HW_ => ?_)
       generalize w27.drew = w28 at HO_183001 HO_183003 HO186 BK176 BK177 BK182 HB hHeld ⊢
       refine pure_ (i := 0) (N := some 25) (v := ?_) (a' := ?_) #[true, false, false, false, false, false, false, false, false, false, false, false] rfl rfl (any_of HT_.out (by kernel_rfl)) (fun _ _ _ h => h) (Or.inl ⟨by rfl, ?_⟩) ?_ ?_
       rotate_left
       ·intro w'
        go_simp
        with_reducible rfl
       rotate_left
       ·simp only [Act.put, List.setIfInBounds_toArray, List.set_cons_zero, List.set_cons_succ, i64_w, i32_w]
        rfl
       refine pure_ (i := 3) (N := some 28) (v := ?_) (a' := ?_) #[true, false, false, true, false, false, false, false, false, false, false, false] rfl rfl (any_of HT_.out (by kernel_rfl)) (fun _ _ _ h => h) (Or.inl ⟨by rfl, ?_⟩) ?_ ?_
       rotate_left
       ·intro w'
        go_simp
        with_reducible rfl
       rotate_left
       ·simp only [Act.put, List.setIfInBounds_toArray, List.set_cons_zero, List.set_cons_succ, i64_w, i32_w]
        rfl
       refine pure_ (i := 4) (N := some 29) (v := ?_) (a' := ?_) #[true, false, false, true, true, false, false, false, false, false, false, false] rfl rfl (any_of HT_.out (by kernel_rfl)) (fun _ _ _ h => h) (Or.inl ⟨by rfl, ?_⟩) ?_ ?_
       rotate_left
       ·intro w'
        go_simp
        with_reducible rfl
       rotate_left
       ·simp only [Act.put, List.setIfInBounds_toArray, List.set_cons_zero, List.set_cons_succ, i64_w, i32_w]
        rfl
       refine pure_ (i := 5) (N := some 30) (v := ?_) (a' := ?_) #[true, false, false, true, true, true, false, false, false, false, false, false] rfl rfl (any_of HT_.out (by kernel_rfl)) (fun _ _ _ h => h) (Or.inl ⟨by rfl, ?_⟩) ?_ ?_
       rotate_left
       ·intro w'
        go_simp
        with_reducible rfl
       rotate_left
       ·simp only [Act.put, List.setIfInBounds_toArray, List.set_cons_zero, List.set_cons_succ, i64_w, i32_w]
        rfl
       refine pure_ (i := 6) (N := some 31) (v := ?_) (a' := ?_) #[true, false, false, true, true, true, true, false, false, false, false, false] rfl rfl (any_of HT_.out (by kernel_rfl)) (fun _ _ _ h => h) (Or.inl ⟨by rfl, ?_⟩) ?_ ?_
       rotate_left
       ·intro w'
        go_simp
        with_reducible rfl
       rotate_left
       ·simp only [Act.put, List.setIfInBounds_toArray, List.set_cons_zero, List.set_cons_succ, i64_w, i32_w]
        rfl
       refine take_ (i := 1) (N := some 26) (v := ?_) (a' := ?_) #[true, true, false, true, true, true, true, false, false, false, false, false] rfl rfl (take_ofW HT_.out HW_.out (by kernel_rfl)) (fun _ _ _ h => h) (Or.inl ⟨by rfl, ?_⟩) hHeld ?_ ?_
       rotate_left
       ·rintro w' ⟨s0, s1, s2, s3, s4, s5⟩
        go_simp
        with_reducible rfl
       rotate_left
       ·simp only [Act.put, List.setIfInBounds_toArray, List.set_cons_zero, List.set_cons_succ, i64_w, i32_w]
        rfl
       refine take_ (i := 2) (N := some 27) (v := ?_) (a' := ?_) #[true, true, true, true, true, true, true, false, false, false, false, false] rfl rfl (take_ofW HT_.out HW_.out (by kernel_rfl)) (fun _ _ _ h => h) (Or.inl ⟨by rfl, ?_⟩) hHeld ?_ ?_
       rotate_left
       ·rintro w' ⟨s0, s1, s2, s3, s4, s5⟩
        go_simp
        with_reducible rfl
       rotate_left
       ·simp only [Act.put, List.setIfInBounds_toArray, List.set_cons_zero, List.set_cons_succ, i64_w, i32_w]
        rfl
       refine one_ (i := 7) (N := some 32) #[true, true, true, true, true, true, true, true, false, false, false, false] rfl rfl (one_of HT_.out (by kernel_rfl)) (by decide) (fun K hK => ?_)
       refine goes_ Try.func129 (by kernel_rfl) rfl #[.agg #[.int .i64 a0_0, .slice A0_1 l0_1.length c0_1], .int .i64 (wrap64 ((wrap64 (Int.tdiv x4_1 64)) * 64)), .int .i64 x4_1] (by rfl) rfl rfl lm11_ ?_
       with_reducible refine (spec_biCount.calls k1 a0_0 _ _ l0_1 (wrap64 ((wrap64 (Int.tdiv x4_1 64)) * 64)) x4_1 t187 _ ?side1 ?side2 A17.out).mono ?_
       (case side1 => exact lc11_ (Kd.C_below HR0_1.out HB.out))
       (case side2 => exact HC0_1.out)
       rintro e w29 ⟨rfl, hb⟩
       refine ⟨_, rfl, ?_⟩
       have n0_ := am11_ (Kd.R_below (lf11_ HO_183001) hb)
       have n1_ := am11_ (Kd.R_below (lf11_ HO_183003) hb)
       have n2_ := am11_ (Kd.R_below (lf11_ HO186) hb)
       have n3_ := am11_ (blk_below (g := gb176) (o := .cells #[.int .i64 a0_0, .slice A0_1 l0_1.length c0_1] 26 (0, 0)) (lb11_ BK176) hb)
       have n4_ := am11_ (blk_below (g := gb177) (o := .cells #[.int .i64 0, .slice none 0 0, .slice none 0 0, .slice none 0 0] 48 (0, 0)) (lb11_ BK177) hb)
       have n5_ := am11_ (blk_below (g := gb182) (o := .cells #[.int .i64 t178, .slice Ao8 t179.length co8, .slice Ao25 y184.length co25, u183003] 48 (0, 0)) (lb11_ BK182) hb)
       have n6_ := am11_ (below_step (lw11_ HB) hb)
       clear HO_183001
       clear HO_183003
       clear HO186
       clear BK176
       clear BK177
       clear BK182
       clear HB
       have HO_183001 := n0_
       have HO_183003 := n1_
       have HO186 := n2_
       have BK176 := n3_
       have BK177 := n4_
       have BK182 := n5_
       have HB := n6_
       clear n0_ n1_ n2_ n3_ n4_ n5_ n6_
       (try clear hb)
       (try clear hb2)
       (try clear hk)
       (try clear hi)
       refine hK.out _ _ ⟨(blk_cell BK182.out 0).trans rfl, (blk_cell BK182.out 1).trans rfl, (blk_cell BK182.out 2).trans rfl, (blk_cell BK182.out 3).trans rfl, (blk_cell BK176.out 0).trans rfl, (blk_cell BK176.out 1).trans rfl⟩ (fun hHeld => ?_)
       clear hK K
       refine norm_ (a' := ?_) ?_ ?_
       rotate_left
       ·show Act.put _ (some 32) _ = _
        simp only [Act.put, List.setIfInBounds_toArray, List.set_cons_zero, List.set_cons_succ, i64_w, i32_w]
        rfl
       refine one_ (i := 8) (N := some 33) #[true, true, true, true, true, true, true, true, true, false, false, false] rfl rfl (one_of HT_.out (by kernel_rfl)) (by decide) (fun K hK => ?_)
       refine value_ (w1 := ?_) (v := ?_) (by rfl) rfl ?_ ?_
       rotate_left 2
       ·go_simp
        constructor
        ·rfl
        ·rfl
       refine hK.out _ _ ⟨(blk_cell (blk_alloc BK182.out _) 0).trans rfl, (blk_cell (blk_alloc BK182.out _) 1).trans rfl, (blk_cell (blk_alloc BK182.out _) 2).trans rfl, (blk_cell (blk_alloc BK182.out _) 3).trans rfl, (blk_cell (blk_alloc BK176.out _) 0).trans rfl, (blk_cell (blk_alloc BK176.out _) 1).trans rfl⟩ (fun hHeld => ?_)
       clear hK K
       refine norm_ (a' := ?_) ?_ ?_
       rotate_left
       ·show Act.put _ (some 33) _ = _
        simp only [Act.put, List.setIfInBounds_toArray, List.set_cons_zero, List.set_cons_succ, i64_w, i32_w]
        rfl
       refine one_ (i := 9) (N := some 34) #[true, true, true, true, true, true, true, true, true, true, false, false] rfl rfl (one_of HT_.out (by kernel_rfl)) (by decide) (fun K hK => ?_)
       refine Kd.R_append_step (Kd.int .i64) (w0 := w) w.heap.size (by rfl) (.tmp 26) (.tmp 33) 22 3 (.int .i64 0) 8 rfl Try.underlying22 info3 rfl (by decide) (by omega) u183003 x183003_1 t187 [.int .i64 t187] (fun k_ => some k_ ≠ (.slice Ao8 t179.length co8 : Value).ownBlock ∧ some k_ ≠ (.slice Ao25 y184.length co25 : Value).ownBlock) (fun _ => False) rfl rfl ?aP (fun _ hk => hk.elim) ?aF ?aO ?aB ?aS ?aL ?_
       (case aP => exact rfl)
       (case aB => exact (lw11_ HB))
       (case aF => exact (fun k_ hk => ⟨Kd.fresh' (Kd.R_lt (lf11_ HO_183001)) k_ hk, Kd.fresh' (Kd.R_lt (lf11_ HO186)) k_ hk⟩))
       (case aO => exact (lf11_ HO_183003))
       (case aS => exact (below_size (lw11_ HB)))
       (case aL => have := LMc18.out; omega)
       intro v189 w30 ho hb hg hat
       rw [← Ny188.out] at ho
       have n0_ := am11_ (Kd.R_after (ok := (fun k_ => some k_ ≠ (.slice Ao25 y184.length co25 : Value).ownBlock)) (by (with_reducible repeat (first | apply Kd.R_alloc | apply Kd.R_drewN | apply Kd.R_drew)); exact Kd.R_mono HO_183001.out (fun _ hk => ⟨hk.2, hk.1⟩)) hg hat)
       have n1_ := am11_ (blk_grown (g := gb176) (o := .cells #[.int .i64 a0_0, .slice A0_1 l0_1.length c0_1] 26 (0, 0)) (lb11_ BK176) hg (Kd.R_ne HO_183003.out BK176.out (by decide)))
       have n2_ := am11_ (blk_grown (g := gb177) (o := .cells #[.int .i64 0, .slice none 0 0, .slice none 0 0, .slice none 0 0] 48 (0, 0)) (lb11_ BK177) hg (Kd.R_ne HO_183003.out BK177.out (by decide)))
       have n3_ := am11_ (blk_grown (g := gb182) (o := .cells #[.int .i64 t178, .slice Ao8 t179.length co8, .slice Ao25 y184.length co25, u183003] 48 (0, 0)) (lb11_ BK182) hg (Kd.R_ne HO_183003.out BK182.out (by decide)))
       have n4_ := am11_ (Kd.R_after (ok := (fun k_ => some k_ ≠ (.slice Ao8 t179.length co8 : Value).ownBlock)) (lf11_ HO186) hg hat)
       have n5_ := am11_ (hb)
       have n6_ := am11_ (ho)
       clear HO_183001
       clear BK176
       clear BK177
       clear BK182
       clear HO186
       clear HB
       clear HO_183003
       have HO_183001 := n0_
       have BK176 := n1_
       have BK177 := n2_
       have BK182 := n3_
       have HO186 := n4_
       have HB := n5_
       have HO190 := n6_
       clear n0_ n1_ n2_ n3_ n4_ n5_ n6_
       clear ho hb hg hat
       obtain ⟨Ao31, co31, eo31⟩ := Kd.R_slice HO190.out
       (first | subst eo31 | (injection eo31 with f1_ f2_ f3_; have f4_ := f1_.symm; have f5_ := f3_.symm; clear f1_ f2_ f3_; subst f4_; subst f5_))
       refine hK.out _ _ ⟨(blk_cell BK182.out 0).trans rfl, (blk_cell BK182.out 1).trans rfl, (blk_cell BK182.out 2).trans rfl, (blk_cell BK182.out 3).trans rfl, (blk_cell BK176.out 0).trans rfl, (blk_cell BK176.out 1).trans rfl⟩ (fun hHeld => ?_)
       clear hK K
       refine norm_ (a' := ?_) ?_ ?_
       rotate_left
       ·show Act.put _ (some 34) _ = _
        simp only [Act.put, List.setIfInBounds_toArray, List.set_cons_zero, List.set_cons_succ, i64_w, i32_w]
        rfl
       refine pure_ (i := 10) (N := some 35) (v := ?_) (a' := ?_) #[true, true, true, true, true, true, true, true, true, true, true, false] rfl rfl (any_of HT_.out (by kernel_rfl)) (fun _ _ _ h => h) (Or.inl ⟨by rfl, ?_⟩) ?_ ?_
       rotate_left
       ·intro w'
        go_simp
        with_reducible rfl
       rotate_left
       ·simp only [Act.put, List.setIfInBounds_toArray, List.set_cons_zero, List.set_cons_succ, i64_w, i32_w]
        rfl
       refine last_ (i := 11) (N := none) #[true, true, true, true, true, true, true, true, true, true, true, true] rfl rfl (one_of HT_.out (by kernel_rfl)) (by decide) (fun K hK => ?_)
       have hs32 : w30.cell? ⟨gb182, 3, none⟩ = some (u183003) := (blk_cell BK182.out 3).trans rfl
       have hfs32 := blk_frozen BK182.out 3
       have hns32_0 := NB176_182.out
       have hns32_1 := NB177_182.out
       have hms32_0 := NB182_176.out
       have hms32_1 := NB182_177.out
       refine skip_ (w1 := ?_) (by rfl) rfl ?_ ?_
       rotate_left
       ·go_simp
        rfl
       refine hK.out _ _ ?_
       clear hK K
       refine done_ (done_of HT_.out (by kernel_rfl)) ?_
       try go_wp2
       go_roundg k1
       case measure => have := HK1.out; omega
       case rel => exact ⟨(wrap64 (x4_1 + 16)), (y184), (y188), (.slice Ao25 y184.length co25), (.slice Ao31 y188.length co31), (by first | rfl | (simp; done) | (simp [*]; done)), H', ⟨by have := HK1.out; omega⟩, ⟨by (with_reducible repeat (first | apply Kd.R_alloc | apply Kd.R_drewN | apply Kd.R_drew)); exact Kd.R_mono (Kd.R_far (p := ⟨gb182, 3, none⟩) (Kd.R_types HO_183001.out BK182.out (by decide)) (fun _ hk => hk.2) (.slice Ao31 y188.length co31)) (fun _ hk => ⟨hk.1.1, hk.1.2⟩)⟩, ⟨by (with_reducible repeat (first | apply Kd.R_alloc | apply Kd.R_drewN | apply Kd.R_drew)); exact Kd.R_mono (Kd.R_far (p := ⟨gb182, 3, none⟩) (Kd.R_types HO186.out BK182.out (by decide)) (fun _ hk => hk.2) (.slice Ao31 y188.length co31)) (fun _ hk => ⟨hk.1.1, hk.1.2⟩)⟩, ⟨by (with_reducible repeat (first | apply Kd.R_alloc | apply Kd.R_drewN | apply Kd.R_drew)); exact Kd.R_mono (Kd.R_far (p := ⟨gb182, 3, none⟩) (Kd.R_types HO190.out BK182.out (by decide)) (fun _ hk => hk.2) (.slice Ao31 y188.length co31)) (fun _ hk => ⟨hk.1.1, hk.1.2⟩)⟩, ⟨by (with_reducible repeat (first | refine blk_drewN ?_ _ | refine blk_drew ?_ | refine blk_alloc ?_ _)); refine blk_far ?_ NB176_182.out _; (with_reducible repeat (first | refine blk_drewN ?_ _ | refine blk_drew ?_ | refine blk_alloc ?_ _)); exact BK176.out⟩, ⟨by (with_reducible repeat (first | refine blk_drewN ?_ _ | refine blk_drew ?_ | refine blk_alloc ?_ _)); refine blk_far ?_ NB177_182.out _; (with_reducible repeat (first | refine blk_drewN ?_ _ | refine blk_drew ?_ | refine blk_alloc ?_ _)); exact BK177.out⟩, ⟨by (with_reducible repeat (first | refine blk_drewN ?_ _ | refine blk_drew ?_ | refine blk_alloc ?_ _)); refine blk_put (cs := #[.int .i64 t178, .slice Ao8 t179.length co8, .slice Ao25 y184.length co25, u183003]) ?_ 3 _ rfl; (with_reducible repeat (first | refine blk_drewN ?_ _ | refine blk_drew ?_ | refine blk_alloc ?_ _)); exact BK182.out⟩, ⟨lw11_ HB⟩⟩
      ·rw [if_neg c18] at H
       exact absurd H (by simp)
     ·rw [if_neg c16] at H
      exact absurd H (by simp)
    ·rw [if_neg c14] at H
     have c14b0 : ((Int.tmod x4_1 64) == 0) = false := beq_eq_false_iff_ne.mpr c14
     have c14b1 : ((Int.tmod x4_1 64) != 0) = true := bne_iff_ne.mpr c14
     replace H := Option.bind_eq_some_iff.mp H
     obtain ⟨t191, A330, H⟩ := H
     replace H : (if x183003_1.length < 17592186044416 then (spec_raOf.l0 k1 (wrap64 (x4_1 + 16)) a0_0 l0_1 t178 t179 x183002_1 (x183003_1 ++ [t191])) else (none)) = some (r1, r2, r3, r4) := H
     have A33 := am11_ A330
     clear A330
     by_cases c34 : x183003_1.length < 17592186044416
     ·rw [if_pos c34] at H
      have LMc34 := am11_ c34
      clear c34
      obtain ⟨y192, hy192⟩ : ∃ y_ : List Int, y_ = (x183003_1 ++ [t191]) := ⟨_, rfl⟩
      replace H : (spec_raOf.l0 k1 (wrap64 (x4_1 + 16)) a0_0 l0_1 t178 t179 x183002_1 y192) = some (r1, r2, r3, r4) := by first | (rw [hy192]; with_reducible exact H) | (have H2_ := (Option.bind_some _ _).symm.trans H; rw [hy192]; with_reducible exact H2_) | (have H2_ := (Option.bind_some _ _).symm.trans H; with_reducible exact H2_) | with_reducible exact H | (rw [hy192]; exact H) | exact H
      have Ny192 := am11_ hy192
      clear hy192
      have H' := am11_ H
      clear H
      have hnb35 := NB176_177.out
      have hnc35 := NB177_176.out
      have hnb36 := NB176_182.out
      have hnc36 := NB182_176.out
      have hcz37_0 : wr.cell? ⟨gb176, 0, none⟩ = some (.int .i64 a0_0) := (blk_cell BK176.out 0).trans rfl
      have hcz37_1 : wr.cell? ⟨gb176, 1, none⟩ = some (.slice A0_1 l0_1.length c0_1) := (blk_cell BK176.out 1).trans rfl
      have hfz37_0 := blk_frozen BK176.out 0
      have hfz37_1 := blk_frozen BK176.out 1
      try go_wp2
      have n0_ := am11_ (Kd.R_drew HO_183001.out)
      have n1_ := am11_ (Kd.R_drew HO_183002.out)
      have n2_ := am11_ (Kd.R_drew HO_183003.out)
      have n3_ := am11_ (blk_drew BK176.out)
      have n4_ := am11_ (blk_drew BK177.out)
      have n5_ := am11_ (blk_drew BK182.out)
      have n6_ := am11_ (below_drew1 HB.out)
      clear HO_183001
      clear HO_183002
      clear HO_183003
      clear BK176
      clear BK177
      clear BK182
      clear HB
      have HO_183001 := n0_
      have HO_183002 := n1_
      have HO_183003 := n2_
      have BK176 := n3_
      have BK177 := n4_
      have BK182 := n5_
      have HB := n6_
      clear n0_ n1_ n2_ n3_ n4_ n5_ n6_
      refine start_ (n := 12) (S := fun w' => w'.cell? ⟨gb182, 0, none⟩ = some (.int .i64 t178) ∧ w'.cell? ⟨gb182, 1, none⟩ = some (.slice Ao8 t179.length co8) ∧ w'.cell? ⟨gb182, 2, none⟩ = some (u183002) ∧ w'.cell? ⟨gb182, 3, none⟩ = some (u183003) ∧ w'.cell? ⟨gb176, 0, none⟩ = some (.int .i64 a0_0) ∧ w'.cell? ⟨gb176, 1, none⟩ = some (.slice A0_1 l0_1.length c0_1)) (ds := [11]) #[false, false, false, false, false, false, false, false, false, false, false, false] (by kernel_rfl) rfl rfl ⟨(blk_cell BK182.out 0).trans rfl, (blk_cell BK182.out 1).trans rfl, (blk_cell BK182.out 2).trans rfl, (blk_cell BK182.out 3).trans rfl, (blk_cell BK176.out 0).trans rfl, (blk_cell BK176.out 1).trans rfl⟩ (fun hHeld => ?_); refine with_tabW spec_raOf.tab7 spec_raOf.bits7 (fun HT_ HW_ => ?_)
      generalize wr.drew = w38 at HO_183001 HO_183002 HO_183003 BK176 BK177 BK182 HB hHeld ⊢
      refine pure_ (i := 0) (N := some 25) (v := ?_) (a' := ?_) #[true, false, false, false, false, false, false, false, false, false, false, false] rfl rfl (any_of HT_.out (by kernel_rfl)) (fun _ _ _ h => h) (Or.inl ⟨by rfl, ?_⟩) ?_ ?_
      rotate_left
      ·intro w'
       go_simp
       with_reducible rfl
      rotate_left
      ·simp only [Act.put, List.setIfInBounds_toArray, List.set_cons_zero, List.set_cons_succ, i64_w, i32_w]
       rfl
      refine pure_ (i := 3) (N := some 28) (v := ?_) (a' := ?_) #[true, false, false, true, false, false, false, false, false, false, false, false] rfl rfl (any_of HT_.out (by kernel_rfl)) (fun _ _ _ h => h) (Or.inl ⟨by rfl, ?_⟩) ?_ ?_
      rotate_left
      ·intro w'
       go_simp
       with_reducible rfl
      rotate_left
      ·simp only [Act.put, List.setIfInBounds_toArray, List.set_cons_zero, List.set_cons_succ, i64_w, i32_w]
       rfl
      refine pure_ (i := 4) (N := some 29) (v := ?_) (a' := ?_) #[true, false, false, true, true, false, false, false, false, false, false, false] rfl rfl (any_of HT_.out (by kernel_rfl)) (fun _ _ _ h => h) (Or.inl ⟨by rfl, ?_⟩) ?_ ?_
      rotate_left
      ·intro w'
       go_simp
       with_reducible rfl
      rotate_left
      ·simp only [Act.put, List.setIfInBounds_toArray, List.set_cons_zero, List.set_cons_succ, i64_w, i32_w]
       rfl
      refine pure_ (i := 5) (N := some 30) (v := ?_) (a' := ?_) #[true, false, false, true, true, true, false, false, false, false, false, false] rfl rfl (any_of HT_.out (by kernel_rfl)) (fun _ _ _ h => h) (Or.inl ⟨by rfl, ?_⟩) ?_ ?_
      rotate_left
      ·intro w'
       go_simp
       with_reducible rfl
      rotate_left
      ·simp only [Act.put, List.setIfInBounds_toArray, List.set_cons_zero, List.set_cons_succ, i64_w, i32_w]
       rfl
      refine pure_ (i := 6) (N := some 31) (v := ?_) (a' := ?_) #[true, false, false, true, true, true, true, false, false, false, false, false] rfl rfl (any_of HT_.out (by kernel_rfl)) (fun _ _ _ h => h) (Or.inl ⟨by rfl, ?_⟩) ?_ ?_
      rotate_left
      ·intro w'
       go_simp
       with_reducible rfl
      rotate_left
      ·simp only [Act.put, List.setIfInBounds_toArray, List.set_cons_zero, List.set_cons_succ, i64_w, i32_w]
       rfl
      refine take_ (i := 1) (N := some 26) (v := ?_) (a' := ?_) #[true, true, false, true, true, true, true, false, false, false, false, false] rfl rfl (take_ofW HT_.out HW_.out (by kernel_rfl)) (fun _ _ _ h => h) (Or.inl ⟨by rfl, ?_⟩) hHeld ?_ ?_
      rotate_left
      ·rintro w' ⟨s0, s1, s2, s3, s4, s5⟩
       go_simp
       with_reducible rfl
      rotate_left
      ·simp only [Act.put, List.setIfInBounds_toArray, List.set_cons_zero, List.set_cons_succ, i64_w, i32_w]
       rfl
      refine take_ (i := 2) (N := some 27) (v := ?_) (a' := ?_) #[true, true, true, true, true, true, true, false, false, false, false, false] rfl rfl (take_ofW HT_.out HW_.out (by kernel_rfl)) (fun _ _ _ h => h) (Or.inl ⟨by rfl, ?_⟩) hHeld ?_ ?_
      rotate_left
      ·rintro w' ⟨s0, s1, s2, s3, s4, s5⟩
       go_simp
       with_reducible rfl
      rotate_left
      ·simp only [Act.put, List.setIfInBounds_toArray, List.set_cons_zero, List.set_cons_succ, i64_w, i32_w]
       rfl
      refine one_ (i := 7) (N := some 32) #[true, true, true, true, true, true, true, true, false, false, false, false] rfl rfl (one_of HT_.out (by kernel_rfl)) (by decide) (fun K hK => ?_)
      refine goes_ Try.func129 (by kernel_rfl) rfl #[.agg #[.int .i64 a0_0, .slice A0_1 l0_1.length c0_1], .int .i64 (wrap64 ((wrap64 (Int.tdiv x4_1 64)) * 64)), .int .i64 x4_1] (by rfl) rfl rfl lm11_ ?_
      with_reducible refine (spec_biCount.calls k1 a0_0 _ _ l0_1 (wrap64 ((wrap64 (Int.tdiv x4_1 64)) * 64)) x4_1 t191 _ ?side1 ?side2 A33.out).mono ?_
      (case side1 => exact lc11_ (Kd.C_below HR0_1.out HB.out))
      (case side2 => exact HC0_1.out)
      rintro e w39 ⟨rfl, hb⟩
      refine ⟨_, rfl, ?_⟩
      have n0_ := am11_ (Kd.R_below (lf11_ HO_183001) hb)
      have n1_ := am11_ (Kd.R_below (lf11_ HO_183002) hb)
      have n2_ := am11_ (Kd.R_below (lf11_ HO_183003) hb)
      have n3_ := am11_ (blk_below (g := gb176) (o := .cells #[.int .i64 a0_0, .slice A0_1 l0_1.length c0_1] 26 (0, 0)) (lb11_ BK176) hb)
      have n4_ := am11_ (blk_below (g := gb177) (o := .cells #[.int .i64 0, .slice none 0 0, .slice none 0 0, .slice none 0 0] 48 (0, 0)) (lb11_ BK177) hb)
      have n5_ := am11_ (blk_below (g := gb182) (o := .cells #[.int .i64 t178, .slice Ao8 t179.length co8, u183002, u183003] 48 (0, 0)) (lb11_ BK182) hb)
      have n6_ := am11_ (below_step (lw11_ HB) hb)
      clear HO_183001
      clear HO_183002
      clear HO_183003
      clear BK176
      clear BK177
      clear BK182
      clear HB
      have HO_183001 := n0_
      have HO_183002 := n1_
      have HO_183003 := n2_
      have BK176 := n3_
      have BK177 := n4_
      have BK182 := n5_
      have HB := n6_
      clear n0_ n1_ n2_ n3_ n4_ n5_ n6_
      (try clear hb)
      (try clear hb2)
      (try clear hk)
      (try clear hi)
      refine hK.out _ _ ⟨(blk_cell BK182.out 0).trans rfl, (blk_cell BK182.out 1).trans rfl, (blk_cell BK182.out 2).trans rfl, (blk_cell BK182.out 3).trans rfl, (blk_cell BK176.out 0).trans rfl, (blk_cell BK176.out 1).trans rfl⟩ (fun hHeld => ?_)
      clear hK K
      refine norm_ (a' := ?_) ?_ ?_
      rotate_left
      ·show Act.put _ (some 32) _ = _
       simp only [Act.put, List.setIfInBounds_toArray, List.set_cons_zero, List.set_cons_succ, i64_w, i32_w]
       rfl
      refine one_ (i := 8) (N := some 33) #[true, true, true, true, true, true, true, true, true, false, false, false] rfl rfl (one_of HT_.out (by kernel_rfl)) (by decide) (fun K hK => ?_)
      refine value_ (w1 := ?_) (v := ?_) (by rfl) rfl ?_ ?_
      rotate_left 2
      ·go_simp
       constructor
       ·rfl
       ·rfl
      refine hK.out _ _ ⟨(blk_cell (blk_alloc BK182.out _) 0).trans rfl, (blk_cell (blk_alloc BK182.out _) 1).trans rfl, (blk_cell (blk_alloc BK182.out _) 2).trans rfl, (blk_cell (blk_alloc BK182.out _) 3).trans rfl, (blk_cell (blk_alloc BK176.out _) 0).trans rfl, (blk_cell (blk_alloc BK176.out _) 1).trans rfl⟩ (fun hHeld => ?_)
      clear hK K
      refine norm_ (a' := ?_) ?_ ?_
      rotate_left
      ·show Act.put _ (some 33) _ = _
       simp only [Act.put, List.setIfInBounds_toArray, List.set_cons_zero, List.set_cons_succ, i64_w, i32_w]
       rfl
      refine one_ (i := 9) (N := some 34) #[true, true, true, true, true, true, true, true, true, true, false, false] rfl rfl (one_of HT_.out (by kernel_rfl)) (by decide) (fun K hK => ?_)
      refine Kd.R_append_step (Kd.int .i64) (w0 := w) w.heap.size (by rfl) (.tmp 26) (.tmp 33) 22 3 (.int .i64 0) 8 rfl Try.underlying22 info3 rfl (by decide) (by omega) u183003 x183003_1 t191 [.int .i64 t191] (fun k_ => some k_ ≠ (.slice Ao8 t179.length co8 : Value).ownBlock ∧ some k_ ≠ (u183002 : Value).ownBlock) (fun _ => False) rfl rfl ?aP (fun _ hk => hk.elim) ?aF ?aO ?aB ?aS ?aL ?_
      (case aP => exact rfl)
      (case aB => exact (lw11_ HB))
      (case aF => exact (fun k_ hk => ⟨Kd.fresh' (Kd.R_lt (lf11_ HO_183001)) k_ hk, Kd.fresh' (Kd.R_lt (lf11_ HO_183002)) k_ hk⟩))
      (case aO => exact (lf11_ HO_183003))
      (case aS => exact (below_size (lw11_ HB)))
      (case aL => have := LMc34.out; omega)
      intro v193 w40 ho hb hg hat
      rw [← Ny192.out] at ho
      have n0_ := am11_ (Kd.R_after (ok := (fun k_ => some k_ ≠ (u183002 : Value).ownBlock)) (lf11_ HO_183001) hg hat)
      have n1_ := am11_ (Kd.R_after (ok := (fun k_ => some k_ ≠ (.slice Ao8 t179.length co8 : Value).ownBlock)) (lf11_ HO_183002) hg hat)
      have n2_ := am11_ (blk_grown (g := gb176) (o := .cells #[.int .i64 a0_0, .slice A0_1 l0_1.length c0_1] 26 (0, 0)) (lb11_ BK176) hg (Kd.R_ne HO_183003.out BK176.out (by decide)))
      have n3_ := am11_ (blk_grown (g := gb177) (o := .cells #[.int .i64 0, .slice none 0 0, .slice none 0 0, .slice none 0 0] 48 (0, 0)) (lb11_ BK177) hg (Kd.R_ne HO_183003.out BK177.out (by decide)))
      have n4_ := am11_ (blk_grown (g := gb182) (o := .cells #[.int .i64 t178, .slice Ao8 t179.length co8, u183002, u183003] 48 (0, 0)) (lb11_ BK182) hg (Kd.R_ne HO_183003.out BK182.out (by decide)))
      have n5_ := am11_ (hb)
      have n6_ := am11_ (ho)
      clear HO_183001
      clear HO_183002
      clear BK176
      clear BK177
      clear BK182
      clear HB
      clear HO_183003
      have HO_183001 := n0_
      have HO_183002 := n1_
      have BK176 := n2_
      have BK177 := n3_
      have BK182 := n4_
      have HB := n5_
      have HO194 := n6_
      clear n0_ n1_ n2_ n3_ n4_ n5_ n6_
      clear ho hb hg hat
      obtain ⟨Ao41, co41, eo41⟩ := Kd.R_slice HO194.out
      (first | subst eo41 | (injection eo41 with f1_ f2_ f3_; have f4_ := f1_.symm; have f5_ := f3_.symm; clear f1_ f2_ f3_; subst f4_; subst f5_))
      refine hK.out _ _ ⟨(blk_cell BK182.out 0).trans rfl, (blk_cell BK182.out 1).trans rfl, (blk_cell BK182.out 2).trans rfl, (blk_cell BK182.out 3).trans rfl, (blk_cell BK176.out 0).trans rfl, (blk_cell BK176.out 1).trans rfl⟩ (fun hHeld => ?_)
      clear hK K
      refine norm_ (a' := ?_) ?_ ?_
      rotate_left
      ·show Act.put _ (some 34) _ = _
       simp only [Act.put, List.setIfInBounds_toArray, List.set_cons_zero, List.set_cons_succ, i64_w, i32_w]
       rfl
      refine pure_ (i := 10) (N := some 35) (v := ?_) (a' := ?_) #[true, true, true, true, true, true, true, true, true, true, true, false] rfl rfl (any_of HT_.out (by kernel_rfl)) (fun _ _ _ h => h) (Or.inl ⟨by rfl, ?_⟩) ?_ ?_
      rotate_left
      ·intro w'
       go_simp
       with_reducible rfl
      rotate_left
      ·simp only [Act.put, List.setIfInBounds_toArray, List.set_cons_zero, List.set_cons_succ, i64_w, i32_w]
       rfl
      refine last_ (i := 11) (N := none) #[true, true, true, true, true, true, true, true, true, true, true, true] rfl rfl (one_of HT_.out (by kernel_rfl)) (by decide) (fun K hK => ?_)
      have hs42 : w40.cell? ⟨gb182, 3, none⟩ = some (u183003) := (blk_cell BK182.out 3).trans rfl
      have hfs42 := blk_frozen BK182.out 3
      have hns42_0 := NB176_182.out
      have hns42_1 := NB177_182.out
      have hms42_0 := NB182_176.out
      have hms42_1 := NB182_177.out
      refine skip_ (w1 := ?_) (by rfl) rfl ?_ ?_
      rotate_left
      ·go_simp
       rfl
      refine hK.out _ _ ?_
      clear hK K
      refine done_ (done_of HT_.out (by kernel_rfl)) ?_
      try go_wp2
      go_roundg k1
      case measure => have := HK1.out; omega
      case rel => exact ⟨(wrap64 (x4_1 + 16)), (x183002_1), (y192), (u183002), (.slice Ao41 y192.length co41), (by first | rfl | (simp; done) | (simp [*]; done)), H', ⟨by have := HK1.out; omega⟩, ⟨by (with_reducible repeat (first | apply Kd.R_alloc | apply Kd.R_drewN | apply Kd.R_drew)); exact Kd.R_mono (Kd.R_far (p := ⟨gb182, 3, none⟩) (Kd.R_types HO_183001.out BK182.out (by decide)) (fun _ hk => hk.2) (.slice Ao41 y192.length co41)) (fun _ hk => ⟨hk.1.1, hk.1.2⟩)⟩, ⟨by (with_reducible repeat (first | apply Kd.R_alloc | apply Kd.R_drewN | apply Kd.R_drew)); exact Kd.R_mono (Kd.R_far (p := ⟨gb182, 3, none⟩) (Kd.R_types HO_183002.out BK182.out (by decide)) (fun _ hk => hk.2) (.slice Ao41 y192.length co41)) (fun _ hk => ⟨hk.1.1, hk.1.2⟩)⟩, ⟨by (with_reducible repeat (first | apply Kd.R_alloc | apply Kd.R_drewN | apply Kd.R_drew)); exact Kd.R_mono (Kd.R_far (p := ⟨gb182, 3, none⟩) (Kd.R_types HO194.out BK182.out (by decide)) (fun _ hk => hk.2) (.slice Ao41 y192.length co41)) (fun _ hk => ⟨hk.1.1, hk.1.2⟩)⟩, ⟨by (with_reducible repeat (first | refine blk_drewN ?_ _ | refine blk_drew ?_ | refine blk_alloc ?_ _)); refine blk_far ?_ NB176_182.out _; (with_reducible repeat (first | refine blk_drewN ?_ _ | refine blk_drew ?_ | refine blk_alloc ?_ _)); exact BK176.out⟩, ⟨by (with_reducible repeat (first | refine blk_drewN ?_ _ | refine blk_drew ?_ | refine blk_alloc ?_ _)); refine blk_far ?_ NB177_182.out _; (with_reducible repeat (first | refine blk_drewN ?_ _ | refine blk_drew ?_ | refine blk_alloc ?_ _)); exact BK177.out⟩, ⟨by (with_reducible repeat (first | refine blk_drewN ?_ _ | refine blk_drew ?_ | refine blk_alloc ?_ _)); refine blk_put (cs := #[.int .i64 t178, .slice Ao8 t179.length co8, u183002, u183003]) ?_ 3 _ rfl; (with_reducible repeat (first | refine blk_drewN ?_ _ | refine blk_drew ?_ | refine blk_alloc ?_ _)); exact BK182.out⟩, ⟨lw11_ HB⟩⟩
     ·rw [if_neg c34] at H
      exact absurd H (by simp)
   ·rw [if_neg c13] at H
    have c13b0 : decide (x4_1 < a0_0) = false := decide_eq_false c13
    clear c13
    simp only [Option.some.injEq, Prod.mk.injEq] at H
    obtain ⟨rfl, rfl, rfl, rfl⟩ := H
    have hnb43 := NB176_177.out
    have hnc43 := NB177_176.out
    have hnb44 := NB176_182.out
    have hnc44 := NB182_176.out
    have hcz45_0 : wr.cell? ⟨gb176, 0, none⟩ = some (.int .i64 a0_0) := (blk_cell BK176.out 0).trans rfl
    have hcz45_1 : wr.cell? ⟨gb176, 1, none⟩ = some (.slice A0_1 l0_1.length c0_1) := (blk_cell BK176.out 1).trans rfl
    have hfz45_0 := blk_frozen BK176.out 0
    have hfz45_1 := blk_frozen BK176.out 1
    have hnb46 := NB182_177.out
    have hnc46 := NB177_182.out
    have hcz47_0 : wr.cell? ⟨gb182, 0, none⟩ = some (.int .i64 t178) := (blk_cell BK182.out 0).trans rfl
    have hcz47_1 : wr.cell? ⟨gb182, 1, none⟩ = some (.slice Ao8 t179.length co8) := (blk_cell BK182.out 1).trans rfl
    have hcz47_2 : wr.cell? ⟨gb182, 2, none⟩ = some (u183002) := (blk_cell BK182.out 2).trans rfl
    have hcz47_3 : wr.cell? ⟨gb182, 3, none⟩ = some (u183003) := (blk_cell BK182.out 3).trans rfl
    have hfz47_0 := blk_frozen BK182.out 0
    have hfz47_1 := blk_frozen BK182.out 1
    have hfz47_2 := blk_frozen BK182.out 2
    have hfz47_3 := blk_frozen BK182.out 3
    have hcz48_0 : wr.cell? ⟨gb177, 0, none⟩ = some (.int .i64 0) := (blk_cell BK177.out 0).trans rfl
    have hcz48_1 : wr.cell? ⟨gb177, 1, none⟩ = some (.slice none 0 0) := (blk_cell BK177.out 1).trans rfl
    have hcz48_2 : wr.cell? ⟨gb177, 2, none⟩ = some (.slice none 0 0) := (blk_cell BK177.out 2).trans rfl
    have hcz48_3 : wr.cell? ⟨gb177, 3, none⟩ = some (.slice none 0 0) := (blk_cell BK177.out 3).trans rfl
    have hfz48_0 := blk_frozen BK177.out 0
    have hfz48_1 := blk_frozen BK177.out 1
    have hfz48_2 := blk_frozen BK177.out 2
    have hfz48_3 := blk_frozen BK177.out 3
    obtain ⟨Ao49, co49, eo49⟩ := Kd.R_slice HO_183002.out
    subst eo49
    obtain ⟨Ao50, co50, eo50⟩ := Kd.R_slice HO_183003.out
    subst eo50
    go_wp2
    refine bodyPost_ret (results_cell_row rfl _ _ gb177 48 #[.int .i64 t178, .slice Ao8 t179.length co8, .slice Ao49 x183002_1.length co49, .slice Ao50 x183003_1.length co50] (0, 0) _ rfl (by (with_reducible repeat (first | refine blk_drewN ?_ _ | refine blk_drew ?_ | refine blk_alloc ?_ _)); refine blk_put (cs := #[.int .i64 t178, .slice Ao8 t179.length co8, .slice Ao49 x183002_1.length co49, .slice none 0 0]) ?_ 3 _ rfl; (with_reducible repeat (first | refine blk_drewN ?_ _ | refine blk_drew ?_ | refine blk_alloc ?_ _)); refine blk_put (cs := #[.int .i64 t178, .slice Ao8 t179.length co8, .slice none 0 0, .slice none 0 0]) ?_ 2 _ rfl; (with_reducible repeat (first | refine blk_drewN ?_ _ | refine blk_drew ?_ | refine blk_alloc ?_ _)); refine blk_put (cs := #[.int .i64 t178, .slice none 0 0, .slice none 0 0, .slice none 0 0]) ?_ 1 _ rfl; (with_reducible repeat (first | refine blk_drewN ?_ _ | refine blk_drew ?_ | refine blk_alloc ?_ _)); refine blk_put (cs := #[.int .i64 0, .slice none 0 0, .slice none 0 0, .slice none 0 0]) ?_ 0 _ rfl; (with_reducible repeat (first | refine blk_drewN ?_ _ | refine blk_drew ?_ | refine blk_alloc ?_ _)); exact BK177.out) Try.underlying48 rfl (by kernel_rfl)) rfl ?_
    exact ⟨_, _, _, by first | rfl | (simp [errW_none, errW_some] <;> rfl) | (simp [*, errW_none, errW_some] <;> rfl), by (with_reducible repeat (first | apply Kd.R_alloc | apply Kd.R_drewN | apply Kd.R_drew)); exact Kd.R_mono (Kd.R_far (p := ⟨gb177, 3, none⟩) (Kd.R_far (p := ⟨gb177, 2, none⟩) (Kd.R_far (p := ⟨gb177, 1, none⟩) (Kd.R_far (p := ⟨gb177, 0, none⟩) (Kd.R_types HO_183001.out BK177.out (by decide)) (fun _ hk => hk.2) (.int .i64 t178)) (fun _ hk => hk.2) (.slice Ao8 t179.length co8)) (fun _ hk => hk.2) (.slice Ao49 x183002_1.length co49)) (fun _ hk => hk.2) (.slice Ao50 x183003_1.length co50)) (fun _ hk => ⟨hk.1.1, hk.1.2⟩), by (with_reducible repeat (first | apply Kd.R_alloc | apply Kd.R_drewN | apply Kd.R_drew)); exact Kd.R_mono (Kd.R_far (p := ⟨gb177, 3, none⟩) (Kd.R_far (p := ⟨gb177, 2, none⟩) (Kd.R_far (p := ⟨gb177, 1, none⟩) (Kd.R_far (p := ⟨gb177, 0, none⟩) (Kd.R_types HO_183002.out BK177.out (by decide)) (fun _ hk => hk.2) (.int .i64 t178)) (fun _ hk => hk.2) (.slice Ao8 t179.length co8)) (fun _ hk => hk.2) (.slice Ao49 x183002_1.length co49)) (fun _ hk => hk.2) (.slice Ao50 x183003_1.length co50)) (fun _ hk => ⟨hk.1.1, hk.1.2⟩), by (with_reducible repeat (first | apply Kd.R_alloc | apply Kd.R_drewN | apply Kd.R_drew)); exact Kd.R_mono (Kd.R_far (p := ⟨gb177, 3, none⟩) (Kd.R_far (p := ⟨gb177, 2, none⟩) (Kd.R_far (p := ⟨gb177, 1, none⟩) (Kd.R_far (p := ⟨gb177, 0, none⟩) (Kd.R_types HO_183003.out BK177.out (by decide)) (fun _ hk => hk.2) (.int .i64 t178)) (fun _ hk => hk.2) (.slice Ao8 t179.length co8)) (fun _ hk => hk.2) (.slice Ao49 x183002_1.length co49)) (fun _ hk => hk.2) (.slice Ao50 x183003_1.length co50)) (fun _ hk => ⟨hk.1.1, hk.1.2⟩), lw11_ HB⟩

end Go.Proofs.Ytkmhjgejficclaa.PFnExactPackDirectory
