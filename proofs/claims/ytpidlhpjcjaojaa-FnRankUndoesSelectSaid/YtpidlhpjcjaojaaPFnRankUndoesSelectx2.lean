-- Laid by a program of this session: the print of the kit with additions of ours (wip/tools/patchprint.py). Nothing of it is trusted: Lean checks it.
import Derived.Test.YtpidlhpjcjaojaaPFnRankUndoesSelectx0
import Derived.Test.YtpidlhpjcjaojaaPFnRankUndoesSelectx1
namespace Go.Proofs.Ytpidlhpjcjaojaa.PFnRankUndoesSelect
open Go.RowKit Go.Proofs.YtpidlhpjcjaojaaW.PrintWords Go.Proofs.YtpidlhpjcjaojaaW.PrintLast Go.Proofs.YtpidlhpjcjaojaaW.PrintMore
attribute [local go_sem] max2_int min2_int max_two min_two max_three min_three max_four min_four   -- for this text's walks alone
set_option linter.unusedVariables false
set_option linter.unusedSimpArgs false

theorem am4_ {p : Prop} (h : p) : Aside0 p := ⟨h⟩
theorem lm4_ {P : Prop} (h : P := by (try simp only [List.map_toArray, List.map_cons, List.map_nil]); first | done | rfl | (simp only [List.length_drop, List.length_take]; rfl)) : P := h
theorem lc4_ {P Q : Prop} (h : P) (f : P → Q := by intro h_; repeat (first | exact h_ | (with_reducible refine Kd.C_alloc ?_ _) | (with_reducible refine Kd.C_drewN ?_ _) | (with_reducible refine Kd.C_drew ?_))) : Q := f h
theorem lt4_ {P Q : Prop} (h : P) (f : P → Q := by intro h_; (with_reducible repeat (first | apply Kd.R_alloc | apply Kd.R_drewN | apply Kd.R_drew)); exact h_) : Q := f h
theorem lf4_ {P Q : Prop} (h : Aside0 P) (f : P → Q := by intro h_; (with_reducible repeat (first | apply Kd.R_alloc | apply Kd.R_drewN | apply Kd.R_drew)); exact h_) : Q := f h.out
theorem lb4_ {P Q : Prop} (h : Aside0 P) (f : P → Q := by intro h_; (with_reducible repeat (first | refine blk_drewN ?_ _ | refine blk_drew ?_ | refine blk_alloc ?_ _)); exact h_) : Q := f h.out
theorem lw4_ {P Q : Prop} (h : Aside0 P) (f : P → Q := by intro h_; repeat (first | (with_reducible first | exact h_ | apply below_alloc | apply pw_below_drewN | apply below_drew1 | refine below_set ?_ (Aside0.out (by assumption))) | exact h_)) : Q := f h.out
/-! ### spec_raOf: function 61 -/
def spec_raOf.l0 : Nat → Int → Int → List Int → Int → List Int → List Int → List Int → Option (Int × List Int × List Int × List Int)
 | 0, _, _, _, _, _, _, _ => none
 | k + 1, x4, x123000, x123001, x129000, x129001, x129002, x129003 => if x4 < x123000 then (if (Int.tmod x4 64) = 0 then ((spec_biCount.f k x123000 x123001 0 x4).bind fun t129 => (if x129002.length < 17592186044416 then ((spec_biCount.f k x123000 x123001 (wrap64 ((wrap64 (Int.tdiv x4 64)) * 64)) x4).bind fun t133 => (if x129003.length < 17592186044416 then (spec_raOf.l0 k (wrap64 (x4 + 16)) x123000 x123001 x129000 x129001 (x129002 ++ [t129]) (x129003 ++ [t133])) else (none))) else (none))) else ((spec_biCount.f k x123000 x123001 (wrap64 ((wrap64 (Int.tdiv x4 64)) * 64)) x4).bind fun t137 => (if x129003.length < 17592186044416 then (spec_raOf.l0 k (wrap64 (x4 + 16)) x123000 x123001 x129000 x129001 x129002 (x129003 ++ [t137])) else (none)))) else (some (x129000, x129001, x129002, x129003))
def spec_raOf.f (k : Nat) (a0_0 : Int) (l0_1 : List Int) : Option (Int × List Int × List Int × List Int) := (spec_biOwn.f a0_0 l0_1).bind fun bt124 => (spec_raOf.l0 k 0 a0_0 l0_1 bt124.1 bt124.2 ([] : List Int) ([] : List Int))
theorem spec_raOf.mono_l : ∀ k, (∀ y0 y1 y2 y3 y4 y5 y6, LeO (spec_raOf.l0 k y0 y1 y2 y3 y4 y5 y6) (spec_raOf.l0 (k + 1) y0 y1 y2 y3 y4 y5 y6))
 | 0 => fun _ _ _ _ _ _ _ r h => by simp [spec_raOf.l0] at h
 | k + 1 => by
  have ih0 := spec_raOf.mono_l k
  ·intro y0 y1 y2 y3 y4 y5 y6
   unfold spec_raOf.l0
   repeat' first
   | (with_reducible exact ih0 _ _ _ _ _ _ _)
   | (with_reducible exact spec_biCount.mono _ _ _ _ _)
   | (with_reducible exact LeO.refl _)
   | (with_reducible exact LeO.none _)
   | (with_reducible refine LeO.ite ?_ ?_)
   | (with_reducible refine LeO.bind ?_ (fun _ => ?_))
   | exact ih0 _ _ _ _ _ _ _
   | exact spec_biCount.mono _ _ _ _ _
   | exact LeO.none _
   | refine LeO.ite ?_ ?_
   | refine LeO.bind ?_ (fun _ => ?_)
theorem spec_raOf.mono : ∀ a0 a1 k, LeO (spec_raOf.f k a0 a1) (spec_raOf.f (k + 1) a0 a1) := by
 intro a0 a1 k
 have ih0 := spec_raOf.mono_l k
 unfold spec_raOf.f
 repeat' first
   | (with_reducible exact ih0 _ _ _ _ _ _ _)
   | (with_reducible exact spec_biCount.mono _ _ _ _ _)
   | (with_reducible exact LeO.refl _)
   | (with_reducible exact LeO.none _)
   | (with_reducible refine LeO.ite ?_ ?_)
   | (with_reducible refine LeO.bind ?_ (fun _ => ?_))
   | exact ih0 _ _ _ _ _ _ _
   | exact spec_biCount.mono _ _ _ _ _
   | exact LeO.none _
   | refine LeO.ite ?_ ?_
   | refine LeO.bind ?_ (fun _ => ?_)
def spec_raOf.T6 : Bool × List (List Nat × List Nat) := (true, [([], []), ([0], [0]), ([], []), ([], []), ([2, 3], [2, 3]), ([4], [4]), ([1, 5, 4], [1, 5]), ([0, 1, 2, 3, 4, 5, 6], []), ([7, 6, 6, 0, 1, 2, 3, 4, 5, 6], [6, 7])])
def spec_raOf.B6 : List Nat := [0, 1, 0, 0, 12, 28, 63, 127, 255]
theorem spec_raOf.tab6 : rtab .any (opsOf Try.f61 6) = spec_raOf.T6 := by kernel_rfl
theorem spec_raOf.bits6 : waitsOk spec_raOf.T6.2 spec_raOf.B6 = true := by kernel_rfl
def spec_raOf.T7 : Bool × List (List Nat × List Nat) := (true, [([], []), ([0], [0]), ([], []), ([], []), ([3], [3]), ([4], [4]), ([], []), ([2, 5, 6], [2, 5, 6]), ([7], [7]), ([1, 8, 7], [1, 8]), ([0, 1, 2, 3, 4, 5, 6, 7, 8, 9], []), ([10, 9, 9, 0, 1, 2, 3, 4, 5, 6, 7, 8, 9], [9, 10])])
def spec_raOf.B7 : List Nat := [0, 1, 0, 0, 8, 24, 0, 124, 252, 511, 1023, 2047]
theorem spec_raOf.tab7 : rtab .any (opsOf Try.f61 7) = spec_raOf.T7 := by kernel_rfl
theorem spec_raOf.bits7 : waitsOk spec_raOf.T7.2 spec_raOf.B7 = true := by kernel_rfl
set_option maxHeartbeats 8000000 in
set_option maxRecDepth 100000 in
theorem spec_raOf.calls (k : Nat) (a0_0 : Int) (A0_1 : Option Addr) (c0_1 : Nat) (l0_1 : List Int) (r1 : Int) (r2 : List Int) (r3 : List Int) (r4 : List Int) (w : World) (hr0_1 : Kd.C (Kd.int .i64) w A0_1 l0_1.length l0_1) (hc0_1 : l0_1.length ≤ c0_1) (h : spec_raOf.f k a0_0 l0_1 = some (r1, r2, r3, r4)) :
  Calls Try.prog 61 #[.agg #[.int .i64 a0_0, .slice A0_1 l0_1.length c0_1]] w fun e w' => ∃ v1_ v2_ v3_ : Value, e = .returned (.agg #[.int .i64 r1, v1_, v2_, v3_]) ∧ Kd.R (Kd.int .i64) 3 w' w.heap.size (fun k_ => some k_ ≠ (v2_ : Value).ownBlock ∧ some k_ ≠ (v3_ : Value).ownBlock) v1_ r2 ∧ Kd.R (Kd.int .i64) 3 w' w.heap.size (fun k_ => some k_ ≠ (v1_ : Value).ownBlock ∧ some k_ ≠ (v3_ : Value).ownBlock) v2_ r3 ∧ Kd.R (Kd.int .i64) 3 w' w.heap.size (fun k_ => some k_ ≠ (v1_ : Value).ownBlock ∧ some k_ ≠ (v2_ : Value).ownBlock) v3_ r4 ∧ Below w.heap.size w w' := by
 have hu29 := Try.underlying29
 have hu31 := Try.underlying31
 have HR0_1 := am4_ hr0_1
 have HC0_1 := am4_ hc0_1
 clear hr0_1 hc0_1
 have HB := am4_ (Below.refl w.heap.size w)
 have H : ((spec_biOwn.f a0_0 l0_1).bind fun bt124 => (spec_raOf.l0 k 0 a0_0 l0_1 bt124.1 bt124.2 ([] : List Int) ([] : List Int))) = some (r1, r2, r3, r4) := h
 clear h
 replace H := Option.bind_eq_some_iff.mp H
 obtain ⟨⟨t124, t125⟩, A20, H⟩ := H
 replace H : (spec_raOf.l0 k 0 a0_0 l0_1 t124 t125 ([] : List Int) ([] : List Int)) = some (r1, r2, r3, r4) := H
 have A2 := am4_ A20
 clear A20
 have H' := am4_ H
 clear H
 go_enter Try.func61, Try.ntmps61
 go_wp2_with (first | ((with_reducible refine gate_dst (N := 1) rfl ?_); refine box_event ?hg (N := 1) ?hd (cs := #[.int .i64 a0_0, .slice A0_1 l0_1.length c0_1]) (t := 29) ?hr ?_; (case hd => rfl); (case hg => rfl); (case hr => first | (go_simp; done) | (go_simp; rfl)); intro gb122 hg w3 hbox hb; have n0_ := am4_ (below_step (lw4_ HB) hb); have n1_ := am4_ (hbox); have n2_ := am4_ ((by rw [hg]; exact (below_size (lw4_ HB)) : w.heap.size ≤ gb122)); have n3_ := am4_ ((by rw [hg]; exact (below_size (lw4_ HB)) : w.heap.size ≤ gb122)); clear HB; have HB := n0_; have BK122 := n1_; have GW122 := n2_; have GE122 := n3_; clear n0_ n1_ n2_ n3_; clear hb hbox hg) | ((with_reducible refine gate_dst (N := 2) rfl ?_); refine box_event ?hg (N := 2) ?hd (cs := #[.int .i64 0, .slice none 0 0, .slice none 0 0, .slice none 0 0]) (t := 31) ?hr ?_; (case hd => rfl); (case hg => rfl); (case hr => first | (go_simp; done) | (go_simp; rfl)); intro gb123 hg w4 hbox hb; have n0_ := am4_ (blk_below (g := gb122) (o := .cells #[.int .i64 a0_0, .slice A0_1 l0_1.length c0_1] 29 (0, 0)) (lb4_ BK122) hb); have n1_ := am4_ (below_step (lw4_ HB) hb); have n2_ := am4_ (hbox); have n3_ := am4_ ((by rw [hg]; exact (below_size (lw4_ HB)) : w.heap.size ≤ gb123)); have n4_ := am4_ ((by rw [hg]; exact (below_size (lw4_ HB)) : w.heap.size ≤ gb123)); have n5_ := am4_ ((by rw [hg]; exact Nat.ne_of_lt (blk_lt (g := gb122) (lb4_ BK122)) : gb122 ≠ gb123)); have n6_ := am4_ ((by rw [hg]; exact Nat.ne_of_gt (blk_lt (g := gb122) (lb4_ BK122)) : gb123 ≠ gb122)); clear BK122; clear HB; have BK122 := n0_; have HB := n1_; have BK123 := n2_; have GW123 := n3_; have GE123 := n4_; have NB122_123 := n5_; have NB123_122 := n6_; clear n0_ n1_ n2_ n3_ n4_ n5_ n6_; clear hb hbox hg; have hnb5 := NB122_123.out; have hnc5 := NB123_122.out; have hcz6_0 : w4.cell? ⟨gb122, 0, none⟩ = some (.int .i64 a0_0) := (blk_cell BK122.out 0).trans rfl; have hcz6_1 : w4.cell? ⟨gb122, 1, none⟩ = some (.slice A0_1 l0_1.length c0_1) := (blk_cell BK122.out 1).trans rfl; have hfz6_0 := blk_frozen BK122.out 0; have hfz6_1 := blk_frozen BK122.out 1) | ((with_reducible refine gate_callee (f := 87) rfl ?_); refine goesL_ (some 6) rfl rfl Try.func87 (by kernel_rfl) rfl #[.agg #[.int .i64 a0_0, .slice A0_1 l0_1.length c0_1]] rfl lm4_ ?_; (with_reducible refine (spec_biOwn.calls a0_0 _ _ l0_1 t124 t125 _ ?side1 ?side2 A2.out).mono ?_); (case side1 => exact lc4_ (Kd.C_below HR0_1.out HB.out)); (case side2 => exact HC0_1.out); rintro e w7 ⟨v126, rfl, ho0, hb⟩; refine ⟨_, rfl, ?_⟩; have n0_ := am4_ (Kd.R_lower ho0 (below_size (lw4_ HB))); have n1_ := am4_ (blk_below (g := gb122) (o := .cells #[.int .i64 a0_0, .slice A0_1 l0_1.length c0_1] 29 (0, 0)) (lb4_ BK122) hb); have n2_ := am4_ (blk_below (g := gb123) (o := .cells #[.int .i64 0, .slice none 0 0, .slice none 0 0, .slice none 0 0] 31 (0, 0)) (lb4_ BK123) hb); have n3_ := am4_ (below_step (lw4_ HB) hb); clear BK122; clear BK123; clear HB; have HO127 := n0_; have BK122 := n1_; have BK123 := n2_; have HB := n3_; clear n0_ n1_ n2_ n3_; (try clear hb); (try clear hb2); (try clear hk); (try clear hi); (try clear ho0); obtain ⟨Ao8, co8, eo8⟩ := Kd.R_slice HO127.out; subst eo8) | ((with_reducible refine gate_dst (N := 3) rfl ?_); refine box_event ?hg (N := 3) ?hd (cs := #[.int .i64 0, .slice none 0 0, .slice none 0 0, .slice none 0 0]) (t := 31) ?hr ?_; (case hd => rfl); (case hg => rfl); (case hr => first | (go_simp; done) | (go_simp; rfl)); intro gb128 hg w9 hbox hb; have n0_ := am4_ (Kd.R_below (lf4_ HO127) hb); have n1_ := am4_ (blk_below (g := gb122) (o := .cells #[.int .i64 a0_0, .slice A0_1 l0_1.length c0_1] 29 (0, 0)) (lb4_ BK122) hb); have n2_ := am4_ (blk_below (g := gb123) (o := .cells #[.int .i64 0, .slice none 0 0, .slice none 0 0, .slice none 0 0] 31 (0, 0)) (lb4_ BK123) hb); have n3_ := am4_ (below_step (lw4_ HB) hb); have n4_ := am4_ (hbox); have n5_ := am4_ ((by rw [hg]; exact (below_size (lw4_ HB)) : w.heap.size ≤ gb128)); have n6_ := am4_ ((by rw [hg]; exact (below_size (lw4_ HB)) : w.heap.size ≤ gb128)); have n7_ := am4_ ((by rw [hg]; exact Nat.ne_of_lt (blk_lt (g := gb122) (lb4_ BK122)) : gb122 ≠ gb128)); have n8_ := am4_ ((by rw [hg]; exact Nat.ne_of_gt (blk_lt (g := gb122) (lb4_ BK122)) : gb128 ≠ gb122)); have n9_ := am4_ ((by rw [hg]; exact Nat.ne_of_lt (blk_lt (g := gb123) (lb4_ BK123)) : gb123 ≠ gb128)); have n10_ := am4_ ((by rw [hg]; exact Nat.ne_of_gt (blk_lt (g := gb123) (lb4_ BK123)) : gb128 ≠ gb123)); clear HO127; clear BK122; clear BK123; clear HB; have HO127 := n0_; have BK122 := n1_; have BK123 := n2_; have HB := n3_; have BK128 := n4_; have GW128 := n5_; have GE128 := n6_; have NB122_128 := n7_; have NB128_122 := n8_; have NB123_128 := n9_; have NB128_123 := n10_; clear n0_ n1_ n2_ n3_ n4_ n5_ n6_ n7_ n8_ n9_ n10_; clear hb hbox hg; have hnb10 := NB128_122.out; have hnc10 := NB122_128.out; have hnb11 := NB128_123.out; have hnc11 := NB123_128.out; have hcz12_0 : w9.cell? ⟨gb128, 0, none⟩ = some (.int .i64 0) := (blk_cell BK128.out 0).trans rfl; have hcz12_1 : w9.cell? ⟨gb128, 1, none⟩ = some (.slice none 0 0) := (blk_cell BK128.out 1).trans rfl; have hcz12_2 : w9.cell? ⟨gb128, 2, none⟩ = some (.slice none 0 0) := (blk_cell BK128.out 2).trans rfl; have hcz12_3 : w9.cell? ⟨gb128, 3, none⟩ = some (.slice none 0 0) := (blk_cell BK128.out 3).trans rfl; have hfz12_0 := blk_frozen BK128.out 0; have hfz12_1 := blk_frozen BK128.out 1; have hfz12_2 := blk_frozen BK128.out 2; have hfz12_3 := blk_frozen BK128.out 3))
 go_loopg [4] k (fun kq v4 w' => ∃ (x4_1 : Int) (x129002_1 : List Int) (x129003_1 : List Int) (u129002 : Value) (u129003 : Value), v4 = .int .i64 x4_1 ∧ Aside0 (spec_raOf.l0 kq x4_1 a0_0 l0_1 t124 t125 x129002_1 x129003_1 = some (r1, r2, r3, r4)) ∧ Aside0 (kq ≤ k) ∧ Aside0 (Kd.R (Kd.int .i64) 3 w' w.heap.size (fun k_ => some k_ ≠ (u129002 : Value).ownBlock ∧ some k_ ≠ (u129003 : Value).ownBlock) (.slice Ao8 t125.length co8) t125) ∧ Aside0 (Kd.R (Kd.int .i64) 3 w' w.heap.size (fun k_ => some k_ ≠ ((.slice Ao8 t125.length co8) : Value).ownBlock ∧ some k_ ≠ (u129003 : Value).ownBlock) u129002 x129002_1) ∧ Aside0 (Kd.R (Kd.int .i64) 3 w' w.heap.size (fun k_ => some k_ ≠ ((.slice Ao8 t125.length co8) : Value).ownBlock ∧ some k_ ≠ (u129002 : Value).ownBlock) u129003 x129003_1) ∧ Aside0 (w'.heap[gb122]? = some (.cells #[.int .i64 a0_0, (.slice A0_1 l0_1.length c0_1)] 29 (0, 0))) ∧ Aside0 (w'.heap[gb123]? = some (.cells #[.int .i64 0, (.slice none 0 0), (.slice none 0 0), (.slice none 0 0)] 31 (0, 0))) ∧ Aside0 (w'.heap[gb128]? = some (.cells #[.int .i64 t124, (.slice Ao8 t125.length co8), u129002, u129003] 31 (0, 0))) ∧ Aside0 (Below w.heap.size w w'))
 case atStart => exact ⟨(0), (([] : List Int)), (([] : List Int)), (.slice none 0 0), (.slice none 0 0), (by first | rfl | (simp; done) | (simp [*]; done)), H', ⟨Nat.le_refl _⟩, ⟨by (with_reducible repeat (first | apply Kd.R_alloc | apply Kd.R_drewN | apply Kd.R_drew)); exact Kd.R_mono (Kd.R_far (p := ⟨gb128, 3, none⟩) (Kd.R_far (p := ⟨gb128, 2, none⟩) (Kd.R_far (p := ⟨gb128, 1, none⟩) (Kd.R_far (p := ⟨gb128, 0, none⟩) (Kd.R_types HO127.out BK128.out (by decide)) (fun _ hk => hk.2) (.int .i64 t124)) (fun _ hk => hk.2) (.slice Ao8 t125.length co8)) (fun _ hk => hk.2) (.slice none 0 0)) (fun _ hk => hk.2) (.slice none 0 0)) (fun _ hk => ⟨(by simp [Value.ownBlock]), (by simp [Value.ownBlock])⟩)⟩, ⟨by first | exact Kd.R_nil _ _ _ _ _ | exact Kd.N_nil _ _ _ _ _ | exact Kd.V_nil _ _ _ _ _ | exact Kd.Q_nil _ _ _ _ _ | exact Kd.S_nil _ _ _ _ _⟩, ⟨by first | exact Kd.R_nil _ _ _ _ _ | exact Kd.N_nil _ _ _ _ _ | exact Kd.V_nil _ _ _ _ _ | exact Kd.Q_nil _ _ _ _ _ | exact Kd.S_nil _ _ _ _ _⟩, ⟨by (with_reducible repeat (first | refine blk_drewN ?_ _ | refine blk_drew ?_ | refine blk_alloc ?_ _)); refine blk_far ?_ NB122_128.out _; (with_reducible repeat (first | refine blk_drewN ?_ _ | refine blk_drew ?_ | refine blk_alloc ?_ _)); refine blk_far ?_ NB122_128.out _; (with_reducible repeat (first | refine blk_drewN ?_ _ | refine blk_drew ?_ | refine blk_alloc ?_ _)); refine blk_far ?_ NB122_128.out _; (with_reducible repeat (first | refine blk_drewN ?_ _ | refine blk_drew ?_ | refine blk_alloc ?_ _)); refine blk_far ?_ NB122_128.out _; (with_reducible repeat (first | refine blk_drewN ?_ _ | refine blk_drew ?_ | refine blk_alloc ?_ _)); exact BK122.out⟩, ⟨by (with_reducible repeat (first | refine blk_drewN ?_ _ | refine blk_drew ?_ | refine blk_alloc ?_ _)); refine blk_far ?_ NB123_128.out _; (with_reducible repeat (first | refine blk_drewN ?_ _ | refine blk_drew ?_ | refine blk_alloc ?_ _)); refine blk_far ?_ NB123_128.out _; (with_reducible repeat (first | refine blk_drewN ?_ _ | refine blk_drew ?_ | refine blk_alloc ?_ _)); refine blk_far ?_ NB123_128.out _; (with_reducible repeat (first | refine blk_drewN ?_ _ | refine blk_drew ?_ | refine blk_alloc ?_ _)); refine blk_far ?_ NB123_128.out _; (with_reducible repeat (first | refine blk_drewN ?_ _ | refine blk_drew ?_ | refine blk_alloc ?_ _)); exact BK123.out⟩, ⟨by (with_reducible repeat (first | refine blk_drewN ?_ _ | refine blk_drew ?_ | refine blk_alloc ?_ _)); refine blk_put (cs := #[.int .i64 t124, .slice Ao8 t125.length co8, .slice none 0 0, .slice none 0 0]) ?_ 3 _ rfl; (with_reducible repeat (first | refine blk_drewN ?_ _ | refine blk_drew ?_ | refine blk_alloc ?_ _)); refine blk_put (cs := #[.int .i64 t124, .slice Ao8 t125.length co8, .slice none 0 0, .slice none 0 0]) ?_ 2 _ rfl; (with_reducible repeat (first | refine blk_drewN ?_ _ | refine blk_drew ?_ | refine blk_alloc ?_ _)); refine blk_put (cs := #[.int .i64 t124, .slice none 0 0, .slice none 0 0, .slice none 0 0]) ?_ 1 _ rfl; (with_reducible repeat (first | refine blk_drewN ?_ _ | refine blk_drew ?_ | refine blk_alloc ?_ _)); refine blk_put (cs := #[.int .i64 0, .slice none 0 0, .slice none 0 0, .slice none 0 0]) ?_ 0 _ rfl; (with_reducible repeat (first | refine blk_drewN ?_ _ | refine blk_drew ?_ | refine blk_alloc ?_ _)); exact BK128.out⟩, ⟨lw4_ HB⟩⟩
 case round =>
  clear H'
  try clear c1
  try clear p2
  try clear c5
  try clear c6
  try clear c8
  try clear c10
  try clear c11
  try clear hcz12_0
  try clear hcz12_1
  try clear hcz12_2
  try clear hcz12_3
  try clear hcz6_0
  try clear hcz6_1
  try clear hfz12_0
  try clear hfz12_1
  try clear hfz12_2
  try clear hfz12_3
  try clear hfz6_0
  try clear hfz6_1
  obtain ⟨x4_1, x129002_1, x129003_1, u129002, u129003, rfl, HA, HK1, HO_129001, HO_129002, HO_129003, BK122, BK123, BK128, HB⟩ := hrel
  cases gk with
  | zero => exact absurd HA.out (by simp [spec_raOf.l0])
  | succ k1 =>
   have H := HA.out
   clear HA
   simp only [spec_raOf.l0] at H
   by_cases c13 : x4_1 < a0_0
   ·rw [if_pos c13] at H
    have c13b0 : decide (x4_1 < a0_0) = true := decide_eq_true c13
    clear c13
    by_cases c14 : (Int.tmod x4_1 64) = 0
    ·rw [if_pos c14] at H
     have c14b0 : ((Int.tmod x4_1 64) == 0) = true := beq_iff_eq.mpr c14
     have c14b1 : ((Int.tmod x4_1 64) != 0) = false := bne_eq_false_iff_eq.mpr c14
     clear c14
     replace H := Option.bind_eq_some_iff.mp H
     obtain ⟨t129, A150, H⟩ := H
     replace H : (if x129002_1.length < 17592186044416 then ((spec_biCount.f k1 a0_0 l0_1 (wrap64 ((wrap64 (Int.tdiv x4_1 64)) * 64)) x4_1).bind fun t133 => (if x129003_1.length < 17592186044416 then (spec_raOf.l0 k1 (wrap64 (x4_1 + 16)) a0_0 l0_1 t124 t125 (x129002_1 ++ [t129]) (x129003_1 ++ [t133])) else (none))) else (none)) = some (r1, r2, r3, r4) := H
     have A15 := am4_ A150
     clear A150
     by_cases c16 : x129002_1.length < 17592186044416
     ·rw [if_pos c16] at H
      have LMc16 := am4_ c16
      clear c16
      obtain ⟨y130, hy130⟩ : ∃ y_ : List Int, y_ = (x129002_1 ++ [t129]) := ⟨_, rfl⟩
      replace H : ((spec_biCount.f k1 a0_0 l0_1 (wrap64 ((wrap64 (Int.tdiv x4_1 64)) * 64)) x4_1).bind fun t133 => (if x129003_1.length < 17592186044416 then (spec_raOf.l0 k1 (wrap64 (x4_1 + 16)) a0_0 l0_1 t124 t125 y130 (x129003_1 ++ [t133])) else (none))) = some (r1, r2, r3, r4) := by first | (rw [hy130]; with_reducible exact H) | (have H2_ := (Option.bind_some _ _).symm.trans H; rw [hy130]; with_reducible exact H2_) | (have H2_ := (Option.bind_some _ _).symm.trans H; with_reducible exact H2_) | with_reducible exact H | (rw [hy130]; exact H) | exact H
      have Ny130 := am4_ hy130
      clear hy130
      replace H := Option.bind_eq_some_iff.mp H
      obtain ⟨t133, A170, H⟩ := H
      replace H : (if x129003_1.length < 17592186044416 then (spec_raOf.l0 k1 (wrap64 (x4_1 + 16)) a0_0 l0_1 t124 t125 y130 (x129003_1 ++ [t133])) else (none)) = some (r1, r2, r3, r4) := H
      have A17 := am4_ A170
      clear A170
      by_cases c18 : x129003_1.length < 17592186044416
      ·rw [if_pos c18] at H
       have LMc18 := am4_ c18
       clear c18
       obtain ⟨y134, hy134⟩ : ∃ y_ : List Int, y_ = (x129003_1 ++ [t133]) := ⟨_, rfl⟩
       replace H : (spec_raOf.l0 k1 (wrap64 (x4_1 + 16)) a0_0 l0_1 t124 t125 y130 y134) = some (r1, r2, r3, r4) := by first | (rw [hy134]; with_reducible exact H) | (have H2_ := (Option.bind_some _ _).symm.trans H; rw [hy134]; with_reducible exact H2_) | (have H2_ := (Option.bind_some _ _).symm.trans H; with_reducible exact H2_) | with_reducible exact H | (rw [hy134]; exact H) | exact H
       have Ny134 := am4_ hy134
       clear hy134
       have H' := am4_ H
       clear H
       have hnb19 := NB122_123.out
       have hnc19 := NB123_122.out
       have hnb20 := NB122_128.out
       have hnc20 := NB128_122.out
       have hcz21_0 : wr.cell? ⟨gb122, 0, none⟩ = some (.int .i64 a0_0) := (blk_cell BK122.out 0).trans rfl
       have hcz21_1 : wr.cell? ⟨gb122, 1, none⟩ = some (.slice A0_1 l0_1.length c0_1) := (blk_cell BK122.out 1).trans rfl
       have hfz21_0 := blk_frozen BK122.out 0
       have hfz21_1 := blk_frozen BK122.out 1
       try go_wp2
       have n0_ := am4_ (Kd.R_drew HO_129001.out)
       have n1_ := am4_ (Kd.R_drew HO_129002.out)
       have n2_ := am4_ (Kd.R_drew HO_129003.out)
       have n3_ := am4_ (blk_drew BK122.out)
       have n4_ := am4_ (blk_drew BK123.out)
       have n5_ := am4_ (blk_drew BK128.out)
       have n6_ := am4_ (below_drew1 HB.out)
       clear HO_129001
       clear HO_129002
       clear HO_129003
       clear BK122
       clear BK123
       clear BK128
       clear HB
       have HO_129001 := n0_
       have HO_129002 := n1_
       have HO_129003 := n2_
       have BK122 := n3_
       have BK123 := n4_
       have BK128 := n5_
       have HB := n6_
       clear n0_ n1_ n2_ n3_ n4_ n5_ n6_
       refine start_ (n := 9) (S := fun w' => w'.cell? ⟨gb128, 0, none⟩ = some (.int .i64 t124) ∧ w'.cell? ⟨gb128, 1, none⟩ = some (.slice Ao8 t125.length co8) ∧ w'.cell? ⟨gb128, 2, none⟩ = some (u129002) ∧ w'.cell? ⟨gb128, 3, none⟩ = some (u129003) ∧ w'.cell? ⟨gb122, 0, none⟩ = some (.int .i64 a0_0) ∧ w'.cell? ⟨gb122, 1, none⟩ = some (.slice A0_1 l0_1.length c0_1)) (ds := [8]) #[false, false, false, false, false, false, false, false, false] (by kernel_rfl) rfl rfl ⟨(blk_cell BK128.out 0).trans rfl, (blk_cell BK128.out 1).trans rfl, (blk_cell BK128.out 2).trans rfl, (blk_cell BK128.out 3).trans rfl, (blk_cell BK122.out 0).trans rfl, (blk_cell BK122.out 1).trans rfl⟩ (fun hHeld => ?_); refine with_tabW spec_raOf.tab6 spec_raOf.bits6 (fun HT_ HW_ => ?_)
       generalize wr.drew = w22 at HO_129001 HO_129002 HO_129003 BK122 BK123 BK128 HB hHeld ⊢
       refine pure_ (i := 0) (N := some 17) (v := ?_) (a' := ?_) #[true, false, false, false, false, false, false, false, false] rfl rfl (any_of HT_.out (by kernel_rfl)) (fun _ _ _ h => h) (Or.inl ⟨by rfl, ?_⟩) ?_ ?_
       rotate_left
       ·intro w'
        go_simp
        with_reducible rfl
       rotate_left
       ·simp only [Act.put, List.setIfInBounds_toArray, List.set_cons_zero, List.set_cons_succ, i64_w, i32_w]
        rfl
       refine pure_ (i := 3) (N := some 20) (v := ?_) (a' := ?_) #[true, false, false, true, false, false, false, false, false] rfl rfl (any_of HT_.out (by kernel_rfl)) (fun _ _ _ h => h) (Or.inl ⟨by rfl, ?_⟩) ?_ ?_
       rotate_left
       ·intro w'
        go_simp
        with_reducible rfl
       rotate_left
       ·simp only [Act.put, List.setIfInBounds_toArray, List.set_cons_zero, List.set_cons_succ, i64_w, i32_w]
        rfl
       refine take_ (i := 1) (N := some 18) (v := ?_) (a' := ?_) #[true, true, false, true, false, false, false, false, false] rfl rfl (take_ofW HT_.out HW_.out (by kernel_rfl)) (fun _ _ _ h => h) (Or.inl ⟨by rfl, ?_⟩) hHeld ?_ ?_
       rotate_left
       ·rintro w' ⟨s0, s1, s2, s3, s4, s5⟩
        go_simp
        with_reducible rfl
       rotate_left
       ·simp only [Act.put, List.setIfInBounds_toArray, List.set_cons_zero, List.set_cons_succ, i64_w, i32_w]
        rfl
       refine take_ (i := 2) (N := some 19) (v := ?_) (a' := ?_) #[true, true, true, true, false, false, false, false, false] rfl rfl (take_ofW HT_.out HW_.out (by kernel_rfl)) (fun _ _ _ h => h) (Or.inl ⟨by rfl, ?_⟩) hHeld ?_ ?_
       rotate_left
       ·rintro w' ⟨s0, s1, s2, s3, s4, s5⟩
        go_simp
        with_reducible rfl
       rotate_left
       ·simp only [Act.put, List.setIfInBounds_toArray, List.set_cons_zero, List.set_cons_succ, i64_w, i32_w]
        rfl
       refine one_ (i := 4) (N := some 21) #[true, true, true, true, true, false, false, false, false] rfl rfl (one_of HT_.out (by kernel_rfl)) (by decide) (fun K hK => ?_)
       refine goes_ Try.func62 (by kernel_rfl) rfl #[.agg #[.int .i64 a0_0, .slice A0_1 l0_1.length c0_1], .int .i64 0, .int .i64 x4_1] (by rfl) rfl rfl lm4_ ?_
       with_reducible refine (spec_biCount.calls k1 a0_0 _ _ l0_1 0 x4_1 t129 _ ?side1 ?side2 A15.out).mono ?_
       (case side1 => exact lc4_ (Kd.C_below HR0_1.out HB.out))
       (case side2 => exact HC0_1.out)
       rintro e w23 ⟨rfl, hb⟩
       refine ⟨_, rfl, ?_⟩
       have n0_ := am4_ (Kd.R_below (lf4_ HO_129001) hb)
       have n1_ := am4_ (Kd.R_below (lf4_ HO_129002) hb)
       have n2_ := am4_ (Kd.R_below (lf4_ HO_129003) hb)
       have n3_ := am4_ (blk_below (g := gb122) (o := .cells #[.int .i64 a0_0, .slice A0_1 l0_1.length c0_1] 29 (0, 0)) (lb4_ BK122) hb)
       have n4_ := am4_ (blk_below (g := gb123) (o := .cells #[.int .i64 0, .slice none 0 0, .slice none 0 0, .slice none 0 0] 31 (0, 0)) (lb4_ BK123) hb)
       have n5_ := am4_ (blk_below (g := gb128) (o := .cells #[.int .i64 t124, .slice Ao8 t125.length co8, u129002, u129003] 31 (0, 0)) (lb4_ BK128) hb)
       have n6_ := am4_ (below_step (lw4_ HB) hb)
       clear HO_129001
       clear HO_129002
       clear HO_129003
       clear BK122
       clear BK123
       clear BK128
       clear HB
       have HO_129001 := n0_
       have HO_129002 := n1_
       have HO_129003 := n2_
       have BK122 := n3_
       have BK123 := n4_
       have BK128 := n5_
       have HB := n6_
       clear n0_ n1_ n2_ n3_ n4_ n5_ n6_
       (try clear hb)
       (try clear hb2)
       (try clear hk)
       (try clear hi)
       refine hK.out _ _ ⟨(blk_cell BK128.out 0).trans rfl, (blk_cell BK128.out 1).trans rfl, (blk_cell BK128.out 2).trans rfl, (blk_cell BK128.out 3).trans rfl, (blk_cell BK122.out 0).trans rfl, (blk_cell BK122.out 1).trans rfl⟩ (fun hHeld => ?_)
       clear hK K
       refine norm_ (a' := ?_) ?_ ?_
       rotate_left
       ·show Act.put _ (some 21) _ = _
        simp only [Act.put, List.setIfInBounds_toArray, List.set_cons_zero, List.set_cons_succ, i64_w, i32_w]
        rfl
       refine one_ (i := 5) (N := some 22) #[true, true, true, true, true, true, false, false, false] rfl rfl (one_of HT_.out (by kernel_rfl)) (by decide) (fun K hK => ?_)
       refine value_ (w1 := ?_) (v := ?_) (by rfl) rfl ?_ ?_
       rotate_left 2
       ·go_simp
        constructor
        ·rfl
        ·rfl
       refine hK.out _ _ ⟨(blk_cell (blk_alloc BK128.out _) 0).trans rfl, (blk_cell (blk_alloc BK128.out _) 1).trans rfl, (blk_cell (blk_alloc BK128.out _) 2).trans rfl, (blk_cell (blk_alloc BK128.out _) 3).trans rfl, (blk_cell (blk_alloc BK122.out _) 0).trans rfl, (blk_cell (blk_alloc BK122.out _) 1).trans rfl⟩ (fun hHeld => ?_)
       clear hK K
       refine norm_ (a' := ?_) ?_ ?_
       rotate_left
       ·show Act.put _ (some 22) _ = _
        simp only [Act.put, List.setIfInBounds_toArray, List.set_cons_zero, List.set_cons_succ, i64_w, i32_w]
        rfl
       refine one_ (i := 6) (N := some 23) #[true, true, true, true, true, true, true, false, false] rfl rfl (one_of HT_.out (by kernel_rfl)) (by decide) (fun K hK => ?_)
       refine Kd.R_append_step (Kd.int .i64) (w0 := w) w.heap.size (by rfl) (.tmp 18) (.tmp 22) 22 3 (.int .i64 0) 8 rfl Try.underlying22 info3 rfl (by decide) (by omega) u129002 x129002_1 t129 [.int .i64 t129] (fun k_ => some k_ ≠ (.slice Ao8 t125.length co8 : Value).ownBlock ∧ some k_ ≠ (u129003 : Value).ownBlock) (fun _ => False) rfl rfl ?aP (fun _ hk => hk.elim) ?aF ?aO ?aB ?aS ?aL ?_
       (case aP => exact rfl)
       (case aB => exact (lw4_ HB))
       (case aF => exact (fun k_ hk => ⟨Kd.fresh' (Kd.R_lt (lf4_ HO_129001)) k_ hk, Kd.fresh' (Kd.R_lt (lf4_ HO_129003)) k_ hk⟩))
       (case aO => exact (lf4_ HO_129002))
       (case aS => exact (below_size (lw4_ HB)))
       (case aL => have := LMc16.out; omega)
       intro v131 w24 ho hb hg hat
       rw [← Ny130.out] at ho
       have n0_ := am4_ (Kd.R_after (ok := (fun k_ => some k_ ≠ (u129003 : Value).ownBlock)) (by (with_reducible repeat (first | apply Kd.R_alloc | apply Kd.R_drewN | apply Kd.R_drew)); exact Kd.R_mono HO_129001.out (fun _ hk => ⟨hk.2, hk.1⟩)) hg hat)
       have n1_ := am4_ (Kd.R_after (ok := (fun k_ => some k_ ≠ (.slice Ao8 t125.length co8 : Value).ownBlock)) (lf4_ HO_129003) hg hat)
       have n2_ := am4_ (blk_grown (g := gb122) (o := .cells #[.int .i64 a0_0, .slice A0_1 l0_1.length c0_1] 29 (0, 0)) (lb4_ BK122) hg (Kd.R_ne HO_129002.out BK122.out (by decide)))
       have n3_ := am4_ (blk_grown (g := gb123) (o := .cells #[.int .i64 0, .slice none 0 0, .slice none 0 0, .slice none 0 0] 31 (0, 0)) (lb4_ BK123) hg (Kd.R_ne HO_129002.out BK123.out (by decide)))
       have n4_ := am4_ (blk_grown (g := gb128) (o := .cells #[.int .i64 t124, .slice Ao8 t125.length co8, u129002, u129003] 31 (0, 0)) (lb4_ BK128) hg (Kd.R_ne HO_129002.out BK128.out (by decide)))
       have n5_ := am4_ (hb)
       have n6_ := am4_ (ho)
       clear HO_129001
       clear HO_129003
       clear BK122
       clear BK123
       clear BK128
       clear HB
       clear HO_129002
       have HO_129001 := n0_
       have HO_129003 := n1_
       have BK122 := n2_
       have BK123 := n3_
       have BK128 := n4_
       have HB := n5_
       have HO132 := n6_
       clear n0_ n1_ n2_ n3_ n4_ n5_ n6_
       clear ho hb hg hat
       obtain ⟨Ao25, co25, eo25⟩ := Kd.R_slice HO132.out
       (first | subst eo25 | (injection eo25 with f1_ f2_ f3_; have f4_ := f1_.symm; have f5_ := f3_.symm; clear f1_ f2_ f3_; subst f4_; subst f5_))
       refine hK.out _ _ ⟨(blk_cell BK128.out 0).trans rfl, (blk_cell BK128.out 1).trans rfl, (blk_cell BK128.out 2).trans rfl, (blk_cell BK128.out 3).trans rfl, (blk_cell BK122.out 0).trans rfl, (blk_cell BK122.out 1).trans rfl⟩ (fun hHeld => ?_)
       clear hK K
       refine norm_ (a' := ?_) ?_ ?_
       rotate_left
       ·show Act.put _ (some 23) _ = _
        simp only [Act.put, List.setIfInBounds_toArray, List.set_cons_zero, List.set_cons_succ, i64_w, i32_w]
        rfl
       refine pure_ (i := 7) (N := some 24) (v := ?_) (a' := ?_) #[true, true, true, true, true, true, true, true, false] rfl rfl (any_of HT_.out (by kernel_rfl)) (fun _ _ _ h => h) (Or.inl ⟨by rfl, ?_⟩) ?_ ?_
       rotate_left
       ·intro w'
        go_simp
        with_reducible rfl
       rotate_left
       ·simp only [Act.put, List.setIfInBounds_toArray, List.set_cons_zero, List.set_cons_succ, i64_w, i32_w]
        rfl
       refine last_ (i := 8) (N := none) #[true, true, true, true, true, true, true, true, true] rfl rfl (one_of HT_.out (by kernel_rfl)) (by decide) (fun K hK => ?_)
       have hs26 : w24.cell? ⟨gb128, 2, none⟩ = some (u129002) := (blk_cell BK128.out 2).trans rfl
       have hfs26 := blk_frozen BK128.out 2
       have hns26_0 := NB122_128.out
       have hns26_1 := NB123_128.out
       have hms26_0 := NB128_122.out
       have hms26_1 := NB128_123.out
       refine skip_ (w1 := ?_) (by rfl) rfl ?_ ?_
       rotate_left
       ·go_simp
        rfl
       refine hK.out _ _ ?_
       clear hK K
       refine done_ (done_of HT_.out (by kernel_rfl)) ?_
       try go_wp2
       have n0_ : Aside0 (Kd.R (Kd.int .i64) 3 (w24.setCell ⟨gb128, 2, none⟩ (.slice Ao25 y130.length co25)) w.heap.size (fun k_ => some k_ ≠ (u129003 : Value).ownBlock ∧ some k_ ≠ (.slice Ao25 y130.length co25 : Value).ownBlock) (.slice Ao8 t125.length co8) t125) := ⟨by (with_reducible repeat (first | apply Kd.R_alloc | apply Kd.R_drewN | apply Kd.R_drew)); exact Kd.R_mono (Kd.R_far (p := ⟨gb128, 2, none⟩) (Kd.R_types HO_129001.out BK128.out (by decide)) (fun _ hk => hk.2) (.slice Ao25 y130.length co25)) (fun _ hk => ⟨hk.1.1, hk.1.2⟩)⟩
       have n1_ : Aside0 (Kd.R (Kd.int .i64) 3 (w24.setCell ⟨gb128, 2, none⟩ (.slice Ao25 y130.length co25)) w.heap.size (fun k_ => some k_ ≠ (.slice Ao8 t125.length co8 : Value).ownBlock ∧ some k_ ≠ (.slice Ao25 y130.length co25 : Value).ownBlock) u129003 x129003_1) := ⟨by (with_reducible repeat (first | apply Kd.R_alloc | apply Kd.R_drewN | apply Kd.R_drew)); exact Kd.R_mono (Kd.R_far (p := ⟨gb128, 2, none⟩) (Kd.R_types HO_129003.out BK128.out (by decide)) (fun _ hk => hk.2) (.slice Ao25 y130.length co25)) (fun _ hk => ⟨hk.1.1, hk.1.2⟩)⟩
       have n2_ : Aside0 (Kd.R (Kd.int .i64) 3 (w24.setCell ⟨gb128, 2, none⟩ (.slice Ao25 y130.length co25)) w.heap.size (fun k_ => some k_ ≠ (.slice Ao8 t125.length co8 : Value).ownBlock ∧ some k_ ≠ (u129003 : Value).ownBlock) (.slice Ao25 y130.length co25) y130) := ⟨by (with_reducible repeat (first | apply Kd.R_alloc | apply Kd.R_drewN | apply Kd.R_drew)); exact Kd.R_mono (Kd.R_far (p := ⟨gb128, 2, none⟩) (Kd.R_types HO132.out BK128.out (by decide)) (fun _ hk => hk.2) (.slice Ao25 y130.length co25)) (fun _ hk => ⟨hk.1.1, hk.1.2⟩)⟩
       have n3_ : Aside0 ((w24.setCell ⟨gb128, 2, none⟩ (.slice Ao25 y130.length co25)).heap[gb122]? = some (.cells #[.int .i64 a0_0, .slice A0_1 l0_1.length c0_1] 29 (0, 0))) := ⟨by (with_reducible repeat (first | refine blk_drewN ?_ _ | refine blk_drew ?_ | refine blk_alloc ?_ _)); refine blk_far ?_ NB122_128.out _; (with_reducible repeat (first | refine blk_drewN ?_ _ | refine blk_drew ?_ | refine blk_alloc ?_ _)); exact BK122.out⟩
       have n4_ : Aside0 ((w24.setCell ⟨gb128, 2, none⟩ (.slice Ao25 y130.length co25)).heap[gb123]? = some (.cells #[.int .i64 0, .slice none 0 0, .slice none 0 0, .slice none 0 0] 31 (0, 0))) := ⟨by (with_reducible repeat (first | refine blk_drewN ?_ _ | refine blk_drew ?_ | refine blk_alloc ?_ _)); refine blk_far ?_ NB123_128.out _; (with_reducible repeat (first | refine blk_drewN ?_ _ | refine blk_drew ?_ | refine blk_alloc ?_ _)); exact BK123.out⟩
       have n5_ : Aside0 ((w24.setCell ⟨gb128, 2, none⟩ (.slice Ao25 y130.length co25)).heap[gb128]? = some (.cells #[.int .i64 t124, .slice Ao8 t125.length co8, .slice Ao25 y130.length co25, u129003] 31 (0, 0))) := ⟨by (with_reducible repeat (first | refine blk_drewN ?_ _ | refine blk_drew ?_ | refine blk_alloc ?_ _)); refine blk_put (cs := #[.int .i64 t124, .slice Ao8 t125.length co8, u129002, u129003]) ?_ 2 _ rfl; (with_reducible repeat (first | refine blk_drewN ?_ _ | refine blk_drew ?_ | refine blk_alloc ?_ _)); exact BK128.out⟩
       have n6_ : Aside0 (Below w.heap.size w (w24.setCell ⟨gb128, 2, none⟩ (.slice Ao25 y130.length co25))) := ⟨lw4_ HB⟩
       (try clear HO_129001)
       (try clear HO_129003)
       (try clear HO132)
       (try clear BK122)
       (try clear BK123)
       (try clear BK128)
       (try clear HB)
       generalize (w24.setCell ⟨gb128, 2, none⟩ (.slice Ao25 y130.length co25)) = w27 at n0_ n1_ n2_ n3_ n4_ n5_ n6_ ⊢
       have HO_129001 := n0_
       have HO_129003 := n1_
       have HO132 := n2_
       have BK122 := n3_
       have BK123 := n4_
       have BK128 := n5_
       have HB := n6_
       clear n0_ n1_ n2_ n3_ n4_ n5_ n6_
       have n0_ := am4_ (Kd.R_drew HO_129001.out)
       have n1_ := am4_ (Kd.R_drew HO_129003.out)
       have n2_ := am4_ (Kd.R_drew HO132.out)
       have n3_ := am4_ (blk_drew BK122.out)
       have n4_ := am4_ (blk_drew BK123.out)
       have n5_ := am4_ (blk_drew BK128.out)
       have n6_ := am4_ (below_drew1 HB.out)
       clear HO_129001
       clear HO_129003
       clear HO132
       clear BK122
       clear BK123
       clear BK128
       clear HB
       have HO_129001 := n0_
       have HO_129003 := n1_
       have HO132 := n2_
       have BK122 := n3_
       have BK123 := n4_
       have BK128 := n5_
       have HB := n6_
       clear n0_ n1_ n2_ n3_ n4_ n5_ n6_
       refine start_ (n := 12) (S := fun w' => w'.cell? ⟨gb128, 0, none⟩ = some (.int .i64 t124) ∧ w'.cell? ⟨gb128, 1, none⟩ = some (.slice Ao8 t125.length co8) ∧ w'.cell? ⟨gb128, 2, none⟩ = some (.slice Ao25 y130.length co25) ∧ w'.cell? ⟨gb128, 3, none⟩ = some (u129003) ∧ w'.cell? ⟨gb122, 0, none⟩ = some (.int .i64 a0_0) ∧ w'.cell? ⟨gb122, 1, none⟩ = some (.slice A0_1 l0_1.length c0_1)) (ds := [11]) #[false, false, false, false, false, false, false, false, false, false, false, false] (by kernel_rfl) rfl rfl ⟨(blk_cell BK128.out 0).trans rfl, (blk_cell BK128.out 1).trans rfl, (blk_cell BK128.out 2).trans rfl, (blk_cell BK128.out 3).trans rfl, (blk_cell BK122.out 0).trans rfl, (blk_cell BK122.out 1).trans rfl⟩ (fun hHeld => ?_); refine with_tabW spec_raOf.tab7 spec_raOf.bits7 (fun HT_ HW_ => ?_)
       generalize w27.drew = w28 at HO_129001 HO_129003 HO132 BK122 BK123 BK128 HB hHeld ⊢
       refine pure_ (i := 0) (N := some 25) (v := ?_) (a' := ?_) #[true, false, false, false, false, false, false, false, false, false, false, false] rfl rfl (any_of HT_.out (by kernel_rfl)) (fun _ _ _ h => h) (Or.inl ⟨by rfl, ?_⟩) ?_ ?_
       rotate_left
       ·intro w'
        go_simp
        with_reducible rfl
       rotate_left
       ·simp only [Act.put, List.setIfInBounds_toArray, List.set_cons_zero, List.set_cons_succ, i64_w, i32_w]
        rfl
       refine pure_ (i := 3) (N := some 28) (v := ?_) (a' := ?_) #[true, false, false, true, false, false, false, false, false, false, false, false] rfl rfl (any_of HT_.out (by kernel_rfl)) (fun _ _ _ h => h) (Or.inl ⟨by rfl, ?_⟩) ?_ ?_
       rotate_left
       ·intro w'
        go_simp
        with_reducible rfl
       rotate_left
       ·simp only [Act.put, List.setIfInBounds_toArray, List.set_cons_zero, List.set_cons_succ, i64_w, i32_w]
        rfl
       refine pure_ (i := 4) (N := some 29) (v := ?_) (a' := ?_) #[true, false, false, true, true, false, false, false, false, false, false, false] rfl rfl (any_of HT_.out (by kernel_rfl)) (fun _ _ _ h => h) (Or.inl ⟨by rfl, ?_⟩) ?_ ?_
       rotate_left
       ·intro w'
        go_simp
        with_reducible rfl
       rotate_left
       ·simp only [Act.put, List.setIfInBounds_toArray, List.set_cons_zero, List.set_cons_succ, i64_w, i32_w]
        rfl
       refine pure_ (i := 5) (N := some 30) (v := ?_) (a' := ?_) #[true, false, false, true, true, true, false, false, false, false, false, false] rfl rfl (any_of HT_.out (by kernel_rfl)) (fun _ _ _ h => h) (Or.inl ⟨by rfl, ?_⟩) ?_ ?_
       rotate_left
       ·intro w'
        go_simp
        with_reducible rfl
       rotate_left
       ·simp only [Act.put, List.setIfInBounds_toArray, List.set_cons_zero, List.set_cons_succ, i64_w, i32_w]
        rfl
       refine pure_ (i := 6) (N := some 31) (v := ?_) (a' := ?_) #[true, false, false, true, true, true, true, false, false, false, false, false] rfl rfl (any_of HT_.out (by kernel_rfl)) (fun _ _ _ h => h) (Or.inl ⟨by rfl, ?_⟩) ?_ ?_
       rotate_left
       ·intro w'
        go_simp
        with_reducible rfl
       rotate_left
       ·simp only [Act.put, List.setIfInBounds_toArray, List.set_cons_zero, List.set_cons_succ, i64_w, i32_w]
        rfl
       refine take_ (i := 1) (N := some 26) (v := ?_) (a' := ?_) #[true, true, false, true, true, true, true, false, false, false, false, false] rfl rfl (take_ofW HT_.out HW_.out (by kernel_rfl)) (fun _ _ _ h => h) (Or.inl ⟨by rfl, ?_⟩) hHeld ?_ ?_
       rotate_left
       ·rintro w' ⟨s0, s1, s2, s3, s4, s5⟩
        go_simp
        with_reducible rfl
       rotate_left
       ·simp only [Act.put, List.setIfInBounds_toArray, List.set_cons_zero, List.set_cons_succ, i64_w, i32_w]
        rfl
       refine take_ (i := 2) (N := some 27) (v := ?_) (a' := ?_) #[true, true, true, true, true, true, true, false, false, false, false, false] rfl rfl (take_ofW HT_.out HW_.out (by kernel_rfl)) (fun _ _ _ h => h) (Or.inl ⟨by rfl, ?_⟩) hHeld ?_ ?_
       rotate_left
       ·rintro w' ⟨s0, s1, s2, s3, s4, s5⟩
        go_simp
        with_reducible rfl
       rotate_left
       ·simp only [Act.put, List.setIfInBounds_toArray, List.set_cons_zero, List.set_cons_succ, i64_w, i32_w]
        rfl
       refine one_ (i := 7) (N := some 32) #[true, true, true, true, true, true, true, true, false, false, false, false] rfl rfl (one_of HT_.out (by kernel_rfl)) (by decide) (fun K hK => ?_)
       refine goes_ Try.func62 (by kernel_rfl) rfl #[.agg #[.int .i64 a0_0, .slice A0_1 l0_1.length c0_1], .int .i64 (wrap64 ((wrap64 (Int.tdiv x4_1 64)) * 64)), .int .i64 x4_1] (by rfl) rfl rfl lm4_ ?_
       with_reducible refine (spec_biCount.calls k1 a0_0 _ _ l0_1 (wrap64 ((wrap64 (Int.tdiv x4_1 64)) * 64)) x4_1 t133 _ ?side1 ?side2 A17.out).mono ?_
       (case side1 => exact lc4_ (Kd.C_below HR0_1.out HB.out))
       (case side2 => exact HC0_1.out)
       rintro e w29 ⟨rfl, hb⟩
       refine ⟨_, rfl, ?_⟩
       have n0_ := am4_ (Kd.R_below (lf4_ HO_129001) hb)
       have n1_ := am4_ (Kd.R_below (lf4_ HO_129003) hb)
       have n2_ := am4_ (Kd.R_below (lf4_ HO132) hb)
       have n3_ := am4_ (blk_below (g := gb122) (o := .cells #[.int .i64 a0_0, .slice A0_1 l0_1.length c0_1] 29 (0, 0)) (lb4_ BK122) hb)
       have n4_ := am4_ (blk_below (g := gb123) (o := .cells #[.int .i64 0, .slice none 0 0, .slice none 0 0, .slice none 0 0] 31 (0, 0)) (lb4_ BK123) hb)
       have n5_ := am4_ (blk_below (g := gb128) (o := .cells #[.int .i64 t124, .slice Ao8 t125.length co8, .slice Ao25 y130.length co25, u129003] 31 (0, 0)) (lb4_ BK128) hb)
       have n6_ := am4_ (below_step (lw4_ HB) hb)
       clear HO_129001
       clear HO_129003
       clear HO132
       clear BK122
       clear BK123
       clear BK128
       clear HB
       have HO_129001 := n0_
       have HO_129003 := n1_
       have HO132 := n2_
       have BK122 := n3_
       have BK123 := n4_
       have BK128 := n5_
       have HB := n6_
       clear n0_ n1_ n2_ n3_ n4_ n5_ n6_
       (try clear hb)
       (try clear hb2)
       (try clear hk)
       (try clear hi)
       refine hK.out _ _ ⟨(blk_cell BK128.out 0).trans rfl, (blk_cell BK128.out 1).trans rfl, (blk_cell BK128.out 2).trans rfl, (blk_cell BK128.out 3).trans rfl, (blk_cell BK122.out 0).trans rfl, (blk_cell BK122.out 1).trans rfl⟩ (fun hHeld => ?_)
       clear hK K
       refine norm_ (a' := ?_) ?_ ?_
       rotate_left
       ·show Act.put _ (some 32) _ = _
        simp only [Act.put, List.setIfInBounds_toArray, List.set_cons_zero, List.set_cons_succ, i64_w, i32_w]
        rfl
       refine one_ (i := 8) (N := some 33) #[true, true, true, true, true, true, true, true, true, false, false, false] rfl rfl (one_of HT_.out (by kernel_rfl)) (by decide) (fun K hK => ?_)
       refine value_ (w1 := ?_) (v := ?_) (by rfl) rfl ?_ ?_
       rotate_left 2
       ·go_simp
        constructor
        ·rfl
        ·rfl
       refine hK.out _ _ ⟨(blk_cell (blk_alloc BK128.out _) 0).trans rfl, (blk_cell (blk_alloc BK128.out _) 1).trans rfl, (blk_cell (blk_alloc BK128.out _) 2).trans rfl, (blk_cell (blk_alloc BK128.out _) 3).trans rfl, (blk_cell (blk_alloc BK122.out _) 0).trans rfl, (blk_cell (blk_alloc BK122.out _) 1).trans rfl⟩ (fun hHeld => ?_)
       clear hK K
       refine norm_ (a' := ?_) ?_ ?_
       rotate_left
       ·show Act.put _ (some 33) _ = _
        simp only [Act.put, List.setIfInBounds_toArray, List.set_cons_zero, List.set_cons_succ, i64_w, i32_w]
        rfl
       refine one_ (i := 9) (N := some 34) #[true, true, true, true, true, true, true, true, true, true, false, false] rfl rfl (one_of HT_.out (by kernel_rfl)) (by decide) (fun K hK => ?_)
       refine Kd.R_append_step (Kd.int .i64) (w0 := w) w.heap.size (by rfl) (.tmp 26) (.tmp 33) 22 3 (.int .i64 0) 8 rfl Try.underlying22 info3 rfl (by decide) (by omega) u129003 x129003_1 t133 [.int .i64 t133] (fun k_ => some k_ ≠ (.slice Ao8 t125.length co8 : Value).ownBlock ∧ some k_ ≠ (.slice Ao25 y130.length co25 : Value).ownBlock) (fun _ => False) rfl rfl ?aP (fun _ hk => hk.elim) ?aF ?aO ?aB ?aS ?aL ?_
       (case aP => exact rfl)
       (case aB => exact (lw4_ HB))
       (case aF => exact (fun k_ hk => ⟨Kd.fresh' (Kd.R_lt (lf4_ HO_129001)) k_ hk, Kd.fresh' (Kd.R_lt (lf4_ HO132)) k_ hk⟩))
       (case aO => exact (lf4_ HO_129003))
       (case aS => exact (below_size (lw4_ HB)))
       (case aL => have := LMc18.out; omega)
       intro v135 w30 ho hb hg hat
       rw [← Ny134.out] at ho
       have n0_ := am4_ (Kd.R_after (ok := (fun k_ => some k_ ≠ (.slice Ao25 y130.length co25 : Value).ownBlock)) (by (with_reducible repeat (first | apply Kd.R_alloc | apply Kd.R_drewN | apply Kd.R_drew)); exact Kd.R_mono HO_129001.out (fun _ hk => ⟨hk.2, hk.1⟩)) hg hat)
       have n1_ := am4_ (blk_grown (g := gb122) (o := .cells #[.int .i64 a0_0, .slice A0_1 l0_1.length c0_1] 29 (0, 0)) (lb4_ BK122) hg (Kd.R_ne HO_129003.out BK122.out (by decide)))
       have n2_ := am4_ (blk_grown (g := gb123) (o := .cells #[.int .i64 0, .slice none 0 0, .slice none 0 0, .slice none 0 0] 31 (0, 0)) (lb4_ BK123) hg (Kd.R_ne HO_129003.out BK123.out (by decide)))
       have n3_ := am4_ (blk_grown (g := gb128) (o := .cells #[.int .i64 t124, .slice Ao8 t125.length co8, .slice Ao25 y130.length co25, u129003] 31 (0, 0)) (lb4_ BK128) hg (Kd.R_ne HO_129003.out BK128.out (by decide)))
       have n4_ := am4_ (Kd.R_after (ok := (fun k_ => some k_ ≠ (.slice Ao8 t125.length co8 : Value).ownBlock)) (lf4_ HO132) hg hat)
       have n5_ := am4_ (hb)
       have n6_ := am4_ (ho)
       clear HO_129001
       clear BK122
       clear BK123
       clear BK128
       clear HO132
       clear HB
       clear HO_129003
       have HO_129001 := n0_
       have BK122 := n1_
       have BK123 := n2_
       have BK128 := n3_
       have HO132 := n4_
       have HB := n5_
       have HO136 := n6_
       clear n0_ n1_ n2_ n3_ n4_ n5_ n6_
       clear ho hb hg hat
       obtain ⟨Ao31, co31, eo31⟩ := Kd.R_slice HO136.out
       (first | subst eo31 | (injection eo31 with f1_ f2_ f3_; have f4_ := f1_.symm; have f5_ := f3_.symm; clear f1_ f2_ f3_; subst f4_; subst f5_))
       refine hK.out _ _ ⟨(blk_cell BK128.out 0).trans rfl, (blk_cell BK128.out 1).trans rfl, (blk_cell BK128.out 2).trans rfl, (blk_cell BK128.out 3).trans rfl, (blk_cell BK122.out 0).trans rfl, (blk_cell BK122.out 1).trans rfl⟩ (fun hHeld => ?_)
       clear hK K
       refine norm_ (a' := ?_) ?_ ?_
       rotate_left
       ·show Act.put _ (some 34) _ = _
        simp only [Act.put, List.setIfInBounds_toArray, List.set_cons_zero, List.set_cons_succ, i64_w, i32_w]
        rfl
       refine pure_ (i := 10) (N := some 35) (v := ?_) (a' := ?_) #[true, true, true, true, true, true, true, true, true, true, true, false] rfl rfl (any_of HT_.out (by kernel_rfl)) (fun _ _ _ h => h) (Or.inl ⟨by rfl, ?_⟩) ?_ ?_
       rotate_left
       ·intro w'
        go_simp
        with_reducible rfl
       rotate_left
       ·simp only [Act.put, List.setIfInBounds_toArray, List.set_cons_zero, List.set_cons_succ, i64_w, i32_w]
        rfl
       refine last_ (i := 11) (N := none) #[true, true, true, true, true, true, true, true, true, true, true, true] rfl rfl (one_of HT_.out (by kernel_rfl)) (by decide) (fun K hK => ?_)
       have hs32 : w30.cell? ⟨gb128, 3, none⟩ = some (u129003) := (blk_cell BK128.out 3).trans rfl
       have hfs32 := blk_frozen BK128.out 3
       have hns32_0 := NB122_128.out
       have hns32_1 := NB123_128.out
       have hms32_0 := NB128_122.out
       have hms32_1 := NB128_123.out
       refine skip_ (w1 := ?_) (by rfl) rfl ?_ ?_
       rotate_left
       ·go_simp
        rfl
       refine hK.out _ _ ?_
       clear hK K
       refine done_ (done_of HT_.out (by kernel_rfl)) ?_
       try go_wp2
       go_roundg k1
       case measure => have := HK1.out; omega
       case rel => exact ⟨(wrap64 (x4_1 + 16)), (y130), (y134), (.slice Ao25 y130.length co25), (.slice Ao31 y134.length co31), (by first | rfl | (simp; done) | (simp [*]; done)), H', ⟨by have := HK1.out; omega⟩, ⟨by (with_reducible repeat (first | apply Kd.R_alloc | apply Kd.R_drewN | apply Kd.R_drew)); exact Kd.R_mono (Kd.R_far (p := ⟨gb128, 3, none⟩) (Kd.R_types HO_129001.out BK128.out (by decide)) (fun _ hk => hk.2) (.slice Ao31 y134.length co31)) (fun _ hk => ⟨hk.1.1, hk.1.2⟩)⟩, ⟨by (with_reducible repeat (first | apply Kd.R_alloc | apply Kd.R_drewN | apply Kd.R_drew)); exact Kd.R_mono (Kd.R_far (p := ⟨gb128, 3, none⟩) (Kd.R_types HO132.out BK128.out (by decide)) (fun _ hk => hk.2) (.slice Ao31 y134.length co31)) (fun _ hk => ⟨hk.1.1, hk.1.2⟩)⟩, ⟨by (with_reducible repeat (first | apply Kd.R_alloc | apply Kd.R_drewN | apply Kd.R_drew)); exact Kd.R_mono (Kd.R_far (p := ⟨gb128, 3, none⟩) (Kd.R_types HO136.out BK128.out (by decide)) (fun _ hk => hk.2) (.slice Ao31 y134.length co31)) (fun _ hk => ⟨hk.1.1, hk.1.2⟩)⟩, ⟨by (with_reducible repeat (first | refine blk_drewN ?_ _ | refine blk_drew ?_ | refine blk_alloc ?_ _)); refine blk_far ?_ NB122_128.out _; (with_reducible repeat (first | refine blk_drewN ?_ _ | refine blk_drew ?_ | refine blk_alloc ?_ _)); exact BK122.out⟩, ⟨by (with_reducible repeat (first | refine blk_drewN ?_ _ | refine blk_drew ?_ | refine blk_alloc ?_ _)); refine blk_far ?_ NB123_128.out _; (with_reducible repeat (first | refine blk_drewN ?_ _ | refine blk_drew ?_ | refine blk_alloc ?_ _)); exact BK123.out⟩, ⟨by (with_reducible repeat (first | refine blk_drewN ?_ _ | refine blk_drew ?_ | refine blk_alloc ?_ _)); refine blk_put (cs := #[.int .i64 t124, .slice Ao8 t125.length co8, .slice Ao25 y130.length co25, u129003]) ?_ 3 _ rfl; (with_reducible repeat (first | refine blk_drewN ?_ _ | refine blk_drew ?_ | refine blk_alloc ?_ _)); exact BK128.out⟩, ⟨lw4_ HB⟩⟩
      ·rw [if_neg c18] at H
       exact absurd H (by simp)
     ·rw [if_neg c16] at H
      exact absurd H (by simp)
    ·rw [if_neg c14] at H
     have c14b0 : ((Int.tmod x4_1 64) == 0) = false := beq_eq_false_iff_ne.mpr c14
     have c14b1 : ((Int.tmod x4_1 64) != 0) = true := bne_iff_ne.mpr c14
     replace H := Option.bind_eq_some_iff.mp H
     obtain ⟨t137, A330, H⟩ := H
     replace H : (if x129003_1.length < 17592186044416 then (spec_raOf.l0 k1 (wrap64 (x4_1 + 16)) a0_0 l0_1 t124 t125 x129002_1 (x129003_1 ++ [t137])) else (none)) = some (r1, r2, r3, r4) := H
     have A33 := am4_ A330
     clear A330
     by_cases c34 : x129003_1.length < 17592186044416
     ·rw [if_pos c34] at H
      have LMc34 := am4_ c34
      clear c34
      obtain ⟨y138, hy138⟩ : ∃ y_ : List Int, y_ = (x129003_1 ++ [t137]) := ⟨_, rfl⟩
      replace H : (spec_raOf.l0 k1 (wrap64 (x4_1 + 16)) a0_0 l0_1 t124 t125 x129002_1 y138) = some (r1, r2, r3, r4) := by first | (rw [hy138]; with_reducible exact H) | (have H2_ := (Option.bind_some _ _).symm.trans H; rw [hy138]; with_reducible exact H2_) | (have H2_ := (Option.bind_some _ _).symm.trans H; with_reducible exact H2_) | with_reducible exact H | (rw [hy138]; exact H) | exact H
      have Ny138 := am4_ hy138
      clear hy138
      have H' := am4_ H
      clear H
      have hnb35 := NB122_123.out
      have hnc35 := NB123_122.out
      have hnb36 := NB122_128.out
      have hnc36 := NB128_122.out
      have hcz37_0 : wr.cell? ⟨gb122, 0, none⟩ = some (.int .i64 a0_0) := (blk_cell BK122.out 0).trans rfl
      have hcz37_1 : wr.cell? ⟨gb122, 1, none⟩ = some (.slice A0_1 l0_1.length c0_1) := (blk_cell BK122.out 1).trans rfl
      have hfz37_0 := blk_frozen BK122.out 0
      have hfz37_1 := blk_frozen BK122.out 1
      try go_wp2
      have n0_ := am4_ (Kd.R_drew HO_129001.out)
      have n1_ := am4_ (Kd.R_drew HO_129002.out)
      have n2_ := am4_ (Kd.R_drew HO_129003.out)
      have n3_ := am4_ (blk_drew BK122.out)
      have n4_ := am4_ (blk_drew BK123.out)
      have n5_ := am4_ (blk_drew BK128.out)
      have n6_ := am4_ (below_drew1 HB.out)
      clear HO_129001
      clear HO_129002
      clear HO_129003
      clear BK122
      clear BK123
      clear BK128
      clear HB
      have HO_129001 := n0_
      have HO_129002 := n1_
      have HO_129003 := n2_
      have BK122 := n3_
      have BK123 := n4_
      have BK128 := n5_
      have HB := n6_
      clear n0_ n1_ n2_ n3_ n4_ n5_ n6_
      refine start_ (n := 12) (S := fun w' => w'.cell? ⟨gb128, 0, none⟩ = some (.int .i64 t124) ∧ w'.cell? ⟨gb128, 1, none⟩ = some (.slice Ao8 t125.length co8) ∧ w'.cell? ⟨gb128, 2, none⟩ = some (u129002) ∧ w'.cell? ⟨gb128, 3, none⟩ = some (u129003) ∧ w'.cell? ⟨gb122, 0, none⟩ = some (.int .i64 a0_0) ∧ w'.cell? ⟨gb122, 1, none⟩ = some (.slice A0_1 l0_1.length c0_1)) (ds := [11]) #[false, false, false, false, false, false, false, false, false, false, false, false] (by kernel_rfl) rfl rfl ⟨(blk_cell BK128.out 0).trans rfl, (blk_cell BK128.out 1).trans rfl, (blk_cell BK128.out 2).trans rfl, (blk_cell BK128.out 3).trans rfl, (blk_cell BK122.out 0).trans rfl, (blk_cell BK122.out 1).trans rfl⟩ (fun hHeld => ?_); refine with_tabW spec_raOf.tab7 spec_raOf.bits7 (fun HT_ HW_ => ?_)
      generalize wr.drew = w38 at HO_129001 HO_129002 HO_129003 BK122 BK123 BK128 HB hHeld ⊢
      refine pure_ (i := 0) (N := some 25) (v := ?_) (a' := ?_) #[true, false, false, false, false, false, false, false, false, false, false, false] rfl rfl (any_of HT_.out (by kernel_rfl)) (fun _ _ _ h => h) (Or.inl ⟨by rfl, ?_⟩) ?_ ?_
      rotate_left
      ·intro w'
       go_simp
       with_reducible rfl
      rotate_left
      ·simp only [Act.put, List.setIfInBounds_toArray, List.set_cons_zero, List.set_cons_succ, i64_w, i32_w]
       rfl
      refine pure_ (i := 3) (N := some 28) (v := ?_) (a' := ?_) #[true, false, false, true, false, false, false, false, false, false, false, false] rfl rfl (any_of HT_.out (by kernel_rfl)) (fun _ _ _ h => h) (Or.inl ⟨by rfl, ?_⟩) ?_ ?_
      rotate_left
      ·intro w'
       go_simp
       with_reducible rfl
      rotate_left
      ·simp only [Act.put, List.setIfInBounds_toArray, List.set_cons_zero, List.set_cons_succ, i64_w, i32_w]
       rfl
      refine pure_ (i := 4) (N := some 29) (v := ?_) (a' := ?_) #[true, false, false, true, true, false, false, false, false, false, false, false] rfl rfl (any_of HT_.out (by kernel_rfl)) (fun _ _ _ h => h) (Or.inl ⟨by rfl, ?_⟩) ?_ ?_
      rotate_left
      ·intro w'
       go_simp
       with_reducible rfl
      rotate_left
      ·simp only [Act.put, List.setIfInBounds_toArray, List.set_cons_zero, List.set_cons_succ, i64_w, i32_w]
       rfl
      refine pure_ (i := 5) (N := some 30) (v := ?_) (a' := ?_) #[true, false, false, true, true, true, false, false, false, false, false, false] rfl rfl (any_of HT_.out (by kernel_rfl)) (fun _ _ _ h => h) (Or.inl ⟨by rfl, ?_⟩) ?_ ?_
      rotate_left
      ·intro w'
       go_simp
       with_reducible rfl
      rotate_left
      ·simp only [Act.put, List.setIfInBounds_toArray, List.set_cons_zero, List.set_cons_succ, i64_w, i32_w]
       rfl
      refine pure_ (i := 6) (N := some 31) (v := ?_) (a' := ?_) #[true, false, false, true, true, true, true, false, false, false, false, false] rfl rfl (any_of HT_.out (by kernel_rfl)) (fun _ _ _ h => h) (Or.inl ⟨by rfl, ?_⟩) ?_ ?_
      rotate_left
      ·intro w'
       go_simp
       with_reducible rfl
      rotate_left
      ·simp only [Act.put, List.setIfInBounds_toArray, List.set_cons_zero, List.set_cons_succ, i64_w, i32_w]
       rfl
      refine take_ (i := 1) (N := some 26) (v := ?_) (a' := ?_) #[true, true, false, true, true, true, true, false, false, false, false, false] rfl rfl (take_ofW HT_.out HW_.out (by kernel_rfl)) (fun _ _ _ h => h) (Or.inl ⟨by rfl, ?_⟩) hHeld ?_ ?_
      rotate_left
      ·rintro w' ⟨s0, s1, s2, s3, s4, s5⟩
       go_simp
       with_reducible rfl
      rotate_left
      ·simp only [Act.put, List.setIfInBounds_toArray, List.set_cons_zero, List.set_cons_succ, i64_w, i32_w]
       rfl
      refine take_ (i := 2) (N := some 27) (v := ?_) (a' := ?_) #[true, true, true, true, true, true, true, false, false, false, false, false] rfl rfl (take_ofW HT_.out HW_.out (by kernel_rfl)) (fun _ _ _ h => h) (Or.inl ⟨by rfl, ?_⟩) hHeld ?_ ?_
      rotate_left
      ·rintro w' ⟨s0, s1, s2, s3, s4, s5⟩
       go_simp
       with_reducible rfl
      rotate_left
      ·simp only [Act.put, List.setIfInBounds_toArray, List.set_cons_zero, List.set_cons_succ, i64_w, i32_w]
       rfl
      refine one_ (i := 7) (N := some 32) #[true, true, true, true, true, true, true, true, false, false, false, false] rfl rfl (one_of HT_.out (by kernel_rfl)) (by decide) (fun K hK => ?_)
      refine goes_ Try.func62 (by kernel_rfl) rfl #[.agg #[.int .i64 a0_0, .slice A0_1 l0_1.length c0_1], .int .i64 (wrap64 ((wrap64 (Int.tdiv x4_1 64)) * 64)), .int .i64 x4_1] (by rfl) rfl rfl lm4_ ?_
      with_reducible refine (spec_biCount.calls k1 a0_0 _ _ l0_1 (wrap64 ((wrap64 (Int.tdiv x4_1 64)) * 64)) x4_1 t137 _ ?side1 ?side2 A33.out).mono ?_
      (case side1 => exact lc4_ (Kd.C_below HR0_1.out HB.out))
      (case side2 => exact HC0_1.out)
      rintro e w39 ⟨rfl, hb⟩
      refine ⟨_, rfl, ?_⟩
      have n0_ := am4_ (Kd.R_below (lf4_ HO_129001) hb)
      have n1_ := am4_ (Kd.R_below (lf4_ HO_129002) hb)
      have n2_ := am4_ (Kd.R_below (lf4_ HO_129003) hb)
      have n3_ := am4_ (blk_below (g := gb122) (o := .cells #[.int .i64 a0_0, .slice A0_1 l0_1.length c0_1] 29 (0, 0)) (lb4_ BK122) hb)
      have n4_ := am4_ (blk_below (g := gb123) (o := .cells #[.int .i64 0, .slice none 0 0, .slice none 0 0, .slice none 0 0] 31 (0, 0)) (lb4_ BK123) hb)
      have n5_ := am4_ (blk_below (g := gb128) (o := .cells #[.int .i64 t124, .slice Ao8 t125.length co8, u129002, u129003] 31 (0, 0)) (lb4_ BK128) hb)
      have n6_ := am4_ (below_step (lw4_ HB) hb)
      clear HO_129001
      clear HO_129002
      clear HO_129003
      clear BK122
      clear BK123
      clear BK128
      clear HB
      have HO_129001 := n0_
      have HO_129002 := n1_
      have HO_129003 := n2_
      have BK122 := n3_
      have BK123 := n4_
      have BK128 := n5_
      have HB := n6_
      clear n0_ n1_ n2_ n3_ n4_ n5_ n6_
      (try clear hb)
      (try clear hb2)
      (try clear hk)
      (try clear hi)
      refine hK.out _ _ ⟨(blk_cell BK128.out 0).trans rfl, (blk_cell BK128.out 1).trans rfl, (blk_cell BK128.out 2).trans rfl, (blk_cell BK128.out 3).trans rfl, (blk_cell BK122.out 0).trans rfl, (blk_cell BK122.out 1).trans rfl⟩ (fun hHeld => ?_)
      clear hK K
      refine norm_ (a' := ?_) ?_ ?_
      rotate_left
      ·show Act.put _ (some 32) _ = _
       simp only [Act.put, List.setIfInBounds_toArray, List.set_cons_zero, List.set_cons_succ, i64_w, i32_w]
       rfl
      refine one_ (i := 8) (N := some 33) #[true, true, true, true, true, true, true, true, true, false, false, false] rfl rfl (one_of HT_.out (by kernel_rfl)) (by decide) (fun K hK => ?_)
      refine value_ (w1 := ?_) (v := ?_) (by rfl) rfl ?_ ?_
      rotate_left 2
      ·go_simp
       constructor
       ·rfl
       ·rfl
      refine hK.out _ _ ⟨(blk_cell (blk_alloc BK128.out _) 0).trans rfl, (blk_cell (blk_alloc BK128.out _) 1).trans rfl, (blk_cell (blk_alloc BK128.out _) 2).trans rfl, (blk_cell (blk_alloc BK128.out _) 3).trans rfl, (blk_cell (blk_alloc BK122.out _) 0).trans rfl, (blk_cell (blk_alloc BK122.out _) 1).trans rfl⟩ (fun hHeld => ?_)
      clear hK K
      refine norm_ (a' := ?_) ?_ ?_
      rotate_left
      ·show Act.put _ (some 33) _ = _
       simp only [Act.put, List.setIfInBounds_toArray, List.set_cons_zero, List.set_cons_succ, i64_w, i32_w]
       rfl
      refine one_ (i := 9) (N := some 34) #[true, true, true, true, true, true, true, true, true, true, false, false] rfl rfl (one_of HT_.out (by kernel_rfl)) (by decide) (fun K hK => ?_)
      refine Kd.R_append_step (Kd.int .i64) (w0 := w) w.heap.size (by rfl) (.tmp 26) (.tmp 33) 22 3 (.int .i64 0) 8 rfl Try.underlying22 info3 rfl (by decide) (by omega) u129003 x129003_1 t137 [.int .i64 t137] (fun k_ => some k_ ≠ (.slice Ao8 t125.length co8 : Value).ownBlock ∧ some k_ ≠ (u129002 : Value).ownBlock) (fun _ => False) rfl rfl ?aP (fun _ hk => hk.elim) ?aF ?aO ?aB ?aS ?aL ?_
      (case aP => exact rfl)
      (case aB => exact (lw4_ HB))
      (case aF => exact (fun k_ hk => ⟨Kd.fresh' (Kd.R_lt (lf4_ HO_129001)) k_ hk, Kd.fresh' (Kd.R_lt (lf4_ HO_129002)) k_ hk⟩))
      (case aO => exact (lf4_ HO_129003))
      (case aS => exact (below_size (lw4_ HB)))
      (case aL => have := LMc34.out; omega)
      intro v139 w40 ho hb hg hat
      rw [← Ny138.out] at ho
      have n0_ := am4_ (Kd.R_after (ok := (fun k_ => some k_ ≠ (u129002 : Value).ownBlock)) (lf4_ HO_129001) hg hat)
      have n1_ := am4_ (Kd.R_after (ok := (fun k_ => some k_ ≠ (.slice Ao8 t125.length co8 : Value).ownBlock)) (lf4_ HO_129002) hg hat)
      have n2_ := am4_ (blk_grown (g := gb122) (o := .cells #[.int .i64 a0_0, .slice A0_1 l0_1.length c0_1] 29 (0, 0)) (lb4_ BK122) hg (Kd.R_ne HO_129003.out BK122.out (by decide)))
      have n3_ := am4_ (blk_grown (g := gb123) (o := .cells #[.int .i64 0, .slice none 0 0, .slice none 0 0, .slice none 0 0] 31 (0, 0)) (lb4_ BK123) hg (Kd.R_ne HO_129003.out BK123.out (by decide)))
      have n4_ := am4_ (blk_grown (g := gb128) (o := .cells #[.int .i64 t124, .slice Ao8 t125.length co8, u129002, u129003] 31 (0, 0)) (lb4_ BK128) hg (Kd.R_ne HO_129003.out BK128.out (by decide)))
      have n5_ := am4_ (hb)
      have n6_ := am4_ (ho)
      clear HO_129001
      clear HO_129002
      clear BK122
      clear BK123
      clear BK128
      clear HB
      clear HO_129003
      have HO_129001 := n0_
      have HO_129002 := n1_
      have BK122 := n2_
      have BK123 := n3_
      have BK128 := n4_
      have HB := n5_
      have HO140 := n6_
      clear n0_ n1_ n2_ n3_ n4_ n5_ n6_
      clear ho hb hg hat
      obtain ⟨Ao41, co41, eo41⟩ := Kd.R_slice HO140.out
      (first | subst eo41 | (injection eo41 with f1_ f2_ f3_; have f4_ := f1_.symm; have f5_ := f3_.symm; clear f1_ f2_ f3_; subst f4_; subst f5_))
      refine hK.out _ _ ⟨(blk_cell BK128.out 0).trans rfl, (blk_cell BK128.out 1).trans rfl, (blk_cell BK128.out 2).trans rfl, (blk_cell BK128.out 3).trans rfl, (blk_cell BK122.out 0).trans rfl, (blk_cell BK122.out 1).trans rfl⟩ (fun hHeld => ?_)
      clear hK K
      refine norm_ (a' := ?_) ?_ ?_
      rotate_left
      ·show Act.put _ (some 34) _ = _
       simp only [Act.put, List.setIfInBounds_toArray, List.set_cons_zero, List.set_cons_succ, i64_w, i32_w]
       rfl
      refine pure_ (i := 10) (N := some 35) (v := ?_) (a' := ?_) #[true, true, true, true, true, true, true, true, true, true, true, false] rfl rfl (any_of HT_.out (by kernel_rfl)) (fun _ _ _ h => h) (Or.inl ⟨by rfl, ?_⟩) ?_ ?_
      rotate_left
      ·intro w'
       go_simp
       with_reducible rfl
      rotate_left
      ·simp only [Act.put, List.setIfInBounds_toArray, List.set_cons_zero, List.set_cons_succ, i64_w, i32_w]
       rfl
      refine last_ (i := 11) (N := none) #[true, true, true, true, true, true, true, true, true, true, true, true] rfl rfl (one_of HT_.out (by kernel_rfl)) (by decide) (fun K hK => ?_)
      have hs42 : w40.cell? ⟨gb128, 3, none⟩ = some (u129003) := (blk_cell BK128.out 3).trans rfl
      have hfs42 := blk_frozen BK128.out 3
      have hns42_0 := NB122_128.out
      have hns42_1 := NB123_128.out
      have hms42_0 := NB128_122.out
      have hms42_1 := NB128_123.out
      refine skip_ (w1 := ?_) (by rfl) rfl ?_ ?_
      rotate_left
      ·go_simp
       rfl
      refine hK.out _ _ ?_
      clear hK K
      refine done_ (done_of HT_.out (by kernel_rfl)) ?_
      try go_wp2
      go_roundg k1
      case measure => have := HK1.out; omega
      case rel => exact ⟨(wrap64 (x4_1 + 16)), (x129002_1), (y138), (u129002), (.slice Ao41 y138.length co41), (by first | rfl | (simp; done) | (simp [*]; done)), H', ⟨by have := HK1.out; omega⟩, ⟨by (with_reducible repeat (first | apply Kd.R_alloc | apply Kd.R_drewN | apply Kd.R_drew)); exact Kd.R_mono (Kd.R_far (p := ⟨gb128, 3, none⟩) (Kd.R_types HO_129001.out BK128.out (by decide)) (fun _ hk => hk.2) (.slice Ao41 y138.length co41)) (fun _ hk => ⟨hk.1.1, hk.1.2⟩)⟩, ⟨by (with_reducible repeat (first | apply Kd.R_alloc | apply Kd.R_drewN | apply Kd.R_drew)); exact Kd.R_mono (Kd.R_far (p := ⟨gb128, 3, none⟩) (Kd.R_types HO_129002.out BK128.out (by decide)) (fun _ hk => hk.2) (.slice Ao41 y138.length co41)) (fun _ hk => ⟨hk.1.1, hk.1.2⟩)⟩, ⟨by (with_reducible repeat (first | apply Kd.R_alloc | apply Kd.R_drewN | apply Kd.R_drew)); exact Kd.R_mono (Kd.R_far (p := ⟨gb128, 3, none⟩) (Kd.R_types HO140.out BK128.out (by decide)) (fun _ hk => hk.2) (.slice Ao41 y138.length co41)) (fun _ hk => ⟨hk.1.1, hk.1.2⟩)⟩, ⟨by (with_reducible repeat (first | refine blk_drewN ?_ _ | refine blk_drew ?_ | refine blk_alloc ?_ _)); refine blk_far ?_ NB122_128.out _; (with_reducible repeat (first | refine blk_drewN ?_ _ | refine blk_drew ?_ | refine blk_alloc ?_ _)); exact BK122.out⟩, ⟨by (with_reducible repeat (first | refine blk_drewN ?_ _ | refine blk_drew ?_ | refine blk_alloc ?_ _)); refine blk_far ?_ NB123_128.out _; (with_reducible repeat (first | refine blk_drewN ?_ _ | refine blk_drew ?_ | refine blk_alloc ?_ _)); exact BK123.out⟩, ⟨by (with_reducible repeat (first | refine blk_drewN ?_ _ | refine blk_drew ?_ | refine blk_alloc ?_ _)); refine blk_put (cs := #[.int .i64 t124, .slice Ao8 t125.length co8, u129002, u129003]) ?_ 3 _ rfl; (with_reducible repeat (first | refine blk_drewN ?_ _ | refine blk_drew ?_ | refine blk_alloc ?_ _)); exact BK128.out⟩, ⟨lw4_ HB⟩⟩
     ·rw [if_neg c34] at H
      exact absurd H (by simp)
   ·rw [if_neg c13] at H
    have c13b0 : decide (x4_1 < a0_0) = false := decide_eq_false c13
    clear c13
    simp only [Option.some.injEq, Prod.mk.injEq] at H
    obtain ⟨rfl, rfl, rfl, rfl⟩ := H
    have hnb43 := NB122_123.out
    have hnc43 := NB123_122.out
    have hnb44 := NB122_128.out
    have hnc44 := NB128_122.out
    have hcz45_0 : wr.cell? ⟨gb122, 0, none⟩ = some (.int .i64 a0_0) := (blk_cell BK122.out 0).trans rfl
    have hcz45_1 : wr.cell? ⟨gb122, 1, none⟩ = some (.slice A0_1 l0_1.length c0_1) := (blk_cell BK122.out 1).trans rfl
    have hfz45_0 := blk_frozen BK122.out 0
    have hfz45_1 := blk_frozen BK122.out 1
    have hnb46 := NB128_123.out
    have hnc46 := NB123_128.out
    have hcz47_0 : wr.cell? ⟨gb128, 0, none⟩ = some (.int .i64 t124) := (blk_cell BK128.out 0).trans rfl
    have hcz47_1 : wr.cell? ⟨gb128, 1, none⟩ = some (.slice Ao8 t125.length co8) := (blk_cell BK128.out 1).trans rfl
    have hcz47_2 : wr.cell? ⟨gb128, 2, none⟩ = some (u129002) := (blk_cell BK128.out 2).trans rfl
    have hcz47_3 : wr.cell? ⟨gb128, 3, none⟩ = some (u129003) := (blk_cell BK128.out 3).trans rfl
    have hfz47_0 := blk_frozen BK128.out 0
    have hfz47_1 := blk_frozen BK128.out 1
    have hfz47_2 := blk_frozen BK128.out 2
    have hfz47_3 := blk_frozen BK128.out 3
    have hcz48_0 : wr.cell? ⟨gb123, 0, none⟩ = some (.int .i64 0) := (blk_cell BK123.out 0).trans rfl
    have hcz48_1 : wr.cell? ⟨gb123, 1, none⟩ = some (.slice none 0 0) := (blk_cell BK123.out 1).trans rfl
    have hcz48_2 : wr.cell? ⟨gb123, 2, none⟩ = some (.slice none 0 0) := (blk_cell BK123.out 2).trans rfl
    have hcz48_3 : wr.cell? ⟨gb123, 3, none⟩ = some (.slice none 0 0) := (blk_cell BK123.out 3).trans rfl
    have hfz48_0 := blk_frozen BK123.out 0
    have hfz48_1 := blk_frozen BK123.out 1
    have hfz48_2 := blk_frozen BK123.out 2
    have hfz48_3 := blk_frozen BK123.out 3
    obtain ⟨Ao49, co49, eo49⟩ := Kd.R_slice HO_129002.out
    subst eo49
    obtain ⟨Ao50, co50, eo50⟩ := Kd.R_slice HO_129003.out
    subst eo50
    go_wp2
    refine bodyPost_ret (results_cell_row rfl _ _ gb123 31 #[.int .i64 t124, .slice Ao8 t125.length co8, .slice Ao49 x129002_1.length co49, .slice Ao50 x129003_1.length co50] (0, 0) _ rfl (by (with_reducible repeat (first | refine blk_drewN ?_ _ | refine blk_drew ?_ | refine blk_alloc ?_ _)); refine blk_put (cs := #[.int .i64 t124, .slice Ao8 t125.length co8, .slice Ao49 x129002_1.length co49, .slice none 0 0]) ?_ 3 _ rfl; (with_reducible repeat (first | refine blk_drewN ?_ _ | refine blk_drew ?_ | refine blk_alloc ?_ _)); refine blk_put (cs := #[.int .i64 t124, .slice Ao8 t125.length co8, .slice none 0 0, .slice none 0 0]) ?_ 2 _ rfl; (with_reducible repeat (first | refine blk_drewN ?_ _ | refine blk_drew ?_ | refine blk_alloc ?_ _)); refine blk_put (cs := #[.int .i64 t124, .slice none 0 0, .slice none 0 0, .slice none 0 0]) ?_ 1 _ rfl; (with_reducible repeat (first | refine blk_drewN ?_ _ | refine blk_drew ?_ | refine blk_alloc ?_ _)); refine blk_put (cs := #[.int .i64 0, .slice none 0 0, .slice none 0 0, .slice none 0 0]) ?_ 0 _ rfl; (with_reducible repeat (first | refine blk_drewN ?_ _ | refine blk_drew ?_ | refine blk_alloc ?_ _)); exact BK123.out) Try.underlying31 rfl (by kernel_rfl)) rfl ?_
    exact ⟨_, _, _, by first | rfl | (simp [errW_none, errW_some] <;> rfl) | (simp [*, errW_none, errW_some] <;> rfl), by (with_reducible repeat (first | apply Kd.R_alloc | apply Kd.R_drewN | apply Kd.R_drew)); exact Kd.R_mono (Kd.R_far (p := ⟨gb123, 3, none⟩) (Kd.R_far (p := ⟨gb123, 2, none⟩) (Kd.R_far (p := ⟨gb123, 1, none⟩) (Kd.R_far (p := ⟨gb123, 0, none⟩) (Kd.R_types HO_129001.out BK123.out (by decide)) (fun _ hk => hk.2) (.int .i64 t124)) (fun _ hk => hk.2) (.slice Ao8 t125.length co8)) (fun _ hk => hk.2) (.slice Ao49 x129002_1.length co49)) (fun _ hk => hk.2) (.slice Ao50 x129003_1.length co50)) (fun _ hk => ⟨hk.1.1, hk.1.2⟩), by (with_reducible repeat (first | apply Kd.R_alloc | apply Kd.R_drewN | apply Kd.R_drew)); exact Kd.R_mono (Kd.R_far (p := ⟨gb123, 3, none⟩) (Kd.R_far (p := ⟨gb123, 2, none⟩) (Kd.R_far (p := ⟨gb123, 1, none⟩) (Kd.R_far (p := ⟨gb123, 0, none⟩) (Kd.R_types HO_129002.out BK123.out (by decide)) (fun _ hk => hk.2) (.int .i64 t124)) (fun _ hk => hk.2) (.slice Ao8 t125.length co8)) (fun _ hk => hk.2) (.slice Ao49 x129002_1.length co49)) (fun _ hk => hk.2) (.slice Ao50 x129003_1.length co50)) (fun _ hk => ⟨hk.1.1, hk.1.2⟩), by (with_reducible repeat (first | apply Kd.R_alloc | apply Kd.R_drewN | apply Kd.R_drew)); exact Kd.R_mono (Kd.R_far (p := ⟨gb123, 3, none⟩) (Kd.R_far (p := ⟨gb123, 2, none⟩) (Kd.R_far (p := ⟨gb123, 1, none⟩) (Kd.R_far (p := ⟨gb123, 0, none⟩) (Kd.R_types HO_129003.out BK123.out (by decide)) (fun _ hk => hk.2) (.int .i64 t124)) (fun _ hk => hk.2) (.slice Ao8 t125.length co8)) (fun _ hk => hk.2) (.slice Ao49 x129002_1.length co49)) (fun _ hk => hk.2) (.slice Ao50 x129003_1.length co50)) (fun _ hk => ⟨hk.1.1, hk.1.2⟩), lw4_ HB⟩

theorem am5_ {p : Prop} (h : p) : Aside0 p := ⟨h⟩
theorem lm5_ {P : Prop} (h : P := by (try simp only [List.map_toArray, List.map_cons, List.map_nil]); first | done | rfl | (simp only [List.length_drop, List.length_take]; rfl)) : P := h
theorem lc5_ {P Q : Prop} (h : P) (f : P → Q := by intro h_; repeat (first | exact h_ | (with_reducible refine Kd.C_alloc ?_ _) | (with_reducible refine Kd.C_drewN ?_ _) | (with_reducible refine Kd.C_drew ?_))) : Q := f h
theorem lt5_ {P Q : Prop} (h : P) (f : P → Q := by intro h_; (with_reducible repeat (first | apply Kd.R_alloc | apply Kd.R_drewN | apply Kd.R_drew)); exact h_) : Q := f h
theorem lf5_ {P Q : Prop} (h : Aside0 P) (f : P → Q := by intro h_; (with_reducible repeat (first | apply Kd.R_alloc | apply Kd.R_drewN | apply Kd.R_drew)); exact h_) : Q := f h.out
theorem lb5_ {P Q : Prop} (h : Aside0 P) (f : P → Q := by intro h_; (with_reducible repeat (first | refine blk_drewN ?_ _ | refine blk_drew ?_ | refine blk_alloc ?_ _)); exact h_) : Q := f h.out
theorem lw5_ {P Q : Prop} (h : Aside0 P) (f : P → Q := by intro h_; repeat (first | (with_reducible first | exact h_ | apply below_alloc | apply pw_below_drewN | apply below_drew1 | refine below_set ?_ (Aside0.out (by assumption))) | exact h_)) : Q := f h.out
/-! ### spec_BuildRanked: function 21 -/
def spec_BuildRanked.f (k : Nat) (a0_0 : Int) (l0_1 : List Int) : Option (Int × List Int × List Int × List Int × Bool) := (spec_biGood.f k a0_0 l0_1).bind fun t143 => (if t143 = true then ((spec_raOf.f k a0_0 l0_1).bind fun bt144 => (some (bt144.1, bt144.2.1, bt144.2.2.1, bt144.2.2.2, true))) else (some (0, ([] : List Int), ([] : List Int), ([] : List Int), false)))
theorem spec_BuildRanked.mono : ∀ a0 a1 k, LeO (spec_BuildRanked.f k a0 a1) (spec_BuildRanked.f (k + 1) a0 a1) := by
 intro a0 a1 k
 unfold spec_BuildRanked.f
 repeat' first
   | (with_reducible exact spec_biGood.mono _ _ _)
   | (with_reducible exact spec_raOf.mono _ _ _)
   | (with_reducible exact LeO.refl _)
   | (with_reducible exact LeO.none _)
   | (with_reducible refine LeO.ite ?_ ?_)
   | (with_reducible refine LeO.bind ?_ (fun _ => ?_))
   | exact spec_biGood.mono _ _ _
   | exact spec_raOf.mono _ _ _
   | exact LeO.none _
   | refine LeO.ite ?_ ?_
   | refine LeO.bind ?_ (fun _ => ?_)
set_option maxHeartbeats 8000000 in
set_option maxRecDepth 100000 in
theorem spec_BuildRanked.calls (k : Nat) (a0_0 : Int) (A0_1 : Option Addr) (c0_1 : Nat) (l0_1 : List Int) (r1 : Int) (r2 : List Int) (r3 : List Int) (r4 : List Int) (r5 : Bool) (w : World) (hr0_1 : Kd.C (Kd.int .i64) w A0_1 l0_1.length l0_1) (hc0_1 : l0_1.length ≤ c0_1) (h : spec_BuildRanked.f k a0_0 l0_1 = some (r1, r2, r3, r4, r5)) :
  Calls Try.prog 21 #[.agg #[.int .i64 a0_0, .slice A0_1 l0_1.length c0_1]] w fun e w' => ∃ v1_ v2_ v3_ : Value, e = .returned (.tuple #[.agg #[.int .i64 r1, v1_, v2_, v3_], .bool r5]) ∧ Kd.R (Kd.int .i64) 3 w' w.heap.size (fun k_ => some k_ ≠ (v2_ : Value).ownBlock ∧ some k_ ≠ (v3_ : Value).ownBlock) v1_ r2 ∧ Kd.R (Kd.int .i64) 3 w' w.heap.size (fun k_ => some k_ ≠ (v1_ : Value).ownBlock ∧ some k_ ≠ (v3_ : Value).ownBlock) v2_ r3 ∧ Kd.R (Kd.int .i64) 3 w' w.heap.size (fun k_ => some k_ ≠ (v1_ : Value).ownBlock ∧ some k_ ≠ (v2_ : Value).ownBlock) v3_ r4 ∧ Below w.heap.size w w' := by
 have hu29 := Try.underlying29
 have hu31 := Try.underlying31
 have HR0_1 := am5_ hr0_1
 have HC0_1 := am5_ hc0_1
 clear hr0_1 hc0_1
 have HB := am5_ (Below.refl w.heap.size w)
 have H : ((spec_biGood.f k a0_0 l0_1).bind fun t143 => (if t143 = true then ((spec_raOf.f k a0_0 l0_1).bind fun bt144 => (some (bt144.1, bt144.2.1, bt144.2.2.1, bt144.2.2.2, true))) else (some (0, ([] : List Int), ([] : List Int), ([] : List Int), false)))) = some (r1, r2, r3, r4, r5) := h
 clear h
 replace H := Option.bind_eq_some_iff.mp H
 obtain ⟨t143, A20, H⟩ := H
 replace H : (if t143 = true then ((spec_raOf.f k a0_0 l0_1).bind fun bt144 => (some (bt144.1, bt144.2.1, bt144.2.2.1, bt144.2.2.2, true))) else (some (0, ([] : List Int), ([] : List Int), ([] : List Int), false))) = some (r1, r2, r3, r4, r5) := H
 have A2 := am5_ A20
 clear A20
 by_cases c3 : t143 = true
 ·subst c3
  have H1 : ((spec_raOf.f k a0_0 l0_1).bind fun bt144 => (some (bt144.1, bt144.2.1, bt144.2.2.1, bt144.2.2.2, true))) = some (r1, r2, r3, r4, r5) := by rw [if_pos rfl] at H; exact H
  clear H
  have H := H1
  clear H1
  replace H := Option.bind_eq_some_iff.mp H
  obtain ⟨⟨t144, t145, t148, t151⟩, A40, H⟩ := H
  replace H : (some (t144, t145, t148, t151, true)) = some (r1, r2, r3, r4, r5) := H
  have A4 := am5_ A40
  clear A40
  simp only [Option.some.injEq, Prod.mk.injEq] at H
  obtain ⟨rfl, rfl, rfl, rfl, rfl⟩ := H
  go_enter Try.func21, Try.ntmps21
  go_wp2_with (first | ((with_reducible refine gate_dst (N := 1) rfl ?_); refine box_event ?hg (N := 1) ?hd (cs := #[.int .i64 a0_0, .slice A0_1 l0_1.length c0_1]) (t := 29) ?hr ?_; (case hd => rfl); (case hg => rfl); (case hr => first | (go_simp; done) | (go_simp; rfl)); intro gb141 hg w5 hbox hb; have n0_ := am5_ (below_step (lw5_ HB) hb); have n1_ := am5_ (hbox); have n2_ := am5_ ((by rw [hg]; exact (below_size (lw5_ HB)) : w.heap.size ≤ gb141)); have n3_ := am5_ ((by rw [hg]; exact (below_size (lw5_ HB)) : w.heap.size ≤ gb141)); clear HB; have HB := n0_; have BK141 := n1_; have GW141 := n2_; have GE141 := n3_; clear n0_ n1_ n2_ n3_; clear hb hbox hg) | ((with_reducible refine gate_dst (N := 2) rfl ?_); refine box_event ?hg (N := 2) ?hd (cs := #[.int .i64 0, .slice none 0 0, .slice none 0 0, .slice none 0 0]) (t := 31) ?hr ?_; (case hd => rfl); (case hg => rfl); (case hr => first | (go_simp; done) | (go_simp; rfl)); intro gb142 hg w6 hbox hb; have n0_ := am5_ (blk_below (g := gb141) (o := .cells #[.int .i64 a0_0, .slice A0_1 l0_1.length c0_1] 29 (0, 0)) (lb5_ BK141) hb); have n1_ := am5_ (below_step (lw5_ HB) hb); have n2_ := am5_ (hbox); have n3_ := am5_ ((by rw [hg]; exact (below_size (lw5_ HB)) : w.heap.size ≤ gb142)); have n4_ := am5_ ((by rw [hg]; exact (below_size (lw5_ HB)) : w.heap.size ≤ gb142)); have n5_ := am5_ ((by rw [hg]; exact Nat.ne_of_lt (blk_lt (g := gb141) (lb5_ BK141)) : gb141 ≠ gb142)); have n6_ := am5_ ((by rw [hg]; exact Nat.ne_of_gt (blk_lt (g := gb141) (lb5_ BK141)) : gb142 ≠ gb141)); clear BK141; clear HB; have BK141 := n0_; have HB := n1_; have BK142 := n2_; have GW142 := n3_; have GE142 := n4_; have NB141_142 := n5_; have NB142_141 := n6_; clear n0_ n1_ n2_ n3_ n4_ n5_ n6_; clear hb hbox hg; have hnb7 := NB141_142.out; have hnc7 := NB142_141.out; have hcz8_0 : w6.cell? ⟨gb141, 0, none⟩ = some (.int .i64 a0_0) := (blk_cell BK141.out 0).trans rfl; have hcz8_1 : w6.cell? ⟨gb141, 1, none⟩ = some (.slice A0_1 l0_1.length c0_1) := (blk_cell BK141.out 1).trans rfl; have hfz8_0 := blk_frozen BK141.out 0; have hfz8_1 := blk_frozen BK141.out 1) | ((with_reducible refine gate_callee (f := 60) rfl ?_); refine goesL_ (some 5) rfl rfl Try.func60 (by kernel_rfl) rfl #[.agg #[.int .i64 a0_0, .slice A0_1 l0_1.length c0_1]] rfl lm5_ ?_; (with_reducible refine (spec_biGood.calls k a0_0 _ _ l0_1 true _ ?side1 ?side2 A2.out).mono ?_); (case side1 => exact lc5_ (Kd.C_below HR0_1.out HB.out)); (case side2 => exact HC0_1.out); rintro e w9 ⟨rfl, hb⟩; refine ⟨_, rfl, ?_⟩; have n0_ := am5_ (blk_below (g := gb141) (o := .cells #[.int .i64 a0_0, .slice A0_1 l0_1.length c0_1] 29 (0, 0)) (lb5_ BK141) hb); have n1_ := am5_ (blk_below (g := gb142) (o := .cells #[.int .i64 0, .slice none 0 0, .slice none 0 0, .slice none 0 0] 31 (0, 0)) (lb5_ BK142) hb); have n2_ := am5_ (below_step (lw5_ HB) hb); clear BK141; clear BK142; clear HB; have BK141 := n0_; have BK142 := n1_; have HB := n2_; clear n0_ n1_ n2_; (try clear hb); (try clear hb2); (try clear hk); (try clear hi); have hcz10_0 : w9.cell? ⟨gb141, 0, none⟩ = some (.int .i64 a0_0) := (blk_cell BK141.out 0).trans rfl; have hcz10_1 : w9.cell? ⟨gb141, 1, none⟩ = some (.slice A0_1 l0_1.length c0_1) := (blk_cell BK141.out 1).trans rfl; have hfz10_0 := blk_frozen BK141.out 0; have hfz10_1 := blk_frozen BK141.out 1) | ((with_reducible refine gate_callee (f := 61) rfl ?_); refine goesL_ (some 9) rfl rfl Try.func61 (by kernel_rfl) rfl #[.agg #[.int .i64 a0_0, .slice A0_1 l0_1.length c0_1]] rfl lm5_ ?_; (with_reducible refine (spec_raOf.calls k a0_0 _ _ l0_1 t144 t145 t148 t151 _ ?side1 ?side2 A4.out).mono ?_); (case side1 => exact lc5_ (Kd.C_below HR0_1.out HB.out)); (case side2 => exact HC0_1.out); rintro e w11 ⟨v146, v149, v152, rfl, ho0, ho1, ho2, hb⟩; refine ⟨_, rfl, ?_⟩; have n0_ := am5_ (Kd.R_lower ho0 (below_size (lw5_ HB))); have n1_ := am5_ (Kd.R_lower ho1 (below_size (lw5_ HB))); have n2_ := am5_ (Kd.R_lower ho2 (below_size (lw5_ HB))); have n3_ := am5_ (blk_below (g := gb141) (o := .cells #[.int .i64 a0_0, .slice A0_1 l0_1.length c0_1] 29 (0, 0)) (lb5_ BK141) hb); have n4_ := am5_ (blk_below (g := gb142) (o := .cells #[.int .i64 0, .slice none 0 0, .slice none 0 0, .slice none 0 0] 31 (0, 0)) (lb5_ BK142) hb); have n5_ := am5_ (below_step (lw5_ HB) hb); clear BK141; clear BK142; clear HB; have HO147 := n0_; have HO150 := n1_; have HO153 := n2_; have BK141 := n3_; have BK142 := n4_; have HB := n5_; clear n0_ n1_ n2_ n3_ n4_ n5_; (try clear hb); (try clear hb2); (try clear hk); (try clear hi); (try clear ho0); (try clear ho1); (try clear ho2); have hcz12_0 : w11.cell? ⟨gb142, 0, none⟩ = some (.int .i64 0) := (blk_cell BK142.out 0).trans rfl; have hcz12_1 : w11.cell? ⟨gb142, 1, none⟩ = some (.slice none 0 0) := (blk_cell BK142.out 1).trans rfl; have hcz12_2 : w11.cell? ⟨gb142, 2, none⟩ = some (.slice none 0 0) := (blk_cell BK142.out 2).trans rfl; have hcz12_3 : w11.cell? ⟨gb142, 3, none⟩ = some (.slice none 0 0) := (blk_cell BK142.out 3).trans rfl; have hfz12_0 := blk_frozen BK142.out 0; have hfz12_1 := blk_frozen BK142.out 1; have hfz12_2 := blk_frozen BK142.out 2; have hfz12_3 := blk_frozen BK142.out 3; obtain ⟨Ao13, co13, eo13⟩ := Kd.R_slice HO147.out; subst eo13; obtain ⟨Ao14, co14, eo14⟩ := Kd.R_slice HO150.out; subst eo14; obtain ⟨Ao15, co15, eo15⟩ := Kd.R_slice HO153.out; subst eo15))
  refine bodyPost_ret (results_ct rfl _ _ gb142 31 #[.int .i64 t144, .slice Ao13 t145.length co13, .slice Ao14 t148.length co14, .slice Ao15 t151.length co15] (0, 0) _ rfl (by (with_reducible repeat (first | refine blk_drewN ?_ _ | refine blk_drew ?_ | refine blk_alloc ?_ _)); refine blk_put (cs := #[.int .i64 t144, .slice Ao13 t145.length co13, .slice Ao14 t148.length co14, .slice none 0 0]) ?_ 3 _ rfl; (with_reducible repeat (first | refine blk_drewN ?_ _ | refine blk_drew ?_ | refine blk_alloc ?_ _)); refine blk_put (cs := #[.int .i64 t144, .slice Ao13 t145.length co13, .slice none 0 0, .slice none 0 0]) ?_ 2 _ rfl; (with_reducible repeat (first | refine blk_drewN ?_ _ | refine blk_drew ?_ | refine blk_alloc ?_ _)); refine blk_put (cs := #[.int .i64 t144, .slice none 0 0, .slice none 0 0, .slice none 0 0]) ?_ 1 _ rfl; (with_reducible repeat (first | refine blk_drewN ?_ _ | refine blk_drew ?_ | refine blk_alloc ?_ _)); refine blk_put (cs := #[.int .i64 0, .slice none 0 0, .slice none 0 0, .slice none 0 0]) ?_ 0 _ rfl; (with_reducible repeat (first | refine blk_drewN ?_ _ | refine blk_drew ?_ | refine blk_alloc ?_ _)); exact BK142.out) Try.underlying31 rfl (by kernel_rfl)) rfl ?_
  exact ⟨_, _, _, by first | rfl | (simp [errW_none, errW_some] <;> rfl) | (simp [*, errW_none, errW_some] <;> rfl), by (with_reducible repeat (first | apply Kd.R_alloc | apply Kd.R_drewN | apply Kd.R_drew)); exact Kd.R_mono (Kd.R_far (p := ⟨gb142, 3, none⟩) (Kd.R_far (p := ⟨gb142, 2, none⟩) (Kd.R_far (p := ⟨gb142, 1, none⟩) (Kd.R_far (p := ⟨gb142, 0, none⟩) (Kd.R_types HO147.out BK142.out (by decide)) (fun _ hk => hk.2) (.int .i64 t144)) (fun _ hk => hk.2) (.slice Ao13 t145.length co13)) (fun _ hk => hk.2) (.slice Ao14 t148.length co14)) (fun _ hk => hk.2) (.slice Ao15 t151.length co15)) (fun _ hk => ⟨hk.1.1, hk.1.2⟩), by (with_reducible repeat (first | apply Kd.R_alloc | apply Kd.R_drewN | apply Kd.R_drew)); exact Kd.R_mono (Kd.R_far (p := ⟨gb142, 3, none⟩) (Kd.R_far (p := ⟨gb142, 2, none⟩) (Kd.R_far (p := ⟨gb142, 1, none⟩) (Kd.R_far (p := ⟨gb142, 0, none⟩) (Kd.R_types HO150.out BK142.out (by decide)) (fun _ hk => hk.2) (.int .i64 t144)) (fun _ hk => hk.2) (.slice Ao13 t145.length co13)) (fun _ hk => hk.2) (.slice Ao14 t148.length co14)) (fun _ hk => hk.2) (.slice Ao15 t151.length co15)) (fun _ hk => ⟨hk.1.1, hk.1.2⟩), by (with_reducible repeat (first | apply Kd.R_alloc | apply Kd.R_drewN | apply Kd.R_drew)); exact Kd.R_mono (Kd.R_far (p := ⟨gb142, 3, none⟩) (Kd.R_far (p := ⟨gb142, 2, none⟩) (Kd.R_far (p := ⟨gb142, 1, none⟩) (Kd.R_far (p := ⟨gb142, 0, none⟩) (Kd.R_types HO153.out BK142.out (by decide)) (fun _ hk => hk.2) (.int .i64 t144)) (fun _ hk => hk.2) (.slice Ao13 t145.length co13)) (fun _ hk => hk.2) (.slice Ao14 t148.length co14)) (fun _ hk => hk.2) (.slice Ao15 t151.length co15)) (fun _ hk => ⟨hk.1.1, hk.1.2⟩), lw5_ HB⟩
 ·replace c3 := Bool.eq_false_iff.mpr c3
  subst c3
  have H1 : (some (0, ([] : List Int), ([] : List Int), ([] : List Int), false)) = some (r1, r2, r3, r4, r5) := by rw [if_neg (show ¬ (false = true) by decide)] at H; exact H
  clear H
  have H := H1
  clear H1
  simp only [Option.some.injEq, Prod.mk.injEq] at H
  obtain ⟨rfl, rfl, rfl, rfl, rfl⟩ := H
  go_enter Try.func21, Try.ntmps21
  go_wp2_with (first | ((with_reducible refine gate_dst (N := 1) rfl ?_); refine box_event ?hg (N := 1) ?hd (cs := #[.int .i64 a0_0, .slice A0_1 l0_1.length c0_1]) (t := 29) ?hr ?_; (case hd => rfl); (case hg => rfl); (case hr => first | (go_simp; done) | (go_simp; rfl)); intro gb141 hg w16 hbox hb; have n0_ := am5_ (below_step (lw5_ HB) hb); have n1_ := am5_ (hbox); have n2_ := am5_ ((by rw [hg]; exact (below_size (lw5_ HB)) : w.heap.size ≤ gb141)); have n3_ := am5_ ((by rw [hg]; exact (below_size (lw5_ HB)) : w.heap.size ≤ gb141)); clear HB; have HB := n0_; have BK141 := n1_; have GW141 := n2_; have GE141 := n3_; clear n0_ n1_ n2_ n3_; clear hb hbox hg) | ((with_reducible refine gate_dst (N := 2) rfl ?_); refine box_event ?hg (N := 2) ?hd (cs := #[.int .i64 0, .slice none 0 0, .slice none 0 0, .slice none 0 0]) (t := 31) ?hr ?_; (case hd => rfl); (case hg => rfl); (case hr => first | (go_simp; done) | (go_simp; rfl)); intro gb142 hg w17 hbox hb; have n0_ := am5_ (blk_below (g := gb141) (o := .cells #[.int .i64 a0_0, .slice A0_1 l0_1.length c0_1] 29 (0, 0)) (lb5_ BK141) hb); have n1_ := am5_ (below_step (lw5_ HB) hb); have n2_ := am5_ (hbox); have n3_ := am5_ ((by rw [hg]; exact (below_size (lw5_ HB)) : w.heap.size ≤ gb142)); have n4_ := am5_ ((by rw [hg]; exact (below_size (lw5_ HB)) : w.heap.size ≤ gb142)); have n5_ := am5_ ((by rw [hg]; exact Nat.ne_of_lt (blk_lt (g := gb141) (lb5_ BK141)) : gb141 ≠ gb142)); have n6_ := am5_ ((by rw [hg]; exact Nat.ne_of_gt (blk_lt (g := gb141) (lb5_ BK141)) : gb142 ≠ gb141)); clear BK141; clear HB; have BK141 := n0_; have HB := n1_; have BK142 := n2_; have GW142 := n3_; have GE142 := n4_; have NB141_142 := n5_; have NB142_141 := n6_; clear n0_ n1_ n2_ n3_ n4_ n5_ n6_; clear hb hbox hg; have hnb18 := NB141_142.out; have hnc18 := NB142_141.out; have hcz19_0 : w17.cell? ⟨gb141, 0, none⟩ = some (.int .i64 a0_0) := (blk_cell BK141.out 0).trans rfl; have hcz19_1 : w17.cell? ⟨gb141, 1, none⟩ = some (.slice A0_1 l0_1.length c0_1) := (blk_cell BK141.out 1).trans rfl; have hfz19_0 := blk_frozen BK141.out 0; have hfz19_1 := blk_frozen BK141.out 1) | ((with_reducible refine gate_callee (f := 60) rfl ?_); refine goesL_ (some 5) rfl rfl Try.func60 (by kernel_rfl) rfl #[.agg #[.int .i64 a0_0, .slice A0_1 l0_1.length c0_1]] rfl lm5_ ?_; (with_reducible refine (spec_biGood.calls k a0_0 _ _ l0_1 false _ ?side1 ?side2 A2.out).mono ?_); (case side1 => exact lc5_ (Kd.C_below HR0_1.out HB.out)); (case side2 => exact HC0_1.out); rintro e w20 ⟨rfl, hb⟩; refine ⟨_, rfl, ?_⟩; have n0_ := am5_ (blk_below (g := gb141) (o := .cells #[.int .i64 a0_0, .slice A0_1 l0_1.length c0_1] 29 (0, 0)) (lb5_ BK141) hb); have n1_ := am5_ (blk_below (g := gb142) (o := .cells #[.int .i64 0, .slice none 0 0, .slice none 0 0, .slice none 0 0] 31 (0, 0)) (lb5_ BK142) hb); have n2_ := am5_ (below_step (lw5_ HB) hb); clear BK141; clear BK142; clear HB; have BK141 := n0_; have BK142 := n1_; have HB := n2_; clear n0_ n1_ n2_; (try clear hb); (try clear hb2); (try clear hk); (try clear hi); have hcz21_0 : w20.cell? ⟨gb142, 0, none⟩ = some (.int .i64 0) := (blk_cell BK142.out 0).trans rfl; have hcz21_1 : w20.cell? ⟨gb142, 1, none⟩ = some (.slice none 0 0) := (blk_cell BK142.out 1).trans rfl; have hcz21_2 : w20.cell? ⟨gb142, 2, none⟩ = some (.slice none 0 0) := (blk_cell BK142.out 2).trans rfl; have hcz21_3 : w20.cell? ⟨gb142, 3, none⟩ = some (.slice none 0 0) := (blk_cell BK142.out 3).trans rfl; have hfz21_0 := blk_frozen BK142.out 0; have hfz21_1 := blk_frozen BK142.out 1; have hfz21_2 := blk_frozen BK142.out 2; have hfz21_3 := blk_frozen BK142.out 3))
  refine bodyPost_ret (results_ct rfl _ _ gb142 31 #[.int .i64 0, .slice none 0 0, .slice none 0 0, .slice none 0 0] (0, 0) _ rfl (by (with_reducible repeat (first | refine blk_drewN ?_ _ | refine blk_drew ?_ | refine blk_alloc ?_ _)); refine blk_put (cs := #[.int .i64 0, .slice none 0 0, .slice none 0 0, .slice none 0 0]) ?_ 3 _ rfl; (with_reducible repeat (first | refine blk_drewN ?_ _ | refine blk_drew ?_ | refine blk_alloc ?_ _)); refine blk_put (cs := #[.int .i64 0, .slice none 0 0, .slice none 0 0, .slice none 0 0]) ?_ 2 _ rfl; (with_reducible repeat (first | refine blk_drewN ?_ _ | refine blk_drew ?_ | refine blk_alloc ?_ _)); refine blk_put (cs := #[.int .i64 0, .slice none 0 0, .slice none 0 0, .slice none 0 0]) ?_ 1 _ rfl; (with_reducible repeat (first | refine blk_drewN ?_ _ | refine blk_drew ?_ | refine blk_alloc ?_ _)); refine blk_put (cs := #[.int .i64 0, .slice none 0 0, .slice none 0 0, .slice none 0 0]) ?_ 0 _ rfl; (with_reducible repeat (first | refine blk_drewN ?_ _ | refine blk_drew ?_ | refine blk_alloc ?_ _)); exact BK142.out) Try.underlying31 rfl (by kernel_rfl)) rfl ?_
  exact ⟨_, _, _, by first | rfl | (simp [errW_none, errW_some] <;> rfl) | (simp [*, errW_none, errW_some] <;> rfl), by first | exact Kd.R_nil _ _ _ _ _ | exact Kd.N_nil _ _ _ _ _ | exact Kd.V_nil _ _ _ _ _ | exact Kd.Q_nil _ _ _ _ _ | exact Kd.S_nil _ _ _ _ _, by first | exact Kd.R_nil _ _ _ _ _ | exact Kd.N_nil _ _ _ _ _ | exact Kd.V_nil _ _ _ _ _ | exact Kd.Q_nil _ _ _ _ _ | exact Kd.S_nil _ _ _ _ _, by first | exact Kd.R_nil _ _ _ _ _ | exact Kd.N_nil _ _ _ _ _ | exact Kd.V_nil _ _ _ _ _ | exact Kd.Q_nil _ _ _ _ _ | exact Kd.S_nil _ _ _ _ _, lw5_ HB⟩

end Go.Proofs.Ytpidlhpjcjaojaa.PFnRankUndoesSelect
