-- Laid by a program of this session: the print of the kit with additions of ours (wip/tools/patchprint.py). Nothing of it is trusted: Lean checks it.
import Derived.Test.YtkmhjgejficclaaPFnTreesAreParenthesesx0
import Derived.Test.YtkmhjgejficclaaPFnTreesAreParenthesesx4
import Derived.Test.YtkmhjgejficclaaPFnTreesAreParenthesesx5
import Derived.Test.YtkmhjgejficclaaPFnTreesAreParenthesesx7
namespace Go.Proofs.Ytkmhjgejficclaa.PFnTreesAreParentheses
open Go.RowKit Go.Proofs.YtkmhjgejficclaaW.PrintWords Go.Proofs.YtkmhjgejficclaaW.PrintLast Go.Proofs.YtkmhjgejficclaaW.PrintMore
attribute [local go_sem] max2_int min2_int max_two min_two max_three min_three max_four min_four   -- for this text's walks alone
set_option linter.unusedVariables false
set_option linter.unusedSimpArgs false

/-! ### impl_Select1: function 61 -/
def impl_Select1.f (k : Nat) (a0_0 : Int) (l0_1 : List Int) (l0_2 : List Int) (l0_3 : List Int) (a1 : Int) : Option (Int × Bool) := (impl_selected.f k a0_0 l0_1 l0_2 l0_3 a1 true).bind fun bt349 => (some (bt349.1, bt349.2))
theorem impl_Select1.mono : ∀ a0 a1 a2 a3 a4 k, LeO (impl_Select1.f k a0 a1 a2 a3 a4) (impl_Select1.f (k + 1) a0 a1 a2 a3 a4) := by
  intro a0 a1 a2 a3 a4 k
  unfold impl_Select1.f
  repeat' first
      | (with_reducible exact impl_selected.mono _ _ _ _ _ _ _)
      | (with_reducible exact LeO.refl _)
      | (with_reducible exact LeO.none _)
      | (with_reducible refine LeO.ite ?_ ?_)
      | (with_reducible refine LeO.bind ?_ (fun _ => ?_))
      | exact impl_selected.mono _ _ _ _ _ _ _
      | exact LeO.none _
      | refine LeO.ite ?_ ?_
      | refine LeO.bind ?_ (fun _ => ?_)
set_option maxHeartbeats 8000000 in
set_option maxRecDepth 100000 in
theorem impl_Select1.calls (k : Nat) (a0_0 : Int) (A0_1 : Option Addr) (c0_1 : Nat) (l0_1 : List Int) (A0_2 : Option Addr) (c0_2 : Nat) (l0_2 : List Int) (A0_3 : Option Addr) (c0_3 : Nat) (l0_3 : List Int) (a1 : Int) (r1 : Int) (r2 : Bool) (w : World) (hr0_1 : Kd.C (Kd.int .i64) w A0_1 l0_1.length l0_1) (hc0_1 : l0_1.length ≤ c0_1) (hr0_2 : Kd.C (Kd.int .i64) w A0_2 l0_2.length l0_2) (hc0_2 : l0_2.length ≤ c0_2) (hr0_3 : Kd.C (Kd.int .i64) w A0_3 l0_3.length l0_3) (hc0_3 : l0_3.length ≤ c0_3) (h : impl_Select1.f k a0_0 l0_1 l0_2 l0_3 a1 = some (r1, r2)) :
    Calls Try.prog 61 #[.agg #[.int .i64 a0_0, .slice A0_1 l0_1.length c0_1, .slice A0_2 l0_2.length c0_2, .slice A0_3 l0_3.length c0_3], .int .i64 a1] w fun e w' => e = .returned (.tuple #[.int .i64 r1, .bool r2]) ∧ Below w.heap.size w w' := by
  have hu48 := Try.underlying48
  have HR0_1 := Aside0.mk hr0_1
  have HC0_1 := Aside0.mk hc0_1
  clear hr0_1 hc0_1
  have HR0_2 := Aside0.mk hr0_2
  have HC0_2 := Aside0.mk hc0_2
  clear hr0_2 hc0_2
  have HR0_3 := Aside0.mk hr0_3
  have HC0_3 := Aside0.mk hc0_3
  clear hr0_3 hc0_3
  have HB := Aside0.mk (Below.refl w.heap.size w)
  have H : ((impl_selected.f k a0_0 l0_1 l0_2 l0_3 a1 true).bind fun bt349 => (some (bt349.1, bt349.2))) = some (r1, r2) := h
  clear h
  replace H := Option.bind_eq_some_iff.mp H
  obtain ⟨⟨t349, t350⟩, A30, H⟩ := H
  replace H : (some (t349, t350)) = some (r1, r2) := H
  have A3 := Aside0.mk A30
  clear A30
  simp only [Option.some.injEq, Prod.mk.injEq] at H
  obtain ⟨rfl, rfl⟩ := H
  go_enter Try.func61, Try.ntmps61
  go_wp2_with (first | ((with_reducible refine gate_dst (N := 2) rfl ?_); refine box_event ?hg (N := 2) ?hd (cs := #[.int .i64 a0_0, .slice A0_1 l0_1.length c0_1, .slice A0_2 l0_2.length c0_2, .slice A0_3 l0_3.length c0_3]) (t := 48) ?hr ?_; (case hd => rfl); (case hg => rfl); (case hr => first | (go_simp; done) | (go_simp; rfl)); intro gb348 hg w4 hbox hb; have n0_ := Aside0.mk (below_step (by repeat (first | (with_reducible first | exact HB.out | apply below_alloc | apply pw_below_drewN | apply below_drew1) | exact HB.out)) hb); have n1_ := Aside0.mk (hbox); have n2_ := Aside0.mk ((by rw [hg]; exact (below_size (by repeat (first | (with_reducible first | exact HB.out | apply below_alloc | apply pw_below_drewN | apply below_drew1) | exact HB.out))) : w.heap.size ≤ gb348)); have n3_ := Aside0.mk ((by rw [hg]; exact (below_size (by repeat (first | (with_reducible first | exact HB.out | apply below_alloc | apply pw_below_drewN | apply below_drew1) | exact HB.out))) : w.heap.size ≤ gb348)); clear HB; have HB := n0_; have BK348 := n1_; have GW348 := n2_; have GE348 := n3_; clear n0_ n1_ n2_ n3_; clear hb hbox hg; have hcz5_0 : w4.cell? ⟨gb348, 0, none⟩ = some (.int .i64 a0_0) := (blk_cell BK348.out 0).trans rfl; have hcz5_1 : w4.cell? ⟨gb348, 1, none⟩ = some (.slice A0_1 l0_1.length c0_1) := (blk_cell BK348.out 1).trans rfl; have hcz5_2 : w4.cell? ⟨gb348, 2, none⟩ = some (.slice A0_2 l0_2.length c0_2) := (blk_cell BK348.out 2).trans rfl; have hcz5_3 : w4.cell? ⟨gb348, 3, none⟩ = some (.slice A0_3 l0_3.length c0_3) := (blk_cell BK348.out 3).trans rfl; have hfz5_0 := blk_frozen BK348.out 0; have hfz5_1 := blk_frozen BK348.out 1; have hfz5_2 := blk_frozen BK348.out 2; have hfz5_3 := blk_frozen BK348.out 3) | ((with_reducible refine gate_callee (f := 112) rfl ?_); refine goesL_ (some 8) rfl rfl Try.func112 (by kernel_rfl) rfl #[.agg #[.int .i64 a0_0, .slice A0_1 l0_1.length c0_1, .slice A0_2 l0_2.length c0_2, .slice A0_3 l0_3.length c0_3], .int .i64 a1, .bool true] rfl (by (try simp only [List.map_toArray, List.map_cons, List.map_nil]); first | done | rfl | (simp only [List.length_drop, List.length_take]; rfl)) ?_; (with_reducible refine (impl_selected.calls k a0_0 _ _ l0_1 _ _ l0_2 _ _ l0_3 a1 true t349 t350 _ ?side1 ?side2 ?side3 ?side4 ?side5 ?side6 A3.out).mono ?_); (case side1 => repeat (first | exact (Kd.C_below HR0_1.out HB.out) | (with_reducible refine Kd.C_alloc ?_ _) | (with_reducible refine Kd.C_drewN ?_ _) | (with_reducible refine Kd.C_drew ?_))); (case side2 => exact HC0_1.out); (case side3 => repeat (first | exact (Kd.C_below HR0_2.out HB.out) | (with_reducible refine Kd.C_alloc ?_ _) | (with_reducible refine Kd.C_drewN ?_ _) | (with_reducible refine Kd.C_drew ?_))); (case side4 => exact HC0_2.out); (case side5 => repeat (first | exact (Kd.C_below HR0_3.out HB.out) | (with_reducible refine Kd.C_alloc ?_ _) | (with_reducible refine Kd.C_drewN ?_ _) | (with_reducible refine Kd.C_drew ?_))); (case side6 => exact HC0_3.out); rintro e w6 ⟨rfl, hb⟩; refine ⟨_, rfl, ?_⟩; have n0_ := Aside0.mk (blk_below (g := gb348) (o := .cells #[.int .i64 a0_0, .slice A0_1 l0_1.length c0_1, .slice A0_2 l0_2.length c0_2, .slice A0_3 l0_3.length c0_3] 48 (0, 0)) (by (with_reducible repeat (first | refine blk_drewN ?_ _ | refine blk_drew ?_ | refine blk_alloc ?_ _)); exact BK348.out) hb); have n1_ := Aside0.mk (below_step (by repeat (first | (with_reducible first | exact HB.out | apply below_alloc | apply pw_below_drewN | apply below_drew1 | refine below_set ?_ GE348.out) | exact HB.out)) hb); clear BK348; clear HB; have BK348 := n0_; have HB := n1_; clear n0_ n1_; (try clear hb); (try clear hb2); (try clear hk); (try clear hi)))
  go_ret2
  exact ⟨by first | rfl | (simp [errW_none, errW_some] <;> rfl) | (simp [*, errW_none, errW_some] <;> rfl), by repeat (first | (with_reducible first | exact HB.out | apply below_alloc | apply pw_below_drewN | apply below_drew1 | refine below_set ?_ GE348.out) | exact HB.out)⟩

theorem am19_ {p : Prop} (h : p) : Aside0 p := ⟨h⟩
theorem lm19_ {P : Prop} (h : P := by (try simp only [List.map_toArray, List.map_cons, List.map_nil]); first | done | rfl | (simp only [List.length_drop, List.length_take]; rfl)) : P := h
theorem lc19_ {P Q : Prop} (h : P) (f : P → Q := by intro h_; repeat (first | exact h_ | (with_reducible refine Kd.C_alloc ?_ _) | (with_reducible refine Kd.C_drewN ?_ _) | (with_reducible refine Kd.C_drew ?_))) : Q := f h
theorem lt19_ {P Q : Prop} (h : P) (f : P → Q := by intro h_; (with_reducible repeat (first | apply Kd.R_alloc | apply Kd.R_drewN | apply Kd.R_drew)); exact h_) : Q := f h
theorem lf19_ {P Q : Prop} (h : Aside0 P) (f : P → Q := by intro h_; (with_reducible repeat (first | apply Kd.R_alloc | apply Kd.R_drewN | apply Kd.R_drew)); exact h_) : Q := f h.out
theorem lb19_ {P Q : Prop} (h : Aside0 P) (f : P → Q := by intro h_; (with_reducible repeat (first | refine blk_drewN ?_ _ | refine blk_drew ?_ | refine blk_alloc ?_ _)); exact h_) : Q := f h.out
theorem lw19_ {P Q : Prop} (h : Aside0 P) (f : P → Q := by intro h_; repeat (first | (with_reducible first | exact h_ | apply below_alloc | apply pw_below_drewN | apply below_drew1 | refine below_set ?_ (Aside0.out (by assumption))) | exact h_)) : Q := f h.out
/-! ### impl_partner: function 138 -/
def impl_partner.j0 : Nat → Int → Bool → Int → List Int → Option (Int × Bool)
 | 0, _, _, _, _ => none
 | k + 1, x1, x26, x352000, x352001 => if x26 = true then (some (0, false)) else ((impl_partners.f k x352000 x352001).bind fun bt355 => (if bt355.2 = true then (if 0 ≤ x1 then (if x1 < (bt355.1.length : Int) then (some (rd bt355.1 x1, true)) else (none)) else (none)) else (some (0, false))))
def impl_partner.f (k : Nat) (a0_0 : Int) (l0_1 : List Int) (a1 : Int) (a2 : Bool) : Option (Int × Bool) := (impl_IsBits.f k a0_0 l0_1).bind fun t352 => (if t352 = true then ((impl_in.f a1 0 (wrap64 (a0_0 - 1))).bind fun t353 => (if t353 = true then ((impl_Bits_at.f a0_0 l0_1 a1).bind fun t354 => (impl_partner.j0 k a1 (t354 != a2) a0_0 l0_1)) else (impl_partner.j0 k a1 true a0_0 l0_1))) else (impl_partner.j0 k a1 true a0_0 l0_1))
theorem impl_partner.mono_l : ∀ k, (∀ y0 y1 y2 y3, LeO (impl_partner.j0 k y0 y1 y2 y3) (impl_partner.j0 (k + 1) y0 y1 y2 y3))
 | 0 => fun _ _ _ _ r h => by simp [impl_partner.j0] at h
 | k + 1 => by
  have ih0 := impl_partner.mono_l k
  ·intro y0 y1 y2 y3
   unfold impl_partner.j0
   repeat' first
   | (with_reducible exact ih0 _ _ _ _)
   | (with_reducible exact impl_IsBits.mono _ _ _)
   | (with_reducible exact impl_partners.mono _ _ _)
   | (with_reducible exact LeO.refl _)
   | (with_reducible exact LeO.none _)
   | (with_reducible refine LeO.ite ?_ ?_)
   | (with_reducible refine LeO.bind ?_ (fun _ => ?_))
   | exact ih0 _ _ _ _
   | exact impl_IsBits.mono _ _ _
   | exact impl_partners.mono _ _ _
   | exact LeO.none _
   | refine LeO.ite ?_ ?_
   | refine LeO.bind ?_ (fun _ => ?_)
theorem impl_partner.mono : ∀ a0 a1 a2 a3 k, LeO (impl_partner.f k a0 a1 a2 a3) (impl_partner.f (k + 1) a0 a1 a2 a3) := by
 intro a0 a1 a2 a3 k
 have ih0 := impl_partner.mono_l k
 unfold impl_partner.f
 repeat' first
   | (with_reducible exact ih0 _ _ _ _)
   | (with_reducible exact impl_IsBits.mono _ _ _)
   | (with_reducible exact impl_partners.mono _ _ _)
   | (with_reducible exact LeO.refl _)
   | (with_reducible exact LeO.none _)
   | (with_reducible refine LeO.ite ?_ ?_)
   | (with_reducible refine LeO.bind ?_ (fun _ => ?_))
   | exact ih0 _ _ _ _
   | exact impl_IsBits.mono _ _ _
   | exact impl_partners.mono _ _ _
   | exact LeO.none _
   | refine LeO.ite ?_ ?_
   | refine LeO.bind ?_ (fun _ => ?_)
set_option maxHeartbeats 8000000 in
set_option maxRecDepth 100000 in
theorem impl_partner.calls (k : Nat) (a0_0 : Int) (A0_1 : Option Addr) (c0_1 : Nat) (l0_1 : List Int) (a1 : Int) (a2 : Bool) (r1 : Int) (r2 : Bool) (w : World) (hr0_1 : Kd.C (Kd.int .i64) w A0_1 l0_1.length l0_1) (hc0_1 : l0_1.length ≤ c0_1) (h : impl_partner.f k a0_0 l0_1 a1 a2 = some (r1, r2)) :
  Calls Try.prog 138 #[.agg #[.int .i64 a0_0, .slice A0_1 l0_1.length c0_1], .int .i64 a1, .bool a2] w fun e w' => e = .returned (.tuple #[.int .i64 r1, .bool r2]) ∧ Below w.heap.size w w' := by
 have hu26 := Try.underlying26
 have HR0_1 := am19_ hr0_1
 have HC0_1 := am19_ hc0_1
 clear hr0_1 hc0_1
 have HB := am19_ (Below.refl w.heap.size w)
 have H : ((impl_IsBits.f k a0_0 l0_1).bind fun t352 => (if t352 = true then ((impl_in.f a1 0 (wrap64 (a0_0 - 1))).bind fun t353 => (if t353 = true then ((impl_Bits_at.f a0_0 l0_1 a1).bind fun t354 => (impl_partner.j0 k a1 (t354 != a2) a0_0 l0_1)) else (impl_partner.j0 k a1 true a0_0 l0_1))) else (impl_partner.j0 k a1 true a0_0 l0_1))) = some (r1, r2) := h
 clear h
 have HC4 := am19_ H
 clear H
 go_enter Try.func138, Try.ntmps138
 go_upto_region 1 with (first | ((with_reducible refine gate_dst (N := 3) rfl ?_); refine box_event ?hg (N := 3) ?hd (cs := #[.int .i64 a0_0, .slice A0_1 l0_1.length c0_1]) (t := 26) ?hr ?_; (case hd => rfl); (case hg => rfl); (case hr => first | (go_simp; done) | (go_simp; rfl)); intro gb351 hg w5 hbox hb; have n0_ := am19_ (below_step (lw19_ HB) hb); have n1_ := am19_ (hbox); have n2_ := am19_ ((by rw [hg]; exact (below_size (lw19_ HB)) : w.heap.size ≤ gb351)); have n3_ := am19_ ((by rw [hg]; exact (below_size (lw19_ HB)) : w.heap.size ≤ gb351)); clear HB; have HB := n0_; have BK351 := n1_; have GW351 := n2_; have GE351 := n3_; clear n0_ n1_ n2_ n3_; clear hb hbox hg))
 (try simp only [Act.put, List.setIfInBounds_toArray, List.set_cons_zero, List.set_cons_succ])
 go_cut [26] (fun v26 wc => ∃ (kq : Nat) (x26_3 : Bool), v26 = .bool x26_3 ∧ Aside0 (impl_partner.j0 kq a1 x26_3 a0_0 l0_1 = some (r1, r2)) ∧ Aside0 (kq ≤ k) ∧ Aside0 (wc.heap[gb351]? = some (.cells #[.int .i64 a0_0, (.slice A0_1 l0_1.length c0_1)] 26 (0, 0))) ∧ Aside0 (Below w.heap.size w wc))
 case first =>
  have H := HC4.out
  clear HC4
  replace H := Option.bind_eq_some_iff.mp H
  obtain ⟨t352, A60, H⟩ := H
  replace H : (if t352 = true then ((impl_in.f a1 0 (wrap64 (a0_0 - 1))).bind fun t353 => (if t353 = true then ((impl_Bits_at.f a0_0 l0_1 a1).bind fun t354 => (impl_partner.j0 k a1 (t354 != a2) a0_0 l0_1)) else (impl_partner.j0 k a1 true a0_0 l0_1))) else (impl_partner.j0 k a1 true a0_0 l0_1)) = some (r1, r2) := H
  have A6 := am19_ A60
  clear A60
  by_cases c7 : t352 = true
  ·subst c7
   have H1 : ((impl_in.f a1 0 (wrap64 (a0_0 - 1))).bind fun t353 => (if t353 = true then ((impl_Bits_at.f a0_0 l0_1 a1).bind fun t354 => (impl_partner.j0 k a1 (t354 != a2) a0_0 l0_1)) else (impl_partner.j0 k a1 true a0_0 l0_1))) = some (r1, r2) := by rw [if_pos rfl] at H; exact H
   clear H
   have H := H1
   clear H1
   replace H := Option.bind_eq_some_iff.mp H
   obtain ⟨t353, A80, H⟩ := H
   replace H : (if t353 = true then ((impl_Bits_at.f a0_0 l0_1 a1).bind fun t354 => (impl_partner.j0 k a1 (t354 != a2) a0_0 l0_1)) else (impl_partner.j0 k a1 true a0_0 l0_1)) = some (r1, r2) := H
   have A8 := am19_ A80
   clear A80
   by_cases c9 : t353 = true
   ·subst c9
    have H1 : ((impl_Bits_at.f a0_0 l0_1 a1).bind fun t354 => (impl_partner.j0 k a1 (t354 != a2) a0_0 l0_1)) = some (r1, r2) := by rw [if_pos rfl] at H; exact H
    clear H
    have H := H1
    clear H1
    replace H := Option.bind_eq_some_iff.mp H
    obtain ⟨t354, A100, H⟩ := H
    replace H : (impl_partner.j0 k a1 (t354 != a2) a0_0 l0_1) = some (r1, r2) := H
    have A10 := am19_ A100
    clear A100
    have H' := am19_ H
    clear H
    have hcz11_0 : w5.cell? ⟨gb351, 0, none⟩ = some (.int .i64 a0_0) := (blk_cell BK351.out 0).trans rfl
    have hcz11_1 : w5.cell? ⟨gb351, 1, none⟩ = some (.slice A0_1 l0_1.length c0_1) := (blk_cell BK351.out 1).trans rfl
    have hfz11_0 := blk_frozen BK351.out 0
    have hfz11_1 := blk_frozen BK351.out 1
    go_wp2_with (first | ((with_reducible refine gate_callee (f := 73) rfl ?_); refine goesL_ (some 11) rfl rfl Try.func73 (by kernel_rfl) rfl #[.agg #[.int .i64 a0_0, .slice A0_1 l0_1.length c0_1]] rfl lm19_ ?_; (with_reducible refine (impl_IsBits.calls k a0_0 _ _ l0_1 true _ ?side1 ?side2 A6.out).mono ?_); (case side1 => exact lc19_ (Kd.C_below HR0_1.out HB.out)); (case side2 => exact HC0_1.out); rintro e w12 ⟨rfl, hb⟩; refine ⟨_, rfl, ?_⟩; have n0_ := am19_ (blk_below (g := gb351) (o := .cells #[.int .i64 a0_0, .slice A0_1 l0_1.length c0_1] 26 (0, 0)) (lb19_ BK351) hb); have n1_ := am19_ (below_step (lw19_ HB) hb); clear BK351; clear HB; have BK351 := n0_; have HB := n1_; clear n0_ n1_; (try clear hb); (try clear hb2); (try clear hk); (try clear hi); have hcz13_0 : w12.cell? ⟨gb351, 0, none⟩ = some (.int .i64 a0_0) := (blk_cell BK351.out 0).trans rfl; have hcz13_1 : w12.cell? ⟨gb351, 1, none⟩ = some (.slice A0_1 l0_1.length c0_1) := (blk_cell BK351.out 1).trans rfl; have hfz13_0 := blk_frozen BK351.out 0; have hfz13_1 := blk_frozen BK351.out 1) | (go_at_call 74; (with_reducible refine (impl_in.calls a1 0 (wrap64 (a0_0 - 1)) true _ A8.out).mono ?_); rintro e w' ⟨rfl, ⟨nd, rfl⟩⟩) | (go_at_call 82; (with_reducible refine (impl_Bits_at.calls gb351 [] 26 a0_0 A0_1 c0_1 l0_1 a1 t354 _ ?side1 ?side2 ?side3 A10.out).mono ?_); (case side1 => (with_reducible repeat (first | refine blk_drewN ?_ _ | refine blk_drew ?_ | refine blk_alloc ?_ _)); exact BK351.out); (case side2 => exact lc19_ (Kd.C_below HR0_1.out (lw19_ HB))); (case side3 => exact HC0_1.out); rintro e w14 ⟨rfl, hb⟩; have n0_ := am19_ (blk_below (g := gb351) (o := .cells #[.int .i64 a0_0, .slice A0_1 l0_1.length c0_1] 26 (0, 0)) (lb19_ BK351) hb); have n1_ := am19_ (below_step (lw19_ HB) hb); clear BK351; clear HB; have BK351 := n0_; have HB := n1_; clear n0_ n1_; (try clear hb); (try clear hb2); (try clear hk); (try clear hi)))
    go_meet
    case rel => exact ⟨_, ((t354 != a2)), (by first | rfl | (simp; done) | (simp [*]; done)), H', ⟨by first | omega | exact Nat.le_refl _⟩, ⟨lb19_ BK351⟩, ⟨lw19_ HB⟩⟩
   ·replace c9 := Bool.eq_false_iff.mpr c9
    subst c9
    have H1 : (impl_partner.j0 k a1 true a0_0 l0_1) = some (r1, r2) := by rw [if_neg (show ¬ (false = true) by decide)] at H; exact H
    clear H
    have H := H1
    clear H1
    have H' := am19_ H
    clear H
    have hcz15_0 : w5.cell? ⟨gb351, 0, none⟩ = some (.int .i64 a0_0) := (blk_cell BK351.out 0).trans rfl
    have hcz15_1 : w5.cell? ⟨gb351, 1, none⟩ = some (.slice A0_1 l0_1.length c0_1) := (blk_cell BK351.out 1).trans rfl
    have hfz15_0 := blk_frozen BK351.out 0
    have hfz15_1 := blk_frozen BK351.out 1
    go_wp2_with (first | ((with_reducible refine gate_callee (f := 73) rfl ?_); refine goesL_ (some 11) rfl rfl Try.func73 (by kernel_rfl) rfl #[.agg #[.int .i64 a0_0, .slice A0_1 l0_1.length c0_1]] rfl lm19_ ?_; (with_reducible refine (impl_IsBits.calls k a0_0 _ _ l0_1 true _ ?side1 ?side2 A6.out).mono ?_); (case side1 => exact lc19_ (Kd.C_below HR0_1.out HB.out)); (case side2 => exact HC0_1.out); rintro e w16 ⟨rfl, hb⟩; refine ⟨_, rfl, ?_⟩; have n0_ := am19_ (blk_below (g := gb351) (o := .cells #[.int .i64 a0_0, .slice A0_1 l0_1.length c0_1] 26 (0, 0)) (lb19_ BK351) hb); have n1_ := am19_ (below_step (lw19_ HB) hb); clear BK351; clear HB; have BK351 := n0_; have HB := n1_; clear n0_ n1_; (try clear hb); (try clear hb2); (try clear hk); (try clear hi); have hcz17_0 : w16.cell? ⟨gb351, 0, none⟩ = some (.int .i64 a0_0) := (blk_cell BK351.out 0).trans rfl; have hcz17_1 : w16.cell? ⟨gb351, 1, none⟩ = some (.slice A0_1 l0_1.length c0_1) := (blk_cell BK351.out 1).trans rfl; have hfz17_0 := blk_frozen BK351.out 0; have hfz17_1 := blk_frozen BK351.out 1) | (go_at_call 74; (with_reducible refine (impl_in.calls a1 0 (wrap64 (a0_0 - 1)) false _ A8.out).mono ?_); rintro e w' ⟨rfl, ⟨nd, rfl⟩⟩))
    go_meet
    case rel => exact ⟨_, (true), (by first | rfl | (simp; done) | (simp [*]; done)), H', ⟨by first | omega | exact Nat.le_refl _⟩, ⟨lb19_ BK351⟩, ⟨lw19_ HB⟩⟩
  ·replace c7 := Bool.eq_false_iff.mpr c7
   subst c7
   have H1 : (impl_partner.j0 k a1 true a0_0 l0_1) = some (r1, r2) := by rw [if_neg (show ¬ (false = true) by decide)] at H; exact H
   clear H
   have H := H1
   clear H1
   have H' := am19_ H
   clear H
   have hcz18_0 : w5.cell? ⟨gb351, 0, none⟩ = some (.int .i64 a0_0) := (blk_cell BK351.out 0).trans rfl
   have hcz18_1 : w5.cell? ⟨gb351, 1, none⟩ = some (.slice A0_1 l0_1.length c0_1) := (blk_cell BK351.out 1).trans rfl
   have hfz18_0 := blk_frozen BK351.out 0
   have hfz18_1 := blk_frozen BK351.out 1
   go_wp2_with (first | ((with_reducible refine gate_callee (f := 73) rfl ?_); refine goesL_ (some 11) rfl rfl Try.func73 (by kernel_rfl) rfl #[.agg #[.int .i64 a0_0, .slice A0_1 l0_1.length c0_1]] rfl lm19_ ?_; (with_reducible refine (impl_IsBits.calls k a0_0 _ _ l0_1 false _ ?side1 ?side2 A6.out).mono ?_); (case side1 => exact lc19_ (Kd.C_below HR0_1.out HB.out)); (case side2 => exact HC0_1.out); rintro e w19 ⟨rfl, hb⟩; refine ⟨_, rfl, ?_⟩; have n0_ := am19_ (blk_below (g := gb351) (o := .cells #[.int .i64 a0_0, .slice A0_1 l0_1.length c0_1] 26 (0, 0)) (lb19_ BK351) hb); have n1_ := am19_ (below_step (lw19_ HB) hb); clear BK351; clear HB; have BK351 := n0_; have HB := n1_; clear n0_ n1_; (try clear hb); (try clear hb2); (try clear hk); (try clear hi)))
   go_meet
   case rel => exact ⟨_, (true), (by first | rfl | (simp; done) | (simp [*]; done)), H', ⟨by first | omega | exact Nat.le_refl _⟩, ⟨lb19_ BK351⟩, ⟨lw19_ HB⟩⟩
 case rest =>
  clear HC4
  try clear c1
  try clear p2
  try clear p6
  try clear c7
  try clear c9
  try clear c13
  try clear hcz11_0
  try clear hcz11_1
  try clear hcz13_0
  try clear hcz13_1
  try clear hcz15_0
  try clear hcz15_1
  try clear hcz17_0
  try clear hcz17_1
  try clear hcz18_0
  try clear hcz18_1
  try clear hfz11_0
  try clear hfz11_1
  try clear hfz13_0
  try clear hfz13_1
  try clear hfz15_0
  try clear hfz15_1
  try clear hfz17_0
  try clear hfz17_1
  try clear hfz18_0
  try clear hfz18_1
  obtain ⟨kq, x26_3, rfl, HA, HJ3, BK351, HB⟩ := hcut
  cases kq with
  | zero => exact absurd HA.out (by simp [impl_partner.j0])
  | succ kj3 =>
   have H := HA.out
   clear HA
   simp only [impl_partner.j0] at H
   by_cases c20 : x26_3 = true
   ·subst c20
    have H1 : (some (0, false)) = some (r1, r2) := by rw [if_pos rfl] at H; exact H
    clear H
    have H := H1
    clear H1
    simp only [Option.some.injEq, Prod.mk.injEq] at H
    obtain ⟨rfl, rfl⟩ := H
    go_wp2
    go_ret2
    exact ⟨by first | rfl | (simp [errW_none, errW_some] <;> rfl) | (simp [*, errW_none, errW_some] <;> rfl), lw19_ HB⟩
   ·replace c20 := Bool.eq_false_iff.mpr c20
    subst c20
    have H1 : ((impl_partners.f kj3 a0_0 l0_1).bind fun bt355 => (if bt355.2 = true then (if 0 ≤ a1 then (if a1 < (bt355.1.length : Int) then (some (rd bt355.1 a1, true)) else (none)) else (none)) else (some (0, false)))) = some (r1, r2) := by rw [if_neg (show ¬ (false = true) by decide)] at H; exact H
    clear H
    have H := H1
    clear H1
    replace H := Option.bind_eq_some_iff.mp H
    obtain ⟨⟨t355, t358⟩, A210, H⟩ := H
    replace H : (if t358 = true then (if 0 ≤ a1 then (if a1 < (t355.length : Int) then (some (rd t355 a1, true)) else (none)) else (none)) else (some (0, false))) = some (r1, r2) := H
    have A21 := am19_ A210
    clear A210
    by_cases c22 : t358 = true
    ·subst c22
     have H1 : (if 0 ≤ a1 then (if a1 < (t355.length : Int) then (some (rd t355 a1, true)) else (none)) else (none)) = some (r1, r2) := by rw [if_pos rfl] at H; exact H
     clear H
     have H := H1
     clear H1
     by_cases c23 : 0 ≤ a1
     ·rw [if_pos c23] at H
      have c23b0 : decide (0 ≤ a1) = true := decide_eq_true c23
      clear c23
      by_cases c24 : a1 < (t355.length : Int)
      ·rw [if_pos c24] at H
       have c24b0 : decide (a1 < (t355.length : Int)) = true := decide_eq_true c24
       clear c24
       simp only [Option.some.injEq, Prod.mk.injEq] at H
       obtain ⟨rfl, rfl⟩ := H
       have hcz25_0 : wc.cell? ⟨gb351, 0, none⟩ = some (.int .i64 a0_0) := (blk_cell BK351.out 0).trans rfl
       have hcz25_1 : wc.cell? ⟨gb351, 1, none⟩ = some (.slice A0_1 l0_1.length c0_1) := (blk_cell BK351.out 1).trans rfl
       have hfz25_0 := blk_frozen BK351.out 0
       have hfz25_1 := blk_frozen BK351.out 1
       go_wp2_with (first | ((with_reducible refine gate_callee (f := 133) rfl ?_); refine goesL_ (some 29) rfl rfl Try.func133 (by kernel_rfl) rfl #[.agg #[.int .i64 a0_0, .slice A0_1 l0_1.length c0_1]] rfl lm19_ ?_; (with_reducible refine (impl_partners.calls kj3 a0_0 _ _ l0_1 t355 true _ ?side1 ?side2 A21.out).mono ?_); (case side1 => exact lc19_ (Kd.C_below HR0_1.out HB.out)); (case side2 => exact HC0_1.out); rintro e w26 ⟨v356, rfl, ho0, hb⟩; refine ⟨_, rfl, ?_⟩; have n0_ := am19_ (Kd.R_lower ho0 (below_size (lw19_ HB))); have n1_ := am19_ (blk_below (g := gb351) (o := .cells #[.int .i64 a0_0, .slice A0_1 l0_1.length c0_1] 26 (0, 0)) (lb19_ BK351) hb); have n2_ := am19_ (below_step (lw19_ HB) hb); clear BK351; clear HB; have HO357 := n0_; have BK351 := n1_; have HB := n2_; clear n0_ n1_ n2_; (try clear hb); (try clear hb2); (try clear hk); (try clear hi); (try clear ho0); obtain ⟨Ao27, co27, eo27⟩ := Kd.R_slice HO357.out; subst eo27; have p359 : 0 ≤ (a1 : Int) := of_decide_eq_true (by first | (with_reducible assumption) | assumption); have q359 : a1 < (t355.length : Int) := of_decide_eq_true (by first | (with_reducible assumption) | assumption); obtain ⟨ad359, e359, hx359_0⟩ := Kd.at_int (Kd.R_reads' HO357.out).2.2 a1 p359 q359; cases e359; replace p359 := eq_true p359; replace q359 := eq_true q359))
       go_ret2
       exact ⟨by first | rfl | (simp [errW_none, errW_some] <;> rfl) | (simp [*, errW_none, errW_some] <;> rfl), lw19_ HB⟩
      ·rw [if_neg c24] at H
       exact absurd H (by simp)
     ·rw [if_neg c23] at H
      exact absurd H (by simp)
    ·replace c22 := Bool.eq_false_iff.mpr c22
     subst c22
     have H1 : (some (0, false)) = some (r1, r2) := by rw [if_neg (show ¬ (false = true) by decide)] at H; exact H
     clear H
     have H := H1
     clear H1
     simp only [Option.some.injEq, Prod.mk.injEq] at H
     obtain ⟨rfl, rfl⟩ := H
     have hcz28_0 : wc.cell? ⟨gb351, 0, none⟩ = some (.int .i64 a0_0) := (blk_cell BK351.out 0).trans rfl
     have hcz28_1 : wc.cell? ⟨gb351, 1, none⟩ = some (.slice A0_1 l0_1.length c0_1) := (blk_cell BK351.out 1).trans rfl
     have hfz28_0 := blk_frozen BK351.out 0
     have hfz28_1 := blk_frozen BK351.out 1
     go_wp2_with (first | ((with_reducible refine gate_callee (f := 133) rfl ?_); refine goesL_ (some 29) rfl rfl Try.func133 (by kernel_rfl) rfl #[.agg #[.int .i64 a0_0, .slice A0_1 l0_1.length c0_1]] rfl lm19_ ?_; (with_reducible refine (impl_partners.calls kj3 a0_0 _ _ l0_1 t355 false _ ?side1 ?side2 A21.out).mono ?_); (case side1 => exact lc19_ (Kd.C_below HR0_1.out HB.out)); (case side2 => exact HC0_1.out); rintro e w29 ⟨v356, rfl, ho0, hb⟩; refine ⟨_, rfl, ?_⟩; have n0_ := am19_ (Kd.R_lower ho0 (below_size (lw19_ HB))); have n1_ := am19_ (blk_below (g := gb351) (o := .cells #[.int .i64 a0_0, .slice A0_1 l0_1.length c0_1] 26 (0, 0)) (lb19_ BK351) hb); have n2_ := am19_ (below_step (lw19_ HB) hb); clear BK351; clear HB; have HO357 := n0_; have BK351 := n1_; have HB := n2_; clear n0_ n1_ n2_; (try clear hb); (try clear hb2); (try clear hk); (try clear hi); (try clear ho0)))
     go_ret2
     exact ⟨by first | rfl | (simp [errW_none, errW_some] <;> rfl) | (simp [*, errW_none, errW_some] <;> rfl), lw19_ HB⟩

/-! ### impl_CloseOf: function 134 -/
def impl_CloseOf.f (k : Nat) (a0_0 : Int) (l0_1 : List Int) (a1 : Int) : Option (Int × Bool) := (impl_partner.f k a0_0 l0_1 a1 true).bind fun bt361 => (some (bt361.1, bt361.2))
theorem impl_CloseOf.mono : ∀ a0 a1 a2 k, LeO (impl_CloseOf.f k a0 a1 a2) (impl_CloseOf.f (k + 1) a0 a1 a2) := by
  intro a0 a1 a2 k
  unfold impl_CloseOf.f
  repeat' first
      | (with_reducible exact impl_partner.mono _ _ _ _ _)
      | (with_reducible exact LeO.refl _)
      | (with_reducible exact LeO.none _)
      | (with_reducible refine LeO.ite ?_ ?_)
      | (with_reducible refine LeO.bind ?_ (fun _ => ?_))
      | exact impl_partner.mono _ _ _ _ _
      | exact LeO.none _
      | refine LeO.ite ?_ ?_
      | refine LeO.bind ?_ (fun _ => ?_)
set_option maxHeartbeats 8000000 in
set_option maxRecDepth 100000 in
theorem impl_CloseOf.calls (k : Nat) (a0_0 : Int) (A0_1 : Option Addr) (c0_1 : Nat) (l0_1 : List Int) (a1 : Int) (r1 : Int) (r2 : Bool) (w : World) (hr0_1 : Kd.C (Kd.int .i64) w A0_1 l0_1.length l0_1) (hc0_1 : l0_1.length ≤ c0_1) (h : impl_CloseOf.f k a0_0 l0_1 a1 = some (r1, r2)) :
    Calls Try.prog 134 #[.agg #[.int .i64 a0_0, .slice A0_1 l0_1.length c0_1], .int .i64 a1] w fun e w' => e = .returned (.tuple #[.int .i64 r1, .bool r2]) ∧ Below w.heap.size w w' := by
  have hu26 := Try.underlying26
  have HR0_1 := Aside0.mk hr0_1
  have HC0_1 := Aside0.mk hc0_1
  clear hr0_1 hc0_1
  have HB := Aside0.mk (Below.refl w.heap.size w)
  have H : ((impl_partner.f k a0_0 l0_1 a1 true).bind fun bt361 => (some (bt361.1, bt361.2))) = some (r1, r2) := h
  clear h
  replace H := Option.bind_eq_some_iff.mp H
  obtain ⟨⟨t361, t362⟩, A30, H⟩ := H
  replace H : (some (t361, t362)) = some (r1, r2) := H
  have A3 := Aside0.mk A30
  clear A30
  simp only [Option.some.injEq, Prod.mk.injEq] at H
  obtain ⟨rfl, rfl⟩ := H
  go_enter Try.func134, Try.ntmps134
  go_wp2_with (first | ((with_reducible refine gate_dst (N := 2) rfl ?_); refine box_event ?hg (N := 2) ?hd (cs := #[.int .i64 a0_0, .slice A0_1 l0_1.length c0_1]) (t := 26) ?hr ?_; (case hd => rfl); (case hg => rfl); (case hr => first | (go_simp; done) | (go_simp; rfl)); intro gb360 hg w4 hbox hb; have n0_ := Aside0.mk (below_step (by repeat (first | (with_reducible first | exact HB.out | apply below_alloc | apply pw_below_drewN | apply below_drew1) | exact HB.out)) hb); have n1_ := Aside0.mk (hbox); have n2_ := Aside0.mk ((by rw [hg]; exact (below_size (by repeat (first | (with_reducible first | exact HB.out | apply below_alloc | apply pw_below_drewN | apply below_drew1) | exact HB.out))) : w.heap.size ≤ gb360)); have n3_ := Aside0.mk ((by rw [hg]; exact (below_size (by repeat (first | (with_reducible first | exact HB.out | apply below_alloc | apply pw_below_drewN | apply below_drew1) | exact HB.out))) : w.heap.size ≤ gb360)); clear HB; have HB := n0_; have BK360 := n1_; have GW360 := n2_; have GE360 := n3_; clear n0_ n1_ n2_ n3_; clear hb hbox hg; have hcz5_0 : w4.cell? ⟨gb360, 0, none⟩ = some (.int .i64 a0_0) := (blk_cell BK360.out 0).trans rfl; have hcz5_1 : w4.cell? ⟨gb360, 1, none⟩ = some (.slice A0_1 l0_1.length c0_1) := (blk_cell BK360.out 1).trans rfl; have hfz5_0 := blk_frozen BK360.out 0; have hfz5_1 := blk_frozen BK360.out 1) | ((with_reducible refine gate_callee (f := 138) rfl ?_); refine goesL_ (some 8) rfl rfl Try.func138 (by kernel_rfl) rfl #[.agg #[.int .i64 a0_0, .slice A0_1 l0_1.length c0_1], .int .i64 a1, .bool true] rfl (by (try simp only [List.map_toArray, List.map_cons, List.map_nil]); first | done | rfl | (simp only [List.length_drop, List.length_take]; rfl)) ?_; (with_reducible refine (impl_partner.calls k a0_0 _ _ l0_1 a1 true t361 t362 _ ?side1 ?side2 A3.out).mono ?_); (case side1 => repeat (first | exact (Kd.C_below HR0_1.out HB.out) | (with_reducible refine Kd.C_alloc ?_ _) | (with_reducible refine Kd.C_drewN ?_ _) | (with_reducible refine Kd.C_drew ?_))); (case side2 => exact HC0_1.out); rintro e w6 ⟨rfl, hb⟩; refine ⟨_, rfl, ?_⟩; have n0_ := Aside0.mk (blk_below (g := gb360) (o := .cells #[.int .i64 a0_0, .slice A0_1 l0_1.length c0_1] 26 (0, 0)) (by (with_reducible repeat (first | refine blk_drewN ?_ _ | refine blk_drew ?_ | refine blk_alloc ?_ _)); exact BK360.out) hb); have n1_ := Aside0.mk (below_step (by repeat (first | (with_reducible first | exact HB.out | apply below_alloc | apply pw_below_drewN | apply below_drew1 | refine below_set ?_ GE360.out) | exact HB.out)) hb); clear BK360; clear HB; have BK360 := n0_; have HB := n1_; clear n0_ n1_; (try clear hb); (try clear hb2); (try clear hk); (try clear hi)))
  go_ret2
  exact ⟨by first | rfl | (simp [errW_none, errW_some] <;> rfl) | (simp [*, errW_none, errW_some] <;> rfl), by repeat (first | (with_reducible first | exact HB.out | apply below_alloc | apply pw_below_drewN | apply below_drew1 | refine below_set ?_ GE360.out) | exact HB.out)⟩

theorem am20_ {p : Prop} (h : p) : Aside0 p := ⟨h⟩
theorem lm20_ {P : Prop} (h : P := by (try simp only [List.map_toArray, List.map_cons, List.map_nil]); first | done | rfl | (simp only [List.length_drop, List.length_take]; rfl)) : P := h
theorem lc20_ {P Q : Prop} (h : P) (f : P → Q := by intro h_; repeat (first | exact h_ | (with_reducible refine Kd.C_alloc ?_ _) | (with_reducible refine Kd.C_drewN ?_ _) | (with_reducible refine Kd.C_drew ?_))) : Q := f h
theorem lt20_ {P Q : Prop} (h : P) (f : P → Q := by intro h_; (with_reducible repeat (first | apply Kd.R_alloc | apply Kd.R_drewN | apply Kd.R_drew)); exact h_) : Q := f h
theorem lf20_ {P Q : Prop} (h : Aside0 P) (f : P → Q := by intro h_; (with_reducible repeat (first | apply Kd.R_alloc | apply Kd.R_drewN | apply Kd.R_drew)); exact h_) : Q := f h.out
theorem lb20_ {P Q : Prop} (h : Aside0 P) (f : P → Q := by intro h_; (with_reducible repeat (first | refine blk_drewN ?_ _ | refine blk_drew ?_ | refine blk_alloc ?_ _)); exact h_) : Q := f h.out
theorem lw20_ {P Q : Prop} (h : Aside0 P) (f : P → Q := by intro h_; repeat (first | (with_reducible first | exact h_ | apply below_alloc | apply pw_below_drewN | apply below_drew1 | refine below_set ?_ (Aside0.out (by assumption))) | exact h_)) : Q := f h.out
/-! ### impl_enclosing: function 113 -/
def impl_enclosing.l0 : Nat → Int → List Int → List Int → Int → Int → Int → List Int → Option (List Int × Bool)
 | 0, _, _, _, _, _, _, _ => none
 | k + 1, x6, x8, x10, x26, x27, x364000, x364001 => if x27 < x26 then ((impl_Bits_at.f x364000 x364001 x27).bind fun t373 => (if t373 = true then (if 0 ≤ x27 then (if x27 < (x8.length : Int) then (if (rd x8 x27) > x6 then (if x10.length < 17592186044416 then (impl_enclosing.l0 k x6 x8 (x10 ++ [x27]) x26 (wrap64 (x27 + 1)) x364000 x364001) else (none)) else (impl_enclosing.l0 k x6 x8 x10 x26 (wrap64 (x27 + 1)) x364000 x364001)) else (none)) else (none)) else (impl_enclosing.l0 k x6 x8 x10 x26 (wrap64 (x27 + 1)) x364000 x364001))) else (some (x10, true))
def impl_enclosing.f (k : Nat) (a0_0 : Int) (l0_1 : List Int) (a1 : Int) : Option (List Int × Bool) := (impl_CloseOf.f k a0_0 l0_1 a1).bind fun bt364 => (if bt364.2 = true then ((impl_partners.f k a0_0 l0_1).bind fun bt366 => (impl_enclosing.l0 k bt364.1 bt366.1 (([] : List Int)) a1 0 a0_0 l0_1)) else (some (([] : List Int), false)))
theorem impl_enclosing.mono_l : ∀ k, (∀ y0 y1 y2 y3 y4 y5 y6, LeO (impl_enclosing.l0 k y0 y1 y2 y3 y4 y5 y6) (impl_enclosing.l0 (k + 1) y0 y1 y2 y3 y4 y5 y6))
 | 0 => fun _ _ _ _ _ _ _ r h => by simp [impl_enclosing.l0] at h
 | k + 1 => by
  have ih0 := impl_enclosing.mono_l k
  ·intro y0 y1 y2 y3 y4 y5 y6
   unfold impl_enclosing.l0
   repeat' first
   | (with_reducible exact ih0 _ _ _ _ _ _ _)
   | (with_reducible exact impl_CloseOf.mono _ _ _ _)
   | (with_reducible exact impl_partners.mono _ _ _)
   | (with_reducible exact LeO.refl _)
   | (with_reducible exact LeO.none _)
   | (with_reducible refine LeO.ite ?_ ?_)
   | (with_reducible refine LeO.bind ?_ (fun _ => ?_))
   | exact ih0 _ _ _ _ _ _ _
   | exact impl_CloseOf.mono _ _ _ _
   | exact impl_partners.mono _ _ _
   | exact LeO.none _
   | refine LeO.ite ?_ ?_
   | refine LeO.bind ?_ (fun _ => ?_)
theorem impl_enclosing.mono : ∀ a0 a1 a2 k, LeO (impl_enclosing.f k a0 a1 a2) (impl_enclosing.f (k + 1) a0 a1 a2) := by
 intro a0 a1 a2 k
 have ih0 := impl_enclosing.mono_l k
 unfold impl_enclosing.f
 repeat' first
   | (with_reducible exact ih0 _ _ _ _ _ _ _)
   | (with_reducible exact impl_CloseOf.mono _ _ _ _)
   | (with_reducible exact impl_partners.mono _ _ _)
   | (with_reducible exact LeO.refl _)
   | (with_reducible exact LeO.none _)
   | (with_reducible refine LeO.ite ?_ ?_)
   | (with_reducible refine LeO.bind ?_ (fun _ => ?_))
   | exact ih0 _ _ _ _ _ _ _
   | exact impl_CloseOf.mono _ _ _ _
   | exact impl_partners.mono _ _ _
   | exact LeO.none _
   | refine LeO.ite ?_ ?_
   | refine LeO.bind ?_ (fun _ => ?_)
set_option maxHeartbeats 8000000 in
set_option maxRecDepth 100000 in
theorem impl_enclosing.calls (k : Nat) (a0_0 : Int) (A0_1 : Option Addr) (c0_1 : Nat) (l0_1 : List Int) (a1 : Int) (r1 : List Int) (r2 : Bool) (w : World) (hr0_1 : Kd.C (Kd.int .i64) w A0_1 l0_1.length l0_1) (hc0_1 : l0_1.length ≤ c0_1) (h : impl_enclosing.f k a0_0 l0_1 a1 = some (r1, r2)) :
  Calls Try.prog 113 #[.agg #[.int .i64 a0_0, .slice A0_1 l0_1.length c0_1], .int .i64 a1] w fun e w' => ∃ v0_ : Value, e = .returned (.tuple #[v0_, .bool r2]) ∧ Kd.R (Kd.int .i64) 3 w' w.heap.size (fun _ => True) v0_ r1 ∧ Below w.heap.size w w' := by
 have hu26 := Try.underlying26
 have HR0_1 := am20_ hr0_1
 have HC0_1 := am20_ hc0_1
 clear hr0_1 hc0_1
 have HB := am20_ (Below.refl w.heap.size w)
 have H : ((impl_CloseOf.f k a0_0 l0_1 a1).bind fun bt364 => (if bt364.2 = true then ((impl_partners.f k a0_0 l0_1).bind fun bt366 => (impl_enclosing.l0 k bt364.1 bt366.1 (([] : List Int)) a1 0 a0_0 l0_1)) else (some (([] : List Int), false)))) = some (r1, r2) := h
 clear h
 replace H := Option.bind_eq_some_iff.mp H
 obtain ⟨⟨t364, t365⟩, A30, H⟩ := H
 replace H : (if t365 = true then ((impl_partners.f k a0_0 l0_1).bind fun bt366 => (impl_enclosing.l0 k t364 bt366.1 (([] : List Int)) a1 0 a0_0 l0_1)) else (some (([] : List Int), false))) = some (r1, r2) := H
 have A3 := am20_ A30
 clear A30
 by_cases c4 : t365 = true
 ·subst c4
  have H1 : ((impl_partners.f k a0_0 l0_1).bind fun bt366 => (impl_enclosing.l0 k t364 bt366.1 (([] : List Int)) a1 0 a0_0 l0_1)) = some (r1, r2) := by rw [if_pos rfl] at H; exact H
  clear H
  have H := H1
  clear H1
  replace H := Option.bind_eq_some_iff.mp H
  obtain ⟨⟨t366, t369⟩, A50, H⟩ := H
  replace H : (impl_enclosing.l0 k t364 t366 (([] : List Int)) a1 0 a0_0 l0_1) = some (r1, r2) := H
  have A5 := am20_ A50
  clear A50
  obtain ⟨y370, hy370⟩ : ∃ y_ : List Int, y_ = (([] : List Int)) := ⟨_, rfl⟩
  replace H : (impl_enclosing.l0 k t364 t366 y370 a1 0 a0_0 l0_1) = some (r1, r2) := by first | (rw [hy370]; with_reducible exact H) | (have H2_ := (Option.bind_some _ _).symm.trans H; rw [hy370]; with_reducible exact H2_) | (have H2_ := (Option.bind_some _ _).symm.trans H; with_reducible exact H2_) | with_reducible exact H | (rw [hy370]; exact H) | exact H
  have Ny370 := am20_ hy370
  clear hy370
  have H' := am20_ H
  clear H
  go_enter Try.func113, Try.ntmps113
  go_wp2_with (first | ((with_reducible refine gate_dst (N := 2) rfl ?_); refine box_event ?hg (N := 2) ?hd (cs := #[.int .i64 a0_0, .slice A0_1 l0_1.length c0_1]) (t := 26) ?hr ?_; (case hd => rfl); (case hg => rfl); (case hr => first | (go_simp; done) | (go_simp; rfl)); intro gb363 hg w6 hbox hb; have n0_ := am20_ (below_step (lw20_ HB) hb); have n1_ := am20_ (hbox); have n2_ := am20_ ((by rw [hg]; exact (below_size (lw20_ HB)) : w.heap.size ≤ gb363)); have n3_ := am20_ ((by rw [hg]; exact (below_size (lw20_ HB)) : w.heap.size ≤ gb363)); clear HB; have HB := n0_; have BK363 := n1_; have GW363 := n2_; have GE363 := n3_; clear n0_ n1_ n2_ n3_; clear hb hbox hg; have hcz7_0 : w6.cell? ⟨gb363, 0, none⟩ = some (.int .i64 a0_0) := (blk_cell BK363.out 0).trans rfl; have hcz7_1 : w6.cell? ⟨gb363, 1, none⟩ = some (.slice A0_1 l0_1.length c0_1) := (blk_cell BK363.out 1).trans rfl; have hfz7_0 := blk_frozen BK363.out 0; have hfz7_1 := blk_frozen BK363.out 1) | ((with_reducible refine gate_callee (f := 134) rfl ?_); refine goesL_ (some 15) rfl rfl Try.func134 (by kernel_rfl) rfl #[.agg #[.int .i64 a0_0, .slice A0_1 l0_1.length c0_1], .int .i64 a1] rfl lm20_ ?_; (with_reducible refine (impl_CloseOf.calls k a0_0 _ _ l0_1 a1 t364 true _ ?side1 ?side2 A3.out).mono ?_); (case side1 => exact lc20_ (Kd.C_below HR0_1.out HB.out)); (case side2 => exact HC0_1.out); rintro e w8 ⟨rfl, hb⟩; refine ⟨_, rfl, ?_⟩; have n0_ := am20_ (blk_below (g := gb363) (o := .cells #[.int .i64 a0_0, .slice A0_1 l0_1.length c0_1] 26 (0, 0)) (lb20_ BK363) hb); have n1_ := am20_ (below_step (lw20_ HB) hb); clear BK363; clear HB; have BK363 := n0_; have HB := n1_; clear n0_ n1_; (try clear hb); (try clear hb2); (try clear hk); (try clear hi); have hcz9_0 : w8.cell? ⟨gb363, 0, none⟩ = some (.int .i64 a0_0) := (blk_cell BK363.out 0).trans rfl; have hcz9_1 : w8.cell? ⟨gb363, 1, none⟩ = some (.slice A0_1 l0_1.length c0_1) := (blk_cell BK363.out 1).trans rfl; have hfz9_0 := blk_frozen BK363.out 0; have hfz9_1 := blk_frozen BK363.out 1) | ((with_reducible refine gate_callee (f := 133) rfl ?_); refine goesL_ (some 22) rfl rfl Try.func133 (by kernel_rfl) rfl #[.agg #[.int .i64 a0_0, .slice A0_1 l0_1.length c0_1]] rfl lm20_ ?_; (with_reducible refine (impl_partners.calls k a0_0 _ _ l0_1 t366 t369 _ ?side1 ?side2 A5.out).mono ?_); (case side1 => exact lc20_ (Kd.C_below HR0_1.out HB.out)); (case side2 => exact HC0_1.out); rintro e w10 ⟨v367, rfl, ho0, hb⟩; refine ⟨_, rfl, ?_⟩; have n0_ := am20_ (Kd.R_lower ho0 (below_size (lw20_ HB))); have n1_ := am20_ (blk_below (g := gb363) (o := .cells #[.int .i64 a0_0, .slice A0_1 l0_1.length c0_1] 26 (0, 0)) (lb20_ BK363) hb); have n2_ := am20_ (below_step (lw20_ HB) hb); clear BK363; clear HB; have HO368 := n0_; have BK363 := n1_; have HB := n2_; clear n0_ n1_ n2_; (try clear hb); (try clear hb2); (try clear hk); (try clear hi); (try clear ho0)) | ((with_reducible refine gate_dst (N := 25) rfl ?_); refine Kd.R_lit (Kd.int .i64) _ 3 ?hg (N := 25) ?hd (xs := ([] : List Int)) (inner := []) (ok := fun _ => True) (okp := fun _ => True) ?hr ?hp (fun _ hk => hk) trivial (Below.refl _ _) (Nat.le_refl _) (by simp) ?_; (case hd => rfl); (case hg => rfl); (case hr => first | (go_simp; done) | (go_simp; rfl)); (case hp => exact (Reps.none _ _)); intro v371 w11 ho12 hb hg_ hnew_; clear hg_ hnew_; (first | rw [← Ny370.out] at ho12 | (simp only [Int.reduceToNat] at ho12; rw [← Ny370.out] at ho12)); have n0_ := am20_ (Kd.R_elder' (lf20_ HO368) (Kd.R_base ho12) hb); have n1_ := am20_ (Kd.R_lower (Kd.R_new' ho12 (Kd.R_lt (lf20_ HO368))) (below_size (lw20_ HB))); have n2_ := am20_ (blk_below (g := gb363) (o := .cells #[.int .i64 a0_0, .slice A0_1 l0_1.length c0_1] 26 (0, 0)) (lb20_ BK363) hb); have n3_ := am20_ (below_step (lw20_ HB) hb); clear HO368; clear BK363; clear HB; have HO368 := n0_; have HO372 := n1_; have BK363 := n2_; have HB := n3_; clear n0_ n1_ n2_ n3_; clear hb ho12))
  go_loopg [10, 27] k (fun kq v10 v27 w' => ∃ (x10_1 : List Int) (x27_1 : Int), v27 = .int .i64 x27_1 ∧ Aside0 (impl_enclosing.l0 kq t364 t366 x10_1 a1 x27_1 a0_0 l0_1 = some (r1, r2)) ∧ Aside0 (kq ≤ k) ∧ Aside0 (Kd.R (Kd.int .i64) 3 w' w.heap.size (fun k_ => some k_ ≠ (v10 : Value).ownBlock) v367 t366) ∧ Aside0 (Kd.R (Kd.int .i64) 3 w' w.heap.size (fun k_ => some k_ ≠ (v367 : Value).ownBlock) v10 x10_1) ∧ Aside0 (w'.heap[gb363]? = some (.cells #[.int .i64 a0_0, (.slice A0_1 l0_1.length c0_1)] 26 (0, 0))) ∧ Aside0 (Below w.heap.size w w'))
  case atStart => exact ⟨(y370), (0), (by first | rfl | (simp; done) | (simp [*]; done)), H', ⟨Nat.le_refl _⟩, ⟨by (with_reducible repeat (first | apply Kd.R_alloc | apply Kd.R_drewN | apply Kd.R_drew)); exact Kd.R_mono HO368.out (fun _ hk => hk.2)⟩, ⟨by (with_reducible repeat (first | apply Kd.R_alloc | apply Kd.R_drewN | apply Kd.R_drew)); exact Kd.R_mono HO372.out (fun _ hk => hk.2)⟩, ⟨lb20_ BK363⟩, ⟨lw20_ HB⟩⟩
  case round =>
   clear H'
   try clear c1
   try clear p2
   try clear c4
   try clear c11
   try clear hcz7_0
   try clear hcz7_1
   try clear hcz9_0
   try clear hcz9_1
   try clear hfz7_0
   try clear hfz7_1
   try clear hfz9_0
   try clear hfz9_1
   obtain ⟨x10_1, x27_1, rfl, HA, HK1, HO_8, HO_10, BK363, HB⟩ := hrel
   cases gk with
   | zero => exact absurd HA.out (by simp [impl_enclosing.l0])
   | succ k1 =>
    have H := HA.out
    clear HA
    simp only [impl_enclosing.l0] at H
    by_cases c13 : x27_1 < a1
    ·rw [if_pos c13] at H
     have c13b0 : decide (x27_1 < a1) = true := decide_eq_true c13
     clear c13
     replace H := Option.bind_eq_some_iff.mp H
     obtain ⟨t373, A140, H⟩ := H
     replace H : (if t373 = true then (if 0 ≤ x27_1 then (if x27_1 < (t366.length : Int) then (if (rd t366 x27_1) > t364 then (if x10_1.length < 17592186044416 then (impl_enclosing.l0 k1 t364 t366 (x10_1 ++ [x27_1]) a1 (wrap64 (x27_1 + 1)) a0_0 l0_1) else (none)) else (impl_enclosing.l0 k1 t364 t366 x10_1 a1 (wrap64 (x27_1 + 1)) a0_0 l0_1)) else (none)) else (none)) else (impl_enclosing.l0 k1 t364 t366 x10_1 a1 (wrap64 (x27_1 + 1)) a0_0 l0_1)) = some (r1, r2) := H
     have A14 := am20_ A140
     clear A140
     by_cases c15 : t373 = true
     ·subst c15
      have H1 : (if 0 ≤ x27_1 then (if x27_1 < (t366.length : Int) then (if (rd t366 x27_1) > t364 then (if x10_1.length < 17592186044416 then (impl_enclosing.l0 k1 t364 t366 (x10_1 ++ [x27_1]) a1 (wrap64 (x27_1 + 1)) a0_0 l0_1) else (none)) else (impl_enclosing.l0 k1 t364 t366 x10_1 a1 (wrap64 (x27_1 + 1)) a0_0 l0_1)) else (none)) else (none)) = some (r1, r2) := by rw [if_pos rfl] at H; exact H
      clear H
      have H := H1
      clear H1
      by_cases c16 : 0 ≤ x27_1
      ·rw [if_pos c16] at H
       have c16b0 : decide (0 ≤ x27_1) = true := decide_eq_true c16
       clear c16
       by_cases c17 : x27_1 < (t366.length : Int)
       ·rw [if_pos c17] at H
        have c17b0 : decide (x27_1 < (t366.length : Int)) = true := decide_eq_true c17
        clear c17
        by_cases c18 : (rd t366 x27_1) > t364
        ·rw [if_pos c18] at H
         have c18b0 : decide (t364 < (rd t366 x27_1)) = true := decide_eq_true c18
         clear c18
         by_cases c19 : x10_1.length < 17592186044416
         ·rw [if_pos c19] at H
          have LMc19 := am20_ c19
          clear c19
          obtain ⟨y375, hy375⟩ : ∃ y_ : List Int, y_ = (x10_1 ++ [x27_1]) := ⟨_, rfl⟩
          replace H : (impl_enclosing.l0 k1 t364 t366 y375 a1 (wrap64 (x27_1 + 1)) a0_0 l0_1) = some (r1, r2) := by first | (rw [hy375]; with_reducible exact H) | (have H2_ := (Option.bind_some _ _).symm.trans H; rw [hy375]; with_reducible exact H2_) | (have H2_ := (Option.bind_some _ _).symm.trans H; with_reducible exact H2_) | with_reducible exact H | (rw [hy375]; exact H) | exact H
          have Ny375 := am20_ hy375
          clear hy375
          have H' := am20_ H
          clear H
          go_wp2_with (first | ((with_reducible refine gate_callee (f := 82) rfl ?_); refine goesL_ (some 31) rfl rfl Try.func82 (by kernel_rfl) rfl #[.pointer (some ⟨gb363, 0, none⟩), .int .i64 x27_1] rfl lm20_ ?_; (with_reducible refine (impl_Bits_at.calls gb363 [] 26 a0_0 A0_1 c0_1 l0_1 x27_1 true _ ?side1 ?side2 ?side3 A14.out).mono ?_); (case side1 => (with_reducible repeat (first | refine blk_drewN ?_ _ | refine blk_drew ?_ | refine blk_alloc ?_ _)); exact BK363.out); (case side2 => exact lc20_ (Kd.C_below HR0_1.out HB.out)); (case side3 => exact HC0_1.out); rintro e w20 ⟨rfl, hb⟩; refine ⟨_, rfl, ?_⟩; have n0_ := am20_ (Kd.R_below (lf20_ HO_8) hb); have n1_ := am20_ (Kd.R_below (lf20_ HO_10) hb); have n2_ := am20_ (blk_below (g := gb363) (o := .cells #[.int .i64 a0_0, .slice A0_1 l0_1.length c0_1] 26 (0, 0)) (lb20_ BK363) hb); have n3_ := am20_ (below_step (lw20_ HB) hb); clear HO_8; clear HO_10; clear BK363; clear HB; have HO_8 := n0_; have HO_10 := n1_; have BK363 := n2_; have HB := n3_; clear n0_ n1_ n2_ n3_; (try clear hb); (try clear hb2); (try clear hk); (try clear hi); obtain ⟨Ao21, co21, eo21⟩ := Kd.R_slice HO_8.out; subst eo21; have p374 : 0 ≤ (x27_1 : Int) := of_decide_eq_true (by first | (with_reducible assumption) | assumption); have q374 : x27_1 < (t366.length : Int) := of_decide_eq_true (by first | (with_reducible assumption) | assumption); obtain ⟨ad374, e374, hx374_0⟩ := Kd.at_int (Kd.R_reads' HO_8.out).2.2 x27_1 p374 q374; cases e374; replace p374 := eq_true p374; replace q374 := eq_true q374) | ((with_reducible refine gate_builtin (b := .append) (xs := #[.tmp 40, .tmp 42]) rfl ?_); at_builtin; refine Kd.R_append (Kd.int .i64) (w0 := w) w.heap.size rfl (.tmp 40) (.tmp 42) 22 3 (.int .i64 0) 8 rfl Try.underlying22 info3 rfl (by decide) (by omega) u10 x10_1 x27_1 [.int .i64 x27_1] (fun k_ => some k_ ≠ (.slice (some ad374) t366.length co21 : Value).ownBlock) (fun _ => False) rfl rfl ?aP (fun _ hk => hk.elim) ?aF ?aO ?aB ?aS ?aL ?_; (case aP => exact rfl); (case aB => exact (lw20_ HB)); (case aF => exact (fun k_ hk => Kd.fresh' (Kd.R_lt (lf20_ HO_8)) k_ hk)); (case aO => exact (lf20_ HO_10)); (case aS => exact (below_size (lw20_ HB))); (case aL => have := LMc19.out; omega); intro v376 w22 ho hb hg hat; rw [← Ny375.out] at ho; have n0_ := am20_ (Kd.R_after (ok := (fun _ => True)) (by (with_reducible repeat (first | apply Kd.R_alloc | apply Kd.R_drewN | apply Kd.R_drew)); exact Kd.R_mono HO_8.out (fun _ hk => ⟨trivial, hk⟩)) hg hat); have n1_ := am20_ (blk_grown (g := gb363) (o := .cells #[.int .i64 a0_0, .slice A0_1 l0_1.length c0_1] 26 (0, 0)) (lb20_ BK363) hg (Kd.R_ne HO_10.out BK363.out (by decide))); have n2_ := am20_ (hb); have n3_ := am20_ (ho); clear HO_8; clear BK363; clear HB; clear HO_10; have HO_8 := n0_; have BK363 := n1_; have HB := n2_; have HO377 := n3_; clear n0_ n1_ n2_ n3_; clear ho hb hg hat))
          go_roundg k1
          case measure => have := HK1.out; omega
          case rel => exact ⟨(y375), (wrap64 (x27_1 + 1)), (by first | rfl | (simp; done) | (simp [*]; done)), H', ⟨by have := HK1.out; omega⟩, ⟨by (with_reducible repeat (first | apply Kd.R_alloc | apply Kd.R_drewN | apply Kd.R_drew)); exact Kd.R_mono HO_8.out (fun _ hk => hk.2)⟩, ⟨lf20_ HO377⟩, ⟨lb20_ BK363⟩, ⟨lw20_ HB⟩⟩
         ·rw [if_neg c19] at H
          exact absurd H (by simp)
        ·rw [if_neg c18] at H
         have c18b0 : decide (t364 < (rd t366 x27_1)) = false := decide_eq_false c18
         clear c18
         have H' := am20_ H
         clear H
         go_wp2_with (first | ((with_reducible refine gate_callee (f := 82) rfl ?_); refine goesL_ (some 31) rfl rfl Try.func82 (by kernel_rfl) rfl #[.pointer (some ⟨gb363, 0, none⟩), .int .i64 x27_1] rfl lm20_ ?_; (with_reducible refine (impl_Bits_at.calls gb363 [] 26 a0_0 A0_1 c0_1 l0_1 x27_1 true _ ?side1 ?side2 ?side3 A14.out).mono ?_); (case side1 => (with_reducible repeat (first | refine blk_drewN ?_ _ | refine blk_drew ?_ | refine blk_alloc ?_ _)); exact BK363.out); (case side2 => exact lc20_ (Kd.C_below HR0_1.out HB.out)); (case side3 => exact HC0_1.out); rintro e w23 ⟨rfl, hb⟩; refine ⟨_, rfl, ?_⟩; have n0_ := am20_ (Kd.R_below (lf20_ HO_8) hb); have n1_ := am20_ (Kd.R_below (lf20_ HO_10) hb); have n2_ := am20_ (blk_below (g := gb363) (o := .cells #[.int .i64 a0_0, .slice A0_1 l0_1.length c0_1] 26 (0, 0)) (lb20_ BK363) hb); have n3_ := am20_ (below_step (lw20_ HB) hb); clear HO_8; clear HO_10; clear BK363; clear HB; have HO_8 := n0_; have HO_10 := n1_; have BK363 := n2_; have HB := n3_; clear n0_ n1_ n2_ n3_; (try clear hb); (try clear hb2); (try clear hk); (try clear hi); obtain ⟨Ao24, co24, eo24⟩ := Kd.R_slice HO_8.out; subst eo24; have p374 : 0 ≤ (x27_1 : Int) := of_decide_eq_true (by first | (with_reducible assumption) | assumption); have q374 : x27_1 < (t366.length : Int) := of_decide_eq_true (by first | (with_reducible assumption) | assumption); obtain ⟨ad374, e374, hx374_0⟩ := Kd.at_int (Kd.R_reads' HO_8.out).2.2 x27_1 p374 q374; cases e374; replace p374 := eq_true p374; replace q374 := eq_true q374))
         go_roundg k1
         case measure => have := HK1.out; omega
         case rel => exact ⟨(x10_1), (wrap64 (x27_1 + 1)), (by first | rfl | (simp; done) | (simp [*]; done)), H', ⟨by have := HK1.out; omega⟩, ⟨lf20_ HO_8⟩, ⟨lf20_ HO_10⟩, ⟨lb20_ BK363⟩, ⟨lw20_ HB⟩⟩
       ·rw [if_neg c17] at H
        exact absurd H (by simp)
      ·rw [if_neg c16] at H
       exact absurd H (by simp)
     ·replace c15 := Bool.eq_false_iff.mpr c15
      subst c15
      have H1 : (impl_enclosing.l0 k1 t364 t366 x10_1 a1 (wrap64 (x27_1 + 1)) a0_0 l0_1) = some (r1, r2) := by rw [if_neg (show ¬ (false = true) by decide)] at H; exact H
      clear H
      have H := H1
      clear H1
      have H' := am20_ H
      clear H
      go_wp2_with (first | ((with_reducible refine gate_callee (f := 82) rfl ?_); refine goesL_ (some 31) rfl rfl Try.func82 (by kernel_rfl) rfl #[.pointer (some ⟨gb363, 0, none⟩), .int .i64 x27_1] rfl lm20_ ?_; (with_reducible refine (impl_Bits_at.calls gb363 [] 26 a0_0 A0_1 c0_1 l0_1 x27_1 false _ ?side1 ?side2 ?side3 A14.out).mono ?_); (case side1 => (with_reducible repeat (first | refine blk_drewN ?_ _ | refine blk_drew ?_ | refine blk_alloc ?_ _)); exact BK363.out); (case side2 => exact lc20_ (Kd.C_below HR0_1.out HB.out)); (case side3 => exact HC0_1.out); rintro e w25 ⟨rfl, hb⟩; refine ⟨_, rfl, ?_⟩; have n0_ := am20_ (Kd.R_below (lf20_ HO_8) hb); have n1_ := am20_ (Kd.R_below (lf20_ HO_10) hb); have n2_ := am20_ (blk_below (g := gb363) (o := .cells #[.int .i64 a0_0, .slice A0_1 l0_1.length c0_1] 26 (0, 0)) (lb20_ BK363) hb); have n3_ := am20_ (below_step (lw20_ HB) hb); clear HO_8; clear HO_10; clear BK363; clear HB; have HO_8 := n0_; have HO_10 := n1_; have BK363 := n2_; have HB := n3_; clear n0_ n1_ n2_ n3_; (try clear hb); (try clear hb2); (try clear hk); (try clear hi)))
      go_roundg k1
      case measure => have := HK1.out; omega
      case rel => exact ⟨(x10_1), (wrap64 (x27_1 + 1)), (by first | rfl | (simp; done) | (simp [*]; done)), H', ⟨by have := HK1.out; omega⟩, ⟨lf20_ HO_8⟩, ⟨lf20_ HO_10⟩, ⟨lb20_ BK363⟩, ⟨lw20_ HB⟩⟩
    ·rw [if_neg c13] at H
     have c13b0 : decide (x27_1 < a1) = false := decide_eq_false c13
     clear c13
     simp only [Option.some.injEq, Prod.mk.injEq] at H
     obtain ⟨rfl, rfl⟩ := H
     go_wp2
     go_ret2
     exact ⟨_, by first | rfl | (simp [errW_none, errW_some] <;> rfl) | (simp [*, errW_none, errW_some] <;> rfl), by (with_reducible repeat (first | apply Kd.R_alloc | apply Kd.R_drewN | apply Kd.R_drew)); exact Kd.R_mono HO_10.out (fun _ hk => trivial), lw20_ HB⟩
 ·replace c4 := Bool.eq_false_iff.mpr c4
  subst c4
  have H1 : (some (([] : List Int), false)) = some (r1, r2) := by rw [if_neg (show ¬ (false = true) by decide)] at H; exact H
  clear H
  have H := H1
  clear H1
  simp only [Option.some.injEq, Prod.mk.injEq] at H
  obtain ⟨rfl, rfl⟩ := H
  go_enter Try.func113, Try.ntmps113
  go_wp2_with (first | ((with_reducible refine gate_dst (N := 2) rfl ?_); refine box_event ?hg (N := 2) ?hd (cs := #[.int .i64 a0_0, .slice A0_1 l0_1.length c0_1]) (t := 26) ?hr ?_; (case hd => rfl); (case hg => rfl); (case hr => first | (go_simp; done) | (go_simp; rfl)); intro gb363 hg w26 hbox hb; have n0_ := am20_ (below_step (lw20_ HB) hb); have n1_ := am20_ (hbox); have n2_ := am20_ ((by rw [hg]; exact (below_size (lw20_ HB)) : w.heap.size ≤ gb363)); have n3_ := am20_ ((by rw [hg]; exact (below_size (lw20_ HB)) : w.heap.size ≤ gb363)); clear HB; have HB := n0_; have BK363 := n1_; have GW363 := n2_; have GE363 := n3_; clear n0_ n1_ n2_ n3_; clear hb hbox hg; have hcz27_0 : w26.cell? ⟨gb363, 0, none⟩ = some (.int .i64 a0_0) := (blk_cell BK363.out 0).trans rfl; have hcz27_1 : w26.cell? ⟨gb363, 1, none⟩ = some (.slice A0_1 l0_1.length c0_1) := (blk_cell BK363.out 1).trans rfl; have hfz27_0 := blk_frozen BK363.out 0; have hfz27_1 := blk_frozen BK363.out 1) | ((with_reducible refine gate_callee (f := 134) rfl ?_); refine goesL_ (some 15) rfl rfl Try.func134 (by kernel_rfl) rfl #[.agg #[.int .i64 a0_0, .slice A0_1 l0_1.length c0_1], .int .i64 a1] rfl lm20_ ?_; (with_reducible refine (impl_CloseOf.calls k a0_0 _ _ l0_1 a1 t364 false _ ?side1 ?side2 A3.out).mono ?_); (case side1 => exact lc20_ (Kd.C_below HR0_1.out HB.out)); (case side2 => exact HC0_1.out); rintro e w28 ⟨rfl, hb⟩; refine ⟨_, rfl, ?_⟩; have n0_ := am20_ (blk_below (g := gb363) (o := .cells #[.int .i64 a0_0, .slice A0_1 l0_1.length c0_1] 26 (0, 0)) (lb20_ BK363) hb); have n1_ := am20_ (below_step (lw20_ HB) hb); clear BK363; clear HB; have BK363 := n0_; have HB := n1_; clear n0_ n1_; (try clear hb); (try clear hb2); (try clear hk); (try clear hi)))
  go_ret2
  exact ⟨_, by first | rfl | (simp [errW_none, errW_some] <;> rfl) | (simp [*, errW_none, errW_some] <;> rfl), by first | exact Kd.R_nil _ _ _ _ _ | exact Kd.N_nil _ _ _ _ _ | exact Kd.V_nil _ _ _ _ _ | exact Kd.Q_nil _ _ _ _ _ | exact Kd.S_nil _ _ _ _ _, lw20_ HB⟩

theorem am21_ {p : Prop} (h : p) : Aside0 p := ⟨h⟩
theorem lm21_ {P : Prop} (h : P := by (try simp only [List.map_toArray, List.map_cons, List.map_nil]); first | done | rfl | (simp only [List.length_drop, List.length_take]; rfl)) : P := h
theorem lc21_ {P Q : Prop} (h : P) (f : P → Q := by intro h_; repeat (first | exact h_ | (with_reducible refine Kd.C_alloc ?_ _) | (with_reducible refine Kd.C_drewN ?_ _) | (with_reducible refine Kd.C_drew ?_))) : Q := f h
theorem lt21_ {P Q : Prop} (h : P) (f : P → Q := by intro h_; (with_reducible repeat (first | apply Kd.R_alloc | apply Kd.R_drewN | apply Kd.R_drew)); exact h_) : Q := f h
theorem lf21_ {P Q : Prop} (h : Aside0 P) (f : P → Q := by intro h_; (with_reducible repeat (first | apply Kd.R_alloc | apply Kd.R_drewN | apply Kd.R_drew)); exact h_) : Q := f h.out
theorem lb21_ {P Q : Prop} (h : Aside0 P) (f : P → Q := by intro h_; (with_reducible repeat (first | refine blk_drewN ?_ _ | refine blk_drew ?_ | refine blk_alloc ?_ _)); exact h_) : Q := f h.out
theorem lw21_ {P Q : Prop} (h : Aside0 P) (f : P → Q := by intro h_; repeat (first | (with_reducible first | exact h_ | apply below_alloc | apply pw_below_drewN | apply below_drew1 | refine below_set ?_ (Aside0.out (by assumption))) | exact h_)) : Q := f h.out
/-! ### impl_EnclosingOf: function 62 -/
def impl_EnclosingOf.f (k : Nat) (a0_0 : Int) (l0_1 : List Int) (a1 : Int) : Option (Int × Bool) := (impl_enclosing.f k a0_0 l0_1 a1).bind fun bt379 => (if bt379.2 = true then (if (bt379.1.length : Int) = 0 then (some (0, false)) else (if 0 ≤ (wrap64 ((bt379.1.length : Int) - 1)) then (if (wrap64 ((bt379.1.length : Int) - 1)) < (bt379.1.length : Int) then (some (rd bt379.1 (wrap64 ((bt379.1.length : Int) - 1)), true)) else (none)) else (none))) else (some (0, false)))
theorem impl_EnclosingOf.mono : ∀ a0 a1 a2 k, LeO (impl_EnclosingOf.f k a0 a1 a2) (impl_EnclosingOf.f (k + 1) a0 a1 a2) := by
 intro a0 a1 a2 k
 unfold impl_EnclosingOf.f
 repeat' first
   | (with_reducible exact impl_enclosing.mono _ _ _ _)
   | (with_reducible exact LeO.refl _)
   | (with_reducible exact LeO.none _)
   | (with_reducible refine LeO.ite ?_ ?_)
   | (with_reducible refine LeO.bind ?_ (fun _ => ?_))
   | exact impl_enclosing.mono _ _ _ _
   | exact LeO.none _
   | refine LeO.ite ?_ ?_
   | refine LeO.bind ?_ (fun _ => ?_)
set_option maxHeartbeats 8000000 in
set_option maxRecDepth 100000 in
theorem impl_EnclosingOf.calls (k : Nat) (a0_0 : Int) (A0_1 : Option Addr) (c0_1 : Nat) (l0_1 : List Int) (a1 : Int) (r1 : Int) (r2 : Bool) (w : World) (hr0_1 : Kd.C (Kd.int .i64) w A0_1 l0_1.length l0_1) (hc0_1 : l0_1.length ≤ c0_1) (h : impl_EnclosingOf.f k a0_0 l0_1 a1 = some (r1, r2)) :
  Calls Try.prog 62 #[.agg #[.int .i64 a0_0, .slice A0_1 l0_1.length c0_1], .int .i64 a1] w fun e w' => e = .returned (.tuple #[.int .i64 r1, .bool r2]) ∧ Below w.heap.size w w' := by
 have hu26 := Try.underlying26
 have HR0_1 := am21_ hr0_1
 have HC0_1 := am21_ hc0_1
 clear hr0_1 hc0_1
 have HB := am21_ (Below.refl w.heap.size w)
 have H : ((impl_enclosing.f k a0_0 l0_1 a1).bind fun bt379 => (if bt379.2 = true then (if (bt379.1.length : Int) = 0 then (some (0, false)) else (if 0 ≤ (wrap64 ((bt379.1.length : Int) - 1)) then (if (wrap64 ((bt379.1.length : Int) - 1)) < (bt379.1.length : Int) then (some (rd bt379.1 (wrap64 ((bt379.1.length : Int) - 1)), true)) else (none)) else (none))) else (some (0, false)))) = some (r1, r2) := h
 clear h
 replace H := Option.bind_eq_some_iff.mp H
 obtain ⟨⟨t379, t382⟩, A30, H⟩ := H
 replace H : (if t382 = true then (if (t379.length : Int) = 0 then (some (0, false)) else (if 0 ≤ (wrap64 ((t379.length : Int) - 1)) then (if (wrap64 ((t379.length : Int) - 1)) < (t379.length : Int) then (some (rd t379 (wrap64 ((t379.length : Int) - 1)), true)) else (none)) else (none))) else (some (0, false))) = some (r1, r2) := H
 have A3 := am21_ A30
 clear A30
 by_cases c4 : t382 = true
 ·subst c4
  have H1 : (if (t379.length : Int) = 0 then (some (0, false)) else (if 0 ≤ (wrap64 ((t379.length : Int) - 1)) then (if (wrap64 ((t379.length : Int) - 1)) < (t379.length : Int) then (some (rd t379 (wrap64 ((t379.length : Int) - 1)), true)) else (none)) else (none))) = some (r1, r2) := by rw [if_pos rfl] at H; exact H
  clear H
  have H := H1
  clear H1
  by_cases c5 : (t379.length : Int) = 0
  ·rw [if_pos c5] at H
   have c5b0 : ((t379.length : Int) == 0) = true := beq_iff_eq.mpr c5
   have c5b1 : ((t379.length : Int) != 0) = false := bne_eq_false_iff_eq.mpr c5
   clear c5
   simp only [Option.some.injEq, Prod.mk.injEq] at H
   obtain ⟨rfl, rfl⟩ := H
   go_enter Try.func62, Try.ntmps62
   go_wp2_with (first | ((with_reducible refine gate_dst (N := 2) rfl ?_); (try (refine gate_guard (by rfl) ?_; dsimp only)); refine box_event ?hg (N := 2) ?hd (cs := #[.int .i64 a0_0, .slice A0_1 l0_1.length c0_1]) (t := 26) ?hr ?_; (case hd => rfl); (case hg => rfl); (case hr => first | (go_simp; done) | (go_simp; rfl)); intro gb378 hg w6 hbox hb; have n0_ := am21_ (below_step (lw21_ HB) hb); have n1_ := am21_ (hbox); have n2_ := am21_ ((by rw [hg]; exact (below_size (lw21_ HB)) : w.heap.size ≤ gb378)); have n3_ := am21_ ((by rw [hg]; exact (below_size (lw21_ HB)) : w.heap.size ≤ gb378)); clear HB; have HB := n0_; have BK378 := n1_; have GW378 := n2_; have GE378 := n3_; clear n0_ n1_ n2_ n3_; clear hb hbox hg; have hcz7_0 : w6.cell? ⟨gb378, 0, none⟩ = some (.int .i64 a0_0) := (blk_cell BK378.out 0).trans rfl; have hcz7_1 : w6.cell? ⟨gb378, 1, none⟩ = some (.slice A0_1 l0_1.length c0_1) := (blk_cell BK378.out 1).trans rfl; have hfz7_0 := blk_frozen BK378.out 0; have hfz7_1 := blk_frozen BK378.out 1) | ((with_reducible refine gate_callee (f := 113) rfl ?_); refine goesL_ (some 11) rfl rfl Try.func113 (by kernel_rfl) rfl #[.agg #[.int .i64 a0_0, .slice A0_1 l0_1.length c0_1], .int .i64 a1] rfl lm21_ ?_; (with_reducible refine (impl_enclosing.calls k a0_0 _ _ l0_1 a1 t379 true _ ?side1 ?side2 A3.out).mono ?_); (case side1 => exact lc21_ (Kd.C_below HR0_1.out HB.out)); (case side2 => exact HC0_1.out); rintro e w8 ⟨v380, rfl, ho0, hb⟩; refine ⟨_, rfl, ?_⟩; have n0_ := am21_ (Kd.R_lower ho0 (below_size (lw21_ HB))); have n1_ := am21_ (blk_below (g := gb378) (o := .cells #[.int .i64 a0_0, .slice A0_1 l0_1.length c0_1] 26 (0, 0)) (lb21_ BK378) hb); have n2_ := am21_ (below_step (lw21_ HB) hb); clear BK378; clear HB; have HO381 := n0_; have BK378 := n1_; have HB := n2_; clear n0_ n1_ n2_; (try clear hb); (try clear hb2); (try clear hk); (try clear hi); (try clear ho0); obtain ⟨Ao9, co9, eo9⟩ := Kd.R_slice HO381.out; subst eo9))
   go_ret2
   exact ⟨by first | rfl | (simp [errW_none, errW_some] <;> rfl) | (simp [*, errW_none, errW_some] <;> rfl), lw21_ HB⟩
  ·rw [if_neg c5] at H
   have c5b0 : ((t379.length : Int) == 0) = false := beq_eq_false_iff_ne.mpr c5
   have c5b1 : ((t379.length : Int) != 0) = true := bne_iff_ne.mpr c5
   have c5b2 : ¬ (t379 = []) := fun h_ => c5 (by rw [h_]; rfl)
   obtain ⟨ji10, hji10⟩ : ∃ j_ : Int, (wrap64 ((t379.length : Int) - 1)) = j_ := ⟨_, rfl⟩
   replace H : (if 0 ≤ (ji10) then (if (ji10) < (t379.length : Int) then (some (rd t379 (ji10), true)) else (none)) else (none)) = some (r1, r2) := by first | (rw [hji10] at H; exact H) | (simp only [hji10] at H ⊢; exact H)
   (try rw [hji10] at A3)
   have hji10w : (IntKind.i64.wrap ((t379.length : Int) - 1)) = ji10 := (i64_w _).trans hji10
   by_cases c11 : 0 ≤ (ji10)
   ·rw [if_pos c11] at H
    have c11b0 : decide (0 ≤ (ji10)) = true := decide_eq_true c11
    clear c11
    by_cases c12 : (ji10) < (t379.length : Int)
    ·rw [if_pos c12] at H
     have c12b0 : decide ((ji10) < (t379.length : Int)) = true := decide_eq_true c12
     clear c12
     simp only [Option.some.injEq, Prod.mk.injEq] at H
     obtain ⟨rfl, rfl⟩ := H
     go_enter Try.func62, Try.ntmps62
     go_wp2_with (first | ((with_reducible refine gate_dst (N := 2) rfl ?_); (try (refine gate_guard (by rfl) ?_; dsimp only)); refine box_event ?hg (N := 2) ?hd (cs := #[.int .i64 a0_0, .slice A0_1 l0_1.length c0_1]) (t := 26) ?hr ?_; (case hd => rfl); (case hg => rfl); (case hr => first | (go_simp; done) | (go_simp; rfl)); intro gb378 hg w13 hbox hb; have n0_ := am21_ (below_step (lw21_ HB) hb); have n1_ := am21_ (hbox); have n2_ := am21_ ((by rw [hg]; exact (below_size (lw21_ HB)) : w.heap.size ≤ gb378)); have n3_ := am21_ ((by rw [hg]; exact (below_size (lw21_ HB)) : w.heap.size ≤ gb378)); clear HB; have HB := n0_; have BK378 := n1_; have GW378 := n2_; have GE378 := n3_; clear n0_ n1_ n2_ n3_; clear hb hbox hg; have hcz14_0 : w13.cell? ⟨gb378, 0, none⟩ = some (.int .i64 a0_0) := (blk_cell BK378.out 0).trans rfl; have hcz14_1 : w13.cell? ⟨gb378, 1, none⟩ = some (.slice A0_1 l0_1.length c0_1) := (blk_cell BK378.out 1).trans rfl; have hfz14_0 := blk_frozen BK378.out 0; have hfz14_1 := blk_frozen BK378.out 1) | ((with_reducible refine gate_callee (f := 113) rfl ?_); refine goesL_ (some 11) rfl rfl Try.func113 (by kernel_rfl) rfl #[.agg #[.int .i64 a0_0, .slice A0_1 l0_1.length c0_1], .int .i64 a1] rfl lm21_ ?_; (with_reducible refine (impl_enclosing.calls k a0_0 _ _ l0_1 a1 t379 true _ ?side1 ?side2 A3.out).mono ?_); (case side1 => exact lc21_ (Kd.C_below HR0_1.out HB.out)); (case side2 => exact HC0_1.out); rintro e w15 ⟨v380, rfl, ho0, hb⟩; refine ⟨_, rfl, ?_⟩; have n0_ := am21_ (Kd.R_lower ho0 (below_size (lw21_ HB))); have n1_ := am21_ (blk_below (g := gb378) (o := .cells #[.int .i64 a0_0, .slice A0_1 l0_1.length c0_1] 26 (0, 0)) (lb21_ BK378) hb); have n2_ := am21_ (below_step (lw21_ HB) hb); clear BK378; clear HB; have HO381 := n0_; have BK378 := n1_; have HB := n2_; clear n0_ n1_ n2_; (try clear hb); (try clear hb2); (try clear hk); (try clear hi); (try clear ho0); obtain ⟨Ao16, co16, eo16⟩ := Kd.R_slice HO381.out; subst eo16; have p383 : 0 ≤ ((ji10) : Int) := of_decide_eq_true (by first | (with_reducible assumption) | assumption); have q383 : (ji10) < (t379.length : Int) := of_decide_eq_true (by first | (with_reducible assumption) | assumption); obtain ⟨ad383, e383, hx383_0⟩ := Kd.at_int (Kd.R_reads' HO381.out).2.2 (ji10) p383 q383; cases e383; replace p383 := eq_true p383; replace q383 := eq_true q383))
     go_ret2
     exact ⟨by first | rfl | (simp [errW_none, errW_some] <;> rfl) | (simp only [← hji10]; first | rfl | (simp [errW_none, errW_some] <;> rfl)) | (simp [*, errW_none, errW_some] <;> rfl), lw21_ HB⟩
    ·rw [if_neg c12] at H
     exact absurd H (by simp)
   ·rw [if_neg c11] at H
    exact absurd H (by simp)
 ·replace c4 := Bool.eq_false_iff.mpr c4
  subst c4
  have H1 : (some (0, false)) = some (r1, r2) := by rw [if_neg (show ¬ (false = true) by decide)] at H; exact H
  clear H
  have H := H1
  clear H1
  simp only [Option.some.injEq, Prod.mk.injEq] at H
  obtain ⟨rfl, rfl⟩ := H
  go_enter Try.func62, Try.ntmps62
  go_wp2_with (first | ((with_reducible refine gate_dst (N := 2) rfl ?_); (try (refine gate_guard (by rfl) ?_; dsimp only)); refine box_event ?hg (N := 2) ?hd (cs := #[.int .i64 a0_0, .slice A0_1 l0_1.length c0_1]) (t := 26) ?hr ?_; (case hd => rfl); (case hg => rfl); (case hr => first | (go_simp; done) | (go_simp; rfl)); intro gb378 hg w17 hbox hb; have n0_ := am21_ (below_step (lw21_ HB) hb); have n1_ := am21_ (hbox); have n2_ := am21_ ((by rw [hg]; exact (below_size (lw21_ HB)) : w.heap.size ≤ gb378)); have n3_ := am21_ ((by rw [hg]; exact (below_size (lw21_ HB)) : w.heap.size ≤ gb378)); clear HB; have HB := n0_; have BK378 := n1_; have GW378 := n2_; have GE378 := n3_; clear n0_ n1_ n2_ n3_; clear hb hbox hg; have hcz18_0 : w17.cell? ⟨gb378, 0, none⟩ = some (.int .i64 a0_0) := (blk_cell BK378.out 0).trans rfl; have hcz18_1 : w17.cell? ⟨gb378, 1, none⟩ = some (.slice A0_1 l0_1.length c0_1) := (blk_cell BK378.out 1).trans rfl; have hfz18_0 := blk_frozen BK378.out 0; have hfz18_1 := blk_frozen BK378.out 1) | ((with_reducible refine gate_callee (f := 113) rfl ?_); refine goesL_ (some 11) rfl rfl Try.func113 (by kernel_rfl) rfl #[.agg #[.int .i64 a0_0, .slice A0_1 l0_1.length c0_1], .int .i64 a1] rfl lm21_ ?_; (with_reducible refine (impl_enclosing.calls k a0_0 _ _ l0_1 a1 t379 false _ ?side1 ?side2 A3.out).mono ?_); (case side1 => exact lc21_ (Kd.C_below HR0_1.out HB.out)); (case side2 => exact HC0_1.out); rintro e w19 ⟨v380, rfl, ho0, hb⟩; refine ⟨_, rfl, ?_⟩; have n0_ := am21_ (Kd.R_lower ho0 (below_size (lw21_ HB))); have n1_ := am21_ (blk_below (g := gb378) (o := .cells #[.int .i64 a0_0, .slice A0_1 l0_1.length c0_1] 26 (0, 0)) (lb21_ BK378) hb); have n2_ := am21_ (below_step (lw21_ HB) hb); clear BK378; clear HB; have HO381 := n0_; have BK378 := n1_; have HB := n2_; clear n0_ n1_ n2_; (try clear hb); (try clear hb2); (try clear hk); (try clear hi); (try clear ho0)))
  go_ret2
  exact ⟨by first | rfl | (simp [errW_none, errW_some] <;> rfl) | (simp [*, errW_none, errW_some] <;> rfl), lw21_ HB⟩

end Go.Proofs.Ytkmhjgejficclaa.PFnTreesAreParentheses
