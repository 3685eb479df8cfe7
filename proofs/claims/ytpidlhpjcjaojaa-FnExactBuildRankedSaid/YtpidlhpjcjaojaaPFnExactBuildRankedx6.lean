-- Laid by a program of this session: the print of the kit with additions of ours (wip/tools/patchprint.py). Nothing of it is trusted: Lean checks it.
import Derived.Test.YtpidlhpjcjaojaaPFnExactBuildRankedx0
import Derived.Test.YtpidlhpjcjaojaaPFnExactBuildRankedx1
import Derived.Test.YtpidlhpjcjaojaaPFnExactBuildRankedx3
import Derived.Test.YtpidlhpjcjaojaaPFnExactBuildRankedx4
import Derived.Test.YtpidlhpjcjaojaaPFnExactBuildRankedx5
namespace Go.Proofs.Ytpidlhpjcjaojaa.PFnExactBuildRanked
open Go.RowKit Go.Proofs.YtpidlhpjcjaojaaW.PrintWords Go.Proofs.YtpidlhpjcjaojaaW.PrintLast Go.Proofs.YtpidlhpjcjaojaaW.PrintMore
attribute [local go_sem] max2_int min2_int max_two min_two max_three min_three max_four min_four   -- for this text's walks alone
set_option linter.unusedVariables false
set_option linter.unusedSimpArgs false

/-! ### laws_FnExactBuildRanked: function 4 -/
mutual
def laws_FnExactBuildRanked.j0 : Nat → Bool → Bool → Bool → Int → List Int → Int → List Int → List Int → List Int → Int → List Int → Int → List Int → List Int → List Int → Option (Bool)
  | 0, _, _, _, _, _, _, _, _, _, _, _, _, _, _, _ => none
  | k + 1, x5, x8, x40, x240000, x240001, x257000, x257001, x257002, x257003, x262000, x262001, x274000, x274001, x274002, x274003 => if x40 = true then (none) else ((laws_toBits.f k x240000 x240001).bind fun bt275 => ((laws_eqBits.f k x262000 x262001 bt275.1 bt275.2).bind fun t279 => (if t279 = true then ((laws_markBits.f k x262000 x262001 1).bind fun bt280 => (if bt280.1 < 0 then (none) else ((laws_eqRanked.f k x274000 x274001 x274002 x274003 x257000 x257001 x257002 x257003).bind fun t282 => (if t282 = true then (laws_FnExactBuildRanked.j1 k x5 (x8 != x5) x240000 x240001 x257000 x257001 x257002 x257003 x274000 x274001 x274002 x274003) else (none))))) else (none))))
def laws_FnExactBuildRanked.j1 : Nat → Bool → Bool → Int → List Int → Int → List Int → List Int → List Int → Int → List Int → List Int → List Int → Option (Bool)
  | 0, _, _, _, _, _, _, _, _, _, _, _, _ => none
  | k + 1, x5, x61, x240000, x240001, x257000, x257001, x257002, x257003, x274000, x274001, x274002, x274003 => if x61 = true then (none) else ((laws_markRanked.f k x274000 x274001 x274002 x274003 1).bind fun bt283 => ((laws_heldRanked.f k x274000 bt283.2.1 bt283.2.2.1 bt283.2.2.2 1).bind fun t287 => (if t287 < 0 then (none) else (if t287 = bt283.1 then ((laws_toBits.f k x240000 x240001).bind fun bt288 => ((impl_BuildRanked.f k bt288.1 bt288.2).bind fun bt292 => ((laws_eqRanked.f k bt292.1 bt292.2.1 bt292.2.2.1 bt292.2.2.2.1 x257000 x257001 x257002 x257003).bind fun t304 => (if t304 = true then (laws_FnExactBuildRanked.j2 k bt283.1 (bt292.2.2.2.2 != x5) x274000 bt283.2.1 bt283.2.2.1 bt283.2.2.2) else (none))))) else (none)))))
def laws_FnExactBuildRanked.j2 : Nat → Int → Bool → Int → List Int → List Int → List Int → Option (Bool)
  | 0, _, _, _, _, _, _ => none
  | k + 1, x10, x87, x274000, x274001, x274002, x274003 => if x87 = true then (none) else ((laws_heldRanked.f k x274000 x274001 x274002 x274003 1).bind fun t305 => (if t305 < 0 then (none) else (if t305 = x10 then (some true) else (none))))
end
def laws_FnExactBuildRanked.f (k : Nat) (a0_0 : Int) (l0_1 : List Int) : Option (Bool) := (laws_szBits.f a0_0 l0_1 1048576).bind fun t240 => (if t240 < 0 then (some true) else ((laws_toBits.f k a0_0 l0_1).bind fun bt241 => ((spec_BuildRanked.f k bt241.1 bt241.2).bind fun bt245 => ((laws_toBits.f k a0_0 l0_1).bind fun bt257 => ((impl_BuildRanked.f k bt257.1 bt257.2).bind fun bt262 => ((laws_eqRanked.f k bt262.1 bt262.2.1 bt262.2.2.1 bt262.2.2.2.1 bt245.1 bt245.2.1 bt245.2.2.1 bt245.2.2.2.1).bind fun t274 => (if t274 = true then (laws_FnExactBuildRanked.j0 k bt245.2.2.2.2 bt262.2.2.2.2 (bt262.2.2.2.2 != bt245.2.2.2.2) a0_0 l0_1 bt245.1 bt245.2.1 bt245.2.2.1 bt245.2.2.2.1 bt257.1 bt257.2 bt262.1 bt262.2.1 bt262.2.2.1 bt262.2.2.2.1) else (none))))))))
theorem laws_FnExactBuildRanked.mono_l : ∀ k, (∀ y0 y1 y2 y3 y4 y5 y6 y7 y8 y9 y10 y11 y12 y13 y14, LeO (laws_FnExactBuildRanked.j0 k y0 y1 y2 y3 y4 y5 y6 y7 y8 y9 y10 y11 y12 y13 y14) (laws_FnExactBuildRanked.j0 (k + 1) y0 y1 y2 y3 y4 y5 y6 y7 y8 y9 y10 y11 y12 y13 y14)) ∧ (∀ y0 y1 y2 y3 y4 y5 y6 y7 y8 y9 y10 y11, LeO (laws_FnExactBuildRanked.j1 k y0 y1 y2 y3 y4 y5 y6 y7 y8 y9 y10 y11) (laws_FnExactBuildRanked.j1 (k + 1) y0 y1 y2 y3 y4 y5 y6 y7 y8 y9 y10 y11)) ∧ (∀ y0 y1 y2 y3 y4 y5, LeO (laws_FnExactBuildRanked.j2 k y0 y1 y2 y3 y4 y5) (laws_FnExactBuildRanked.j2 (k + 1) y0 y1 y2 y3 y4 y5))
  | 0 => ⟨fun _ _ _ _ _ _ _ _ _ _ _ _ _ _ _ r h => by simp [laws_FnExactBuildRanked.j0] at h, fun _ _ _ _ _ _ _ _ _ _ _ _ r h => by simp [laws_FnExactBuildRanked.j1] at h, fun _ _ _ _ _ _ r h => by simp [laws_FnExactBuildRanked.j2] at h⟩
  | k + 1 => by
    obtain ⟨ih0, ih1, ih2⟩ := laws_FnExactBuildRanked.mono_l k
    refine ⟨?_, ?_, ?_⟩
    · intro y0 y1 y2 y3 y4 y5 y6 y7 y8 y9 y10 y11 y12 y13 y14
      unfold laws_FnExactBuildRanked.j0
      repeat' first
      | (with_reducible exact ih0 _ _ _ _ _ _ _ _ _ _ _ _ _ _ _)
      | (with_reducible exact ih1 _ _ _ _ _ _ _ _ _ _ _ _)
      | (with_reducible exact ih2 _ _ _ _ _ _)
      | (with_reducible exact impl_BuildRanked.mono _ _ _)
      | (with_reducible exact laws_eqBits.mono _ _ _ _ _)
      | (with_reducible exact laws_eqRanked.mono _ _ _ _ _ _ _ _ _)
      | (with_reducible exact laws_heldRanked.mono _ _ _ _ _ _)
      | (with_reducible exact laws_markBits.mono _ _ _ _)
      | (with_reducible exact laws_markRanked.mono _ _ _ _ _ _)
      | (with_reducible exact laws_toBits.mono _ _ _)
      | (with_reducible exact spec_BuildRanked.mono _ _ _)
      | (with_reducible exact LeO.refl _)
      | (with_reducible exact LeO.none _)
      | (with_reducible refine LeO.ite ?_ ?_)
      | (with_reducible refine LeO.bind ?_ (fun _ => ?_))
      | exact ih0 _ _ _ _ _ _ _ _ _ _ _ _ _ _ _
      | exact ih1 _ _ _ _ _ _ _ _ _ _ _ _
      | exact ih2 _ _ _ _ _ _
      | exact impl_BuildRanked.mono _ _ _
      | exact laws_eqBits.mono _ _ _ _ _
      | exact laws_eqRanked.mono _ _ _ _ _ _ _ _ _
      | exact laws_heldRanked.mono _ _ _ _ _ _
      | exact laws_markBits.mono _ _ _ _
      | exact laws_markRanked.mono _ _ _ _ _ _
      | exact laws_toBits.mono _ _ _
      | exact spec_BuildRanked.mono _ _ _
      | exact LeO.none _
      | refine LeO.ite ?_ ?_
      | refine LeO.bind ?_ (fun _ => ?_)
    · intro y0 y1 y2 y3 y4 y5 y6 y7 y8 y9 y10 y11
      unfold laws_FnExactBuildRanked.j1
      repeat' first
      | (with_reducible exact ih0 _ _ _ _ _ _ _ _ _ _ _ _ _ _ _)
      | (with_reducible exact ih1 _ _ _ _ _ _ _ _ _ _ _ _)
      | (with_reducible exact ih2 _ _ _ _ _ _)
      | (with_reducible exact impl_BuildRanked.mono _ _ _)
      | (with_reducible exact laws_eqBits.mono _ _ _ _ _)
      | (with_reducible exact laws_eqRanked.mono _ _ _ _ _ _ _ _ _)
      | (with_reducible exact laws_heldRanked.mono _ _ _ _ _ _)
      | (with_reducible exact laws_markBits.mono _ _ _ _)
      | (with_reducible exact laws_markRanked.mono _ _ _ _ _ _)
      | (with_reducible exact laws_toBits.mono _ _ _)
      | (with_reducible exact spec_BuildRanked.mono _ _ _)
      | (with_reducible exact LeO.refl _)
      | (with_reducible exact LeO.none _)
      | (with_reducible refine LeO.ite ?_ ?_)
      | (with_reducible refine LeO.bind ?_ (fun _ => ?_))
      | exact ih0 _ _ _ _ _ _ _ _ _ _ _ _ _ _ _
      | exact ih1 _ _ _ _ _ _ _ _ _ _ _ _
      | exact ih2 _ _ _ _ _ _
      | exact impl_BuildRanked.mono _ _ _
      | exact laws_eqBits.mono _ _ _ _ _
      | exact laws_eqRanked.mono _ _ _ _ _ _ _ _ _
      | exact laws_heldRanked.mono _ _ _ _ _ _
      | exact laws_markBits.mono _ _ _ _
      | exact laws_markRanked.mono _ _ _ _ _ _
      | exact laws_toBits.mono _ _ _
      | exact spec_BuildRanked.mono _ _ _
      | exact LeO.none _
      | refine LeO.ite ?_ ?_
      | refine LeO.bind ?_ (fun _ => ?_)
    · intro y0 y1 y2 y3 y4 y5
      unfold laws_FnExactBuildRanked.j2
      repeat' first
      | (with_reducible exact ih0 _ _ _ _ _ _ _ _ _ _ _ _ _ _ _)
      | (with_reducible exact ih1 _ _ _ _ _ _ _ _ _ _ _ _)
      | (with_reducible exact ih2 _ _ _ _ _ _)
      | (with_reducible exact impl_BuildRanked.mono _ _ _)
      | (with_reducible exact laws_eqBits.mono _ _ _ _ _)
      | (with_reducible exact laws_eqRanked.mono _ _ _ _ _ _ _ _ _)
      | (with_reducible exact laws_heldRanked.mono _ _ _ _ _ _)
      | (with_reducible exact laws_markBits.mono _ _ _ _)
      | (with_reducible exact laws_markRanked.mono _ _ _ _ _ _)
      | (with_reducible exact laws_toBits.mono _ _ _)
      | (with_reducible exact spec_BuildRanked.mono _ _ _)
      | (with_reducible exact LeO.refl _)
      | (with_reducible exact LeO.none _)
      | (with_reducible refine LeO.ite ?_ ?_)
      | (with_reducible refine LeO.bind ?_ (fun _ => ?_))
      | exact ih0 _ _ _ _ _ _ _ _ _ _ _ _ _ _ _
      | exact ih1 _ _ _ _ _ _ _ _ _ _ _ _
      | exact ih2 _ _ _ _ _ _
      | exact impl_BuildRanked.mono _ _ _
      | exact laws_eqBits.mono _ _ _ _ _
      | exact laws_eqRanked.mono _ _ _ _ _ _ _ _ _
      | exact laws_heldRanked.mono _ _ _ _ _ _
      | exact laws_markBits.mono _ _ _ _
      | exact laws_markRanked.mono _ _ _ _ _ _
      | exact laws_toBits.mono _ _ _
      | exact spec_BuildRanked.mono _ _ _
      | exact LeO.none _
      | refine LeO.ite ?_ ?_
      | refine LeO.bind ?_ (fun _ => ?_)
theorem laws_FnExactBuildRanked.mono : ∀ a0 a1 k, LeO (laws_FnExactBuildRanked.f k a0 a1) (laws_FnExactBuildRanked.f (k + 1) a0 a1) := by
  intro a0 a1 k
  obtain ⟨ih0, ih1, ih2⟩ := laws_FnExactBuildRanked.mono_l k
  unfold laws_FnExactBuildRanked.f
  repeat' first
      | (with_reducible exact ih0 _ _ _ _ _ _ _ _ _ _ _ _ _ _ _)
      | (with_reducible exact ih1 _ _ _ _ _ _ _ _ _ _ _ _)
      | (with_reducible exact ih2 _ _ _ _ _ _)
      | (with_reducible exact impl_BuildRanked.mono _ _ _)
      | (with_reducible exact laws_eqBits.mono _ _ _ _ _)
      | (with_reducible exact laws_eqRanked.mono _ _ _ _ _ _ _ _ _)
      | (with_reducible exact laws_heldRanked.mono _ _ _ _ _ _)
      | (with_reducible exact laws_markBits.mono _ _ _ _)
      | (with_reducible exact laws_markRanked.mono _ _ _ _ _ _)
      | (with_reducible exact laws_toBits.mono _ _ _)
      | (with_reducible exact spec_BuildRanked.mono _ _ _)
      | (with_reducible exact LeO.refl _)
      | (with_reducible exact LeO.none _)
      | (with_reducible refine LeO.ite ?_ ?_)
      | (with_reducible refine LeO.bind ?_ (fun _ => ?_))
      | exact ih0 _ _ _ _ _ _ _ _ _ _ _ _ _ _ _
      | exact ih1 _ _ _ _ _ _ _ _ _ _ _ _
      | exact ih2 _ _ _ _ _ _
      | exact impl_BuildRanked.mono _ _ _
      | exact laws_eqBits.mono _ _ _ _ _
      | exact laws_eqRanked.mono _ _ _ _ _ _ _ _ _
      | exact laws_heldRanked.mono _ _ _ _ _ _
      | exact laws_markBits.mono _ _ _ _
      | exact laws_markRanked.mono _ _ _ _ _ _
      | exact laws_toBits.mono _ _ _
      | exact spec_BuildRanked.mono _ _ _
      | exact LeO.none _
      | refine LeO.ite ?_ ?_
      | refine LeO.bind ?_ (fun _ => ?_)
set_option maxHeartbeats 8000000 in
set_option maxRecDepth 100000 in
theorem laws_FnExactBuildRanked.calls (k : Nat) (a0_0 : Int) (A0_1 : Option Addr) (c0_1 : Nat) (l0_1 : List Int) (r : Bool) (w : World) (hr0_1 : Kd.C (Kd.int .i64) w A0_1 l0_1.length l0_1) (hc0_1 : l0_1.length ≤ c0_1) (h : laws_FnExactBuildRanked.f k a0_0 l0_1 = some r) :
    Calls Try.prog 4 #[.agg #[.int .i64 a0_0, .slice A0_1 l0_1.length c0_1]] w fun e w' => e = .returned (.bool r) ∧ Below w.heap.size w w' := by
  have hu24 := Try.underlying24
  have hu31 := Try.underlying31
  have hu29 := Try.underlying29
  have HR0_1 := Aside0.mk hr0_1
  have HC0_1 := Aside0.mk hc0_1
  clear hr0_1 hc0_1
  have HB := Aside0.mk (Below.refl w.heap.size w)
  have H : ((laws_szBits.f a0_0 l0_1 1048576).bind fun t240 => (if t240 < 0 then (some true) else ((laws_toBits.f k a0_0 l0_1).bind fun bt241 => ((spec_BuildRanked.f k bt241.1 bt241.2).bind fun bt245 => ((laws_toBits.f k a0_0 l0_1).bind fun bt257 => ((impl_BuildRanked.f k bt257.1 bt257.2).bind fun bt262 => ((laws_eqRanked.f k bt262.1 bt262.2.1 bt262.2.2.1 bt262.2.2.2.1 bt245.1 bt245.2.1 bt245.2.2.1 bt245.2.2.2.1).bind fun t274 => (if t274 = true then (laws_FnExactBuildRanked.j0 k bt245.2.2.2.2 bt262.2.2.2.2 (bt262.2.2.2.2 != bt245.2.2.2.2) a0_0 l0_1 bt245.1 bt245.2.1 bt245.2.2.1 bt245.2.2.2.1 bt257.1 bt257.2 bt262.1 bt262.2.1 bt262.2.2.1 bt262.2.2.2.1) else (none))))))))) = some r := h
  clear h
  replace H := Option.bind_eq_some_iff.mp H
  obtain ⟨t240, A20, H⟩ := H
  replace H : (if t240 < 0 then (some true) else ((laws_toBits.f k a0_0 l0_1).bind fun bt241 => ((spec_BuildRanked.f k bt241.1 bt241.2).bind fun bt245 => ((laws_toBits.f k a0_0 l0_1).bind fun bt257 => ((impl_BuildRanked.f k bt257.1 bt257.2).bind fun bt262 => ((laws_eqRanked.f k bt262.1 bt262.2.1 bt262.2.2.1 bt262.2.2.2.1 bt245.1 bt245.2.1 bt245.2.2.1 bt245.2.2.2.1).bind fun t274 => (if t274 = true then (laws_FnExactBuildRanked.j0 k bt245.2.2.2.2 bt262.2.2.2.2 (bt262.2.2.2.2 != bt245.2.2.2.2) a0_0 l0_1 bt245.1 bt245.2.1 bt245.2.2.1 bt245.2.2.2.1 bt257.1 bt257.2 bt262.1 bt262.2.1 bt262.2.2.1 bt262.2.2.2.1) else (none)))))))) = some r := H
  have A2 := Aside0.mk A20
  clear A20
  by_cases c3 : t240 < 0
  · rw [if_pos c3] at H
    have c3b0 : decide (t240 < 0) = true := decide_eq_true c3
    clear c3
    obtain rfl := Option.some.inj H
    go_enter Try.func4, Try.ntmps4
    go_wp2_with (first | ((with_reducible refine gate_dst (N := 1) rfl ?_); refine box_event ?hg (N := 1) ?hd (cs := #[.int .i64 a0_0, .slice A0_1 l0_1.length c0_1]) (t := 24) ?hr ?_; (case hd => rfl); (case hg => rfl); (case hr => first | (go_simp; done) | (go_simp; rfl)); intro gb239 hg w4 hbox hb; have n0_ := Aside0.mk (below_step (by repeat (first | (with_reducible first | exact HB.out | apply below_alloc | apply pw_below_drewN | apply below_drew1) | exact HB.out)) hb); have n1_ := Aside0.mk (hbox); have n2_ := Aside0.mk ((by rw [hg]; exact (below_size (by repeat (first | (with_reducible first | exact HB.out | apply below_alloc | apply pw_below_drewN | apply below_drew1) | exact HB.out))) : w.heap.size ≤ gb239)); have n3_ := Aside0.mk ((by rw [hg]; exact (below_size (by repeat (first | (with_reducible first | exact HB.out | apply below_alloc | apply pw_below_drewN | apply below_drew1) | exact HB.out))) : w.heap.size ≤ gb239)); clear HB; have HB := n0_; have BK239 := n1_; have GW239 := n2_; have GE239 := n3_; clear n0_ n1_ n2_ n3_; clear hb hbox hg; have hcz5_0 : w4.cell? ⟨gb239, 0, none⟩ = some (.int .i64 a0_0) := (blk_cell BK239.out 0).trans rfl; have hcz5_1 : w4.cell? ⟨gb239, 1, none⟩ = some (.slice A0_1 l0_1.length c0_1) := (blk_cell BK239.out 1).trans rfl; have hfz5_0 := blk_frozen BK239.out 0; have hfz5_1 := blk_frozen BK239.out 1) | ((with_reducible refine gate_callee (f := 20) rfl ?_); refine goesL_ (some 16) rfl rfl Try.func20 (by kernel_rfl) rfl #[.agg #[.int .i64 a0_0, .slice A0_1 l0_1.length c0_1], .int .i64 1048576] rfl (by (try simp only [List.map_toArray, List.map_cons, List.map_nil]); first | done | rfl | (simp only [List.length_drop, List.length_take]; rfl)) ?_; (with_reducible refine (laws_szBits.calls a0_0 _ _ l0_1 1048576 t240 _ ?side1 ?side2 A2.out).mono ?_); (case side1 => repeat (first | exact (Kd.C_below HR0_1.out HB.out) | (with_reducible refine Kd.C_alloc ?_ _) | (with_reducible refine Kd.C_drewN ?_ _) | (with_reducible refine Kd.C_drew ?_))); (case side2 => exact HC0_1.out); rintro e w6 ⟨rfl, hb⟩; refine ⟨_, rfl, ?_⟩; have n0_ := Aside0.mk (blk_below (g := gb239) (o := .cells #[.int .i64 a0_0, .slice A0_1 l0_1.length c0_1] 24 (0, 0)) (by (with_reducible repeat (first | refine blk_drewN ?_ _ | refine blk_drew ?_ | refine blk_alloc ?_ _)); exact BK239.out) hb); have n1_ := Aside0.mk (below_step (by repeat (first | (with_reducible first | exact HB.out | apply below_alloc | apply pw_below_drewN | apply below_drew1 | refine below_set ?_ GE239.out) | exact HB.out)) hb); clear BK239; clear HB; have BK239 := n0_; have HB := n1_; clear n0_ n1_; (try clear hb); (try clear hb2); (try clear hk); (try clear hi)))
    go_ret
    exact ⟨by first | rfl | (simp [errW_none, errW_some] <;> rfl) | (simp [*, errW_none, errW_some] <;> rfl), by repeat (first | (with_reducible first | exact HB.out | apply below_alloc | apply pw_below_drewN | apply below_drew1 | refine below_set ?_ GE239.out) | exact HB.out)⟩
  · rw [if_neg c3] at H
    have c3b0 : decide (t240 < 0) = false := decide_eq_false c3
    clear c3
    replace H := Option.bind_eq_some_iff.mp H
    obtain ⟨⟨t241, t242⟩, A70, H⟩ := H
    replace H : ((spec_BuildRanked.f k t241 t242).bind fun bt245 => ((laws_toBits.f k a0_0 l0_1).bind fun bt257 => ((impl_BuildRanked.f k bt257.1 bt257.2).bind fun bt262 => ((laws_eqRanked.f k bt262.1 bt262.2.1 bt262.2.2.1 bt262.2.2.2.1 bt245.1 bt245.2.1 bt245.2.2.1 bt245.2.2.2.1).bind fun t274 => (if t274 = true then (laws_FnExactBuildRanked.j0 k bt245.2.2.2.2 bt262.2.2.2.2 (bt262.2.2.2.2 != bt245.2.2.2.2) a0_0 l0_1 bt245.1 bt245.2.1 bt245.2.2.1 bt245.2.2.2.1 bt257.1 bt257.2 bt262.1 bt262.2.1 bt262.2.2.1 bt262.2.2.2.1) else (none)))))) = some r := H
    have A7 := Aside0.mk A70
    clear A70
    replace H := Option.bind_eq_some_iff.mp H
    obtain ⟨⟨t245, t246, t249, t252, t255⟩, A80, H⟩ := H
    replace H : ((laws_toBits.f k a0_0 l0_1).bind fun bt257 => ((impl_BuildRanked.f k bt257.1 bt257.2).bind fun bt262 => ((laws_eqRanked.f k bt262.1 bt262.2.1 bt262.2.2.1 bt262.2.2.2.1 t245 t246 t249 t252).bind fun t274 => (if t274 = true then (laws_FnExactBuildRanked.j0 k t255 bt262.2.2.2.2 (bt262.2.2.2.2 != t255) a0_0 l0_1 t245 t246 t249 t252 bt257.1 bt257.2 bt262.1 bt262.2.1 bt262.2.2.1 bt262.2.2.2.1) else (none))))) = some r := H
    have A8 := Aside0.mk A80
    clear A80
    replace H := Option.bind_eq_some_iff.mp H
    obtain ⟨⟨t257, t258⟩, A90, H⟩ := H
    replace H : ((impl_BuildRanked.f k t257 t258).bind fun bt262 => ((laws_eqRanked.f k bt262.1 bt262.2.1 bt262.2.2.1 bt262.2.2.2.1 t245 t246 t249 t252).bind fun t274 => (if t274 = true then (laws_FnExactBuildRanked.j0 k t255 bt262.2.2.2.2 (bt262.2.2.2.2 != t255) a0_0 l0_1 t245 t246 t249 t252 t257 t258 bt262.1 bt262.2.1 bt262.2.2.1 bt262.2.2.2.1) else (none)))) = some r := H
    have A9 := Aside0.mk A90
    clear A90
    replace H := Option.bind_eq_some_iff.mp H
    obtain ⟨⟨t262, t263, t266, t269, t272⟩, A100, H⟩ := H
    replace H : ((laws_eqRanked.f k t262 t263 t266 t269 t245 t246 t249 t252).bind fun t274 => (if t274 = true then (laws_FnExactBuildRanked.j0 k t255 t272 (t272 != t255) a0_0 l0_1 t245 t246 t249 t252 t257 t258 t262 t263 t266 t269) else (none))) = some r := H
    have A10 := Aside0.mk A100
    clear A100
    have HC11 := Aside0.mk H
    clear H
    go_enter Try.func4, Try.ntmps4
    go_upto_region 8 with (first | ((with_reducible refine gate_dst (N := 1) rfl ?_); refine box_event ?hg (N := 1) ?hd (cs := #[.int .i64 a0_0, .slice A0_1 l0_1.length c0_1]) (t := 24) ?hr ?_; (case hd => rfl); (case hg => rfl); (case hr => first | (go_simp; done) | (go_simp; rfl)); intro gb239 hg w12 hbox hb; have n0_ := Aside0.mk (below_step (by repeat (first | (with_reducible first | exact HB.out | apply below_alloc | apply pw_below_drewN | apply below_drew1) | exact HB.out)) hb); have n1_ := Aside0.mk (hbox); have n2_ := Aside0.mk ((by rw [hg]; exact (below_size (by repeat (first | (with_reducible first | exact HB.out | apply below_alloc | apply pw_below_drewN | apply below_drew1) | exact HB.out))) : w.heap.size ≤ gb239)); have n3_ := Aside0.mk ((by rw [hg]; exact (below_size (by repeat (first | (with_reducible first | exact HB.out | apply below_alloc | apply pw_below_drewN | apply below_drew1) | exact HB.out))) : w.heap.size ≤ gb239)); clear HB; have HB := n0_; have BK239 := n1_; have GW239 := n2_; have GE239 := n3_; clear n0_ n1_ n2_ n3_; clear hb hbox hg; have hcz13_0 : w12.cell? ⟨gb239, 0, none⟩ = some (.int .i64 a0_0) := (blk_cell BK239.out 0).trans rfl; have hcz13_1 : w12.cell? ⟨gb239, 1, none⟩ = some (.slice A0_1 l0_1.length c0_1) := (blk_cell BK239.out 1).trans rfl; have hfz13_0 := blk_frozen BK239.out 0; have hfz13_1 := blk_frozen BK239.out 1) | ((with_reducible refine gate_callee (f := 20) rfl ?_); refine goesL_ (some 16) rfl rfl Try.func20 (by kernel_rfl) rfl #[.agg #[.int .i64 a0_0, .slice A0_1 l0_1.length c0_1], .int .i64 1048576] rfl (by (try simp only [List.map_toArray, List.map_cons, List.map_nil]); first | done | rfl | (simp only [List.length_drop, List.length_take]; rfl)) ?_; (with_reducible refine (laws_szBits.calls a0_0 _ _ l0_1 1048576 t240 _ ?side1 ?side2 A2.out).mono ?_); (case side1 => repeat (first | exact (Kd.C_below HR0_1.out HB.out) | (with_reducible refine Kd.C_alloc ?_ _) | (with_reducible refine Kd.C_drewN ?_ _) | (with_reducible refine Kd.C_drew ?_))); (case side2 => exact HC0_1.out); rintro e w14 ⟨rfl, hb⟩; refine ⟨_, rfl, ?_⟩; have n0_ := Aside0.mk (blk_below (g := gb239) (o := .cells #[.int .i64 a0_0, .slice A0_1 l0_1.length c0_1] 24 (0, 0)) (by (with_reducible repeat (first | refine blk_drewN ?_ _ | refine blk_drew ?_ | refine blk_alloc ?_ _)); exact BK239.out) hb); have n1_ := Aside0.mk (below_step (by repeat (first | (with_reducible first | exact HB.out | apply below_alloc | apply pw_below_drewN | apply below_drew1 | refine below_set ?_ GE239.out) | exact HB.out)) hb); clear BK239; clear HB; have BK239 := n0_; have HB := n1_; clear n0_ n1_; (try clear hb); (try clear hb2); (try clear hk); (try clear hi); have hcz15_0 : w14.cell? ⟨gb239, 0, none⟩ = some (.int .i64 a0_0) := (blk_cell BK239.out 0).trans rfl; have hcz15_1 : w14.cell? ⟨gb239, 1, none⟩ = some (.slice A0_1 l0_1.length c0_1) := (blk_cell BK239.out 1).trans rfl; have hfz15_0 := blk_frozen BK239.out 0; have hfz15_1 := blk_frozen BK239.out 1) | ((with_reducible refine gate_callee (f := 22) rfl ?_); refine goesL_ (some 21) rfl rfl Try.func22 (by kernel_rfl) rfl #[.agg #[.int .i64 a0_0, .slice A0_1 l0_1.length c0_1]] rfl (by (try simp only [List.map_toArray, List.map_cons, List.map_nil]); first | done | rfl | (simp only [List.length_drop, List.length_take]; rfl)) ?_; (with_reducible refine (laws_toBits.calls k a0_0 _ _ l0_1 t241 t242 _ ?side1 ?side2 A7.out).mono ?_); (case side1 => repeat (first | exact (Kd.C_below HR0_1.out HB.out) | (with_reducible refine Kd.C_alloc ?_ _) | (with_reducible refine Kd.C_drewN ?_ _) | (with_reducible refine Kd.C_drew ?_))); (case side2 => exact HC0_1.out); rintro e w16 ⟨v243, rfl, ho0, hb⟩; refine ⟨_, rfl, ?_⟩; have n0_ := Aside0.mk (Kd.R_lower ho0 (below_size (by repeat (first | (with_reducible first | exact HB.out | apply below_alloc | apply pw_below_drewN | apply below_drew1 | refine below_set ?_ GE239.out) | exact HB.out)))); have n1_ := Aside0.mk (blk_below (g := gb239) (o := .cells #[.int .i64 a0_0, .slice A0_1 l0_1.length c0_1] 24 (0, 0)) (by (with_reducible repeat (first | refine blk_drewN ?_ _ | refine blk_drew ?_ | refine blk_alloc ?_ _)); exact BK239.out) hb); have n2_ := Aside0.mk (below_step (by repeat (first | (with_reducible first | exact HB.out | apply below_alloc | apply pw_below_drewN | apply below_drew1 | refine below_set ?_ GE239.out) | exact HB.out)) hb); clear BK239; clear HB; have HO244 := n0_; have BK239 := n1_; have HB := n2_; clear n0_ n1_ n2_; (try clear hb); (try clear hb2); (try clear hk); (try clear hi); (try clear ho0); obtain ⟨Ao17, co17, eo17⟩ := Kd.R_slice HO244.out; subst eo17) | ((with_reducible refine gate_callee (f := 21) rfl ?_); refine goesL_ (some 22) rfl rfl Try.func21 (by kernel_rfl) rfl #[.agg #[.int .i64 t241, .slice Ao17 t242.length co17]] rfl (by (try simp only [List.map_toArray, List.map_cons, List.map_nil]); first | done | rfl | (simp only [List.length_drop, List.length_take]; rfl)) ?_; (with_reducible refine (spec_BuildRanked.calls k t241 _ _ t242 t245 t246 t249 t252 t255 _ ?side1 ?side2 A8.out).mono ?_); (case side1 => repeat (first | exact (Kd.R_reads' HO244.out).2.2 | (with_reducible refine Kd.C_alloc ?_ _) | (with_reducible refine Kd.C_drewN ?_ _) | (with_reducible refine Kd.C_drew ?_))); (case side2 => exact (Kd.R_reads' HO244.out).2.1); rintro e w18 ⟨v247, v250, v253, rfl, ho0, ho1, ho2, hb⟩; refine ⟨_, rfl, ?_⟩; have n0_ := Aside0.mk (Kd.R_mono (Kd.R_told (Kd.R_told (Kd.R_told (Kd.R_old (by (with_reducible repeat (first | apply Kd.R_alloc | apply Kd.R_drewN | apply Kd.R_drew)); exact HO244.out) hb) (Kd.R_base ho0)) (Kd.R_base ho1)) (Kd.R_base ho2)) (fun _ h_ => h_.1)); have n1_ := Aside0.mk (Kd.R_lower (Kd.R_new' ho0 (Kd.R_lt (by (with_reducible repeat (first | apply Kd.R_alloc | apply Kd.R_drewN | apply Kd.R_drew)); exact HO244.out))) (below_size (by repeat (first | (with_reducible first | exact HB.out | apply below_alloc | apply pw_below_drewN | apply below_drew1 | refine below_set ?_ GE239.out) | exact HB.out)))); have n2_ := Aside0.mk (Kd.R_lower (Kd.R_new' ho1 (Kd.R_lt (by (with_reducible repeat (first | apply Kd.R_alloc | apply Kd.R_drewN | apply Kd.R_drew)); exact HO244.out))) (below_size (by repeat (first | (with_reducible first | exact HB.out | apply below_alloc | apply pw_below_drewN | apply below_drew1 | refine below_set ?_ GE239.out) | exact HB.out)))); have n3_ := Aside0.mk (Kd.R_lower (Kd.R_new' ho2 (Kd.R_lt (by (with_reducible repeat (first | apply Kd.R_alloc | apply Kd.R_drewN | apply Kd.R_drew)); exact HO244.out))) (below_size (by repeat (first | (with_reducible first | exact HB.out | apply below_alloc | apply pw_below_drewN | apply below_drew1 | refine below_set ?_ GE239.out) | exact HB.out)))); have n4_ := Aside0.mk (blk_below (g := gb239) (o := .cells #[.int .i64 a0_0, .slice A0_1 l0_1.length c0_1] 24 (0, 0)) (by (with_reducible repeat (first | refine blk_drewN ?_ _ | refine blk_drew ?_ | refine blk_alloc ?_ _)); exact BK239.out) hb); have n5_ := Aside0.mk (below_step (by repeat (first | (with_reducible first | exact HB.out | apply below_alloc | apply pw_below_drewN | apply below_drew1 | refine below_set ?_ GE239.out) | exact HB.out)) hb); clear HO244; clear BK239; clear HB; have HO244 := n0_; have HO248 := n1_; have HO251 := n2_; have HO254 := n3_; have BK239 := n4_; have HB := n5_; clear n0_ n1_ n2_ n3_ n4_ n5_; (try clear hb); (try clear hb2); (try clear hk); (try clear hi); (try clear ho0); (try clear ho1); (try clear ho2)) | ((with_reducible refine gate_dst (N := 4) rfl ?_); refine box_event ?hg (N := 4) ?hd (cs := #[.int .i64 0, .slice none 0 0, .slice none 0 0, .slice none 0 0]) (t := 31) ?hr ?_; (case hd => rfl); (case hg => rfl); (case hr => first | (go_simp; done) | (go_simp; rfl)); intro gb256 hg w19 hbox hb; have n0_ := Aside0.mk (Kd.R_below (by (with_reducible repeat (first | apply Kd.R_alloc | apply Kd.R_drewN | apply Kd.R_drew)); exact HO244.out) hb); have n1_ := Aside0.mk (Kd.R_below (by (with_reducible repeat (first | apply Kd.R_alloc | apply Kd.R_drewN | apply Kd.R_drew)); exact HO248.out) hb); have n2_ := Aside0.mk (Kd.R_below (by (with_reducible repeat (first | apply Kd.R_alloc | apply Kd.R_drewN | apply Kd.R_drew)); exact HO251.out) hb); have n3_ := Aside0.mk (Kd.R_below (by (with_reducible repeat (first | apply Kd.R_alloc | apply Kd.R_drewN | apply Kd.R_drew)); exact HO254.out) hb); have n4_ := Aside0.mk (blk_below (g := gb239) (o := .cells #[.int .i64 a0_0, .slice A0_1 l0_1.length c0_1] 24 (0, 0)) (by (with_reducible repeat (first | refine blk_drewN ?_ _ | refine blk_drew ?_ | refine blk_alloc ?_ _)); exact BK239.out) hb); have n5_ := Aside0.mk (below_step (by repeat (first | (with_reducible first | exact HB.out | apply below_alloc | apply pw_below_drewN | apply below_drew1 | refine below_set ?_ GE239.out) | exact HB.out)) hb); have n6_ := Aside0.mk (hbox); have n7_ := Aside0.mk ((by rw [hg]; exact (below_size (by repeat (first | (with_reducible first | exact HB.out | apply below_alloc | apply pw_below_drewN | apply below_drew1 | refine below_set ?_ GE239.out) | exact HB.out))) : w.heap.size ≤ gb256)); have n8_ := Aside0.mk ((by rw [hg]; exact (below_size (by repeat (first | (with_reducible first | exact HB.out | apply below_alloc | apply pw_below_drewN | apply below_drew1 | refine below_set ?_ GE239.out) | exact HB.out))) : w.heap.size ≤ gb256)); have n9_ := Aside0.mk ((by rw [hg]; exact Nat.ne_of_lt (blk_lt (g := gb239) (o := .cells #[.int .i64 a0_0, .slice A0_1 l0_1.length c0_1] 24 (0, 0)) (by (with_reducible repeat (first | refine blk_drewN ?_ _ | refine blk_drew ?_ | refine blk_alloc ?_ _)); exact BK239.out)) : gb239 ≠ gb256)); have n10_ := Aside0.mk ((by rw [hg]; exact Nat.ne_of_gt (blk_lt (g := gb239) (o := .cells #[.int .i64 a0_0, .slice A0_1 l0_1.length c0_1] 24 (0, 0)) (by (with_reducible repeat (first | refine blk_drewN ?_ _ | refine blk_drew ?_ | refine blk_alloc ?_ _)); exact BK239.out)) : gb256 ≠ gb239)); clear HO244; clear HO248; clear HO251; clear HO254; clear BK239; clear HB; have HO244 := n0_; have HO248 := n1_; have HO251 := n2_; have HO254 := n3_; have BK239 := n4_; have HB := n5_; have BK256 := n6_; have GW256 := n7_; have GE256 := n8_; have NB239_256 := n9_; have NB256_239 := n10_; clear n0_ n1_ n2_ n3_ n4_ n5_ n6_ n7_ n8_ n9_ n10_; clear hb hbox hg; have hnb20 := NB256_239.out; have hnc20 := NB239_256.out; have hcz21_0 : w19.cell? ⟨gb256, 0, none⟩ = some (.int .i64 0) := (blk_cell BK256.out 0).trans rfl; have hcz21_1 : w19.cell? ⟨gb256, 1, none⟩ = some (.slice none 0 0) := (blk_cell BK256.out 1).trans rfl; have hcz21_2 : w19.cell? ⟨gb256, 2, none⟩ = some (.slice none 0 0) := (blk_cell BK256.out 2).trans rfl; have hcz21_3 : w19.cell? ⟨gb256, 3, none⟩ = some (.slice none 0 0) := (blk_cell BK256.out 3).trans rfl; have hfz21_0 := blk_frozen BK256.out 0; have hfz21_1 := blk_frozen BK256.out 1; have hfz21_2 := blk_frozen BK256.out 2; have hfz21_3 := blk_frozen BK256.out 3; obtain ⟨Ao22, co22, eo22⟩ := Kd.R_slice HO248.out; subst eo22; obtain ⟨Ao23, co23, eo23⟩ := Kd.R_slice HO251.out; subst eo23; obtain ⟨Ao24, co24, eo24⟩ := Kd.R_slice HO254.out; subst eo24; have hcz25_0 : w19.cell? ⟨gb239, 0, none⟩ = some (.int .i64 a0_0) := (blk_cell BK239.out 0).trans rfl; have hcz25_1 : w19.cell? ⟨gb239, 1, none⟩ = some (.slice A0_1 l0_1.length c0_1) := (blk_cell BK239.out 1).trans rfl; have hfz25_0 := blk_frozen BK239.out 0; have hfz25_1 := blk_frozen BK239.out 1) | ((with_reducible refine gate_callee (f := 22) rfl ?_); refine goesL_ (some 26) rfl rfl Try.func22 (by kernel_rfl) rfl #[.agg #[.int .i64 a0_0, .slice A0_1 l0_1.length c0_1]] rfl (by (try simp only [List.map_toArray, List.map_cons, List.map_nil]); first | done | rfl | (simp only [List.length_drop, List.length_take]; rfl)) ?_; (with_reducible refine (laws_toBits.calls k a0_0 _ _ l0_1 t257 t258 _ ?side1 ?side2 A9.out).mono ?_); (case side1 => exact Kd.C_below HR0_1.out (by repeat (first | (with_reducible first | exact HB.out | apply below_alloc | apply pw_below_drewN | apply below_drew1 | refine below_set ?_ GE239.out | refine below_set ?_ GE256.out) | exact HB.out))); (case side2 => exact HC0_1.out); rintro e w26 ⟨v259, rfl, ho0, hb⟩; refine ⟨_, rfl, ?_⟩; have n0_ := Aside0.mk (Kd.R_elder' (by (with_reducible repeat (first | apply Kd.R_alloc | apply Kd.R_drewN | apply Kd.R_drew)); exact (Kd.R_mono (Kd.R_far (p := ⟨gb256, 3, none⟩) (Kd.R_far (p := ⟨gb256, 2, none⟩) (Kd.R_far (p := ⟨gb256, 1, none⟩) (Kd.R_far (p := ⟨gb256, 0, none⟩) (Kd.R_types HO244.out BK256.out (by decide)) (fun _ hk => hk.2) (.int .i64 t245)) (fun _ hk => hk.2) (.slice Ao22 t246.length co22)) (fun _ hk => hk.2) (.slice Ao23 t249.length co23)) (fun _ hk => hk.2) (.slice Ao24 t252.length co24)) (fun _ h_ => h_.1))) (Kd.R_base ho0) hb); have n1_ := Aside0.mk (Kd.R_elder' (by (with_reducible repeat (first | apply Kd.R_alloc | apply Kd.R_drewN | apply Kd.R_drew)); exact (Kd.R_mono (Kd.R_far (p := ⟨gb256, 3, none⟩) (Kd.R_far (p := ⟨gb256, 2, none⟩) (Kd.R_far (p := ⟨gb256, 1, none⟩) (Kd.R_far (p := ⟨gb256, 0, none⟩) (Kd.R_types HO248.out BK256.out (by decide)) (fun _ hk => hk.2) (.int .i64 t245)) (fun _ hk => hk.2) (.slice Ao22 t246.length co22)) (fun _ hk => hk.2) (.slice Ao23 t249.length co23)) (fun _ hk => hk.2) (.slice Ao24 t252.length co24)) (fun _ h_ => h_.1))) (Kd.R_base ho0) hb); have n2_ := Aside0.mk (Kd.R_elder' (by (with_reducible repeat (first | apply Kd.R_alloc | apply Kd.R_drewN | apply Kd.R_drew)); exact (Kd.R_mono (Kd.R_far (p := ⟨gb256, 3, none⟩) (Kd.R_far (p := ⟨gb256, 2, none⟩) (Kd.R_far (p := ⟨gb256, 1, none⟩) (Kd.R_far (p := ⟨gb256, 0, none⟩) (Kd.R_types HO251.out BK256.out (by decide)) (fun _ hk => hk.2) (.int .i64 t245)) (fun _ hk => hk.2) (.slice Ao22 t246.length co22)) (fun _ hk => hk.2) (.slice Ao23 t249.length co23)) (fun _ hk => hk.2) (.slice Ao24 t252.length co24)) (fun _ h_ => h_.1))) (Kd.R_base ho0) hb); have n3_ := Aside0.mk (Kd.R_elder' (by (with_reducible repeat (first | apply Kd.R_alloc | apply Kd.R_drewN | apply Kd.R_drew)); exact (Kd.R_mono (Kd.R_far (p := ⟨gb256, 3, none⟩) (Kd.R_far (p := ⟨gb256, 2, none⟩) (Kd.R_far (p := ⟨gb256, 1, none⟩) (Kd.R_far (p := ⟨gb256, 0, none⟩) (Kd.R_types HO254.out BK256.out (by decide)) (fun _ hk => hk.2) (.int .i64 t245)) (fun _ hk => hk.2) (.slice Ao22 t246.length co22)) (fun _ hk => hk.2) (.slice Ao23 t249.length co23)) (fun _ hk => hk.2) (.slice Ao24 t252.length co24)) (fun _ h_ => h_.1))) (Kd.R_base ho0) hb); have n4_ := Aside0.mk (Kd.R_lower (Kd.R_new' (Kd.R_new' (Kd.R_new' (Kd.R_new' ho0 (Kd.R_lt (by (with_reducible repeat (first | apply Kd.R_alloc | apply Kd.R_drewN | apply Kd.R_drew)); exact (Kd.R_mono (Kd.R_far (p := ⟨gb256, 3, none⟩) (Kd.R_far (p := ⟨gb256, 2, none⟩) (Kd.R_far (p := ⟨gb256, 1, none⟩) (Kd.R_far (p := ⟨gb256, 0, none⟩) (Kd.R_types HO244.out BK256.out (by decide)) (fun _ hk => hk.2) (.int .i64 t245)) (fun _ hk => hk.2) (.slice Ao22 t246.length co22)) (fun _ hk => hk.2) (.slice Ao23 t249.length co23)) (fun _ hk => hk.2) (.slice Ao24 t252.length co24)) (fun _ h_ => h_.1))))) (Kd.R_lt (by (with_reducible repeat (first | apply Kd.R_alloc | apply Kd.R_drewN | apply Kd.R_drew)); exact (Kd.R_mono (Kd.R_far (p := ⟨gb256, 3, none⟩) (Kd.R_far (p := ⟨gb256, 2, none⟩) (Kd.R_far (p := ⟨gb256, 1, none⟩) (Kd.R_far (p := ⟨gb256, 0, none⟩) (Kd.R_types HO248.out BK256.out (by decide)) (fun _ hk => hk.2) (.int .i64 t245)) (fun _ hk => hk.2) (.slice Ao22 t246.length co22)) (fun _ hk => hk.2) (.slice Ao23 t249.length co23)) (fun _ hk => hk.2) (.slice Ao24 t252.length co24)) (fun _ h_ => h_.1))))) (Kd.R_lt (by (with_reducible repeat (first | apply Kd.R_alloc | apply Kd.R_drewN | apply Kd.R_drew)); exact (Kd.R_mono (Kd.R_far (p := ⟨gb256, 3, none⟩) (Kd.R_far (p := ⟨gb256, 2, none⟩) (Kd.R_far (p := ⟨gb256, 1, none⟩) (Kd.R_far (p := ⟨gb256, 0, none⟩) (Kd.R_types HO251.out BK256.out (by decide)) (fun _ hk => hk.2) (.int .i64 t245)) (fun _ hk => hk.2) (.slice Ao22 t246.length co22)) (fun _ hk => hk.2) (.slice Ao23 t249.length co23)) (fun _ hk => hk.2) (.slice Ao24 t252.length co24)) (fun _ h_ => h_.1))))) (Kd.R_lt (by (with_reducible repeat (first | apply Kd.R_alloc | apply Kd.R_drewN | apply Kd.R_drew)); exact (Kd.R_mono (Kd.R_far (p := ⟨gb256, 3, none⟩) (Kd.R_far (p := ⟨gb256, 2, none⟩) (Kd.R_far (p := ⟨gb256, 1, none⟩) (Kd.R_far (p := ⟨gb256, 0, none⟩) (Kd.R_types HO254.out BK256.out (by decide)) (fun _ hk => hk.2) (.int .i64 t245)) (fun _ hk => hk.2) (.slice Ao22 t246.length co22)) (fun _ hk => hk.2) (.slice Ao23 t249.length co23)) (fun _ hk => hk.2) (.slice Ao24 t252.length co24)) (fun _ h_ => h_.1))))) (below_size (by repeat (first | (with_reducible first | exact HB.out | apply below_alloc | apply pw_below_drewN | apply below_drew1 | refine below_set ?_ GE239.out | refine below_set ?_ GE256.out) | exact HB.out)))); have n5_ := Aside0.mk (blk_below (g := gb239) (o := .cells #[.int .i64 a0_0, .slice A0_1 l0_1.length c0_1] 24 (0, 0)) (by (with_reducible repeat (first | refine blk_drewN ?_ _ | refine blk_drew ?_ | refine blk_alloc ?_ _)); refine blk_far ?_ NB239_256.out _; (with_reducible repeat (first | refine blk_drewN ?_ _ | refine blk_drew ?_ | refine blk_alloc ?_ _)); refine blk_far ?_ NB239_256.out _; (with_reducible repeat (first | refine blk_drewN ?_ _ | refine blk_drew ?_ | refine blk_alloc ?_ _)); refine blk_far ?_ NB239_256.out _; (with_reducible repeat (first | refine blk_drewN ?_ _ | refine blk_drew ?_ | refine blk_alloc ?_ _)); refine blk_far ?_ NB239_256.out _; (with_reducible repeat (first | refine blk_drewN ?_ _ | refine blk_drew ?_ | refine blk_alloc ?_ _)); exact BK239.out) hb); have n6_ := Aside0.mk (blk_below (g := gb256) (o := .cells #[.int .i64 t245, .slice Ao22 t246.length co22, .slice Ao23 t249.length co23, .slice Ao24 t252.length co24] 31 (0, 0)) (by (with_reducible repeat (first | refine blk_drewN ?_ _ | refine blk_drew ?_ | refine blk_alloc ?_ _)); refine blk_put (cs := #[.int .i64 t245, .slice Ao22 t246.length co22, .slice Ao23 t249.length co23, .slice none 0 0]) ?_ 3 _ rfl; (with_reducible repeat (first | refine blk_drewN ?_ _ | refine blk_drew ?_ | refine blk_alloc ?_ _)); refine blk_put (cs := #[.int .i64 t245, .slice Ao22 t246.length co22, .slice none 0 0, .slice none 0 0]) ?_ 2 _ rfl; (with_reducible repeat (first | refine blk_drewN ?_ _ | refine blk_drew ?_ | refine blk_alloc ?_ _)); refine blk_put (cs := #[.int .i64 t245, .slice none 0 0, .slice none 0 0, .slice none 0 0]) ?_ 1 _ rfl; (with_reducible repeat (first | refine blk_drewN ?_ _ | refine blk_drew ?_ | refine blk_alloc ?_ _)); refine blk_put (cs := #[.int .i64 0, .slice none 0 0, .slice none 0 0, .slice none 0 0]) ?_ 0 _ rfl; (with_reducible repeat (first | refine blk_drewN ?_ _ | refine blk_drew ?_ | refine blk_alloc ?_ _)); exact BK256.out) hb); have n7_ := Aside0.mk (below_step (by repeat (first | (with_reducible first | exact HB.out | apply below_alloc | apply pw_below_drewN | apply below_drew1 | refine below_set ?_ GE239.out | refine below_set ?_ GE256.out) | exact HB.out)) hb); clear HO244; clear HO248; clear HO251; clear HO254; clear BK239; clear BK256; clear HB; have HO244 := n0_; have HO248 := n1_; have HO251 := n2_; have HO254 := n3_; have HO260 := n4_; have BK239 := n5_; have BK256 := n6_; have HB := n7_; clear n0_ n1_ n2_ n3_ n4_ n5_ n6_ n7_; (try clear hb); (try clear hb2); (try clear hk); (try clear hi); (try clear ho0)) | ((with_reducible refine gate_dst (N := 6) rfl ?_); refine box_event ?hg (N := 6) ?hd (cs := #[.int .i64 0, .slice none 0 0]) (t := 29) ?hr ?_; (case hd => rfl); (case hg => rfl); (case hr => first | (go_simp; done) | (go_simp; rfl)); intro gb261 hg w27 hbox hb; have n0_ := Aside0.mk (Kd.R_below (by (with_reducible repeat (first | apply Kd.R_alloc | apply Kd.R_drewN | apply Kd.R_drew)); exact HO244.out) hb); have n1_ := Aside0.mk (Kd.R_below (by (with_reducible repeat (first | apply Kd.R_alloc | apply Kd.R_drewN | apply Kd.R_drew)); exact HO248.out) hb); have n2_ := Aside0.mk (Kd.R_below (by (with_reducible repeat (first | apply Kd.R_alloc | apply Kd.R_drewN | apply Kd.R_drew)); exact HO251.out) hb); have n3_ := Aside0.mk (Kd.R_below (by (with_reducible repeat (first | apply Kd.R_alloc | apply Kd.R_drewN | apply Kd.R_drew)); exact HO254.out) hb); have n4_ := Aside0.mk (Kd.R_below (by (with_reducible repeat (first | apply Kd.R_alloc | apply Kd.R_drewN | apply Kd.R_drew)); exact HO260.out) hb); have n5_ := Aside0.mk (blk_below (g := gb239) (o := .cells #[.int .i64 a0_0, .slice A0_1 l0_1.length c0_1] 24 (0, 0)) (by (with_reducible repeat (first | refine blk_drewN ?_ _ | refine blk_drew ?_ | refine blk_alloc ?_ _)); exact BK239.out) hb); have n6_ := Aside0.mk (blk_below (g := gb256) (o := .cells #[.int .i64 t245, .slice Ao22 t246.length co22, .slice Ao23 t249.length co23, .slice Ao24 t252.length co24] 31 (0, 0)) (by (with_reducible repeat (first | refine blk_drewN ?_ _ | refine blk_drew ?_ | refine blk_alloc ?_ _)); exact BK256.out) hb); have n7_ := Aside0.mk (below_step (by repeat (first | (with_reducible first | exact HB.out | apply below_alloc | apply pw_below_drewN | apply below_drew1 | refine below_set ?_ GE239.out | refine below_set ?_ GE256.out) | exact HB.out)) hb); have n8_ := Aside0.mk (hbox); have n9_ := Aside0.mk ((by rw [hg]; exact (below_size (by repeat (first | (with_reducible first | exact HB.out | apply below_alloc | apply pw_below_drewN | apply below_drew1 | refine below_set ?_ GE239.out | refine below_set ?_ GE256.out) | exact HB.out))) : w.heap.size ≤ gb261)); have n10_ := Aside0.mk ((by rw [hg]; exact (below_size (by repeat (first | (with_reducible first | exact HB.out | apply below_alloc | apply pw_below_drewN | apply below_drew1 | refine below_set ?_ GE239.out | refine below_set ?_ GE256.out) | exact HB.out))) : w.heap.size ≤ gb261)); have n11_ := Aside0.mk ((by rw [hg]; exact Nat.ne_of_lt (blk_lt (g := gb239) (o := .cells #[.int .i64 a0_0, .slice A0_1 l0_1.length c0_1] 24 (0, 0)) (by (with_reducible repeat (first | refine blk_drewN ?_ _ | refine blk_drew ?_ | refine blk_alloc ?_ _)); exact BK239.out)) : gb239 ≠ gb261)); have n12_ := Aside0.mk ((by rw [hg]; exact Nat.ne_of_gt (blk_lt (g := gb239) (o := .cells #[.int .i64 a0_0, .slice A0_1 l0_1.length c0_1] 24 (0, 0)) (by (with_reducible repeat (first | refine blk_drewN ?_ _ | refine blk_drew ?_ | refine blk_alloc ?_ _)); exact BK239.out)) : gb261 ≠ gb239)); have n13_ := Aside0.mk ((by rw [hg]; exact Nat.ne_of_lt (blk_lt (g := gb256) (o := .cells #[.int .i64 t245, .slice Ao22 t246.length co22, .slice Ao23 t249.length co23, .slice Ao24 t252.length co24] 31 (0, 0)) (by (with_reducible repeat (first | refine blk_drewN ?_ _ | refine blk_drew ?_ | refine blk_alloc ?_ _)); exact BK256.out)) : gb256 ≠ gb261)); have n14_ := Aside0.mk ((by rw [hg]; exact Nat.ne_of_gt (blk_lt (g := gb256) (o := .cells #[.int .i64 t245, .slice Ao22 t246.length co22, .slice Ao23 t249.length co23, .slice Ao24 t252.length co24] 31 (0, 0)) (by (with_reducible repeat (first | refine blk_drewN ?_ _ | refine blk_drew ?_ | refine blk_alloc ?_ _)); exact BK256.out)) : gb261 ≠ gb256)); clear HO244; clear HO248; clear HO251; clear HO254; clear HO260; clear BK239; clear BK256; clear HB; have HO244 := n0_; have HO248 := n1_; have HO251 := n2_; have HO254 := n3_; have HO260 := n4_; have BK239 := n5_; have BK256 := n6_; have HB := n7_; have BK261 := n8_; have GW261 := n9_; have GE261 := n10_; have NB239_261 := n11_; have NB261_239 := n12_; have NB256_261 := n13_; have NB261_256 := n14_; clear n0_ n1_ n2_ n3_ n4_ n5_ n6_ n7_ n8_ n9_ n10_ n11_ n12_ n13_ n14_; clear hb hbox hg; have hnb28 := NB261_239.out; have hnc28 := NB239_261.out; have hnb29 := NB261_256.out; have hnc29 := NB256_261.out; have hcz30_0 : w27.cell? ⟨gb261, 0, none⟩ = some (.int .i64 0) := (blk_cell BK261.out 0).trans rfl; have hcz30_1 : w27.cell? ⟨gb261, 1, none⟩ = some (.slice none 0 0) := (blk_cell BK261.out 1).trans rfl; have hfz30_0 := blk_frozen BK261.out 0; have hfz30_1 := blk_frozen BK261.out 1; obtain ⟨Ao31, co31, eo31⟩ := Kd.R_slice HO260.out; subst eo31) | ((with_reducible refine gate_callee (f := 23) rfl ?_); refine goesL_ (some 29) rfl rfl Try.func23 (by kernel_rfl) rfl #[.agg #[.int .i64 t257, .slice Ao31 t258.length co31]] rfl (by (try simp only [List.map_toArray, List.map_cons, List.map_nil]); first | done | rfl | (simp only [List.length_drop, List.length_take]; rfl)) ?_; (with_reducible refine (impl_BuildRanked.calls k t257 _ _ t258 t262 t263 t266 t269 t272 _ ?side1 ?side2 A10.out).mono ?_); (case side1 => refine (Kd.R_reads' (e := 3) (base := w.heap.size) (ok := fun k_ => ((((True ∧ some k_ ≠ (.slice Ao17 t242.length co17 : Value).ownBlock) ∧ some k_ ≠ (.slice Ao22 t246.length co22 : Value).ownBlock) ∧ some k_ ≠ (.slice Ao23 t249.length co23 : Value).ownBlock) ∧ some k_ ≠ (.slice Ao24 t252.length co24 : Value).ownBlock)) (n := t258.length) (c := co31) ?_).2.2; exact (by (with_reducible repeat (first | apply Kd.R_alloc | apply Kd.R_drewN | apply Kd.R_drew)); exact (Kd.R_mono (Kd.R_far (p := ⟨gb261, 1, none⟩) (Kd.R_far (p := ⟨gb261, 0, none⟩) (Kd.R_types HO260.out BK261.out (by decide)) (fun _ hk => hk.2) (.int .i64 t257)) (fun _ hk => hk.2) (.slice Ao31 t258.length co31)) (fun _ h_ => h_.1)))); (case side2 => exact (Kd.R_reads' HO260.out).2.1); rintro e w32 ⟨v264, v267, v270, rfl, ho0, ho1, ho2, hb⟩; refine ⟨_, rfl, ?_⟩; have n0_ := Aside0.mk (Kd.R_mono (Kd.R_told (Kd.R_told (Kd.R_told (Kd.R_old (by (with_reducible repeat (first | apply Kd.R_alloc | apply Kd.R_drewN | apply Kd.R_drew)); exact (Kd.R_mono (Kd.R_far (p := ⟨gb261, 1, none⟩) (Kd.R_far (p := ⟨gb261, 0, none⟩) (Kd.R_types HO244.out BK261.out (by decide)) (fun _ hk => hk.2) (.int .i64 t257)) (fun _ hk => hk.2) (.slice Ao31 t258.length co31)) (fun _ h_ => h_.1))) hb) (Kd.R_base ho0)) (Kd.R_base ho1)) (Kd.R_base ho2)) (fun _ h_ => h_.1)); have n1_ := Aside0.mk (Kd.R_mono (Kd.R_told (Kd.R_told (Kd.R_told (Kd.R_old (by (with_reducible repeat (first | apply Kd.R_alloc | apply Kd.R_drewN | apply Kd.R_drew)); exact (Kd.R_mono (Kd.R_far (p := ⟨gb261, 1, none⟩) (Kd.R_far (p := ⟨gb261, 0, none⟩) (Kd.R_types HO248.out BK261.out (by decide)) (fun _ hk => hk.2) (.int .i64 t257)) (fun _ hk => hk.2) (.slice Ao31 t258.length co31)) (fun _ h_ => h_.1))) hb) (Kd.R_base ho0)) (Kd.R_base ho1)) (Kd.R_base ho2)) (fun _ h_ => h_.1)); have n2_ := Aside0.mk (Kd.R_mono (Kd.R_told (Kd.R_told (Kd.R_told (Kd.R_old (by (with_reducible repeat (first | apply Kd.R_alloc | apply Kd.R_drewN | apply Kd.R_drew)); exact (Kd.R_mono (Kd.R_far (p := ⟨gb261, 1, none⟩) (Kd.R_far (p := ⟨gb261, 0, none⟩) (Kd.R_types HO251.out BK261.out (by decide)) (fun _ hk => hk.2) (.int .i64 t257)) (fun _ hk => hk.2) (.slice Ao31 t258.length co31)) (fun _ h_ => h_.1))) hb) (Kd.R_base ho0)) (Kd.R_base ho1)) (Kd.R_base ho2)) (fun _ h_ => h_.1)); have n3_ := Aside0.mk (Kd.R_mono (Kd.R_told (Kd.R_told (Kd.R_told (Kd.R_old (by (with_reducible repeat (first | apply Kd.R_alloc | apply Kd.R_drewN | apply Kd.R_drew)); exact (Kd.R_mono (Kd.R_far (p := ⟨gb261, 1, none⟩) (Kd.R_far (p := ⟨gb261, 0, none⟩) (Kd.R_types HO254.out BK261.out (by decide)) (fun _ hk => hk.2) (.int .i64 t257)) (fun _ hk => hk.2) (.slice Ao31 t258.length co31)) (fun _ h_ => h_.1))) hb) (Kd.R_base ho0)) (Kd.R_base ho1)) (Kd.R_base ho2)) (fun _ h_ => h_.1)); have n4_ := Aside0.mk (Kd.R_mono (Kd.R_told (Kd.R_told (Kd.R_told (Kd.R_old (by (with_reducible repeat (first | apply Kd.R_alloc | apply Kd.R_drewN | apply Kd.R_drew)); exact (Kd.R_mono (Kd.R_far (p := ⟨gb261, 1, none⟩) (Kd.R_far (p := ⟨gb261, 0, none⟩) (Kd.R_types HO260.out BK261.out (by decide)) (fun _ hk => hk.2) (.int .i64 t257)) (fun _ hk => hk.2) (.slice Ao31 t258.length co31)) (fun _ h_ => h_.1))) hb) (Kd.R_base ho0)) (Kd.R_base ho1)) (Kd.R_base ho2)) (fun _ h_ => h_.1)); have n5_ := Aside0.mk (Kd.R_lower (Kd.R_new' (Kd.R_new' (Kd.R_new' (Kd.R_new' (Kd.R_new' ho0 (Kd.R_lt (by (with_reducible repeat (first | apply Kd.R_alloc | apply Kd.R_drewN | apply Kd.R_drew)); exact (Kd.R_mono (Kd.R_far (p := ⟨gb261, 1, none⟩) (Kd.R_far (p := ⟨gb261, 0, none⟩) (Kd.R_types HO244.out BK261.out (by decide)) (fun _ hk => hk.2) (.int .i64 t257)) (fun _ hk => hk.2) (.slice Ao31 t258.length co31)) (fun _ h_ => h_.1))))) (Kd.R_lt (by (with_reducible repeat (first | apply Kd.R_alloc | apply Kd.R_drewN | apply Kd.R_drew)); exact (Kd.R_mono (Kd.R_far (p := ⟨gb261, 1, none⟩) (Kd.R_far (p := ⟨gb261, 0, none⟩) (Kd.R_types HO248.out BK261.out (by decide)) (fun _ hk => hk.2) (.int .i64 t257)) (fun _ hk => hk.2) (.slice Ao31 t258.length co31)) (fun _ h_ => h_.1))))) (Kd.R_lt (by (with_reducible repeat (first | apply Kd.R_alloc | apply Kd.R_drewN | apply Kd.R_drew)); exact (Kd.R_mono (Kd.R_far (p := ⟨gb261, 1, none⟩) (Kd.R_far (p := ⟨gb261, 0, none⟩) (Kd.R_types HO251.out BK261.out (by decide)) (fun _ hk => hk.2) (.int .i64 t257)) (fun _ hk => hk.2) (.slice Ao31 t258.length co31)) (fun _ h_ => h_.1))))) (Kd.R_lt (by (with_reducible repeat (first | apply Kd.R_alloc | apply Kd.R_drewN | apply Kd.R_drew)); exact (Kd.R_mono (Kd.R_far (p := ⟨gb261, 1, none⟩) (Kd.R_far (p := ⟨gb261, 0, none⟩) (Kd.R_types HO254.out BK261.out (by decide)) (fun _ hk => hk.2) (.int .i64 t257)) (fun _ hk => hk.2) (.slice Ao31 t258.length co31)) (fun _ h_ => h_.1))))) (Kd.R_lt (by (with_reducible repeat (first | apply Kd.R_alloc | apply Kd.R_drewN | apply Kd.R_drew)); exact (Kd.R_mono (Kd.R_far (p := ⟨gb261, 1, none⟩) (Kd.R_far (p := ⟨gb261, 0, none⟩) (Kd.R_types HO260.out BK261.out (by decide)) (fun _ hk => hk.2) (.int .i64 t257)) (fun _ hk => hk.2) (.slice Ao31 t258.length co31)) (fun _ h_ => h_.1))))) (below_size (by repeat (first | (with_reducible first | exact HB.out | apply below_alloc | apply pw_below_drewN | apply below_drew1 | refine below_set ?_ GE239.out | refine below_set ?_ GE256.out | refine below_set ?_ GE261.out) | exact HB.out)))); have n6_ := Aside0.mk (Kd.R_lower (Kd.R_new' (Kd.R_new' (Kd.R_new' (Kd.R_new' (Kd.R_new' ho1 (Kd.R_lt (by (with_reducible repeat (first | apply Kd.R_alloc | apply Kd.R_drewN | apply Kd.R_drew)); exact (Kd.R_mono (Kd.R_far (p := ⟨gb261, 1, none⟩) (Kd.R_far (p := ⟨gb261, 0, none⟩) (Kd.R_types HO244.out BK261.out (by decide)) (fun _ hk => hk.2) (.int .i64 t257)) (fun _ hk => hk.2) (.slice Ao31 t258.length co31)) (fun _ h_ => h_.1))))) (Kd.R_lt (by (with_reducible repeat (first | apply Kd.R_alloc | apply Kd.R_drewN | apply Kd.R_drew)); exact (Kd.R_mono (Kd.R_far (p := ⟨gb261, 1, none⟩) (Kd.R_far (p := ⟨gb261, 0, none⟩) (Kd.R_types HO248.out BK261.out (by decide)) (fun _ hk => hk.2) (.int .i64 t257)) (fun _ hk => hk.2) (.slice Ao31 t258.length co31)) (fun _ h_ => h_.1))))) (Kd.R_lt (by (with_reducible repeat (first | apply Kd.R_alloc | apply Kd.R_drewN | apply Kd.R_drew)); exact (Kd.R_mono (Kd.R_far (p := ⟨gb261, 1, none⟩) (Kd.R_far (p := ⟨gb261, 0, none⟩) (Kd.R_types HO251.out BK261.out (by decide)) (fun _ hk => hk.2) (.int .i64 t257)) (fun _ hk => hk.2) (.slice Ao31 t258.length co31)) (fun _ h_ => h_.1))))) (Kd.R_lt (by (with_reducible repeat (first | apply Kd.R_alloc | apply Kd.R_drewN | apply Kd.R_drew)); exact (Kd.R_mono (Kd.R_far (p := ⟨gb261, 1, none⟩) (Kd.R_far (p := ⟨gb261, 0, none⟩) (Kd.R_types HO254.out BK261.out (by decide)) (fun _ hk => hk.2) (.int .i64 t257)) (fun _ hk => hk.2) (.slice Ao31 t258.length co31)) (fun _ h_ => h_.1))))) (Kd.R_lt (by (with_reducible repeat (first | apply Kd.R_alloc | apply Kd.R_drewN | apply Kd.R_drew)); exact (Kd.R_mono (Kd.R_far (p := ⟨gb261, 1, none⟩) (Kd.R_far (p := ⟨gb261, 0, none⟩) (Kd.R_types HO260.out BK261.out (by decide)) (fun _ hk => hk.2) (.int .i64 t257)) (fun _ hk => hk.2) (.slice Ao31 t258.length co31)) (fun _ h_ => h_.1))))) (below_size (by repeat (first | (with_reducible first | exact HB.out | apply below_alloc | apply pw_below_drewN | apply below_drew1 | refine below_set ?_ GE239.out | refine below_set ?_ GE256.out | refine below_set ?_ GE261.out) | exact HB.out)))); have n7_ := Aside0.mk (Kd.R_lower (Kd.R_new' (Kd.R_new' (Kd.R_new' (Kd.R_new' (Kd.R_new' ho2 (Kd.R_lt (by (with_reducible repeat (first | apply Kd.R_alloc | apply Kd.R_drewN | apply Kd.R_drew)); exact (Kd.R_mono (Kd.R_far (p := ⟨gb261, 1, none⟩) (Kd.R_far (p := ⟨gb261, 0, none⟩) (Kd.R_types HO244.out BK261.out (by decide)) (fun _ hk => hk.2) (.int .i64 t257)) (fun _ hk => hk.2) (.slice Ao31 t258.length co31)) (fun _ h_ => h_.1))))) (Kd.R_lt (by (with_reducible repeat (first | apply Kd.R_alloc | apply Kd.R_drewN | apply Kd.R_drew)); exact (Kd.R_mono (Kd.R_far (p := ⟨gb261, 1, none⟩) (Kd.R_far (p := ⟨gb261, 0, none⟩) (Kd.R_types HO248.out BK261.out (by decide)) (fun _ hk => hk.2) (.int .i64 t257)) (fun _ hk => hk.2) (.slice Ao31 t258.length co31)) (fun _ h_ => h_.1))))) (Kd.R_lt (by (with_reducible repeat (first | apply Kd.R_alloc | apply Kd.R_drewN | apply Kd.R_drew)); exact (Kd.R_mono (Kd.R_far (p := ⟨gb261, 1, none⟩) (Kd.R_far (p := ⟨gb261, 0, none⟩) (Kd.R_types HO251.out BK261.out (by decide)) (fun _ hk => hk.2) (.int .i64 t257)) (fun _ hk => hk.2) (.slice Ao31 t258.length co31)) (fun _ h_ => h_.1))))) (Kd.R_lt (by (with_reducible repeat (first | apply Kd.R_alloc | apply Kd.R_drewN | apply Kd.R_drew)); exact (Kd.R_mono (Kd.R_far (p := ⟨gb261, 1, none⟩) (Kd.R_far (p := ⟨gb261, 0, none⟩) (Kd.R_types HO254.out BK261.out (by decide)) (fun _ hk => hk.2) (.int .i64 t257)) (fun _ hk => hk.2) (.slice Ao31 t258.length co31)) (fun _ h_ => h_.1))))) (Kd.R_lt (by (with_reducible repeat (first | apply Kd.R_alloc | apply Kd.R_drewN | apply Kd.R_drew)); exact (Kd.R_mono (Kd.R_far (p := ⟨gb261, 1, none⟩) (Kd.R_far (p := ⟨gb261, 0, none⟩) (Kd.R_types HO260.out BK261.out (by decide)) (fun _ hk => hk.2) (.int .i64 t257)) (fun _ hk => hk.2) (.slice Ao31 t258.length co31)) (fun _ h_ => h_.1))))) (below_size (by repeat (first | (with_reducible first | exact HB.out | apply below_alloc | apply pw_below_drewN | apply below_drew1 | refine below_set ?_ GE239.out | refine below_set ?_ GE256.out | refine below_set ?_ GE261.out) | exact HB.out)))); have n8_ := Aside0.mk (blk_below (g := gb239) (o := .cells #[.int .i64 a0_0, .slice A0_1 l0_1.length c0_1] 24 (0, 0)) (by (with_reducible repeat (first | refine blk_drewN ?_ _ | refine blk_drew ?_ | refine blk_alloc ?_ _)); refine blk_far ?_ NB239_261.out _; (with_reducible repeat (first | refine blk_drewN ?_ _ | refine blk_drew ?_ | refine blk_alloc ?_ _)); refine blk_far ?_ NB239_261.out _; (with_reducible repeat (first | refine blk_drewN ?_ _ | refine blk_drew ?_ | refine blk_alloc ?_ _)); exact BK239.out) hb); have n9_ := Aside0.mk (blk_below (g := gb256) (o := .cells #[.int .i64 t245, .slice Ao22 t246.length co22, .slice Ao23 t249.length co23, .slice Ao24 t252.length co24] 31 (0, 0)) (by (with_reducible repeat (first | refine blk_drewN ?_ _ | refine blk_drew ?_ | refine blk_alloc ?_ _)); refine blk_far ?_ NB256_261.out _; (with_reducible repeat (first | refine blk_drewN ?_ _ | refine blk_drew ?_ | refine blk_alloc ?_ _)); refine blk_far ?_ NB256_261.out _; (with_reducible repeat (first | refine blk_drewN ?_ _ | refine blk_drew ?_ | refine blk_alloc ?_ _)); exact BK256.out) hb); have n10_ := Aside0.mk (blk_below (g := gb261) (o := .cells #[.int .i64 t257, .slice Ao31 t258.length co31] 29 (0, 0)) (by (with_reducible repeat (first | refine blk_drewN ?_ _ | refine blk_drew ?_ | refine blk_alloc ?_ _)); refine blk_put (cs := #[.int .i64 t257, .slice none 0 0]) ?_ 1 _ rfl; (with_reducible repeat (first | refine blk_drewN ?_ _ | refine blk_drew ?_ | refine blk_alloc ?_ _)); refine blk_put (cs := #[.int .i64 0, .slice none 0 0]) ?_ 0 _ rfl; (with_reducible repeat (first | refine blk_drewN ?_ _ | refine blk_drew ?_ | refine blk_alloc ?_ _)); exact BK261.out) hb); have n11_ := Aside0.mk (below_step (by repeat (first | (with_reducible first | exact HB.out | apply below_alloc | apply pw_below_drewN | apply below_drew1 | refine below_set ?_ GE239.out | refine below_set ?_ GE256.out | refine below_set ?_ GE261.out) | exact HB.out)) hb); clear HO244; clear HO248; clear HO251; clear HO254; clear HO260; clear BK239; clear BK256; clear BK261; clear HB; have HO244 := n0_; have HO248 := n1_; have HO251 := n2_; have HO254 := n3_; have HO260 := n4_; have HO265 := n5_; have HO268 := n6_; have HO271 := n7_; have BK239 := n8_; have BK256 := n9_; have BK261 := n10_; have HB := n11_; clear n0_ n1_ n2_ n3_ n4_ n5_ n6_ n7_ n8_ n9_ n10_ n11_; (try clear hb); (try clear hb2); (try clear hk); (try clear hi); (try clear ho0); (try clear ho1); (try clear ho2)) | ((with_reducible refine gate_dst (N := 7) rfl ?_); refine box_event ?hg (N := 7) ?hd (cs := #[.int .i64 0, .slice none 0 0, .slice none 0 0, .slice none 0 0]) (t := 31) ?hr ?_; (case hd => rfl); (case hg => rfl); (case hr => first | (go_simp; done) | (go_simp; rfl)); intro gb273 hg w33 hbox hb; have n0_ := Aside0.mk (Kd.R_below (by (with_reducible repeat (first | apply Kd.R_alloc | apply Kd.R_drewN | apply Kd.R_drew)); exact HO244.out) hb); have n1_ := Aside0.mk (Kd.R_below (by (with_reducible repeat (first | apply Kd.R_alloc | apply Kd.R_drewN | apply Kd.R_drew)); exact HO248.out) hb); have n2_ := Aside0.mk (Kd.R_below (by (with_reducible repeat (first | apply Kd.R_alloc | apply Kd.R_drewN | apply Kd.R_drew)); exact HO251.out) hb); have n3_ := Aside0.mk (Kd.R_below (by (with_reducible repeat (first | apply Kd.R_alloc | apply Kd.R_drewN | apply Kd.R_drew)); exact HO254.out) hb); have n4_ := Aside0.mk (Kd.R_below (by (with_reducible repeat (first | apply Kd.R_alloc | apply Kd.R_drewN | apply Kd.R_drew)); exact HO260.out) hb); have n5_ := Aside0.mk (Kd.R_below (by (with_reducible repeat (first | apply Kd.R_alloc | apply Kd.R_drewN | apply Kd.R_drew)); exact HO265.out) hb); have n6_ := Aside0.mk (Kd.R_below (by (with_reducible repeat (first | apply Kd.R_alloc | apply Kd.R_drewN | apply Kd.R_drew)); exact HO268.out) hb); have n7_ := Aside0.mk (Kd.R_below (by (with_reducible repeat (first | apply Kd.R_alloc | apply Kd.R_drewN | apply Kd.R_drew)); exact HO271.out) hb); have n8_ := Aside0.mk (blk_below (g := gb239) (o := .cells #[.int .i64 a0_0, .slice A0_1 l0_1.length c0_1] 24 (0, 0)) (by (with_reducible repeat (first | refine blk_drewN ?_ _ | refine blk_drew ?_ | refine blk_alloc ?_ _)); exact BK239.out) hb); have n9_ := Aside0.mk (blk_below (g := gb256) (o := .cells #[.int .i64 t245, .slice Ao22 t246.length co22, .slice Ao23 t249.length co23, .slice Ao24 t252.length co24] 31 (0, 0)) (by (with_reducible repeat (first | refine blk_drewN ?_ _ | refine blk_drew ?_ | refine blk_alloc ?_ _)); exact BK256.out) hb); have n10_ := Aside0.mk (blk_below (g := gb261) (o := .cells #[.int .i64 t257, .slice Ao31 t258.length co31] 29 (0, 0)) (by (with_reducible repeat (first | refine blk_drewN ?_ _ | refine blk_drew ?_ | refine blk_alloc ?_ _)); exact BK261.out) hb); have n11_ := Aside0.mk (below_step (by repeat (first | (with_reducible first | exact HB.out | apply below_alloc | apply pw_below_drewN | apply below_drew1 | refine below_set ?_ GE239.out | refine below_set ?_ GE256.out | refine below_set ?_ GE261.out) | exact HB.out)) hb); have n12_ := Aside0.mk (hbox); have n13_ := Aside0.mk ((by rw [hg]; exact (below_size (by repeat (first | (with_reducible first | exact HB.out | apply below_alloc | apply pw_below_drewN | apply below_drew1 | refine below_set ?_ GE239.out | refine below_set ?_ GE256.out | refine below_set ?_ GE261.out) | exact HB.out))) : w.heap.size ≤ gb273)); have n14_ := Aside0.mk ((by rw [hg]; exact (below_size (by repeat (first | (with_reducible first | exact HB.out | apply below_alloc | apply pw_below_drewN | apply below_drew1 | refine below_set ?_ GE239.out | refine below_set ?_ GE256.out | refine below_set ?_ GE261.out) | exact HB.out))) : w.heap.size ≤ gb273)); have n15_ := Aside0.mk ((by rw [hg]; exact Nat.ne_of_lt (blk_lt (g := gb239) (o := .cells #[.int .i64 a0_0, .slice A0_1 l0_1.length c0_1] 24 (0, 0)) (by (with_reducible repeat (first | refine blk_drewN ?_ _ | refine blk_drew ?_ | refine blk_alloc ?_ _)); exact BK239.out)) : gb239 ≠ gb273)); have n16_ := Aside0.mk ((by rw [hg]; exact Nat.ne_of_gt (blk_lt (g := gb239) (o := .cells #[.int .i64 a0_0, .slice A0_1 l0_1.length c0_1] 24 (0, 0)) (by (with_reducible repeat (first | refine blk_drewN ?_ _ | refine blk_drew ?_ | refine blk_alloc ?_ _)); exact BK239.out)) : gb273 ≠ gb239)); have n17_ := Aside0.mk ((by rw [hg]; exact Nat.ne_of_lt (blk_lt (g := gb256) (o := .cells #[.int .i64 t245, .slice Ao22 t246.length co22, .slice Ao23 t249.length co23, .slice Ao24 t252.length co24] 31 (0, 0)) (by (with_reducible repeat (first | refine blk_drewN ?_ _ | refine blk_drew ?_ | refine blk_alloc ?_ _)); exact BK256.out)) : gb256 ≠ gb273)); have n18_ := Aside0.mk ((by rw [hg]; exact Nat.ne_of_gt (blk_lt (g := gb256) (o := .cells #[.int .i64 t245, .slice Ao22 t246.length co22, .slice Ao23 t249.length co23, .slice Ao24 t252.length co24] 31 (0, 0)) (by (with_reducible repeat (first | refine blk_drewN ?_ _ | refine blk_drew ?_ | refine blk_alloc ?_ _)); exact BK256.out)) : gb273 ≠ gb256)); have n19_ := Aside0.mk ((by rw [hg]; exact Nat.ne_of_lt (blk_lt (g := gb261) (o := .cells #[.int .i64 t257, .slice Ao31 t258.length co31] 29 (0, 0)) (by (with_reducible repeat (first | refine blk_drewN ?_ _ | refine blk_drew ?_ | refine blk_alloc ?_ _)); exact BK261.out)) : gb261 ≠ gb273)); have n20_ := Aside0.mk ((by rw [hg]; exact Nat.ne_of_gt (blk_lt (g := gb261) (o := .cells #[.int .i64 t257, .slice Ao31 t258.length co31] 29 (0, 0)) (by (with_reducible repeat (first | refine blk_drewN ?_ _ | refine blk_drew ?_ | refine blk_alloc ?_ _)); exact BK261.out)) : gb273 ≠ gb261)); clear HO244; clear HO248; clear HO251; clear HO254; clear HO260; clear HO265; clear HO268; clear HO271; clear BK239; clear BK256; clear BK261; clear HB; have HO244 := n0_; have HO248 := n1_; have HO251 := n2_; have HO254 := n3_; have HO260 := n4_; have HO265 := n5_; have HO268 := n6_; have HO271 := n7_; have BK239 := n8_; have BK256 := n9_; have BK261 := n10_; have HB := n11_; have BK273 := n12_; have GW273 := n13_; have GE273 := n14_; have NB239_273 := n15_; have NB273_239 := n16_; have NB256_273 := n17_; have NB273_256 := n18_; have NB261_273 := n19_; have NB273_261 := n20_; clear n0_ n1_ n2_ n3_ n4_ n5_ n6_ n7_ n8_ n9_ n10_ n11_ n12_ n13_ n14_ n15_ n16_ n17_ n18_ n19_ n20_; clear hb hbox hg; have hnb34 := NB273_239.out; have hnc34 := NB239_273.out; have hnb35 := NB273_256.out; have hnc35 := NB256_273.out; have hnb36 := NB273_261.out; have hnc36 := NB261_273.out; have hcz37_0 : w33.cell? ⟨gb273, 0, none⟩ = some (.int .i64 0) := (blk_cell BK273.out 0).trans rfl; have hcz37_1 : w33.cell? ⟨gb273, 1, none⟩ = some (.slice none 0 0) := (blk_cell BK273.out 1).trans rfl; have hcz37_2 : w33.cell? ⟨gb273, 2, none⟩ = some (.slice none 0 0) := (blk_cell BK273.out 2).trans rfl; have hcz37_3 : w33.cell? ⟨gb273, 3, none⟩ = some (.slice none 0 0) := (blk_cell BK273.out 3).trans rfl; have hfz37_0 := blk_frozen BK273.out 0; have hfz37_1 := blk_frozen BK273.out 1; have hfz37_2 := blk_frozen BK273.out 2; have hfz37_3 := blk_frozen BK273.out 3; obtain ⟨Ao38, co38, eo38⟩ := Kd.R_slice HO265.out; subst eo38; obtain ⟨Ao39, co39, eo39⟩ := Kd.R_slice HO268.out; subst eo39; obtain ⟨Ao40, co40, eo40⟩ := Kd.R_slice HO271.out; subst eo40))
    (try simp only [Act.put, List.setIfInBounds_toArray, List.set_cons_zero, List.set_cons_succ])
    go_cut [40] (fun v40 wc => ∃ (kq : Nat) (x40_10 : Bool), v40 = .bool x40_10 ∧ Aside0 (laws_FnExactBuildRanked.j0 kq t255 t272 x40_10 a0_0 l0_1 t245 t246 t249 t252 t257 t258 t262 t263 t266 t269 = some r) ∧ Aside0 (kq ≤ k) ∧ Aside0 (Kd.R (Kd.int .i64) 3 wc w.heap.size (fun k_ => some k_ ≠ ((.slice Ao23 t249.length co23) : Value).ownBlock ∧ some k_ ≠ ((.slice Ao24 t252.length co24) : Value).ownBlock ∧ some k_ ≠ ((.slice Ao31 t258.length co31) : Value).ownBlock ∧ some k_ ≠ ((.slice Ao38 t263.length co38) : Value).ownBlock ∧ some k_ ≠ ((.slice Ao39 t266.length co39) : Value).ownBlock ∧ some k_ ≠ ((.slice Ao40 t269.length co40) : Value).ownBlock) (.slice Ao22 t246.length co22) t246) ∧ Aside0 (Kd.R (Kd.int .i64) 3 wc w.heap.size (fun k_ => some k_ ≠ ((.slice Ao22 t246.length co22) : Value).ownBlock ∧ some k_ ≠ ((.slice Ao24 t252.length co24) : Value).ownBlock ∧ some k_ ≠ ((.slice Ao31 t258.length co31) : Value).ownBlock ∧ some k_ ≠ ((.slice Ao38 t263.length co38) : Value).ownBlock ∧ some k_ ≠ ((.slice Ao39 t266.length co39) : Value).ownBlock ∧ some k_ ≠ ((.slice Ao40 t269.length co40) : Value).ownBlock) (.slice Ao23 t249.length co23) t249) ∧ Aside0 (Kd.R (Kd.int .i64) 3 wc w.heap.size (fun k_ => some k_ ≠ ((.slice Ao22 t246.length co22) : Value).ownBlock ∧ some k_ ≠ ((.slice Ao23 t249.length co23) : Value).ownBlock ∧ some k_ ≠ ((.slice Ao31 t258.length co31) : Value).ownBlock ∧ some k_ ≠ ((.slice Ao38 t263.length co38) : Value).ownBlock ∧ some k_ ≠ ((.slice Ao39 t266.length co39) : Value).ownBlock ∧ some k_ ≠ ((.slice Ao40 t269.length co40) : Value).ownBlock) (.slice Ao24 t252.length co24) t252) ∧ Aside0 (Kd.R (Kd.int .i64) 3 wc w.heap.size (fun k_ => some k_ ≠ ((.slice Ao22 t246.length co22) : Value).ownBlock ∧ some k_ ≠ ((.slice Ao23 t249.length co23) : Value).ownBlock ∧ some k_ ≠ ((.slice Ao24 t252.length co24) : Value).ownBlock ∧ some k_ ≠ ((.slice Ao38 t263.length co38) : Value).ownBlock ∧ some k_ ≠ ((.slice Ao39 t266.length co39) : Value).ownBlock ∧ some k_ ≠ ((.slice Ao40 t269.length co40) : Value).ownBlock) (.slice Ao31 t258.length co31) t258) ∧ Aside0 (Kd.R (Kd.int .i64) 3 wc w.heap.size (fun k_ => some k_ ≠ ((.slice Ao22 t246.length co22) : Value).ownBlock ∧ some k_ ≠ ((.slice Ao23 t249.length co23) : Value).ownBlock ∧ some k_ ≠ ((.slice Ao24 t252.length co24) : Value).ownBlock ∧ some k_ ≠ ((.slice Ao31 t258.length co31) : Value).ownBlock ∧ some k_ ≠ ((.slice Ao39 t266.length co39) : Value).ownBlock ∧ some k_ ≠ ((.slice Ao40 t269.length co40) : Value).ownBlock) (.slice Ao38 t263.length co38) t263) ∧ Aside0 (Kd.R (Kd.int .i64) 3 wc w.heap.size (fun k_ => some k_ ≠ ((.slice Ao22 t246.length co22) : Value).ownBlock ∧ some k_ ≠ ((.slice Ao23 t249.length co23) : Value).ownBlock ∧ some k_ ≠ ((.slice Ao24 t252.length co24) : Value).ownBlock ∧ some k_ ≠ ((.slice Ao31 t258.length co31) : Value).ownBlock ∧ some k_ ≠ ((.slice Ao38 t263.length co38) : Value).ownBlock ∧ some k_ ≠ ((.slice Ao40 t269.length co40) : Value).ownBlock) (.slice Ao39 t266.length co39) t266) ∧ Aside0 (Kd.R (Kd.int .i64) 3 wc w.heap.size (fun k_ => some k_ ≠ ((.slice Ao22 t246.length co22) : Value).ownBlock ∧ some k_ ≠ ((.slice Ao23 t249.length co23) : Value).ownBlock ∧ some k_ ≠ ((.slice Ao24 t252.length co24) : Value).ownBlock ∧ some k_ ≠ ((.slice Ao31 t258.length co31) : Value).ownBlock ∧ some k_ ≠ ((.slice Ao38 t263.length co38) : Value).ownBlock ∧ some k_ ≠ ((.slice Ao39 t266.length co39) : Value).ownBlock) (.slice Ao40 t269.length co40) t269) ∧ Aside0 (wc.heap[gb239]? = some (.cells #[.int .i64 a0_0, (.slice A0_1 l0_1.length c0_1)] 24 (0, 0))) ∧ Aside0 (wc.heap[gb256]? = some (.cells #[.int .i64 t245, (.slice Ao22 t246.length co22), (.slice Ao23 t249.length co23), (.slice Ao24 t252.length co24)] 31 (0, 0))) ∧ Aside0 (wc.heap[gb261]? = some (.cells #[.int .i64 t257, (.slice Ao31 t258.length co31)] 29 (0, 0))) ∧ Aside0 (wc.heap[gb273]? = some (.cells #[.int .i64 t262, (.slice Ao38 t263.length co38), (.slice Ao39 t266.length co39), (.slice Ao40 t269.length co40)] 31 (0, 0))) ∧ Aside0 (Below w.heap.size w wc))
    case first =>
      have H := HC11.out
      clear HC11
      replace H := Option.bind_eq_some_iff.mp H
      obtain ⟨t274, A410, H⟩ := H
      replace H : (if t274 = true then (laws_FnExactBuildRanked.j0 k t255 t272 (t272 != t255) a0_0 l0_1 t245 t246 t249 t252 t257 t258 t262 t263 t266 t269) else (none)) = some r := H
      have A41 := Aside0.mk A410
      clear A410
      by_cases c42 : t274 = true
      · subst c42
        have H1 : (laws_FnExactBuildRanked.j0 k t255 t272 (t272 != t255) a0_0 l0_1 t245 t246 t249 t252 t257 t258 t262 t263 t266 t269) = some r := by rw [if_pos rfl] at H; exact H
        clear H
        have H := H1
        clear H1
        have H' := Aside0.mk H
        clear H
        have hnb43 := NB273_239.out
        have hnc43 := NB239_273.out
        have hnb44 := NB273_256.out
        have hnc44 := NB256_273.out
        have hnb45 := NB273_261.out
        have hnc45 := NB261_273.out
        have hcz46_0 : w33.cell? ⟨gb273, 0, none⟩ = some (.int .i64 0) := (blk_cell BK273.out 0).trans rfl
        have hcz46_1 : w33.cell? ⟨gb273, 1, none⟩ = some (.slice none 0 0) := (blk_cell BK273.out 1).trans rfl
        have hcz46_2 : w33.cell? ⟨gb273, 2, none⟩ = some (.slice none 0 0) := (blk_cell BK273.out 2).trans rfl
        have hcz46_3 : w33.cell? ⟨gb273, 3, none⟩ = some (.slice none 0 0) := (blk_cell BK273.out 3).trans rfl
        have hfz46_0 := blk_frozen BK273.out 0
        have hfz46_1 := blk_frozen BK273.out 1
        have hfz46_2 := blk_frozen BK273.out 2
        have hfz46_3 := blk_frozen BK273.out 3
        have hnb47 := NB256_239.out
        have hnc47 := NB239_256.out
        have hnb48 := NB256_261.out
        have hnc48 := NB261_256.out
        have hcz49_0 : w33.cell? ⟨gb256, 0, none⟩ = some (.int .i64 t245) := (blk_cell BK256.out 0).trans rfl
        have hcz49_1 : w33.cell? ⟨gb256, 1, none⟩ = some (.slice Ao22 t246.length co22) := (blk_cell BK256.out 1).trans rfl
        have hcz49_2 : w33.cell? ⟨gb256, 2, none⟩ = some (.slice Ao23 t249.length co23) := (blk_cell BK256.out 2).trans rfl
        have hcz49_3 : w33.cell? ⟨gb256, 3, none⟩ = some (.slice Ao24 t252.length co24) := (blk_cell BK256.out 3).trans rfl
        have hfz49_0 := blk_frozen BK256.out 0
        have hfz49_1 := blk_frozen BK256.out 1
        have hfz49_2 := blk_frozen BK256.out 2
        have hfz49_3 := blk_frozen BK256.out 3
        go_wp2_with (first | ((with_reducible refine gate_callee (f := 19) rfl ?_); refine goesL_ (some 34) rfl rfl Try.func19 (by kernel_rfl) rfl #[.agg #[.int .i64 t262, .slice Ao38 t263.length co38, .slice Ao39 t266.length co39, .slice Ao40 t269.length co40], .agg #[.int .i64 t245, .slice Ao22 t246.length co22, .slice Ao23 t249.length co23, .slice Ao24 t252.length co24]] rfl (by (try simp only [List.map_toArray, List.map_cons, List.map_nil]); first | done | rfl | (simp only [List.length_drop, List.length_take]; rfl)) ?_; (with_reducible refine (laws_eqRanked.calls k t262 _ _ t263 _ _ t266 _ _ t269 t245 _ _ t246 _ _ t249 _ _ t252 true _ ?side1 ?side2 ?side3 ?side4 ?side5 ?side6 ?side7 ?side8 ?side9 ?side10 ?side11 ?side12 A41.out).mono ?_); (case side1 => refine (Kd.R_reads' (e := 3) (base := w.heap.size) (ok := fun k_ => ((((((some k_ ≠ (.slice Ao39 t266.length co39 : Value).ownBlock ∧ some k_ ≠ (.slice Ao40 t269.length co40 : Value).ownBlock) ∧ some k_ ≠ (.slice Ao17 t242.length co17 : Value).ownBlock) ∧ some k_ ≠ (.slice Ao22 t246.length co22 : Value).ownBlock) ∧ some k_ ≠ (.slice Ao23 t249.length co23 : Value).ownBlock) ∧ some k_ ≠ (.slice Ao24 t252.length co24 : Value).ownBlock) ∧ some k_ ≠ (.slice Ao31 t258.length co31 : Value).ownBlock)) (n := t263.length) (c := co38) ?_).2.2; exact (by (with_reducible repeat (first | apply Kd.R_alloc | apply Kd.R_drewN | apply Kd.R_drew)); exact (Kd.R_mono (Kd.R_far (p := ⟨gb273, 3, none⟩) (Kd.R_far (p := ⟨gb273, 2, none⟩) (Kd.R_far (p := ⟨gb273, 1, none⟩) (Kd.R_far (p := ⟨gb273, 0, none⟩) (Kd.R_types HO265.out BK273.out (by decide)) (fun _ hk => hk.2) (.int .i64 t262)) (fun _ hk => hk.2) (.slice Ao38 t263.length co38)) (fun _ hk => hk.2) (.slice Ao39 t266.length co39)) (fun _ hk => hk.2) (.slice Ao40 t269.length co40)) (fun _ h_ => h_.1)))); (case side2 => exact (Kd.R_reads' HO265.out).2.1); (case side3 => refine (Kd.R_reads' (e := 3) (base := w.heap.size) (ok := fun k_ => ((((((some k_ ≠ (.slice Ao38 t263.length co38 : Value).ownBlock ∧ some k_ ≠ (.slice Ao40 t269.length co40 : Value).ownBlock) ∧ some k_ ≠ (.slice Ao17 t242.length co17 : Value).ownBlock) ∧ some k_ ≠ (.slice Ao22 t246.length co22 : Value).ownBlock) ∧ some k_ ≠ (.slice Ao23 t249.length co23 : Value).ownBlock) ∧ some k_ ≠ (.slice Ao24 t252.length co24 : Value).ownBlock) ∧ some k_ ≠ (.slice Ao31 t258.length co31 : Value).ownBlock)) (n := t266.length) (c := co39) ?_).2.2; exact (by (with_reducible repeat (first | apply Kd.R_alloc | apply Kd.R_drewN | apply Kd.R_drew)); exact (Kd.R_mono (Kd.R_far (p := ⟨gb273, 3, none⟩) (Kd.R_far (p := ⟨gb273, 2, none⟩) (Kd.R_far (p := ⟨gb273, 1, none⟩) (Kd.R_far (p := ⟨gb273, 0, none⟩) (Kd.R_types HO268.out BK273.out (by decide)) (fun _ hk => hk.2) (.int .i64 t262)) (fun _ hk => hk.2) (.slice Ao38 t263.length co38)) (fun _ hk => hk.2) (.slice Ao39 t266.length co39)) (fun _ hk => hk.2) (.slice Ao40 t269.length co40)) (fun _ h_ => h_.1)))); (case side4 => exact (Kd.R_reads' HO268.out).2.1); (case side5 => refine (Kd.R_reads' (e := 3) (base := w.heap.size) (ok := fun k_ => ((((((some k_ ≠ (.slice Ao38 t263.length co38 : Value).ownBlock ∧ some k_ ≠ (.slice Ao39 t266.length co39 : Value).ownBlock) ∧ some k_ ≠ (.slice Ao17 t242.length co17 : Value).ownBlock) ∧ some k_ ≠ (.slice Ao22 t246.length co22 : Value).ownBlock) ∧ some k_ ≠ (.slice Ao23 t249.length co23 : Value).ownBlock) ∧ some k_ ≠ (.slice Ao24 t252.length co24 : Value).ownBlock) ∧ some k_ ≠ (.slice Ao31 t258.length co31 : Value).ownBlock)) (n := t269.length) (c := co40) ?_).2.2; exact (by (with_reducible repeat (first | apply Kd.R_alloc | apply Kd.R_drewN | apply Kd.R_drew)); exact (Kd.R_mono (Kd.R_far (p := ⟨gb273, 3, none⟩) (Kd.R_far (p := ⟨gb273, 2, none⟩) (Kd.R_far (p := ⟨gb273, 1, none⟩) (Kd.R_far (p := ⟨gb273, 0, none⟩) (Kd.R_types HO271.out BK273.out (by decide)) (fun _ hk => hk.2) (.int .i64 t262)) (fun _ hk => hk.2) (.slice Ao38 t263.length co38)) (fun _ hk => hk.2) (.slice Ao39 t266.length co39)) (fun _ hk => hk.2) (.slice Ao40 t269.length co40)) (fun _ h_ => h_.1)))); (case side6 => exact (Kd.R_reads' HO271.out).2.1); (case side7 => refine (Kd.R_reads' (e := 3) (base := w.heap.size) (ok := fun k_ => ((((((some k_ ≠ (.slice Ao23 t249.length co23 : Value).ownBlock ∧ some k_ ≠ (.slice Ao24 t252.length co24 : Value).ownBlock) ∧ some k_ ≠ (.slice Ao17 t242.length co17 : Value).ownBlock) ∧ some k_ ≠ (.slice Ao31 t258.length co31 : Value).ownBlock) ∧ some k_ ≠ (.slice Ao38 t263.length co38 : Value).ownBlock) ∧ some k_ ≠ (.slice Ao39 t266.length co39 : Value).ownBlock) ∧ some k_ ≠ (.slice Ao40 t269.length co40 : Value).ownBlock)) (n := t246.length) (c := co22) ?_).2.2; exact (by (with_reducible repeat (first | apply Kd.R_alloc | apply Kd.R_drewN | apply Kd.R_drew)); exact (Kd.R_mono (Kd.R_far (p := ⟨gb273, 3, none⟩) (Kd.R_far (p := ⟨gb273, 2, none⟩) (Kd.R_far (p := ⟨gb273, 1, none⟩) (Kd.R_far (p := ⟨gb273, 0, none⟩) (Kd.R_types HO248.out BK273.out (by decide)) (fun _ hk => hk.2) (.int .i64 t262)) (fun _ hk => hk.2) (.slice Ao38 t263.length co38)) (fun _ hk => hk.2) (.slice Ao39 t266.length co39)) (fun _ hk => hk.2) (.slice Ao40 t269.length co40)) (fun _ h_ => h_.1)))); (case side8 => exact (Kd.R_reads' HO248.out).2.1); (case side9 => refine (Kd.R_reads' (e := 3) (base := w.heap.size) (ok := fun k_ => ((((((some k_ ≠ (.slice Ao22 t246.length co22 : Value).ownBlock ∧ some k_ ≠ (.slice Ao24 t252.length co24 : Value).ownBlock) ∧ some k_ ≠ (.slice Ao17 t242.length co17 : Value).ownBlock) ∧ some k_ ≠ (.slice Ao31 t258.length co31 : Value).ownBlock) ∧ some k_ ≠ (.slice Ao38 t263.length co38 : Value).ownBlock) ∧ some k_ ≠ (.slice Ao39 t266.length co39 : Value).ownBlock) ∧ some k_ ≠ (.slice Ao40 t269.length co40 : Value).ownBlock)) (n := t249.length) (c := co23) ?_).2.2; exact (by (with_reducible repeat (first | apply Kd.R_alloc | apply Kd.R_drewN | apply Kd.R_drew)); exact (Kd.R_mono (Kd.R_far (p := ⟨gb273, 3, none⟩) (Kd.R_far (p := ⟨gb273, 2, none⟩) (Kd.R_far (p := ⟨gb273, 1, none⟩) (Kd.R_far (p := ⟨gb273, 0, none⟩) (Kd.R_types HO251.out BK273.out (by decide)) (fun _ hk => hk.2) (.int .i64 t262)) (fun _ hk => hk.2) (.slice Ao38 t263.length co38)) (fun _ hk => hk.2) (.slice Ao39 t266.length co39)) (fun _ hk => hk.2) (.slice Ao40 t269.length co40)) (fun _ h_ => h_.1)))); (case side10 => exact (Kd.R_reads' HO251.out).2.1); (case side11 => refine (Kd.R_reads' (e := 3) (base := w.heap.size) (ok := fun k_ => ((((((some k_ ≠ (.slice Ao22 t246.length co22 : Value).ownBlock ∧ some k_ ≠ (.slice Ao23 t249.length co23 : Value).ownBlock) ∧ some k_ ≠ (.slice Ao17 t242.length co17 : Value).ownBlock) ∧ some k_ ≠ (.slice Ao31 t258.length co31 : Value).ownBlock) ∧ some k_ ≠ (.slice Ao38 t263.length co38 : Value).ownBlock) ∧ some k_ ≠ (.slice Ao39 t266.length co39 : Value).ownBlock) ∧ some k_ ≠ (.slice Ao40 t269.length co40 : Value).ownBlock)) (n := t252.length) (c := co24) ?_).2.2; exact (by (with_reducible repeat (first | apply Kd.R_alloc | apply Kd.R_drewN | apply Kd.R_drew)); exact (Kd.R_mono (Kd.R_far (p := ⟨gb273, 3, none⟩) (Kd.R_far (p := ⟨gb273, 2, none⟩) (Kd.R_far (p := ⟨gb273, 1, none⟩) (Kd.R_far (p := ⟨gb273, 0, none⟩) (Kd.R_types HO254.out BK273.out (by decide)) (fun _ hk => hk.2) (.int .i64 t262)) (fun _ hk => hk.2) (.slice Ao38 t263.length co38)) (fun _ hk => hk.2) (.slice Ao39 t266.length co39)) (fun _ hk => hk.2) (.slice Ao40 t269.length co40)) (fun _ h_ => h_.1)))); (case side12 => exact (Kd.R_reads' HO254.out).2.1); rintro e w50 ⟨rfl, hb⟩; refine ⟨_, rfl, ?_⟩; have n0_ := Aside0.mk (Kd.R_below (by (with_reducible repeat (first | apply Kd.R_alloc | apply Kd.R_drewN | apply Kd.R_drew)); exact (Kd.R_mono (Kd.R_far (p := ⟨gb273, 3, none⟩) (Kd.R_far (p := ⟨gb273, 2, none⟩) (Kd.R_far (p := ⟨gb273, 1, none⟩) (Kd.R_far (p := ⟨gb273, 0, none⟩) (Kd.R_types HO244.out BK273.out (by decide)) (fun _ hk => hk.2) (.int .i64 t262)) (fun _ hk => hk.2) (.slice Ao38 t263.length co38)) (fun _ hk => hk.2) (.slice Ao39 t266.length co39)) (fun _ hk => hk.2) (.slice Ao40 t269.length co40)) (fun _ h_ => h_.1))) hb); have n1_ := Aside0.mk (Kd.R_below (by (with_reducible repeat (first | apply Kd.R_alloc | apply Kd.R_drewN | apply Kd.R_drew)); exact (Kd.R_mono (Kd.R_far (p := ⟨gb273, 3, none⟩) (Kd.R_far (p := ⟨gb273, 2, none⟩) (Kd.R_far (p := ⟨gb273, 1, none⟩) (Kd.R_far (p := ⟨gb273, 0, none⟩) (Kd.R_types HO248.out BK273.out (by decide)) (fun _ hk => hk.2) (.int .i64 t262)) (fun _ hk => hk.2) (.slice Ao38 t263.length co38)) (fun _ hk => hk.2) (.slice Ao39 t266.length co39)) (fun _ hk => hk.2) (.slice Ao40 t269.length co40)) (fun _ h_ => h_.1))) hb); have n2_ := Aside0.mk (Kd.R_below (by (with_reducible repeat (first | apply Kd.R_alloc | apply Kd.R_drewN | apply Kd.R_drew)); exact (Kd.R_mono (Kd.R_far (p := ⟨gb273, 3, none⟩) (Kd.R_far (p := ⟨gb273, 2, none⟩) (Kd.R_far (p := ⟨gb273, 1, none⟩) (Kd.R_far (p := ⟨gb273, 0, none⟩) (Kd.R_types HO251.out BK273.out (by decide)) (fun _ hk => hk.2) (.int .i64 t262)) (fun _ hk => hk.2) (.slice Ao38 t263.length co38)) (fun _ hk => hk.2) (.slice Ao39 t266.length co39)) (fun _ hk => hk.2) (.slice Ao40 t269.length co40)) (fun _ h_ => h_.1))) hb); have n3_ := Aside0.mk (Kd.R_below (by (with_reducible repeat (first | apply Kd.R_alloc | apply Kd.R_drewN | apply Kd.R_drew)); exact (Kd.R_mono (Kd.R_far (p := ⟨gb273, 3, none⟩) (Kd.R_far (p := ⟨gb273, 2, none⟩) (Kd.R_far (p := ⟨gb273, 1, none⟩) (Kd.R_far (p := ⟨gb273, 0, none⟩) (Kd.R_types HO254.out BK273.out (by decide)) (fun _ hk => hk.2) (.int .i64 t262)) (fun _ hk => hk.2) (.slice Ao38 t263.length co38)) (fun _ hk => hk.2) (.slice Ao39 t266.length co39)) (fun _ hk => hk.2) (.slice Ao40 t269.length co40)) (fun _ h_ => h_.1))) hb); have n4_ := Aside0.mk (Kd.R_below (by (with_reducible repeat (first | apply Kd.R_alloc | apply Kd.R_drewN | apply Kd.R_drew)); exact (Kd.R_mono (Kd.R_far (p := ⟨gb273, 3, none⟩) (Kd.R_far (p := ⟨gb273, 2, none⟩) (Kd.R_far (p := ⟨gb273, 1, none⟩) (Kd.R_far (p := ⟨gb273, 0, none⟩) (Kd.R_types HO260.out BK273.out (by decide)) (fun _ hk => hk.2) (.int .i64 t262)) (fun _ hk => hk.2) (.slice Ao38 t263.length co38)) (fun _ hk => hk.2) (.slice Ao39 t266.length co39)) (fun _ hk => hk.2) (.slice Ao40 t269.length co40)) (fun _ h_ => h_.1))) hb); have n5_ := Aside0.mk (Kd.R_below (by (with_reducible repeat (first | apply Kd.R_alloc | apply Kd.R_drewN | apply Kd.R_drew)); exact (Kd.R_mono (Kd.R_far (p := ⟨gb273, 3, none⟩) (Kd.R_far (p := ⟨gb273, 2, none⟩) (Kd.R_far (p := ⟨gb273, 1, none⟩) (Kd.R_far (p := ⟨gb273, 0, none⟩) (Kd.R_types HO265.out BK273.out (by decide)) (fun _ hk => hk.2) (.int .i64 t262)) (fun _ hk => hk.2) (.slice Ao38 t263.length co38)) (fun _ hk => hk.2) (.slice Ao39 t266.length co39)) (fun _ hk => hk.2) (.slice Ao40 t269.length co40)) (fun _ h_ => h_.1))) hb); have n6_ := Aside0.mk (Kd.R_below (by (with_reducible repeat (first | apply Kd.R_alloc | apply Kd.R_drewN | apply Kd.R_drew)); exact (Kd.R_mono (Kd.R_far (p := ⟨gb273, 3, none⟩) (Kd.R_far (p := ⟨gb273, 2, none⟩) (Kd.R_far (p := ⟨gb273, 1, none⟩) (Kd.R_far (p := ⟨gb273, 0, none⟩) (Kd.R_types HO268.out BK273.out (by decide)) (fun _ hk => hk.2) (.int .i64 t262)) (fun _ hk => hk.2) (.slice Ao38 t263.length co38)) (fun _ hk => hk.2) (.slice Ao39 t266.length co39)) (fun _ hk => hk.2) (.slice Ao40 t269.length co40)) (fun _ h_ => h_.1))) hb); have n7_ := Aside0.mk (Kd.R_below (by (with_reducible repeat (first | apply Kd.R_alloc | apply Kd.R_drewN | apply Kd.R_drew)); exact (Kd.R_mono (Kd.R_far (p := ⟨gb273, 3, none⟩) (Kd.R_far (p := ⟨gb273, 2, none⟩) (Kd.R_far (p := ⟨gb273, 1, none⟩) (Kd.R_far (p := ⟨gb273, 0, none⟩) (Kd.R_types HO271.out BK273.out (by decide)) (fun _ hk => hk.2) (.int .i64 t262)) (fun _ hk => hk.2) (.slice Ao38 t263.length co38)) (fun _ hk => hk.2) (.slice Ao39 t266.length co39)) (fun _ hk => hk.2) (.slice Ao40 t269.length co40)) (fun _ h_ => h_.1))) hb); have n8_ := Aside0.mk (blk_below (g := gb239) (o := .cells #[.int .i64 a0_0, .slice A0_1 l0_1.length c0_1] 24 (0, 0)) (by (with_reducible repeat (first | refine blk_drewN ?_ _ | refine blk_drew ?_ | refine blk_alloc ?_ _)); refine blk_far ?_ NB239_273.out _; (with_reducible repeat (first | refine blk_drewN ?_ _ | refine blk_drew ?_ | refine blk_alloc ?_ _)); refine blk_far ?_ NB239_273.out _; (with_reducible repeat (first | refine blk_drewN ?_ _ | refine blk_drew ?_ | refine blk_alloc ?_ _)); refine blk_far ?_ NB239_273.out _; (with_reducible repeat (first | refine blk_drewN ?_ _ | refine blk_drew ?_ | refine blk_alloc ?_ _)); refine blk_far ?_ NB239_273.out _; (with_reducible repeat (first | refine blk_drewN ?_ _ | refine blk_drew ?_ | refine blk_alloc ?_ _)); exact BK239.out) hb); have n9_ := Aside0.mk (blk_below (g := gb256) (o := .cells #[.int .i64 t245, .slice Ao22 t246.length co22, .slice Ao23 t249.length co23, .slice Ao24 t252.length co24] 31 (0, 0)) (by (with_reducible repeat (first | refine blk_drewN ?_ _ | refine blk_drew ?_ | refine blk_alloc ?_ _)); refine blk_far ?_ NB256_273.out _; (with_reducible repeat (first | refine blk_drewN ?_ _ | refine blk_drew ?_ | refine blk_alloc ?_ _)); refine blk_far ?_ NB256_273.out _; (with_reducible repeat (first | refine blk_drewN ?_ _ | refine blk_drew ?_ | refine blk_alloc ?_ _)); refine blk_far ?_ NB256_273.out _; (with_reducible repeat (first | refine blk_drewN ?_ _ | refine blk_drew ?_ | refine blk_alloc ?_ _)); refine blk_far ?_ NB256_273.out _; (with_reducible repeat (first | refine blk_drewN ?_ _ | refine blk_drew ?_ | refine blk_alloc ?_ _)); exact BK256.out) hb); have n10_ := Aside0.mk (blk_below (g := gb261) (o := .cells #[.int .i64 t257, .slice Ao31 t258.length co31] 29 (0, 0)) (by (with_reducible repeat (first | refine blk_drewN ?_ _ | refine blk_drew ?_ | refine blk_alloc ?_ _)); refine blk_far ?_ NB261_273.out _; (with_reducible repeat (first | refine blk_drewN ?_ _ | refine blk_drew ?_ | refine blk_alloc ?_ _)); refine blk_far ?_ NB261_273.out _; (with_reducible repeat (first | refine blk_drewN ?_ _ | refine blk_drew ?_ | refine blk_alloc ?_ _)); refine blk_far ?_ NB261_273.out _; (with_reducible repeat (first | refine blk_drewN ?_ _ | refine blk_drew ?_ | refine blk_alloc ?_ _)); refine blk_far ?_ NB261_273.out _; (with_reducible repeat (first | refine blk_drewN ?_ _ | refine blk_drew ?_ | refine blk_alloc ?_ _)); exact BK261.out) hb); have n11_ := Aside0.mk (blk_below (g := gb273) (o := .cells #[.int .i64 t262, .slice Ao38 t263.length co38, .slice Ao39 t266.length co39, .slice Ao40 t269.length co40] 31 (0, 0)) (by (with_reducible repeat (first | refine blk_drewN ?_ _ | refine blk_drew ?_ | refine blk_alloc ?_ _)); refine blk_put (cs := #[.int .i64 t262, .slice Ao38 t263.length co38, .slice Ao39 t266.length co39, .slice none 0 0]) ?_ 3 _ rfl; (with_reducible repeat (first | refine blk_drewN ?_ _ | refine blk_drew ?_ | refine blk_alloc ?_ _)); refine blk_put (cs := #[.int .i64 t262, .slice Ao38 t263.length co38, .slice none 0 0, .slice none 0 0]) ?_ 2 _ rfl; (with_reducible repeat (first | refine blk_drewN ?_ _ | refine blk_drew ?_ | refine blk_alloc ?_ _)); refine blk_put (cs := #[.int .i64 t262, .slice none 0 0, .slice none 0 0, .slice none 0 0]) ?_ 1 _ rfl; (with_reducible repeat (first | refine blk_drewN ?_ _ | refine blk_drew ?_ | refine blk_alloc ?_ _)); refine blk_put (cs := #[.int .i64 0, .slice none 0 0, .slice none 0 0, .slice none 0 0]) ?_ 0 _ rfl; (with_reducible repeat (first | refine blk_drewN ?_ _ | refine blk_drew ?_ | refine blk_alloc ?_ _)); exact BK273.out) hb); have n12_ := Aside0.mk (below_step (by repeat (first | (with_reducible first | exact HB.out | apply below_alloc | apply pw_below_drewN | apply below_drew1 | refine below_set ?_ GE239.out | refine below_set ?_ GE256.out | refine below_set ?_ GE261.out | refine below_set ?_ GE273.out) | exact HB.out)) hb); clear HO244; clear HO248; clear HO251; clear HO254; clear HO260; clear HO265; clear HO268; clear HO271; clear BK239; clear BK256; clear BK261; clear BK273; clear HB; have HO244 := n0_; have HO248 := n1_; have HO251 := n2_; have HO254 := n3_; have HO260 := n4_; have HO265 := n5_; have HO268 := n6_; have HO271 := n7_; have BK239 := n8_; have BK256 := n9_; have BK261 := n10_; have BK273 := n11_; have HB := n12_; clear n0_ n1_ n2_ n3_ n4_ n5_ n6_ n7_ n8_ n9_ n10_ n11_ n12_; (try clear hb); (try clear hb2); (try clear hk); (try clear hi)))
        go_meet
        case rel => exact ⟨_, ((t272 != t255)), (by first | rfl | (simp; done) | (simp [*]; done)), H', ⟨by first | omega | exact Nat.le_refl _⟩, ⟨by (with_reducible repeat (first | apply Kd.R_alloc | apply Kd.R_drewN | apply Kd.R_drew)); exact Kd.R_mono HO248.out (fun _ hk => ⟨hk.1.1.1.1.1.1, ⟨hk.1.1.1.1.1.2, ⟨hk.1.1.1.2, ⟨hk.1.1.2, ⟨hk.1.2, hk.2⟩⟩⟩⟩⟩)⟩, ⟨by (with_reducible repeat (first | apply Kd.R_alloc | apply Kd.R_drewN | apply Kd.R_drew)); exact Kd.R_mono HO251.out (fun _ hk => ⟨hk.1.1.1.1.1.1, ⟨hk.1.1.1.1.1.2, ⟨hk.1.1.1.2, ⟨hk.1.1.2, ⟨hk.1.2, hk.2⟩⟩⟩⟩⟩)⟩, ⟨by (with_reducible repeat (first | apply Kd.R_alloc | apply Kd.R_drewN | apply Kd.R_drew)); exact Kd.R_mono HO254.out (fun _ hk => ⟨hk.1.1.1.1.1.1, ⟨hk.1.1.1.1.1.2, ⟨hk.1.1.1.2, ⟨hk.1.1.2, ⟨hk.1.2, hk.2⟩⟩⟩⟩⟩)⟩, ⟨by (with_reducible repeat (first | apply Kd.R_alloc | apply Kd.R_drewN | apply Kd.R_drew)); exact Kd.R_mono HO260.out (fun _ hk => ⟨hk.1.1.1.1.1.2, ⟨hk.1.1.1.1.2, ⟨hk.1.1.1.2, ⟨hk.1.1.2, ⟨hk.1.2, hk.2⟩⟩⟩⟩⟩)⟩, ⟨by (with_reducible repeat (first | apply Kd.R_alloc | apply Kd.R_drewN | apply Kd.R_drew)); exact Kd.R_mono HO265.out (fun _ hk => ⟨hk.1.1.1.2, ⟨hk.1.1.2, ⟨hk.1.2, ⟨hk.2, ⟨hk.1.1.1.1.1.1, hk.1.1.1.1.1.2⟩⟩⟩⟩⟩)⟩, ⟨by (with_reducible repeat (first | apply Kd.R_alloc | apply Kd.R_drewN | apply Kd.R_drew)); exact Kd.R_mono HO268.out (fun _ hk => ⟨hk.1.1.1.2, ⟨hk.1.1.2, ⟨hk.1.2, ⟨hk.2, ⟨hk.1.1.1.1.1.1, hk.1.1.1.1.1.2⟩⟩⟩⟩⟩)⟩, ⟨by (with_reducible repeat (first | apply Kd.R_alloc | apply Kd.R_drewN | apply Kd.R_drew)); exact Kd.R_mono HO271.out (fun _ hk => ⟨hk.1.1.1.2, ⟨hk.1.1.2, ⟨hk.1.2, ⟨hk.2, ⟨hk.1.1.1.1.1.1, hk.1.1.1.1.1.2⟩⟩⟩⟩⟩)⟩, ⟨by (with_reducible repeat (first | refine blk_drewN ?_ _ | refine blk_drew ?_ | refine blk_alloc ?_ _)); exact BK239.out⟩, ⟨by (with_reducible repeat (first | refine blk_drewN ?_ _ | refine blk_drew ?_ | refine blk_alloc ?_ _)); exact BK256.out⟩, ⟨by (with_reducible repeat (first | refine blk_drewN ?_ _ | refine blk_drew ?_ | refine blk_alloc ?_ _)); exact BK261.out⟩, ⟨by (with_reducible repeat (first | refine blk_drewN ?_ _ | refine blk_drew ?_ | refine blk_alloc ?_ _)); exact BK273.out⟩, ⟨by repeat (first | (with_reducible first | exact HB.out | apply below_alloc | apply pw_below_drewN | apply below_drew1 | refine below_set ?_ GE239.out | refine below_set ?_ GE256.out | refine below_set ?_ GE261.out | refine below_set ?_ GE273.out) | exact HB.out)⟩⟩
      · replace c42 := Bool.eq_false_iff.mpr c42
        subst c42
        have H1 : (none) = some r := by rw [if_neg (show ¬ (false = true) by decide)] at H; exact H
        clear H
        have H := H1
        clear H1
        exact absurd H (by simp)
    case rest =>
      clear HC11
      try clear c1
      try clear c2
      try clear p2
      try clear c3
      try clear c3b0
      try clear c4
      try clear c19
      try clear c20
      try clear c21
      try clear c22
      try clear c23
      try clear c28
      try clear c29
      try clear c34
      try clear c35
      try clear c36
      try clear c42
      try clear c43
      try clear c44
      try clear c45
      try clear c47
      try clear c48
      try clear hcz13_0
      try clear hcz13_1
      try clear hcz15_0
      try clear hcz15_1
      try clear hcz21_0
      try clear hcz21_1
      try clear hcz21_2
      try clear hcz21_3
      try clear hcz25_0
      try clear hcz25_1
      try clear hcz30_0
      try clear hcz30_1
      try clear hcz37_0
      try clear hcz37_1
      try clear hcz37_2
      try clear hcz37_3
      try clear hcz46_0
      try clear hcz46_1
      try clear hcz46_2
      try clear hcz46_3
      try clear hcz49_0
      try clear hcz49_1
      try clear hcz49_2
      try clear hcz49_3
      try clear hcz5_0
      try clear hcz5_1
      try clear hfz13_0
      try clear hfz13_1
      try clear hfz15_0
      try clear hfz15_1
      try clear hfz21_0
      try clear hfz21_1
      try clear hfz21_2
      try clear hfz21_3
      try clear hfz25_0
      try clear hfz25_1
      try clear hfz30_0
      try clear hfz30_1
      try clear hfz37_0
      try clear hfz37_1
      try clear hfz37_2
      try clear hfz37_3
      try clear hfz46_0
      try clear hfz46_1
      try clear hfz46_2
      try clear hfz46_3
      try clear hfz49_0
      try clear hfz49_1
      try clear hfz49_2
      try clear hfz49_3
      try clear hfz5_0
      try clear hfz5_1
      obtain ⟨kq, x40_10, rfl, HA, HJ10, HO_257001, HO_257002, HO_257003, HO_262001, HO_274001, HO_274002, HO_274003, BK239, BK256, BK261, BK273, HB⟩ := hcut
      cases kq with
      | zero => exact absurd HA.out (by simp [laws_FnExactBuildRanked.j0])
      | succ kj10 =>
        have H := HA.out
        clear HA
        simp only [laws_FnExactBuildRanked.j0] at H
        by_cases c51 : x40_10 = true
        · subst c51
          have H1 : (none) = some r := by rw [if_pos rfl] at H; exact H
          clear H
          have H := H1
          clear H1
          exact absurd H (by simp)
        · replace c51 := Bool.eq_false_iff.mpr c51
          subst c51
          have H1 : ((laws_toBits.f kj10 a0_0 l0_1).bind fun bt275 => ((laws_eqBits.f kj10 t257 t258 bt275.1 bt275.2).bind fun t279 => (if t279 = true then ((laws_markBits.f kj10 t257 t258 1).bind fun bt280 => (if bt280.1 < 0 then (none) else ((laws_eqRanked.f kj10 t262 t263 t266 t269 t245 t246 t249 t252).bind fun t282 => (if t282 = true then (laws_FnExactBuildRanked.j1 kj10 t255 (t272 != t255) a0_0 l0_1 t245 t246 t249 t252 t262 t263 t266 t269) else (none))))) else (none)))) = some r := by rw [if_neg (show ¬ (false = true) by decide)] at H; exact H
          clear H
          have H := H1
          clear H1
          replace H := Option.bind_eq_some_iff.mp H
          obtain ⟨⟨t275, t276⟩, A520, H⟩ := H
          replace H : ((laws_eqBits.f kj10 t257 t258 t275 t276).bind fun t279 => (if t279 = true then ((laws_markBits.f kj10 t257 t258 1).bind fun bt280 => (if bt280.1 < 0 then (none) else ((laws_eqRanked.f kj10 t262 t263 t266 t269 t245 t246 t249 t252).bind fun t282 => (if t282 = true then (laws_FnExactBuildRanked.j1 kj10 t255 (t272 != t255) a0_0 l0_1 t245 t246 t249 t252 t262 t263 t266 t269) else (none))))) else (none))) = some r := H
          have A52 := Aside0.mk A520
          clear A520
          replace H := Option.bind_eq_some_iff.mp H
          obtain ⟨t279, A530, H⟩ := H
          replace H : (if t279 = true then ((laws_markBits.f kj10 t257 t258 1).bind fun bt280 => (if bt280.1 < 0 then (none) else ((laws_eqRanked.f kj10 t262 t263 t266 t269 t245 t246 t249 t252).bind fun t282 => (if t282 = true then (laws_FnExactBuildRanked.j1 kj10 t255 (t272 != t255) a0_0 l0_1 t245 t246 t249 t252 t262 t263 t266 t269) else (none))))) else (none)) = some r := H
          have A53 := Aside0.mk A530
          clear A530
          by_cases c54 : t279 = true
          · subst c54
            have H1 : ((laws_markBits.f kj10 t257 t258 1).bind fun bt280 => (if bt280.1 < 0 then (none) else ((laws_eqRanked.f kj10 t262 t263 t266 t269 t245 t246 t249 t252).bind fun t282 => (if t282 = true then (laws_FnExactBuildRanked.j1 kj10 t255 (t272 != t255) a0_0 l0_1 t245 t246 t249 t252 t262 t263 t266 t269) else (none))))) = some r := by rw [if_pos rfl] at H; exact H
            clear H
            have H := H1
            clear H1
            replace H := Option.bind_eq_some_iff.mp H
            obtain ⟨⟨t280, t281⟩, A550, H⟩ := H
            replace H : (if t280 < 0 then (none) else ((laws_eqRanked.f kj10 t262 t263 t266 t269 t245 t246 t249 t252).bind fun t282 => (if t282 = true then (laws_FnExactBuildRanked.j1 kj10 t255 (t272 != t255) a0_0 l0_1 t245 t246 t249 t252 t262 t263 t266 t269) else (none)))) = some r := H
            have A55 := Aside0.mk A550
            clear A550
            have HC56 := Aside0.mk H
            clear H
            try go_wp2
            have n0_ := Aside0.mk (Kd.R_drew HO_257001.out)
            have n1_ := Aside0.mk (Kd.R_drew HO_257002.out)
            have n2_ := Aside0.mk (Kd.R_drew HO_257003.out)
            have n3_ := Aside0.mk (Kd.R_drew HO_262001.out)
            have n4_ := Aside0.mk (Kd.R_drew HO_274001.out)
            have n5_ := Aside0.mk (Kd.R_drew HO_274002.out)
            have n6_ := Aside0.mk (Kd.R_drew HO_274003.out)
            have n7_ := Aside0.mk (blk_drew BK239.out)
            have n8_ := Aside0.mk (blk_drew BK256.out)
            have n9_ := Aside0.mk (blk_drew BK261.out)
            have n10_ := Aside0.mk (blk_drew BK273.out)
            have n11_ := Aside0.mk (below_drew1 HB.out)
            clear HO_257001
            clear HO_257002
            clear HO_257003
            clear HO_262001
            clear HO_274001
            clear HO_274002
            clear HO_274003
            clear BK239
            clear BK256
            clear BK261
            clear BK273
            clear HB
            have HO_257001 := n0_
            have HO_257002 := n1_
            have HO_257003 := n2_
            have HO_262001 := n3_
            have HO_274001 := n4_
            have HO_274002 := n5_
            have HO_274003 := n6_
            have BK239 := n7_
            have BK256 := n8_
            have BK261 := n9_
            have BK273 := n10_
            have HB := n11_
            clear n0_ n1_ n2_ n3_ n4_ n5_ n6_ n7_ n8_ n9_ n10_ n11_
            refine start_ (n := 5) (S := fun w' => w'.cell? ⟨gb261, 0, none⟩ = some (.int .i64 t257) ∧ w'.cell? ⟨gb261, 1, none⟩ = some (.slice Ao31 t258.length co31) ∧ w'.cell? ⟨gb239, 0, none⟩ = some (.int .i64 a0_0) ∧ w'.cell? ⟨gb239, 1, none⟩ = some (.slice A0_1 l0_1.length c0_1)) (ds := []) #[false, false, false, false, false] (by kernel_rfl) rfl rfl ⟨(blk_cell BK261.out 0).trans rfl, (blk_cell BK261.out 1).trans rfl, (blk_cell BK239.out 0).trans rfl, (blk_cell BK239.out 1).trans rfl⟩ (fun hHeld => ?_)
            generalize wc.drew = w57 at HO_257001 HO_257002 HO_257003 HO_262001 HO_274001 HO_274002 HO_274003 BK239 BK256 BK261 BK273 HB hHeld ⊢
            refine take_ (i := 0) (N := some 41) (v := ?_) (a' := ?_) #[true, false, false, false, false] rfl rfl (by kernel_rfl) (fun _ _ _ h => h) (Or.inl ⟨by rfl, ?_⟩) hHeld ?_ ?_
            rotate_left
            · rintro w' ⟨s0, s1, s2, s3⟩
              go_simp
              with_reducible rfl
            rotate_left
            · simp only [Act.put, List.setIfInBounds_toArray, List.set_cons_zero, List.set_cons_succ, i64_w, i32_w]
              rfl
            refine take_ (i := 1) (N := some 42) (v := ?_) (a' := ?_) #[true, true, false, false, false] rfl rfl (by kernel_rfl) (fun _ _ _ h => h) (Or.inl ⟨by rfl, ?_⟩) hHeld ?_ ?_
            rotate_left
            · rintro w' ⟨s0, s1, s2, s3⟩
              go_simp
              with_reducible rfl
            rotate_left
            · simp only [Act.put, List.setIfInBounds_toArray, List.set_cons_zero, List.set_cons_succ, i64_w, i32_w]
              rfl
            refine one_ (i := 2) (N := some 43) #[true, true, true, false, false] rfl rfl (by kernel_rfl) (by decide) (fun K hK => ?_)
            refine goes_ Try.func22 (by kernel_rfl) rfl #[.agg #[.int .i64 a0_0, .slice A0_1 l0_1.length c0_1]] (by rfl) rfl rfl (by (try simp only [List.map_toArray, List.map_cons, List.map_nil]); first | done | rfl | (simp only [List.length_drop, List.length_take]; rfl)) ?_
            with_reducible refine (laws_toBits.calls kj10 a0_0 _ _ l0_1 t275 t276 _ ?side1 ?side2 A52.out).mono ?_
            (case side1 => repeat (first | exact (Kd.C_below HR0_1.out HB.out) | (with_reducible refine Kd.C_alloc ?_ _) | (with_reducible refine Kd.C_drewN ?_ _) | (with_reducible refine Kd.C_drew ?_)))
            (case side2 => exact HC0_1.out)
            rintro e w58 ⟨v277, rfl, ho0, hb⟩
            refine ⟨_, rfl, ?_⟩
            have n0_ := Aside0.mk (Kd.R_elder' (by (with_reducible repeat (first | apply Kd.R_alloc | apply Kd.R_drewN | apply Kd.R_drew)); exact HO_257001.out) (Kd.R_base ho0) hb)
            have n1_ := Aside0.mk (Kd.R_elder' (by (with_reducible repeat (first | apply Kd.R_alloc | apply Kd.R_drewN | apply Kd.R_drew)); exact HO_257002.out) (Kd.R_base ho0) hb)
            have n2_ := Aside0.mk (Kd.R_elder' (by (with_reducible repeat (first | apply Kd.R_alloc | apply Kd.R_drewN | apply Kd.R_drew)); exact HO_257003.out) (Kd.R_base ho0) hb)
            have n3_ := Aside0.mk (Kd.R_elder' (by (with_reducible repeat (first | apply Kd.R_alloc | apply Kd.R_drewN | apply Kd.R_drew)); exact HO_262001.out) (Kd.R_base ho0) hb)
            have n4_ := Aside0.mk (Kd.R_elder' (by (with_reducible repeat (first | apply Kd.R_alloc | apply Kd.R_drewN | apply Kd.R_drew)); exact HO_274001.out) (Kd.R_base ho0) hb)
            have n5_ := Aside0.mk (Kd.R_elder' (by (with_reducible repeat (first | apply Kd.R_alloc | apply Kd.R_drewN | apply Kd.R_drew)); exact HO_274002.out) (Kd.R_base ho0) hb)
            have n6_ := Aside0.mk (Kd.R_elder' (by (with_reducible repeat (first | apply Kd.R_alloc | apply Kd.R_drewN | apply Kd.R_drew)); exact HO_274003.out) (Kd.R_base ho0) hb)
            have n7_ := Aside0.mk (Kd.R_lower (Kd.R_new' (Kd.R_new' (Kd.R_new' (Kd.R_new' (Kd.R_new' (Kd.R_new' (Kd.R_new' ho0 (Kd.R_lt (by (with_reducible repeat (first | apply Kd.R_alloc | apply Kd.R_drewN | apply Kd.R_drew)); exact HO_257001.out))) (Kd.R_lt (by (with_reducible repeat (first | apply Kd.R_alloc | apply Kd.R_drewN | apply Kd.R_drew)); exact HO_257002.out))) (Kd.R_lt (by (with_reducible repeat (first | apply Kd.R_alloc | apply Kd.R_drewN | apply Kd.R_drew)); exact HO_257003.out))) (Kd.R_lt (by (with_reducible repeat (first | apply Kd.R_alloc | apply Kd.R_drewN | apply Kd.R_drew)); exact HO_262001.out))) (Kd.R_lt (by (with_reducible repeat (first | apply Kd.R_alloc | apply Kd.R_drewN | apply Kd.R_drew)); exact HO_274001.out))) (Kd.R_lt (by (with_reducible repeat (first | apply Kd.R_alloc | apply Kd.R_drewN | apply Kd.R_drew)); exact HO_274002.out))) (Kd.R_lt (by (with_reducible repeat (first | apply Kd.R_alloc | apply Kd.R_drewN | apply Kd.R_drew)); exact HO_274003.out))) (below_size (by repeat (first | (with_reducible first | exact HB.out | apply below_alloc | apply pw_below_drewN | apply below_drew1 | refine below_set ?_ GE239.out | refine below_set ?_ GE256.out | refine below_set ?_ GE261.out | refine below_set ?_ GE273.out) | exact HB.out))))
            have n8_ := Aside0.mk (blk_below (g := gb239) (o := .cells #[.int .i64 a0_0, .slice A0_1 l0_1.length c0_1] 24 (0, 0)) (by (with_reducible repeat (first | refine blk_drewN ?_ _ | refine blk_drew ?_ | refine blk_alloc ?_ _)); exact BK239.out) hb)
            have n9_ := Aside0.mk (blk_below (g := gb256) (o := .cells #[.int .i64 t245, .slice Ao22 t246.length co22, .slice Ao23 t249.length co23, .slice Ao24 t252.length co24] 31 (0, 0)) (by (with_reducible repeat (first | refine blk_drewN ?_ _ | refine blk_drew ?_ | refine blk_alloc ?_ _)); exact BK256.out) hb)
            have n10_ := Aside0.mk (blk_below (g := gb261) (o := .cells #[.int .i64 t257, .slice Ao31 t258.length co31] 29 (0, 0)) (by (with_reducible repeat (first | refine blk_drewN ?_ _ | refine blk_drew ?_ | refine blk_alloc ?_ _)); exact BK261.out) hb)
            have n11_ := Aside0.mk (blk_below (g := gb273) (o := .cells #[.int .i64 t262, .slice Ao38 t263.length co38, .slice Ao39 t266.length co39, .slice Ao40 t269.length co40] 31 (0, 0)) (by (with_reducible repeat (first | refine blk_drewN ?_ _ | refine blk_drew ?_ | refine blk_alloc ?_ _)); exact BK273.out) hb)
            have n12_ := Aside0.mk (below_step (by repeat (first | (with_reducible first | exact HB.out | apply below_alloc | apply pw_below_drewN | apply below_drew1 | refine below_set ?_ GE239.out | refine below_set ?_ GE256.out | refine below_set ?_ GE261.out | refine below_set ?_ GE273.out) | exact HB.out)) hb)
            clear HO_257001
            clear HO_257002
            clear HO_257003
            clear HO_262001
            clear HO_274001
            clear HO_274002
            clear HO_274003
            clear BK239
            clear BK256
            clear BK261
            clear BK273
            clear HB
            have HO_257001 := n0_
            have HO_257002 := n1_
            have HO_257003 := n2_
            have HO_262001 := n3_
            have HO_274001 := n4_
            have HO_274002 := n5_
            have HO_274003 := n6_
            have HO278 := n7_
            have BK239 := n8_
            have BK256 := n9_
            have BK261 := n10_
            have BK273 := n11_
            have HB := n12_
            clear n0_ n1_ n2_ n3_ n4_ n5_ n6_ n7_ n8_ n9_ n10_ n11_ n12_
            (try clear hb)
            (try clear hb2)
            (try clear hk)
            (try clear hi)
            (try clear ho0)
            obtain ⟨Ao59, co59, eo59⟩ := Kd.R_slice HO278.out
            (first | subst eo59 | (injection eo59 with f1_ f2_ f3_; have f4_ := f1_.symm; have f5_ := f3_.symm; clear f1_ f2_ f3_; subst f4_; subst f5_))
            refine hK.out _ _ ⟨(blk_cell BK261.out 0).trans rfl, (blk_cell BK261.out 1).trans rfl, (blk_cell BK239.out 0).trans rfl, (blk_cell BK239.out 1).trans rfl⟩ (fun hHeld => ?_)
            clear hK K
            refine norm_ (a' := ?_) ?_ ?_
            rotate_left
            · show Act.put _ (some 43) _ = _
              simp only [Act.put, List.setIfInBounds_toArray, List.set_cons_zero, List.set_cons_succ, i64_w, i32_w]
              rfl
            refine one_ (i := 3) (N := some 44) #[true, true, true, true, false] rfl rfl (by kernel_rfl) (by decide) (fun K hK => ?_)
            refine goes_ Try.func24 (by kernel_rfl) rfl #[.agg #[.int .i64 t257, .slice Ao31 t258.length co31], .agg #[.int .i64 t275, .slice Ao59 t276.length co59]] (by rfl) rfl rfl (by (try simp only [List.map_toArray, List.map_cons, List.map_nil]); first | done | rfl | (simp only [List.length_drop, List.length_take]; rfl)) ?_
            with_reducible refine (laws_eqBits.calls kj10 t257 _ _ t258 t275 _ _ t276 true _ ?side1 ?side2 ?side3 ?side4 A53.out).mono ?_
            (case side1 => repeat (first | exact (Kd.R_reads' HO_262001.out).2.2 | (with_reducible refine Kd.C_alloc ?_ _) | (with_reducible refine Kd.C_drewN ?_ _) | (with_reducible refine Kd.C_drew ?_)))
            (case side2 => exact (Kd.R_reads' HO_262001.out).2.1)
            (case side3 => repeat (first | exact (Kd.R_reads' HO278.out).2.2 | (with_reducible refine Kd.C_alloc ?_ _) | (with_reducible refine Kd.C_drewN ?_ _) | (with_reducible refine Kd.C_drew ?_)))
            (case side4 => exact (Kd.R_reads' HO278.out).2.1)
            rintro e w60 ⟨rfl, hb⟩
            refine ⟨_, rfl, ?_⟩
            have n0_ := Aside0.mk (Kd.R_below (by (with_reducible repeat (first | apply Kd.R_alloc | apply Kd.R_drewN | apply Kd.R_drew)); exact HO_257001.out) hb)
            have n1_ := Aside0.mk (Kd.R_below (by (with_reducible repeat (first | apply Kd.R_alloc | apply Kd.R_drewN | apply Kd.R_drew)); exact HO_257002.out) hb)
            have n2_ := Aside0.mk (Kd.R_below (by (with_reducible repeat (first | apply Kd.R_alloc | apply Kd.R_drewN | apply Kd.R_drew)); exact HO_257003.out) hb)
            have n3_ := Aside0.mk (Kd.R_below (by (with_reducible repeat (first | apply Kd.R_alloc | apply Kd.R_drewN | apply Kd.R_drew)); exact HO_262001.out) hb)
            have n4_ := Aside0.mk (Kd.R_below (by (with_reducible repeat (first | apply Kd.R_alloc | apply Kd.R_drewN | apply Kd.R_drew)); exact HO_274001.out) hb)
            have n5_ := Aside0.mk (Kd.R_below (by (with_reducible repeat (first | apply Kd.R_alloc | apply Kd.R_drewN | apply Kd.R_drew)); exact HO_274002.out) hb)
            have n6_ := Aside0.mk (Kd.R_below (by (with_reducible repeat (first | apply Kd.R_alloc | apply Kd.R_drewN | apply Kd.R_drew)); exact HO_274003.out) hb)
            have n7_ := Aside0.mk (Kd.R_below (by (with_reducible repeat (first | apply Kd.R_alloc | apply Kd.R_drewN | apply Kd.R_drew)); exact HO278.out) hb)
            have n8_ := Aside0.mk (blk_below (g := gb239) (o := .cells #[.int .i64 a0_0, .slice A0_1 l0_1.length c0_1] 24 (0, 0)) (by (with_reducible repeat (first | refine blk_drewN ?_ _ | refine blk_drew ?_ | refine blk_alloc ?_ _)); exact BK239.out) hb)
            have n9_ := Aside0.mk (blk_below (g := gb256) (o := .cells #[.int .i64 t245, .slice Ao22 t246.length co22, .slice Ao23 t249.length co23, .slice Ao24 t252.length co24] 31 (0, 0)) (by (with_reducible repeat (first | refine blk_drewN ?_ _ | refine blk_drew ?_ | refine blk_alloc ?_ _)); exact BK256.out) hb)
            have n10_ := Aside0.mk (blk_below (g := gb261) (o := .cells #[.int .i64 t257, .slice Ao31 t258.length co31] 29 (0, 0)) (by (with_reducible repeat (first | refine blk_drewN ?_ _ | refine blk_drew ?_ | refine blk_alloc ?_ _)); exact BK261.out) hb)
            have n11_ := Aside0.mk (blk_below (g := gb273) (o := .cells #[.int .i64 t262, .slice Ao38 t263.length co38, .slice Ao39 t266.length co39, .slice Ao40 t269.length co40] 31 (0, 0)) (by (with_reducible repeat (first | refine blk_drewN ?_ _ | refine blk_drew ?_ | refine blk_alloc ?_ _)); exact BK273.out) hb)
            have n12_ := Aside0.mk (below_step (by repeat (first | (with_reducible first | exact HB.out | apply below_alloc | apply pw_below_drewN | apply below_drew1 | refine below_set ?_ GE239.out | refine below_set ?_ GE256.out | refine below_set ?_ GE261.out | refine below_set ?_ GE273.out) | exact HB.out)) hb)
            clear HO_257001
            clear HO_257002
            clear HO_257003
            clear HO_262001
            clear HO_274001
            clear HO_274002
            clear HO_274003
            clear HO278
            clear BK239
            clear BK256
            clear BK261
            clear BK273
            clear HB
            have HO_257001 := n0_
            have HO_257002 := n1_
            have HO_257003 := n2_
            have HO_262001 := n3_
            have HO_274001 := n4_
            have HO_274002 := n5_
            have HO_274003 := n6_
            have HO278 := n7_
            have BK239 := n8_
            have BK256 := n9_
            have BK261 := n10_
            have BK273 := n11_
            have HB := n12_
            clear n0_ n1_ n2_ n3_ n4_ n5_ n6_ n7_ n8_ n9_ n10_ n11_ n12_
            (try clear hb)
            (try clear hb2)
            (try clear hk)
            (try clear hi)
            refine hK.out _ _ ⟨(blk_cell BK261.out 0).trans rfl, (blk_cell BK261.out 1).trans rfl, (blk_cell BK239.out 0).trans rfl, (blk_cell BK239.out 1).trans rfl⟩ (fun hHeld => ?_)
            clear hK K
            refine norm_ (a' := ?_) ?_ ?_
            rotate_left
            · show Act.put _ (some 44) _ = _
              simp only [Act.put, List.setIfInBounds_toArray, List.set_cons_zero, List.set_cons_succ, i64_w, i32_w]
              rfl
            refine pure_ (i := 4) (N := some 45) (v := ?_) (a' := ?_) #[true, true, true, true, true] rfl rfl (by kernel_rfl) (fun _ _ _ h => h) (Or.inl ⟨by rfl, ?_⟩) ?_ ?_
            rotate_left
            · intro w'
              go_simp
              with_reducible rfl
            rotate_left
            · simp only [Act.put, List.setIfInBounds_toArray, List.set_cons_zero, List.set_cons_succ, i64_w, i32_w]
              rfl
            refine done_ (by kernel_rfl) ?_
            have hnb61 := NB261_239.out
            have hnc61 := NB239_261.out
            have hnb62 := NB261_256.out
            have hnc62 := NB256_261.out
            have hnb63 := NB261_273.out
            have hnc63 := NB273_261.out
            have hcz64_0 : w60.cell? ⟨gb261, 0, none⟩ = some (.int .i64 t257) := (blk_cell BK261.out 0).trans rfl
            have hcz64_1 : w60.cell? ⟨gb261, 1, none⟩ = some (.slice Ao31 t258.length co31) := (blk_cell BK261.out 1).trans rfl
            have hfz64_0 := blk_frozen BK261.out 0
            have hfz64_1 := blk_frozen BK261.out 1
            go_upto_region 14 with (first | ((with_reducible refine gate_callee (f := 25) rfl ?_); refine goesL_ (some 48) rfl rfl Try.func25 (by kernel_rfl) rfl #[.agg #[.int .i64 t257, .slice Ao31 t258.length co31], .int .i64 1] rfl (by (try simp only [List.map_toArray, List.map_cons, List.map_nil]); first | done | rfl | (simp only [List.length_drop, List.length_take]; rfl)) ?_; (with_reducible refine (laws_markBits.calls kj10 t257 (fun k_ => some k_ = (.slice Ao31 t258.length co31 : Value).ownBlock) (.slice Ao31 t258.length co31) t258 1 t280 t281 w _ ?side1 ?side2 A55.out).mono ?_); (case side1 => repeat (first | (with_reducible first | exact HB.out | apply below_alloc | apply pw_below_drewN | apply below_drew1 | refine below_set ?_ GE239.out | refine below_set ?_ GE256.out | refine below_set ?_ GE261.out | refine below_set ?_ GE273.out) | exact HB.out)); (case side2 => exact Kd.R_tight rfl HO_262001.out); rintro e w65 ⟨rfl, hy0, hb, hkp⟩; refine ⟨_, rfl, ?_⟩; have n0_ := Aside0.mk (Kd.R_mono (ok' := fun k_ => some k_ ≠ (.slice Ao23 t249.length co23 : Value).ownBlock ∧ some k_ ≠ (.slice Ao24 t252.length co24 : Value).ownBlock ∧ some k_ ≠ (.slice Ao31 t258.length co31 : Value).ownBlock ∧ some k_ ≠ (.slice Ao38 t263.length co38 : Value).ownBlock ∧ some k_ ≠ (.slice Ao39 t266.length co39 : Value).ownBlock ∧ some k_ ≠ (.slice Ao40 t269.length co40 : Value).ownBlock ∧ some k_ ≠ (.slice Ao59 t276.length co59 : Value).ownBlock) (Kd.R_keptB (HO_257001.out) hkp (fun k_ hk_ hs_ => (hk_.1.2.2.1) hs_)) (fun k_ hk_ => ⟨hk_.1.1.1, hk_.1.1.2.1, hk_.1.1.2.2.1, hk_.1.1.2.2.2.1, hk_.1.1.2.2.2.2.1, hk_.1.1.2.2.2.2.2, hk_.1.2⟩)); have n1_ := Aside0.mk (Kd.R_mono (ok' := fun k_ => some k_ ≠ (.slice Ao22 t246.length co22 : Value).ownBlock ∧ some k_ ≠ (.slice Ao24 t252.length co24 : Value).ownBlock ∧ some k_ ≠ (.slice Ao31 t258.length co31 : Value).ownBlock ∧ some k_ ≠ (.slice Ao38 t263.length co38 : Value).ownBlock ∧ some k_ ≠ (.slice Ao39 t266.length co39 : Value).ownBlock ∧ some k_ ≠ (.slice Ao40 t269.length co40 : Value).ownBlock ∧ some k_ ≠ (.slice Ao59 t276.length co59 : Value).ownBlock) (Kd.R_keptB (HO_257002.out) hkp (fun k_ hk_ hs_ => (hk_.1.2.2.1) hs_)) (fun k_ hk_ => ⟨hk_.1.1.1, hk_.1.1.2.1, hk_.1.1.2.2.1, hk_.1.1.2.2.2.1, hk_.1.1.2.2.2.2.1, hk_.1.1.2.2.2.2.2, hk_.1.2⟩)); have n2_ := Aside0.mk (Kd.R_mono (ok' := fun k_ => some k_ ≠ (.slice Ao22 t246.length co22 : Value).ownBlock ∧ some k_ ≠ (.slice Ao23 t249.length co23 : Value).ownBlock ∧ some k_ ≠ (.slice Ao31 t258.length co31 : Value).ownBlock ∧ some k_ ≠ (.slice Ao38 t263.length co38 : Value).ownBlock ∧ some k_ ≠ (.slice Ao39 t266.length co39 : Value).ownBlock ∧ some k_ ≠ (.slice Ao40 t269.length co40 : Value).ownBlock ∧ some k_ ≠ (.slice Ao59 t276.length co59 : Value).ownBlock) (Kd.R_keptB (HO_257003.out) hkp (fun k_ hk_ hs_ => (hk_.1.2.2.1) hs_)) (fun k_ hk_ => ⟨hk_.1.1.1, hk_.1.1.2.1, hk_.1.1.2.2.1, hk_.1.1.2.2.2.1, hk_.1.1.2.2.2.2.1, hk_.1.1.2.2.2.2.2, hk_.1.2⟩)); have n3_ := Aside0.mk (Kd.R_reok rfl hy0 (fun k_ e_ => HO_262001.out.1 k_ e_)); have n4_ := Aside0.mk (Kd.R_mono (ok' := fun k_ => some k_ ≠ (.slice Ao22 t246.length co22 : Value).ownBlock ∧ some k_ ≠ (.slice Ao23 t249.length co23 : Value).ownBlock ∧ some k_ ≠ (.slice Ao24 t252.length co24 : Value).ownBlock ∧ some k_ ≠ (.slice Ao31 t258.length co31 : Value).ownBlock ∧ some k_ ≠ (.slice Ao39 t266.length co39 : Value).ownBlock ∧ some k_ ≠ (.slice Ao40 t269.length co40 : Value).ownBlock ∧ some k_ ≠ (.slice Ao59 t276.length co59 : Value).ownBlock) (Kd.R_keptB (HO_274001.out) hkp (fun k_ hk_ hs_ => (hk_.1.2.2.2.1) hs_)) (fun k_ hk_ => ⟨hk_.1.1.1, hk_.1.1.2.1, hk_.1.1.2.2.1, hk_.1.1.2.2.2.1, hk_.1.1.2.2.2.2.1, hk_.1.1.2.2.2.2.2, hk_.1.2⟩)); have n5_ := Aside0.mk (Kd.R_mono (ok' := fun k_ => some k_ ≠ (.slice Ao22 t246.length co22 : Value).ownBlock ∧ some k_ ≠ (.slice Ao23 t249.length co23 : Value).ownBlock ∧ some k_ ≠ (.slice Ao24 t252.length co24 : Value).ownBlock ∧ some k_ ≠ (.slice Ao31 t258.length co31 : Value).ownBlock ∧ some k_ ≠ (.slice Ao38 t263.length co38 : Value).ownBlock ∧ some k_ ≠ (.slice Ao40 t269.length co40 : Value).ownBlock ∧ some k_ ≠ (.slice Ao59 t276.length co59 : Value).ownBlock) (Kd.R_keptB (HO_274002.out) hkp (fun k_ hk_ hs_ => (hk_.1.2.2.2.1) hs_)) (fun k_ hk_ => ⟨hk_.1.1.1, hk_.1.1.2.1, hk_.1.1.2.2.1, hk_.1.1.2.2.2.1, hk_.1.1.2.2.2.2.1, hk_.1.1.2.2.2.2.2, hk_.1.2⟩)); have n6_ := Aside0.mk (Kd.R_mono (ok' := fun k_ => some k_ ≠ (.slice Ao22 t246.length co22 : Value).ownBlock ∧ some k_ ≠ (.slice Ao23 t249.length co23 : Value).ownBlock ∧ some k_ ≠ (.slice Ao24 t252.length co24 : Value).ownBlock ∧ some k_ ≠ (.slice Ao31 t258.length co31 : Value).ownBlock ∧ some k_ ≠ (.slice Ao38 t263.length co38 : Value).ownBlock ∧ some k_ ≠ (.slice Ao39 t266.length co39 : Value).ownBlock ∧ some k_ ≠ (.slice Ao59 t276.length co59 : Value).ownBlock) (Kd.R_keptB (HO_274003.out) hkp (fun k_ hk_ hs_ => (hk_.1.2.2.2.1) hs_)) (fun k_ hk_ => ⟨hk_.1.1.1, hk_.1.1.2.1, hk_.1.1.2.2.1, hk_.1.1.2.2.2.1, hk_.1.1.2.2.2.2.1, hk_.1.1.2.2.2.2.2, hk_.1.2⟩)); have n7_ := Aside0.mk (blk_kept (by (with_reducible repeat (first | refine blk_drewN ?_ _ | refine blk_drew ?_ | refine blk_alloc ?_ _)); exact BK239.out) hkp (fun hs_ => (fun e_ => (Kd.R_ne HO_262001.out BK239.out (by decide)) e_) hs_)); have n8_ := Aside0.mk (blk_kept (by (with_reducible repeat (first | refine blk_drewN ?_ _ | refine blk_drew ?_ | refine blk_alloc ?_ _)); exact BK256.out) hkp (fun hs_ => (fun e_ => (Kd.R_ne HO_262001.out BK256.out (by decide)) e_) hs_)); have n9_ := Aside0.mk (blk_kept (by (with_reducible repeat (first | refine blk_drewN ?_ _ | refine blk_drew ?_ | refine blk_alloc ?_ _)); exact BK261.out) hkp (fun hs_ => (fun e_ => (Kd.R_ne HO_262001.out BK261.out (by decide)) e_) hs_)); have n10_ := Aside0.mk (blk_kept (by (with_reducible repeat (first | refine blk_drewN ?_ _ | refine blk_drew ?_ | refine blk_alloc ?_ _)); exact BK273.out) hkp (fun hs_ => (fun e_ => (Kd.R_ne HO_262001.out BK273.out (by decide)) e_) hs_)); have n11_ := Aside0.mk (Kd.R_mono (ok' := fun k_ => some k_ ≠ (.slice Ao22 t246.length co22 : Value).ownBlock ∧ some k_ ≠ (.slice Ao23 t249.length co23 : Value).ownBlock ∧ some k_ ≠ (.slice Ao24 t252.length co24 : Value).ownBlock ∧ some k_ ≠ (.slice Ao31 t258.length co31 : Value).ownBlock ∧ some k_ ≠ (.slice Ao38 t263.length co38 : Value).ownBlock ∧ some k_ ≠ (.slice Ao39 t266.length co39 : Value).ownBlock ∧ some k_ ≠ (.slice Ao40 t269.length co40 : Value).ownBlock) (Kd.R_keptB (HO278.out) hkp (fun k_ hk_ hs_ => (hk_.1.1.1.2) hs_)) (fun k_ hk_ => ⟨hk_.1.1.1.1.1.1.1.2, hk_.1.1.1.1.1.1.2, hk_.1.1.1.1.1.2, hk_.1.1.1.1.2, hk_.1.1.1.2, hk_.1.1.2, hk_.1.2⟩)); have n12_ := Aside0.mk (hb); clear HO_257001; clear HO_257002; clear HO_257003; clear HO_262001; clear HO_274001; clear HO_274002; clear HO_274003; clear BK239; clear BK256; clear BK261; clear BK273; clear HO278; clear HB; have HO_257001 := n0_; have HO_257002 := n1_; have HO_257003 := n2_; have HO_262001 := n3_; have HO_274001 := n4_; have HO_274002 := n5_; have HO_274003 := n6_; have BK239 := n7_; have BK256 := n8_; have BK261 := n9_; have BK273 := n10_; have HO278 := n11_; have HB := n12_; clear n0_ n1_ n2_ n3_ n4_ n5_ n6_ n7_ n8_ n9_ n10_ n11_ n12_; (try clear hb); (try clear hkp); (try clear hy0)))
            (try simp only [Act.put, List.setIfInBounds_toArray, List.set_cons_zero, List.set_cons_succ])
            go_cut [61] (fun v61 wc => ∃ (kq : Nat) (x61_55 : Bool), v61 = .bool x61_55 ∧ Aside0 (laws_FnExactBuildRanked.j1 kq t255 x61_55 a0_0 l0_1 t245 t246 t249 t252 t262 t263 t266 t269 = some r) ∧ Aside0 (kq ≤ kj10) ∧ Aside0 (Kd.R (Kd.int .i64) 3 wc w.heap.size (fun k_ => some k_ ≠ ((.slice Ao23 t249.length co23) : Value).ownBlock ∧ some k_ ≠ ((.slice Ao24 t252.length co24) : Value).ownBlock ∧ some k_ ≠ ((.slice Ao31 t258.length co31) : Value).ownBlock ∧ some k_ ≠ ((.slice Ao38 t263.length co38) : Value).ownBlock ∧ some k_ ≠ ((.slice Ao39 t266.length co39) : Value).ownBlock ∧ some k_ ≠ ((.slice Ao40 t269.length co40) : Value).ownBlock) (.slice Ao22 t246.length co22) t246) ∧ Aside0 (Kd.R (Kd.int .i64) 3 wc w.heap.size (fun k_ => some k_ ≠ ((.slice Ao22 t246.length co22) : Value).ownBlock ∧ some k_ ≠ ((.slice Ao24 t252.length co24) : Value).ownBlock ∧ some k_ ≠ ((.slice Ao31 t258.length co31) : Value).ownBlock ∧ some k_ ≠ ((.slice Ao38 t263.length co38) : Value).ownBlock ∧ some k_ ≠ ((.slice Ao39 t266.length co39) : Value).ownBlock ∧ some k_ ≠ ((.slice Ao40 t269.length co40) : Value).ownBlock) (.slice Ao23 t249.length co23) t249) ∧ Aside0 (Kd.R (Kd.int .i64) 3 wc w.heap.size (fun k_ => some k_ ≠ ((.slice Ao22 t246.length co22) : Value).ownBlock ∧ some k_ ≠ ((.slice Ao23 t249.length co23) : Value).ownBlock ∧ some k_ ≠ ((.slice Ao31 t258.length co31) : Value).ownBlock ∧ some k_ ≠ ((.slice Ao38 t263.length co38) : Value).ownBlock ∧ some k_ ≠ ((.slice Ao39 t266.length co39) : Value).ownBlock ∧ some k_ ≠ ((.slice Ao40 t269.length co40) : Value).ownBlock) (.slice Ao24 t252.length co24) t252) ∧ Aside0 (Kd.R (Kd.int .i64) 3 wc w.heap.size (fun k_ => some k_ ≠ ((.slice Ao22 t246.length co22) : Value).ownBlock ∧ some k_ ≠ ((.slice Ao23 t249.length co23) : Value).ownBlock ∧ some k_ ≠ ((.slice Ao24 t252.length co24) : Value).ownBlock ∧ some k_ ≠ ((.slice Ao38 t263.length co38) : Value).ownBlock ∧ some k_ ≠ ((.slice Ao39 t266.length co39) : Value).ownBlock ∧ some k_ ≠ ((.slice Ao40 t269.length co40) : Value).ownBlock) (.slice Ao31 t258.length co31) t281) ∧ Aside0 (Kd.R (Kd.int .i64) 3 wc w.heap.size (fun k_ => some k_ ≠ ((.slice Ao22 t246.length co22) : Value).ownBlock ∧ some k_ ≠ ((.slice Ao23 t249.length co23) : Value).ownBlock ∧ some k_ ≠ ((.slice Ao24 t252.length co24) : Value).ownBlock ∧ some k_ ≠ ((.slice Ao31 t258.length co31) : Value).ownBlock ∧ some k_ ≠ ((.slice Ao39 t266.length co39) : Value).ownBlock ∧ some k_ ≠ ((.slice Ao40 t269.length co40) : Value).ownBlock) (.slice Ao38 t263.length co38) t263) ∧ Aside0 (Kd.R (Kd.int .i64) 3 wc w.heap.size (fun k_ => some k_ ≠ ((.slice Ao22 t246.length co22) : Value).ownBlock ∧ some k_ ≠ ((.slice Ao23 t249.length co23) : Value).ownBlock ∧ some k_ ≠ ((.slice Ao24 t252.length co24) : Value).ownBlock ∧ some k_ ≠ ((.slice Ao31 t258.length co31) : Value).ownBlock ∧ some k_ ≠ ((.slice Ao38 t263.length co38) : Value).ownBlock ∧ some k_ ≠ ((.slice Ao40 t269.length co40) : Value).ownBlock) (.slice Ao39 t266.length co39) t266) ∧ Aside0 (Kd.R (Kd.int .i64) 3 wc w.heap.size (fun k_ => some k_ ≠ ((.slice Ao22 t246.length co22) : Value).ownBlock ∧ some k_ ≠ ((.slice Ao23 t249.length co23) : Value).ownBlock ∧ some k_ ≠ ((.slice Ao24 t252.length co24) : Value).ownBlock ∧ some k_ ≠ ((.slice Ao31 t258.length co31) : Value).ownBlock ∧ some k_ ≠ ((.slice Ao38 t263.length co38) : Value).ownBlock ∧ some k_ ≠ ((.slice Ao39 t266.length co39) : Value).ownBlock) (.slice Ao40 t269.length co40) t269) ∧ Aside0 (wc.heap[gb239]? = some (.cells #[.int .i64 a0_0, (.slice A0_1 l0_1.length c0_1)] 24 (0, 0))) ∧ Aside0 (wc.heap[gb256]? = some (.cells #[.int .i64 t245, (.slice Ao22 t246.length co22), (.slice Ao23 t249.length co23), (.slice Ao24 t252.length co24)] 31 (0, 0))) ∧ Aside0 (wc.heap[gb261]? = some (.cells #[.int .i64 t257, (.slice Ao31 t258.length co31)] 29 (0, 0))) ∧ Aside0 (wc.heap[gb273]? = some (.cells #[.int .i64 t262, (.slice Ao38 t263.length co38), (.slice Ao39 t266.length co39), (.slice Ao40 t269.length co40)] 31 (0, 0))) ∧ Aside0 (Below w.heap.size w wc))
            case first =>
              have H := HC56.out
              clear HC56
              by_cases c66 : t280 < 0
              · rw [if_pos c66] at H
                exact absurd H (by simp)
              · rw [if_neg c66] at H
                have c66b0 : decide (t280 < 0) = false := decide_eq_false c66
                clear c66
                (first | rw [c66b0] | (simp only [i64_w, i32_w]; rw [c66b0]) | skip)
                replace H := Option.bind_eq_some_iff.mp H
                obtain ⟨t282, A670, H⟩ := H
                replace H : (if t282 = true then (laws_FnExactBuildRanked.j1 kj10 t255 (t272 != t255) a0_0 l0_1 t245 t246 t249 t252 t262 t263 t266 t269) else (none)) = some r := H
                have A67 := Aside0.mk A670
                clear A670
                by_cases c68 : t282 = true
                · subst c68
                  have H1 : (laws_FnExactBuildRanked.j1 kj10 t255 (t272 != t255) a0_0 l0_1 t245 t246 t249 t252 t262 t263 t266 t269) = some r := by rw [if_pos rfl] at H; exact H
                  clear H
                  have H := H1
                  clear H1
                  have H' := Aside0.mk H
                  clear H
                  have hnb69 := NB273_239.out
                  have hnc69 := NB239_273.out
                  have hnb70 := NB273_256.out
                  have hnc70 := NB256_273.out
                  have hnb71 := NB273_261.out
                  have hnc71 := NB261_273.out
                  have hcz72_0 : w65.cell? ⟨gb273, 0, none⟩ = some (.int .i64 t262) := (blk_cell BK273.out 0).trans rfl
                  have hcz72_1 : w65.cell? ⟨gb273, 1, none⟩ = some (.slice Ao38 t263.length co38) := (blk_cell BK273.out 1).trans rfl
                  have hcz72_2 : w65.cell? ⟨gb273, 2, none⟩ = some (.slice Ao39 t266.length co39) := (blk_cell BK273.out 2).trans rfl
                  have hcz72_3 : w65.cell? ⟨gb273, 3, none⟩ = some (.slice Ao40 t269.length co40) := (blk_cell BK273.out 3).trans rfl
                  have hfz72_0 := blk_frozen BK273.out 0
                  have hfz72_1 := blk_frozen BK273.out 1
                  have hfz72_2 := blk_frozen BK273.out 2
                  have hfz72_3 := blk_frozen BK273.out 3
                  have hnb73 := NB256_239.out
                  have hnc73 := NB239_256.out
                  have hnb74 := NB256_261.out
                  have hnc74 := NB261_256.out
                  have hcz75_0 : w65.cell? ⟨gb256, 0, none⟩ = some (.int .i64 t245) := (blk_cell BK256.out 0).trans rfl
                  have hcz75_1 : w65.cell? ⟨gb256, 1, none⟩ = some (.slice Ao22 t246.length co22) := (blk_cell BK256.out 1).trans rfl
                  have hcz75_2 : w65.cell? ⟨gb256, 2, none⟩ = some (.slice Ao23 t249.length co23) := (blk_cell BK256.out 2).trans rfl
                  have hcz75_3 : w65.cell? ⟨gb256, 3, none⟩ = some (.slice Ao24 t252.length co24) := (blk_cell BK256.out 3).trans rfl
                  have hfz75_0 := blk_frozen BK256.out 0
                  have hfz75_1 := blk_frozen BK256.out 1
                  have hfz75_2 := blk_frozen BK256.out 2
                  have hfz75_3 := blk_frozen BK256.out 3
                  go_wp2_with (first | (go_at_call 19; (with_reducible refine (laws_eqRanked.calls kj10 t262 _ _ t263 _ _ t266 _ _ t269 t245 _ _ t246 _ _ t249 _ _ t252 true _ ?side1 ?side2 ?side3 ?side4 ?side5 ?side6 ?side7 ?side8 ?side9 ?side10 ?side11 ?side12 A67.out).mono ?_); (case side1 => repeat (first | exact (Kd.R_reads' HO_274001.out).2.2 | (with_reducible refine Kd.C_alloc ?_ _) | (with_reducible refine Kd.C_drewN ?_ _) | (with_reducible refine Kd.C_drew ?_))); (case side2 => exact (Kd.R_reads' HO_274001.out).2.1); (case side3 => repeat (first | exact (Kd.R_reads' HO_274002.out).2.2 | (with_reducible refine Kd.C_alloc ?_ _) | (with_reducible refine Kd.C_drewN ?_ _) | (with_reducible refine Kd.C_drew ?_))); (case side4 => exact (Kd.R_reads' HO_274002.out).2.1); (case side5 => repeat (first | exact (Kd.R_reads' HO_274003.out).2.2 | (with_reducible refine Kd.C_alloc ?_ _) | (with_reducible refine Kd.C_drewN ?_ _) | (with_reducible refine Kd.C_drew ?_))); (case side6 => exact (Kd.R_reads' HO_274003.out).2.1); (case side7 => repeat (first | exact (Kd.R_reads' HO_257001.out).2.2 | (with_reducible refine Kd.C_alloc ?_ _) | (with_reducible refine Kd.C_drewN ?_ _) | (with_reducible refine Kd.C_drew ?_))); (case side8 => exact (Kd.R_reads' HO_257001.out).2.1); (case side9 => repeat (first | exact (Kd.R_reads' HO_257002.out).2.2 | (with_reducible refine Kd.C_alloc ?_ _) | (with_reducible refine Kd.C_drewN ?_ _) | (with_reducible refine Kd.C_drew ?_))); (case side10 => exact (Kd.R_reads' HO_257002.out).2.1); (case side11 => repeat (first | exact (Kd.R_reads' HO_257003.out).2.2 | (with_reducible refine Kd.C_alloc ?_ _) | (with_reducible refine Kd.C_drewN ?_ _) | (with_reducible refine Kd.C_drew ?_))); (case side12 => exact (Kd.R_reads' HO_257003.out).2.1); rintro e w76 ⟨rfl, hb⟩; have n0_ := Aside0.mk (Kd.R_below (by (with_reducible repeat (first | apply Kd.R_alloc | apply Kd.R_drewN | apply Kd.R_drew)); exact HO_257001.out) hb); have n1_ := Aside0.mk (Kd.R_below (by (with_reducible repeat (first | apply Kd.R_alloc | apply Kd.R_drewN | apply Kd.R_drew)); exact HO_257002.out) hb); have n2_ := Aside0.mk (Kd.R_below (by (with_reducible repeat (first | apply Kd.R_alloc | apply Kd.R_drewN | apply Kd.R_drew)); exact HO_257003.out) hb); have n3_ := Aside0.mk (Kd.R_below (by (with_reducible repeat (first | apply Kd.R_alloc | apply Kd.R_drewN | apply Kd.R_drew)); exact HO_262001.out) hb); have n4_ := Aside0.mk (Kd.R_below (by (with_reducible repeat (first | apply Kd.R_alloc | apply Kd.R_drewN | apply Kd.R_drew)); exact HO_274001.out) hb); have n5_ := Aside0.mk (Kd.R_below (by (with_reducible repeat (first | apply Kd.R_alloc | apply Kd.R_drewN | apply Kd.R_drew)); exact HO_274002.out) hb); have n6_ := Aside0.mk (Kd.R_below (by (with_reducible repeat (first | apply Kd.R_alloc | apply Kd.R_drewN | apply Kd.R_drew)); exact HO_274003.out) hb); have n7_ := Aside0.mk (Kd.R_below (by (with_reducible repeat (first | apply Kd.R_alloc | apply Kd.R_drewN | apply Kd.R_drew)); exact HO278.out) hb); have n8_ := Aside0.mk (blk_below (g := gb239) (o := .cells #[.int .i64 a0_0, .slice A0_1 l0_1.length c0_1] 24 (0, 0)) (by (with_reducible repeat (first | refine blk_drewN ?_ _ | refine blk_drew ?_ | refine blk_alloc ?_ _)); exact BK239.out) hb); have n9_ := Aside0.mk (blk_below (g := gb256) (o := .cells #[.int .i64 t245, .slice Ao22 t246.length co22, .slice Ao23 t249.length co23, .slice Ao24 t252.length co24] 31 (0, 0)) (by (with_reducible repeat (first | refine blk_drewN ?_ _ | refine blk_drew ?_ | refine blk_alloc ?_ _)); exact BK256.out) hb); have n10_ := Aside0.mk (blk_below (g := gb261) (o := .cells #[.int .i64 t257, .slice Ao31 t258.length co31] 29 (0, 0)) (by (with_reducible repeat (first | refine blk_drewN ?_ _ | refine blk_drew ?_ | refine blk_alloc ?_ _)); exact BK261.out) hb); have n11_ := Aside0.mk (blk_below (g := gb273) (o := .cells #[.int .i64 t262, .slice Ao38 t263.length co38, .slice Ao39 t266.length co39, .slice Ao40 t269.length co40] 31 (0, 0)) (by (with_reducible repeat (first | refine blk_drewN ?_ _ | refine blk_drew ?_ | refine blk_alloc ?_ _)); exact BK273.out) hb); have n12_ := Aside0.mk (below_step (by repeat (first | (with_reducible first | exact HB.out | apply below_alloc | apply pw_below_drewN | apply below_drew1 | refine below_set ?_ GE239.out | refine below_set ?_ GE256.out | refine below_set ?_ GE261.out | refine below_set ?_ GE273.out) | exact HB.out)) hb); clear HO_257001; clear HO_257002; clear HO_257003; clear HO_262001; clear HO_274001; clear HO_274002; clear HO_274003; clear HO278; clear BK239; clear BK256; clear BK261; clear BK273; clear HB; have HO_257001 := n0_; have HO_257002 := n1_; have HO_257003 := n2_; have HO_262001 := n3_; have HO_274001 := n4_; have HO_274002 := n5_; have HO_274003 := n6_; have HO278 := n7_; have BK239 := n8_; have BK256 := n9_; have BK261 := n10_; have BK273 := n11_; have HB := n12_; clear n0_ n1_ n2_ n3_ n4_ n5_ n6_ n7_ n8_ n9_ n10_ n11_ n12_; (try clear hb); (try clear hb2); (try clear hk); (try clear hi)))
                  go_meet
                  case rel => exact ⟨_, ((t272 != t255)), (by first | rfl | (simp; done) | (simp [*]; done)), H', ⟨by have := HJ10.out; first | omega | exact Nat.le_refl _⟩, ⟨by (with_reducible repeat (first | apply Kd.R_alloc | apply Kd.R_drewN | apply Kd.R_drew)); exact Kd.R_mono HO_257001.out (fun _ hk => ⟨hk.1, ⟨hk.2.1, ⟨hk.2.2.1, ⟨hk.2.2.2.1, ⟨hk.2.2.2.2.1, hk.2.2.2.2.2.1⟩⟩⟩⟩⟩)⟩, ⟨by (with_reducible repeat (first | apply Kd.R_alloc | apply Kd.R_drewN | apply Kd.R_drew)); exact Kd.R_mono HO_257002.out (fun _ hk => ⟨hk.1, ⟨hk.2.1, ⟨hk.2.2.1, ⟨hk.2.2.2.1, ⟨hk.2.2.2.2.1, hk.2.2.2.2.2.1⟩⟩⟩⟩⟩)⟩, ⟨by (with_reducible repeat (first | apply Kd.R_alloc | apply Kd.R_drewN | apply Kd.R_drew)); exact Kd.R_mono HO_257003.out (fun _ hk => ⟨hk.1, ⟨hk.2.1, ⟨hk.2.2.1, ⟨hk.2.2.2.1, ⟨hk.2.2.2.2.1, hk.2.2.2.2.2.1⟩⟩⟩⟩⟩)⟩, ⟨by (with_reducible repeat (first | apply Kd.R_alloc | apply Kd.R_drewN | apply Kd.R_drew)); exact Kd.R_mono HO_262001.out (fun _ hk => ⟨hk.1.1, ⟨hk.1.2.1, ⟨hk.1.2.2.1, ⟨hk.1.2.2.2.1, ⟨hk.1.2.2.2.2.1, hk.1.2.2.2.2.2⟩⟩⟩⟩⟩)⟩, ⟨by (with_reducible repeat (first | apply Kd.R_alloc | apply Kd.R_drewN | apply Kd.R_drew)); exact Kd.R_mono HO_274001.out (fun _ hk => ⟨hk.1, ⟨hk.2.1, ⟨hk.2.2.1, ⟨hk.2.2.2.1, ⟨hk.2.2.2.2.1, hk.2.2.2.2.2.1⟩⟩⟩⟩⟩)⟩, ⟨by (with_reducible repeat (first | apply Kd.R_alloc | apply Kd.R_drewN | apply Kd.R_drew)); exact Kd.R_mono HO_274002.out (fun _ hk => ⟨hk.1, ⟨hk.2.1, ⟨hk.2.2.1, ⟨hk.2.2.2.1, ⟨hk.2.2.2.2.1, hk.2.2.2.2.2.1⟩⟩⟩⟩⟩)⟩, ⟨by (with_reducible repeat (first | apply Kd.R_alloc | apply Kd.R_drewN | apply Kd.R_drew)); exact Kd.R_mono HO_274003.out (fun _ hk => ⟨hk.1, ⟨hk.2.1, ⟨hk.2.2.1, ⟨hk.2.2.2.1, ⟨hk.2.2.2.2.1, hk.2.2.2.2.2.1⟩⟩⟩⟩⟩)⟩, ⟨by (with_reducible repeat (first | refine blk_drewN ?_ _ | refine blk_drew ?_ | refine blk_alloc ?_ _)); exact BK239.out⟩, ⟨by (with_reducible repeat (first | refine blk_drewN ?_ _ | refine blk_drew ?_ | refine blk_alloc ?_ _)); exact BK256.out⟩, ⟨by (with_reducible repeat (first | refine blk_drewN ?_ _ | refine blk_drew ?_ | refine blk_alloc ?_ _)); exact BK261.out⟩, ⟨by (with_reducible repeat (first | refine blk_drewN ?_ _ | refine blk_drew ?_ | refine blk_alloc ?_ _)); exact BK273.out⟩, ⟨by repeat (first | (with_reducible first | exact HB.out | apply below_alloc | apply pw_below_drewN | apply below_drew1 | refine below_set ?_ GE239.out | refine below_set ?_ GE256.out | refine below_set ?_ GE261.out | refine below_set ?_ GE273.out) | exact HB.out)⟩⟩
                · replace c68 := Bool.eq_false_iff.mpr c68
                  subst c68
                  have H1 : (none) = some r := by rw [if_neg (show ¬ (false = true) by decide)] at H; exact H
                  clear H
                  have H := H1
                  clear H1
                  exact absurd H (by simp)
            case rest =>
              clear HC56
              try clear c1
              try clear c2
              try clear p2
              try clear c3
              try clear c3b0
              try clear c4
              try clear c5
              try clear c6
              try clear c7
              try clear c19
              try clear c20
              try clear c21
              try clear c22
              try clear c23
              try clear c24
              try clear c25
              try clear c28
              try clear c29
              try clear c34
              try clear c35
              try clear c36
              try clear c42
              try clear c43
              try clear c44
              try clear c45
              try clear c47
              try clear c48
              try clear c51
              try clear c54
              try clear c61
              try clear c62
              try clear c63
              try clear c66
              try clear c66b0
              try clear c68
              try clear c69
              try clear c70
              try clear c71
              try clear c73
              try clear c74
              try clear hcz13_0
              try clear hcz13_1
              try clear hcz15_0
              try clear hcz15_1
              try clear hcz21_0
              try clear hcz21_1
              try clear hcz21_2
              try clear hcz21_3
              try clear hcz25_0
              try clear hcz25_1
              try clear hcz30_0
              try clear hcz30_1
              try clear hcz37_0
              try clear hcz37_1
              try clear hcz37_2
              try clear hcz37_3
              try clear hcz46_0
              try clear hcz46_1
              try clear hcz46_2
              try clear hcz46_3
              try clear hcz49_0
              try clear hcz49_1
              try clear hcz49_2
              try clear hcz49_3
              try clear hcz5_0
              try clear hcz5_1
              try clear hcz64_0
              try clear hcz64_1
              try clear hcz72_0
              try clear hcz72_1
              try clear hcz72_2
              try clear hcz72_3
              try clear hcz75_0
              try clear hcz75_1
              try clear hcz75_2
              try clear hcz75_3
              try clear hfz13_0
              try clear hfz13_1
              try clear hfz15_0
              try clear hfz15_1
              try clear hfz21_0
              try clear hfz21_1
              try clear hfz21_2
              try clear hfz21_3
              try clear hfz25_0
              try clear hfz25_1
              try clear hfz30_0
              try clear hfz30_1
              try clear hfz37_0
              try clear hfz37_1
              try clear hfz37_2
              try clear hfz37_3
              try clear hfz46_0
              try clear hfz46_1
              try clear hfz46_2
              try clear hfz46_3
              try clear hfz49_0
              try clear hfz49_1
              try clear hfz49_2
              try clear hfz49_3
              try clear hfz5_0
              try clear hfz5_1
              try clear hfz64_0
              try clear hfz64_1
              try clear hfz72_0
              try clear hfz72_1
              try clear hfz72_2
              try clear hfz72_3
              try clear hfz75_0
              try clear hfz75_1
              try clear hfz75_2
              try clear hfz75_3
              try clear p2
              obtain ⟨kq, x61_55, rfl, HA, HJ55, HO_257001, HO_257002, HO_257003, HO_262001, HO_274001, HO_274002, HO_274003, BK239, BK256, BK261, BK273, HB⟩ := hcut
              have hl262001_55 := (Kd.R_reads' HO_262001.out).1
              rw [hl262001_55] at HO_262001
              (try simp only [hl262001_55])
              (try simp only [hl262001_55] at BK239)
              (try simp only [hl262001_55] at BK256)
              (try simp only [hl262001_55] at BK261)
              (try simp only [hl262001_55] at BK273)
              (try simp only [hl262001_55] at HO_257001)
              (try simp only [hl262001_55] at HO_257002)
              (try simp only [hl262001_55] at HO_257003)
              (try simp only [hl262001_55] at HO_274001)
              (try simp only [hl262001_55] at HO_274002)
              (try simp only [hl262001_55] at HO_274003)
              cases kq with
              | zero => exact absurd HA.out (by simp [laws_FnExactBuildRanked.j1])
              | succ kj55 =>
                have H := HA.out
                clear HA
                simp only [laws_FnExactBuildRanked.j1] at H
                by_cases c77 : x61_55 = true
                · subst c77
                  have H1 : (none) = some r := by rw [if_pos rfl] at H; exact H
                  clear H
                  have H := H1
                  clear H1
                  exact absurd H (by simp)
                · replace c77 := Bool.eq_false_iff.mpr c77
                  subst c77
                  have H1 : ((laws_markRanked.f kj55 t262 t263 t266 t269 1).bind fun bt283 => ((laws_heldRanked.f kj55 t262 bt283.2.1 bt283.2.2.1 bt283.2.2.2 1).bind fun t287 => (if t287 < 0 then (none) else (if t287 = bt283.1 then ((laws_toBits.f kj55 a0_0 l0_1).bind fun bt288 => ((impl_BuildRanked.f kj55 bt288.1 bt288.2).bind fun bt292 => ((laws_eqRanked.f kj55 bt292.1 bt292.2.1 bt292.2.2.1 bt292.2.2.2.1 t245 t246 t249 t252).bind fun t304 => (if t304 = true then (laws_FnExactBuildRanked.j2 kj55 bt283.1 (bt292.2.2.2.2 != t255) t262 bt283.2.1 bt283.2.2.1 bt283.2.2.2) else (none))))) else (none))))) = some r := by rw [if_neg (show ¬ (false = true) by decide)] at H; exact H
                  clear H
                  have H := H1
                  clear H1
                  replace H := Option.bind_eq_some_iff.mp H
                  obtain ⟨⟨t283, t284, t285, t286⟩, A780, H⟩ := H
                  replace H : ((laws_heldRanked.f kj55 t262 t284 t285 t286 1).bind fun t287 => (if t287 < 0 then (none) else (if t287 = t283 then ((laws_toBits.f kj55 a0_0 l0_1).bind fun bt288 => ((impl_BuildRanked.f kj55 bt288.1 bt288.2).bind fun bt292 => ((laws_eqRanked.f kj55 bt292.1 bt292.2.1 bt292.2.2.1 bt292.2.2.2.1 t245 t246 t249 t252).bind fun t304 => (if t304 = true then (laws_FnExactBuildRanked.j2 kj55 t283 (bt292.2.2.2.2 != t255) t262 t284 t285 t286) else (none))))) else (none)))) = some r := H
                  have A78 := Aside0.mk A780
                  clear A780
                  replace H := Option.bind_eq_some_iff.mp H
                  obtain ⟨t287, A790, H⟩ := H
                  replace H : (if t287 < 0 then (none) else (if t287 = t283 then ((laws_toBits.f kj55 a0_0 l0_1).bind fun bt288 => ((impl_BuildRanked.f kj55 bt288.1 bt288.2).bind fun bt292 => ((laws_eqRanked.f kj55 bt292.1 bt292.2.1 bt292.2.2.1 bt292.2.2.2.1 t245 t246 t249 t252).bind fun t304 => (if t304 = true then (laws_FnExactBuildRanked.j2 kj55 t283 (bt292.2.2.2.2 != t255) t262 t284 t285 t286) else (none))))) else (none))) = some r := H
                  have A79 := Aside0.mk A790
                  clear A790
                  by_cases c80 : t287 < 0
                  · rw [if_pos c80] at H
                    exact absurd H (by simp)
                  · rw [if_neg c80] at H
                    have c80b0 : decide (t287 < 0) = false := decide_eq_false c80
                    clear c80
                    by_cases c81 : t287 = t283
                    · rw [if_pos c81] at H
                      have c81b0 : (t287 == t283) = true := beq_iff_eq.mpr c81
                      have c81b1 : (t287 != t283) = false := bne_eq_false_iff_eq.mpr c81
                      clear c81
                      replace H := Option.bind_eq_some_iff.mp H
                      obtain ⟨⟨t288, t289⟩, A820, H⟩ := H
                      replace H : ((impl_BuildRanked.f kj55 t288 t289).bind fun bt292 => ((laws_eqRanked.f kj55 bt292.1 bt292.2.1 bt292.2.2.1 bt292.2.2.2.1 t245 t246 t249 t252).bind fun t304 => (if t304 = true then (laws_FnExactBuildRanked.j2 kj55 t283 (bt292.2.2.2.2 != t255) t262 t284 t285 t286) else (none)))) = some r := H
                      have A82 := Aside0.mk A820
                      clear A820
                      replace H := Option.bind_eq_some_iff.mp H
                      obtain ⟨⟨t292, t293, t296, t299, t302⟩, A830, H⟩ := H
                      replace H : ((laws_eqRanked.f kj55 t292 t293 t296 t299 t245 t246 t249 t252).bind fun t304 => (if t304 = true then (laws_FnExactBuildRanked.j2 kj55 t283 (t302 != t255) t262 t284 t285 t286) else (none))) = some r := H
                      have A83 := Aside0.mk A830
                      clear A830
                      have HC84 := Aside0.mk H
                      clear H
                      have hnb85 := NB273_239.out
                      have hnc85 := NB239_273.out
                      have hnb86 := NB273_256.out
                      have hnc86 := NB256_273.out
                      have hnb87 := NB273_261.out
                      have hnc87 := NB261_273.out
                      have hcz88_0 : wc.cell? ⟨gb273, 0, none⟩ = some (.int .i64 t262) := (blk_cell BK273.out 0).trans rfl
                      have hcz88_1 : wc.cell? ⟨gb273, 1, none⟩ = some (.slice Ao38 t263.length co38) := (blk_cell BK273.out 1).trans rfl
                      have hcz88_2 : wc.cell? ⟨gb273, 2, none⟩ = some (.slice Ao39 t266.length co39) := (blk_cell BK273.out 2).trans rfl
                      have hcz88_3 : wc.cell? ⟨gb273, 3, none⟩ = some (.slice Ao40 t269.length co40) := (blk_cell BK273.out 3).trans rfl
                      have hfz88_0 := blk_frozen BK273.out 0
                      have hfz88_1 := blk_frozen BK273.out 1
                      have hfz88_2 := blk_frozen BK273.out 2
                      have hfz88_3 := blk_frozen BK273.out 3
                      go_upto_region 25 with (first | ((with_reducible refine gate_callee (f := 26) rfl ?_); refine goesL_ (some 64) rfl rfl Try.func26 (by kernel_rfl) rfl #[.agg #[.int .i64 t262, .slice Ao38 t263.length co38, .slice Ao39 t266.length co39, .slice Ao40 t269.length co40], .int .i64 1] rfl (by (try simp only [List.map_toArray, List.map_cons, List.map_nil]); first | done | rfl | (simp only [List.length_drop, List.length_take]; rfl)) ?_; (with_reducible refine (laws_markRanked.calls kj55 t262 (fun k_ => some k_ = (.slice Ao38 t263.length co38 : Value).ownBlock) (.slice Ao38 t263.length co38) t263 (fun k_ => some k_ = (.slice Ao39 t266.length co39 : Value).ownBlock) (.slice Ao39 t266.length co39) t266 (fun k_ => some k_ = (.slice Ao40 t269.length co40 : Value).ownBlock) (.slice Ao40 t269.length co40) t269 1 t283 t284 t285 t286 w _ ?side1 ?side2 ?side3 ?side4 ?side5 ?side6 ?side7 ?side8 ?side9 ?side10 A78.out).mono ?_); (case side1 => repeat (first | (with_reducible first | exact HB.out | apply below_alloc | apply pw_below_drewN | apply below_drew1 | refine below_set ?_ GE239.out | refine below_set ?_ GE256.out | refine below_set ?_ GE261.out | refine below_set ?_ GE273.out) | exact HB.out)); (case side2 => exact Kd.R_tight rfl HO_274001.out); (case side3 => exact fun k_ e_ => (HO_274001.out.1 k_ e_.symm).2.2.2.2.1); (case side4 => exact fun k_ e_ => (HO_274001.out.1 k_ e_.symm).2.2.2.2.2); (case side5 => exact Kd.R_tight rfl HO_274002.out); (case side6 => exact fun k_ e_ => (HO_274002.out.1 k_ e_.symm).2.2.2.2.1); (case side7 => exact fun k_ e_ => (HO_274002.out.1 k_ e_.symm).2.2.2.2.2); (case side8 => exact Kd.R_tight rfl HO_274003.out); (case side9 => exact fun k_ e_ => (HO_274003.out.1 k_ e_.symm).2.2.2.2.1); (case side10 => exact fun k_ e_ => (HO_274003.out.1 k_ e_.symm).2.2.2.2.2); rintro e w89 ⟨rfl, hy0, hy1, hy2, hb, hkp⟩; refine ⟨_, rfl, ?_⟩; have n0_ := Aside0.mk (Kd.R_mono (ok' := fun k_ => some k_ ≠ (.slice Ao23 t249.length co23 : Value).ownBlock ∧ some k_ ≠ (.slice Ao24 t252.length co24 : Value).ownBlock ∧ some k_ ≠ (.slice Ao31 t281.length co31 : Value).ownBlock ∧ some k_ ≠ (.slice Ao38 t263.length co38 : Value).ownBlock ∧ some k_ ≠ (.slice Ao39 t266.length co39 : Value).ownBlock ∧ some k_ ≠ (.slice Ao40 t269.length co40 : Value).ownBlock) (Kd.R_keptB (HO_257001.out) hkp (fun k_ hk_ hs_ => Or.elim hs_ (fun e_ => (hk_.2.2.2.1) e_) (fun e_ => Or.elim e_ (fun e_ => (hk_.2.2.2.2.1) e_) (fun e_ => (hk_.2.2.2.2.2) e_)))) (fun k_ hk_ => ⟨hk_.1.1, hk_.1.2.1, hk_.1.2.2.1, hk_.1.2.2.2.1, hk_.1.2.2.2.2.1, hk_.1.2.2.2.2.2⟩)); have n1_ := Aside0.mk (Kd.R_mono (ok' := fun k_ => some k_ ≠ (.slice Ao22 t246.length co22 : Value).ownBlock ∧ some k_ ≠ (.slice Ao24 t252.length co24 : Value).ownBlock ∧ some k_ ≠ (.slice Ao31 t281.length co31 : Value).ownBlock ∧ some k_ ≠ (.slice Ao38 t263.length co38 : Value).ownBlock ∧ some k_ ≠ (.slice Ao39 t266.length co39 : Value).ownBlock ∧ some k_ ≠ (.slice Ao40 t269.length co40 : Value).ownBlock) (Kd.R_keptB (HO_257002.out) hkp (fun k_ hk_ hs_ => Or.elim hs_ (fun e_ => (hk_.2.2.2.1) e_) (fun e_ => Or.elim e_ (fun e_ => (hk_.2.2.2.2.1) e_) (fun e_ => (hk_.2.2.2.2.2) e_)))) (fun k_ hk_ => ⟨hk_.1.1, hk_.1.2.1, hk_.1.2.2.1, hk_.1.2.2.2.1, hk_.1.2.2.2.2.1, hk_.1.2.2.2.2.2⟩)); have n2_ := Aside0.mk (Kd.R_mono (ok' := fun k_ => some k_ ≠ (.slice Ao22 t246.length co22 : Value).ownBlock ∧ some k_ ≠ (.slice Ao23 t249.length co23 : Value).ownBlock ∧ some k_ ≠ (.slice Ao31 t281.length co31 : Value).ownBlock ∧ some k_ ≠ (.slice Ao38 t263.length co38 : Value).ownBlock ∧ some k_ ≠ (.slice Ao39 t266.length co39 : Value).ownBlock ∧ some k_ ≠ (.slice Ao40 t269.length co40 : Value).ownBlock) (Kd.R_keptB (HO_257003.out) hkp (fun k_ hk_ hs_ => Or.elim hs_ (fun e_ => (hk_.2.2.2.1) e_) (fun e_ => Or.elim e_ (fun e_ => (hk_.2.2.2.2.1) e_) (fun e_ => (hk_.2.2.2.2.2) e_)))) (fun k_ hk_ => ⟨hk_.1.1, hk_.1.2.1, hk_.1.2.2.1, hk_.1.2.2.2.1, hk_.1.2.2.2.2.1, hk_.1.2.2.2.2.2⟩)); have n3_ := Aside0.mk (Kd.R_mono (ok' := fun k_ => some k_ ≠ (.slice Ao22 t246.length co22 : Value).ownBlock ∧ some k_ ≠ (.slice Ao23 t249.length co23 : Value).ownBlock ∧ some k_ ≠ (.slice Ao24 t252.length co24 : Value).ownBlock ∧ some k_ ≠ (.slice Ao38 t263.length co38 : Value).ownBlock ∧ some k_ ≠ (.slice Ao39 t266.length co39 : Value).ownBlock ∧ some k_ ≠ (.slice Ao40 t269.length co40 : Value).ownBlock) (Kd.R_keptB (HO_262001.out) hkp (fun k_ hk_ hs_ => Or.elim hs_ (fun e_ => (hk_.2.2.2.1) e_) (fun e_ => Or.elim e_ (fun e_ => (hk_.2.2.2.2.1) e_) (fun e_ => (hk_.2.2.2.2.2) e_)))) (fun k_ hk_ => ⟨hk_.1.1, hk_.1.2.1, hk_.1.2.2.1, hk_.1.2.2.2.1, hk_.1.2.2.2.2.1, hk_.1.2.2.2.2.2⟩)); have n4_ := Aside0.mk (Kd.R_reok rfl hy0 (fun k_ e_ => HO_274001.out.1 k_ e_)); have n5_ := Aside0.mk (Kd.R_reok rfl hy1 (fun k_ e_ => HO_274002.out.1 k_ e_)); have n6_ := Aside0.mk (Kd.R_reok rfl hy2 (fun k_ e_ => HO_274003.out.1 k_ e_)); have n7_ := Aside0.mk (blk_kept (by (with_reducible repeat (first | refine blk_drewN ?_ _ | refine blk_drew ?_ | refine blk_alloc ?_ _)); exact BK239.out) hkp (fun hs_ => Or.elim hs_ (fun e_ => (fun e_ => (Kd.R_ne HO_274001.out BK239.out (by decide)) e_) e_) (fun e_ => Or.elim e_ (fun e_ => (fun e_ => (Kd.R_ne HO_274002.out BK239.out (by decide)) e_) e_) (fun e_ => (fun e_ => (Kd.R_ne HO_274003.out BK239.out (by decide)) e_) e_)))); have n8_ := Aside0.mk (blk_kept (by (with_reducible repeat (first | refine blk_drewN ?_ _ | refine blk_drew ?_ | refine blk_alloc ?_ _)); exact BK256.out) hkp (fun hs_ => Or.elim hs_ (fun e_ => (fun e_ => (Kd.R_ne HO_274001.out BK256.out (by decide)) e_) e_) (fun e_ => Or.elim e_ (fun e_ => (fun e_ => (Kd.R_ne HO_274002.out BK256.out (by decide)) e_) e_) (fun e_ => (fun e_ => (Kd.R_ne HO_274003.out BK256.out (by decide)) e_) e_)))); have n9_ := Aside0.mk (blk_kept (by (with_reducible repeat (first | refine blk_drewN ?_ _ | refine blk_drew ?_ | refine blk_alloc ?_ _)); exact BK261.out) hkp (fun hs_ => Or.elim hs_ (fun e_ => (fun e_ => (Kd.R_ne HO_274001.out BK261.out (by decide)) e_) e_) (fun e_ => Or.elim e_ (fun e_ => (fun e_ => (Kd.R_ne HO_274002.out BK261.out (by decide)) e_) e_) (fun e_ => (fun e_ => (Kd.R_ne HO_274003.out BK261.out (by decide)) e_) e_)))); have n10_ := Aside0.mk (blk_kept (by (with_reducible repeat (first | refine blk_drewN ?_ _ | refine blk_drew ?_ | refine blk_alloc ?_ _)); exact BK273.out) hkp (fun hs_ => Or.elim hs_ (fun e_ => (fun e_ => (Kd.R_ne HO_274001.out BK273.out (by decide)) e_) e_) (fun e_ => Or.elim e_ (fun e_ => (fun e_ => (Kd.R_ne HO_274002.out BK273.out (by decide)) e_) e_) (fun e_ => (fun e_ => (Kd.R_ne HO_274003.out BK273.out (by decide)) e_) e_)))); have n11_ := Aside0.mk (hb); clear HO_257001; clear HO_257002; clear HO_257003; clear HO_262001; clear HO_274001; clear HO_274002; clear HO_274003; clear BK239; clear BK256; clear BK261; clear BK273; clear HB; have HO_257001 := n0_; have HO_257002 := n1_; have HO_257003 := n2_; have HO_262001 := n3_; have HO_274001 := n4_; have HO_274002 := n5_; have HO_274003 := n6_; have BK239 := n7_; have BK256 := n8_; have BK261 := n9_; have BK273 := n10_; have HB := n11_; clear n0_ n1_ n2_ n3_ n4_ n5_ n6_ n7_ n8_ n9_ n10_ n11_; (try clear hb); (try clear hkp); (try clear hy0); (try clear hy1); (try clear hy2); have hcz90_0 : w89.cell? ⟨gb273, 0, none⟩ = some (.int .i64 t262) := (blk_cell BK273.out 0).trans rfl; have hcz90_1 : w89.cell? ⟨gb273, 1, none⟩ = some (.slice Ao38 t263.length co38) := (blk_cell BK273.out 1).trans rfl; have hcz90_2 : w89.cell? ⟨gb273, 2, none⟩ = some (.slice Ao39 t266.length co39) := (blk_cell BK273.out 2).trans rfl; have hcz90_3 : w89.cell? ⟨gb273, 3, none⟩ = some (.slice Ao40 t269.length co40) := (blk_cell BK273.out 3).trans rfl; have hfz90_0 := blk_frozen BK273.out 0; have hfz90_1 := blk_frozen BK273.out 1; have hfz90_2 := blk_frozen BK273.out 2; have hfz90_3 := blk_frozen BK273.out 3) | ((with_reducible refine gate_callee (f := 27) rfl ?_); refine goesL_ (some 67) rfl rfl Try.func27 (by kernel_rfl) rfl #[.agg #[.int .i64 t262, .slice Ao38 t284.length co38, .slice Ao39 t285.length co39, .slice Ao40 t286.length co40], .int .i64 1] rfl (by (try simp only [List.map_toArray, List.map_cons, List.map_nil]); first | done | (rw [show t284.length = t263.length from (Kd.R_reads' HO_274001.out).1.symm, show t285.length = t266.length from (Kd.R_reads' HO_274002.out).1.symm, show t286.length = t269.length from (Kd.R_reads' HO_274003.out).1.symm] <;> rfl) | rfl | (simp only [List.length_drop, List.length_take]; rfl)) ?_; (with_reducible refine (laws_heldRanked.calls kj55 t262 _ _ t284 _ _ t285 _ _ t286 1 t287 _ ?side1 ?side2 ?side3 ?side4 ?side5 ?side6 A79.out).mono ?_); (case side1 => repeat (first | exact (Kd.R_reads' HO_274001.out).2.2 | (with_reducible refine Kd.C_alloc ?_ _) | (with_reducible refine Kd.C_drewN ?_ _) | (with_reducible refine Kd.C_drew ?_))); (case side2 => rw [show t284.length = t263.length from (Kd.R_reads' HO_274001.out).1.symm]; exact (Kd.R_reads' HO_274001.out).2.1); (case side3 => repeat (first | exact (Kd.R_reads' HO_274002.out).2.2 | (with_reducible refine Kd.C_alloc ?_ _) | (with_reducible refine Kd.C_drewN ?_ _) | (with_reducible refine Kd.C_drew ?_))); (case side4 => rw [show t285.length = t266.length from (Kd.R_reads' HO_274002.out).1.symm]; exact (Kd.R_reads' HO_274002.out).2.1); (case side5 => repeat (first | exact (Kd.R_reads' HO_274003.out).2.2 | (with_reducible refine Kd.C_alloc ?_ _) | (with_reducible refine Kd.C_drewN ?_ _) | (with_reducible refine Kd.C_drew ?_))); (case side6 => rw [show t286.length = t269.length from (Kd.R_reads' HO_274003.out).1.symm]; exact (Kd.R_reads' HO_274003.out).2.1); rintro e w91 ⟨rfl, hb⟩; refine ⟨_, rfl, ?_⟩; have n0_ := Aside0.mk (Kd.R_below (by (with_reducible repeat (first | apply Kd.R_alloc | apply Kd.R_drewN | apply Kd.R_drew)); exact HO_257001.out) hb); have n1_ := Aside0.mk (Kd.R_below (by (with_reducible repeat (first | apply Kd.R_alloc | apply Kd.R_drewN | apply Kd.R_drew)); exact HO_257002.out) hb); have n2_ := Aside0.mk (Kd.R_below (by (with_reducible repeat (first | apply Kd.R_alloc | apply Kd.R_drewN | apply Kd.R_drew)); exact HO_257003.out) hb); have n3_ := Aside0.mk (Kd.R_below (by (with_reducible repeat (first | apply Kd.R_alloc | apply Kd.R_drewN | apply Kd.R_drew)); exact HO_262001.out) hb); have n4_ := Aside0.mk (Kd.R_below (by (with_reducible repeat (first | apply Kd.R_alloc | apply Kd.R_drewN | apply Kd.R_drew)); exact HO_274001.out) hb); have n5_ := Aside0.mk (Kd.R_below (by (with_reducible repeat (first | apply Kd.R_alloc | apply Kd.R_drewN | apply Kd.R_drew)); exact HO_274002.out) hb); have n6_ := Aside0.mk (Kd.R_below (by (with_reducible repeat (first | apply Kd.R_alloc | apply Kd.R_drewN | apply Kd.R_drew)); exact HO_274003.out) hb); have n7_ := Aside0.mk (blk_below (g := gb239) (o := .cells #[.int .i64 a0_0, .slice A0_1 l0_1.length c0_1] 24 (0, 0)) (by (with_reducible repeat (first | refine blk_drewN ?_ _ | refine blk_drew ?_ | refine blk_alloc ?_ _)); exact BK239.out) hb); have n8_ := Aside0.mk (blk_below (g := gb256) (o := .cells #[.int .i64 t245, .slice Ao22 t246.length co22, .slice Ao23 t249.length co23, .slice Ao24 t252.length co24] 31 (0, 0)) (by (with_reducible repeat (first | refine blk_drewN ?_ _ | refine blk_drew ?_ | refine blk_alloc ?_ _)); exact BK256.out) hb); have n9_ := Aside0.mk (blk_below (g := gb261) (o := .cells #[.int .i64 t257, .slice Ao31 t281.length co31] 29 (0, 0)) (by (with_reducible repeat (first | refine blk_drewN ?_ _ | refine blk_drew ?_ | refine blk_alloc ?_ _)); exact BK261.out) hb); have n10_ := Aside0.mk (blk_below (g := gb273) (o := .cells #[.int .i64 t262, .slice Ao38 t263.length co38, .slice Ao39 t266.length co39, .slice Ao40 t269.length co40] 31 (0, 0)) (by (with_reducible repeat (first | refine blk_drewN ?_ _ | refine blk_drew ?_ | refine blk_alloc ?_ _)); exact BK273.out) hb); have n11_ := Aside0.mk (below_step (by repeat (first | (with_reducible first | exact HB.out | apply below_alloc | apply pw_below_drewN | apply below_drew1 | refine below_set ?_ GE239.out | refine below_set ?_ GE256.out | refine below_set ?_ GE261.out | refine below_set ?_ GE273.out) | exact HB.out)) hb); clear HO_257001; clear HO_257002; clear HO_257003; clear HO_262001; clear HO_274001; clear HO_274002; clear HO_274003; clear BK239; clear BK256; clear BK261; clear BK273; clear HB; have HO_257001 := n0_; have HO_257002 := n1_; have HO_257003 := n2_; have HO_262001 := n3_; have HO_274001 := n4_; have HO_274002 := n5_; have HO_274003 := n6_; have BK239 := n7_; have BK256 := n8_; have BK261 := n9_; have BK273 := n10_; have HB := n11_; clear n0_ n1_ n2_ n3_ n4_ n5_ n6_ n7_ n8_ n9_ n10_ n11_; (try clear hb); (try clear hb2); (try clear hk); (try clear hi); have hnb92 := NB239_256.out; have hnc92 := NB256_239.out; have hnb93 := NB239_261.out; have hnc93 := NB261_239.out; have hcz94_0 : w91.cell? ⟨gb239, 0, none⟩ = some (.int .i64 a0_0) := (blk_cell BK239.out 0).trans rfl; have hcz94_1 : w91.cell? ⟨gb239, 1, none⟩ = some (.slice A0_1 l0_1.length c0_1) := (blk_cell BK239.out 1).trans rfl; have hfz94_0 := blk_frozen BK239.out 0; have hfz94_1 := blk_frozen BK239.out 1) | ((with_reducible refine gate_callee (f := 22) rfl ?_); refine goesL_ (some 75) rfl rfl Try.func22 (by kernel_rfl) rfl #[.agg #[.int .i64 a0_0, .slice A0_1 l0_1.length c0_1]] rfl (by (try simp only [List.map_toArray, List.map_cons, List.map_nil]); first | done | rfl | (simp only [List.length_drop, List.length_take]; rfl)) ?_; (with_reducible refine (laws_toBits.calls kj55 a0_0 _ _ l0_1 t288 t289 _ ?side1 ?side2 A82.out).mono ?_); (case side1 => repeat (first | exact (Kd.C_below HR0_1.out HB.out) | (with_reducible refine Kd.C_alloc ?_ _) | (with_reducible refine Kd.C_drewN ?_ _) | (with_reducible refine Kd.C_drew ?_))); (case side2 => exact HC0_1.out); rintro e w95 ⟨v290, rfl, ho0, hb⟩; refine ⟨_, rfl, ?_⟩; have n0_ := Aside0.mk (Kd.R_elder' (by (with_reducible repeat (first | apply Kd.R_alloc | apply Kd.R_drewN | apply Kd.R_drew)); exact HO_257001.out) (Kd.R_base ho0) hb); have n1_ := Aside0.mk (Kd.R_elder' (by (with_reducible repeat (first | apply Kd.R_alloc | apply Kd.R_drewN | apply Kd.R_drew)); exact HO_257002.out) (Kd.R_base ho0) hb); have n2_ := Aside0.mk (Kd.R_elder' (by (with_reducible repeat (first | apply Kd.R_alloc | apply Kd.R_drewN | apply Kd.R_drew)); exact HO_257003.out) (Kd.R_base ho0) hb); have n3_ := Aside0.mk (Kd.R_elder' (by (with_reducible repeat (first | apply Kd.R_alloc | apply Kd.R_drewN | apply Kd.R_drew)); exact HO_262001.out) (Kd.R_base ho0) hb); have n4_ := Aside0.mk (Kd.R_elder' (by (with_reducible repeat (first | apply Kd.R_alloc | apply Kd.R_drewN | apply Kd.R_drew)); exact HO_274001.out) (Kd.R_base ho0) hb); have n5_ := Aside0.mk (Kd.R_elder' (by (with_reducible repeat (first | apply Kd.R_alloc | apply Kd.R_drewN | apply Kd.R_drew)); exact HO_274002.out) (Kd.R_base ho0) hb); have n6_ := Aside0.mk (Kd.R_elder' (by (with_reducible repeat (first | apply Kd.R_alloc | apply Kd.R_drewN | apply Kd.R_drew)); exact HO_274003.out) (Kd.R_base ho0) hb); have n7_ := Aside0.mk (Kd.R_lower (Kd.R_new' (Kd.R_new' (Kd.R_new' (Kd.R_new' (Kd.R_new' (Kd.R_new' (Kd.R_new' ho0 (Kd.R_lt (by (with_reducible repeat (first | apply Kd.R_alloc | apply Kd.R_drewN | apply Kd.R_drew)); exact HO_257001.out))) (Kd.R_lt (by (with_reducible repeat (first | apply Kd.R_alloc | apply Kd.R_drewN | apply Kd.R_drew)); exact HO_257002.out))) (Kd.R_lt (by (with_reducible repeat (first | apply Kd.R_alloc | apply Kd.R_drewN | apply Kd.R_drew)); exact HO_257003.out))) (Kd.R_lt (by (with_reducible repeat (first | apply Kd.R_alloc | apply Kd.R_drewN | apply Kd.R_drew)); exact HO_262001.out))) (Kd.R_lt (by (with_reducible repeat (first | apply Kd.R_alloc | apply Kd.R_drewN | apply Kd.R_drew)); exact HO_274001.out))) (Kd.R_lt (by (with_reducible repeat (first | apply Kd.R_alloc | apply Kd.R_drewN | apply Kd.R_drew)); exact HO_274002.out))) (Kd.R_lt (by (with_reducible repeat (first | apply Kd.R_alloc | apply Kd.R_drewN | apply Kd.R_drew)); exact HO_274003.out))) (below_size (by repeat (first | (with_reducible first | exact HB.out | apply below_alloc | apply pw_below_drewN | apply below_drew1 | refine below_set ?_ GE239.out | refine below_set ?_ GE256.out | refine below_set ?_ GE261.out | refine below_set ?_ GE273.out) | exact HB.out)))); have n8_ := Aside0.mk (blk_below (g := gb239) (o := .cells #[.int .i64 a0_0, .slice A0_1 l0_1.length c0_1] 24 (0, 0)) (by (with_reducible repeat (first | refine blk_drewN ?_ _ | refine blk_drew ?_ | refine blk_alloc ?_ _)); exact BK239.out) hb); have n9_ := Aside0.mk (blk_below (g := gb256) (o := .cells #[.int .i64 t245, .slice Ao22 t246.length co22, .slice Ao23 t249.length co23, .slice Ao24 t252.length co24] 31 (0, 0)) (by (with_reducible repeat (first | refine blk_drewN ?_ _ | refine blk_drew ?_ | refine blk_alloc ?_ _)); exact BK256.out) hb); have n10_ := Aside0.mk (blk_below (g := gb261) (o := .cells #[.int .i64 t257, .slice Ao31 t281.length co31] 29 (0, 0)) (by (with_reducible repeat (first | refine blk_drewN ?_ _ | refine blk_drew ?_ | refine blk_alloc ?_ _)); exact BK261.out) hb); have n11_ := Aside0.mk (blk_below (g := gb273) (o := .cells #[.int .i64 t262, .slice Ao38 t263.length co38, .slice Ao39 t266.length co39, .slice Ao40 t269.length co40] 31 (0, 0)) (by (with_reducible repeat (first | refine blk_drewN ?_ _ | refine blk_drew ?_ | refine blk_alloc ?_ _)); exact BK273.out) hb); have n12_ := Aside0.mk (below_step (by repeat (first | (with_reducible first | exact HB.out | apply below_alloc | apply pw_below_drewN | apply below_drew1 | refine below_set ?_ GE239.out | refine below_set ?_ GE256.out | refine below_set ?_ GE261.out | refine below_set ?_ GE273.out) | exact HB.out)) hb); clear HO_257001; clear HO_257002; clear HO_257003; clear HO_262001; clear HO_274001; clear HO_274002; clear HO_274003; clear BK239; clear BK256; clear BK261; clear BK273; clear HB; have HO_257001 := n0_; have HO_257002 := n1_; have HO_257003 := n2_; have HO_262001 := n3_; have HO_274001 := n4_; have HO_274002 := n5_; have HO_274003 := n6_; have HO291 := n7_; have BK239 := n8_; have BK256 := n9_; have BK261 := n10_; have BK273 := n11_; have HB := n12_; clear n0_ n1_ n2_ n3_ n4_ n5_ n6_ n7_ n8_ n9_ n10_ n11_ n12_; (try clear hb); (try clear hb2); (try clear hk); (try clear hi); (try clear ho0); obtain ⟨Ao96, co96, eo96⟩ := Kd.R_slice HO291.out; subst eo96) | ((with_reducible refine gate_callee (f := 23) rfl ?_); refine goesL_ (some 76) rfl rfl Try.func23 (by kernel_rfl) rfl #[.agg #[.int .i64 t288, .slice Ao96 t289.length co96]] rfl (by (try simp only [List.map_toArray, List.map_cons, List.map_nil]); first | done | rfl | (simp only [List.length_drop, List.length_take]; rfl)) ?_; (with_reducible refine (impl_BuildRanked.calls kj55 t288 _ _ t289 t292 t293 t296 t299 t302 _ ?side1 ?side2 A83.out).mono ?_); (case side1 => repeat (first | exact (Kd.R_reads' HO291.out).2.2 | (with_reducible refine Kd.C_alloc ?_ _) | (with_reducible refine Kd.C_drewN ?_ _) | (with_reducible refine Kd.C_drew ?_))); (case side2 => exact (Kd.R_reads' HO291.out).2.1); rintro e w97 ⟨v294, v297, v300, rfl, ho0, ho1, ho2, hb⟩; refine ⟨_, rfl, ?_⟩; have n0_ := Aside0.mk (Kd.R_mono (Kd.R_told (Kd.R_told (Kd.R_told (Kd.R_old (by (with_reducible repeat (first | apply Kd.R_alloc | apply Kd.R_drewN | apply Kd.R_drew)); exact HO_257001.out) hb) (Kd.R_base ho0)) (Kd.R_base ho1)) (Kd.R_base ho2)) (fun _ h_ => h_.1)); have n1_ := Aside0.mk (Kd.R_mono (Kd.R_told (Kd.R_told (Kd.R_told (Kd.R_old (by (with_reducible repeat (first | apply Kd.R_alloc | apply Kd.R_drewN | apply Kd.R_drew)); exact HO_257002.out) hb) (Kd.R_base ho0)) (Kd.R_base ho1)) (Kd.R_base ho2)) (fun _ h_ => h_.1)); have n2_ := Aside0.mk (Kd.R_mono (Kd.R_told (Kd.R_told (Kd.R_told (Kd.R_old (by (with_reducible repeat (first | apply Kd.R_alloc | apply Kd.R_drewN | apply Kd.R_drew)); exact HO_257003.out) hb) (Kd.R_base ho0)) (Kd.R_base ho1)) (Kd.R_base ho2)) (fun _ h_ => h_.1)); have n3_ := Aside0.mk (Kd.R_mono (Kd.R_told (Kd.R_told (Kd.R_told (Kd.R_old (by (with_reducible repeat (first | apply Kd.R_alloc | apply Kd.R_drewN | apply Kd.R_drew)); exact HO_262001.out) hb) (Kd.R_base ho0)) (Kd.R_base ho1)) (Kd.R_base ho2)) (fun _ h_ => h_.1)); have n4_ := Aside0.mk (Kd.R_mono (Kd.R_told (Kd.R_told (Kd.R_told (Kd.R_old (by (with_reducible repeat (first | apply Kd.R_alloc | apply Kd.R_drewN | apply Kd.R_drew)); exact HO_274001.out) hb) (Kd.R_base ho0)) (Kd.R_base ho1)) (Kd.R_base ho2)) (fun _ h_ => h_.1)); have n5_ := Aside0.mk (Kd.R_mono (Kd.R_told (Kd.R_told (Kd.R_told (Kd.R_old (by (with_reducible repeat (first | apply Kd.R_alloc | apply Kd.R_drewN | apply Kd.R_drew)); exact HO_274002.out) hb) (Kd.R_base ho0)) (Kd.R_base ho1)) (Kd.R_base ho2)) (fun _ h_ => h_.1)); have n6_ := Aside0.mk (Kd.R_mono (Kd.R_told (Kd.R_told (Kd.R_told (Kd.R_old (by (with_reducible repeat (first | apply Kd.R_alloc | apply Kd.R_drewN | apply Kd.R_drew)); exact HO_274003.out) hb) (Kd.R_base ho0)) (Kd.R_base ho1)) (Kd.R_base ho2)) (fun _ h_ => h_.1)); have n7_ := Aside0.mk (Kd.R_mono (Kd.R_told (Kd.R_told (Kd.R_told (Kd.R_old (by (with_reducible repeat (first | apply Kd.R_alloc | apply Kd.R_drewN | apply Kd.R_drew)); exact HO291.out) hb) (Kd.R_base ho0)) (Kd.R_base ho1)) (Kd.R_base ho2)) (fun _ h_ => h_.1)); have n8_ := Aside0.mk (Kd.R_lower (Kd.R_new' (Kd.R_new' (Kd.R_new' (Kd.R_new' (Kd.R_new' (Kd.R_new' (Kd.R_new' (Kd.R_new' ho0 (Kd.R_lt (by (with_reducible repeat (first | apply Kd.R_alloc | apply Kd.R_drewN | apply Kd.R_drew)); exact HO_257001.out))) (Kd.R_lt (by (with_reducible repeat (first | apply Kd.R_alloc | apply Kd.R_drewN | apply Kd.R_drew)); exact HO_257002.out))) (Kd.R_lt (by (with_reducible repeat (first | apply Kd.R_alloc | apply Kd.R_drewN | apply Kd.R_drew)); exact HO_257003.out))) (Kd.R_lt (by (with_reducible repeat (first | apply Kd.R_alloc | apply Kd.R_drewN | apply Kd.R_drew)); exact HO_262001.out))) (Kd.R_lt (by (with_reducible repeat (first | apply Kd.R_alloc | apply Kd.R_drewN | apply Kd.R_drew)); exact HO_274001.out))) (Kd.R_lt (by (with_reducible repeat (first | apply Kd.R_alloc | apply Kd.R_drewN | apply Kd.R_drew)); exact HO_274002.out))) (Kd.R_lt (by (with_reducible repeat (first | apply Kd.R_alloc | apply Kd.R_drewN | apply Kd.R_drew)); exact HO_274003.out))) (Kd.R_lt (by (with_reducible repeat (first | apply Kd.R_alloc | apply Kd.R_drewN | apply Kd.R_drew)); exact HO291.out))) (below_size (by repeat (first | (with_reducible first | exact HB.out | apply below_alloc | apply pw_below_drewN | apply below_drew1 | refine below_set ?_ GE239.out | refine below_set ?_ GE256.out | refine below_set ?_ GE261.out | refine below_set ?_ GE273.out) | exact HB.out)))); have n9_ := Aside0.mk (Kd.R_lower (Kd.R_new' (Kd.R_new' (Kd.R_new' (Kd.R_new' (Kd.R_new' (Kd.R_new' (Kd.R_new' (Kd.R_new' ho1 (Kd.R_lt (by (with_reducible repeat (first | apply Kd.R_alloc | apply Kd.R_drewN | apply Kd.R_drew)); exact HO_257001.out))) (Kd.R_lt (by (with_reducible repeat (first | apply Kd.R_alloc | apply Kd.R_drewN | apply Kd.R_drew)); exact HO_257002.out))) (Kd.R_lt (by (with_reducible repeat (first | apply Kd.R_alloc | apply Kd.R_drewN | apply Kd.R_drew)); exact HO_257003.out))) (Kd.R_lt (by (with_reducible repeat (first | apply Kd.R_alloc | apply Kd.R_drewN | apply Kd.R_drew)); exact HO_262001.out))) (Kd.R_lt (by (with_reducible repeat (first | apply Kd.R_alloc | apply Kd.R_drewN | apply Kd.R_drew)); exact HO_274001.out))) (Kd.R_lt (by (with_reducible repeat (first | apply Kd.R_alloc | apply Kd.R_drewN | apply Kd.R_drew)); exact HO_274002.out))) (Kd.R_lt (by (with_reducible repeat (first | apply Kd.R_alloc | apply Kd.R_drewN | apply Kd.R_drew)); exact HO_274003.out))) (Kd.R_lt (by (with_reducible repeat (first | apply Kd.R_alloc | apply Kd.R_drewN | apply Kd.R_drew)); exact HO291.out))) (below_size (by repeat (first | (with_reducible first | exact HB.out | apply below_alloc | apply pw_below_drewN | apply below_drew1 | refine below_set ?_ GE239.out | refine below_set ?_ GE256.out | refine below_set ?_ GE261.out | refine below_set ?_ GE273.out) | exact HB.out)))); have n10_ := Aside0.mk (Kd.R_lower (Kd.R_new' (Kd.R_new' (Kd.R_new' (Kd.R_new' (Kd.R_new' (Kd.R_new' (Kd.R_new' (Kd.R_new' ho2 (Kd.R_lt (by (with_reducible repeat (first | apply Kd.R_alloc | apply Kd.R_drewN | apply Kd.R_drew)); exact HO_257001.out))) (Kd.R_lt (by (with_reducible repeat (first | apply Kd.R_alloc | apply Kd.R_drewN | apply Kd.R_drew)); exact HO_257002.out))) (Kd.R_lt (by (with_reducible repeat (first | apply Kd.R_alloc | apply Kd.R_drewN | apply Kd.R_drew)); exact HO_257003.out))) (Kd.R_lt (by (with_reducible repeat (first | apply Kd.R_alloc | apply Kd.R_drewN | apply Kd.R_drew)); exact HO_262001.out))) (Kd.R_lt (by (with_reducible repeat (first | apply Kd.R_alloc | apply Kd.R_drewN | apply Kd.R_drew)); exact HO_274001.out))) (Kd.R_lt (by (with_reducible repeat (first | apply Kd.R_alloc | apply Kd.R_drewN | apply Kd.R_drew)); exact HO_274002.out))) (Kd.R_lt (by (with_reducible repeat (first | apply Kd.R_alloc | apply Kd.R_drewN | apply Kd.R_drew)); exact HO_274003.out))) (Kd.R_lt (by (with_reducible repeat (first | apply Kd.R_alloc | apply Kd.R_drewN | apply Kd.R_drew)); exact HO291.out))) (below_size (by repeat (first | (with_reducible first | exact HB.out | apply below_alloc | apply pw_below_drewN | apply below_drew1 | refine below_set ?_ GE239.out | refine below_set ?_ GE256.out | refine below_set ?_ GE261.out | refine below_set ?_ GE273.out) | exact HB.out)))); have n11_ := Aside0.mk (blk_below (g := gb239) (o := .cells #[.int .i64 a0_0, .slice A0_1 l0_1.length c0_1] 24 (0, 0)) (by (with_reducible repeat (first | refine blk_drewN ?_ _ | refine blk_drew ?_ | refine blk_alloc ?_ _)); exact BK239.out) hb); have n12_ := Aside0.mk (blk_below (g := gb256) (o := .cells #[.int .i64 t245, .slice Ao22 t246.length co22, .slice Ao23 t249.length co23, .slice Ao24 t252.length co24] 31 (0, 0)) (by (with_reducible repeat (first | refine blk_drewN ?_ _ | refine blk_drew ?_ | refine blk_alloc ?_ _)); exact BK256.out) hb); have n13_ := Aside0.mk (blk_below (g := gb261) (o := .cells #[.int .i64 t257, .slice Ao31 t281.length co31] 29 (0, 0)) (by (with_reducible repeat (first | refine blk_drewN ?_ _ | refine blk_drew ?_ | refine blk_alloc ?_ _)); exact BK261.out) hb); have n14_ := Aside0.mk (blk_below (g := gb273) (o := .cells #[.int .i64 t262, .slice Ao38 t263.length co38, .slice Ao39 t266.length co39, .slice Ao40 t269.length co40] 31 (0, 0)) (by (with_reducible repeat (first | refine blk_drewN ?_ _ | refine blk_drew ?_ | refine blk_alloc ?_ _)); exact BK273.out) hb); have n15_ := Aside0.mk (below_step (by repeat (first | (with_reducible first | exact HB.out | apply below_alloc | apply pw_below_drewN | apply below_drew1 | refine below_set ?_ GE239.out | refine below_set ?_ GE256.out | refine below_set ?_ GE261.out | refine below_set ?_ GE273.out) | exact HB.out)) hb); clear HO_257001; clear HO_257002; clear HO_257003; clear HO_262001; clear HO_274001; clear HO_274002; clear HO_274003; clear HO291; clear BK239; clear BK256; clear BK261; clear BK273; clear HB; have HO_257001 := n0_; have HO_257002 := n1_; have HO_257003 := n2_; have HO_262001 := n3_; have HO_274001 := n4_; have HO_274002 := n5_; have HO_274003 := n6_; have HO291 := n7_; have HO295 := n8_; have HO298 := n9_; have HO301 := n10_; have BK239 := n11_; have BK256 := n12_; have BK261 := n13_; have BK273 := n14_; have HB := n15_; clear n0_ n1_ n2_ n3_ n4_ n5_ n6_ n7_ n8_ n9_ n10_ n11_ n12_ n13_ n14_ n15_; (try clear hb); (try clear hb2); (try clear hk); (try clear hi); (try clear ho0); (try clear ho1); (try clear ho2)) | ((with_reducible refine gate_dst (N := 12) rfl ?_); refine box_event ?hg (N := 12) ?hd (cs := #[.int .i64 0, .slice none 0 0, .slice none 0 0, .slice none 0 0]) (t := 31) ?hr ?_; (case hd => rfl); (case hg => rfl); (case hr => first | (go_simp; done) | (go_simp; rfl)); intro gb303 hg w98 hbox hb; have n0_ := Aside0.mk (Kd.R_below (by (with_reducible repeat (first | apply Kd.R_alloc | apply Kd.R_drewN | apply Kd.R_drew)); exact HO_257001.out) hb); have n1_ := Aside0.mk (Kd.R_below (by (with_reducible repeat (first | apply Kd.R_alloc | apply Kd.R_drewN | apply Kd.R_drew)); exact HO_257002.out) hb); have n2_ := Aside0.mk (Kd.R_below (by (with_reducible repeat (first | apply Kd.R_alloc | apply Kd.R_drewN | apply Kd.R_drew)); exact HO_257003.out) hb); have n3_ := Aside0.mk (Kd.R_below (by (with_reducible repeat (first | apply Kd.R_alloc | apply Kd.R_drewN | apply Kd.R_drew)); exact HO_262001.out) hb); have n4_ := Aside0.mk (Kd.R_below (by (with_reducible repeat (first | apply Kd.R_alloc | apply Kd.R_drewN | apply Kd.R_drew)); exact HO_274001.out) hb); have n5_ := Aside0.mk (Kd.R_below (by (with_reducible repeat (first | apply Kd.R_alloc | apply Kd.R_drewN | apply Kd.R_drew)); exact HO_274002.out) hb); have n6_ := Aside0.mk (Kd.R_below (by (with_reducible repeat (first | apply Kd.R_alloc | apply Kd.R_drewN | apply Kd.R_drew)); exact HO_274003.out) hb); have n7_ := Aside0.mk (Kd.R_below (by (with_reducible repeat (first | apply Kd.R_alloc | apply Kd.R_drewN | apply Kd.R_drew)); exact HO291.out) hb); have n8_ := Aside0.mk (Kd.R_below (by (with_reducible repeat (first | apply Kd.R_alloc | apply Kd.R_drewN | apply Kd.R_drew)); exact HO295.out) hb); have n9_ := Aside0.mk (Kd.R_below (by (with_reducible repeat (first | apply Kd.R_alloc | apply Kd.R_drewN | apply Kd.R_drew)); exact HO298.out) hb); have n10_ := Aside0.mk (Kd.R_below (by (with_reducible repeat (first | apply Kd.R_alloc | apply Kd.R_drewN | apply Kd.R_drew)); exact HO301.out) hb); have n11_ := Aside0.mk (blk_below (g := gb239) (o := .cells #[.int .i64 a0_0, .slice A0_1 l0_1.length c0_1] 24 (0, 0)) (by (with_reducible repeat (first | refine blk_drewN ?_ _ | refine blk_drew ?_ | refine blk_alloc ?_ _)); exact BK239.out) hb); have n12_ := Aside0.mk (blk_below (g := gb256) (o := .cells #[.int .i64 t245, .slice Ao22 t246.length co22, .slice Ao23 t249.length co23, .slice Ao24 t252.length co24] 31 (0, 0)) (by (with_reducible repeat (first | refine blk_drewN ?_ _ | refine blk_drew ?_ | refine blk_alloc ?_ _)); exact BK256.out) hb); have n13_ := Aside0.mk (blk_below (g := gb261) (o := .cells #[.int .i64 t257, .slice Ao31 t281.length co31] 29 (0, 0)) (by (with_reducible repeat (first | refine blk_drewN ?_ _ | refine blk_drew ?_ | refine blk_alloc ?_ _)); exact BK261.out) hb); have n14_ := Aside0.mk (blk_below (g := gb273) (o := .cells #[.int .i64 t262, .slice Ao38 t263.length co38, .slice Ao39 t266.length co39, .slice Ao40 t269.length co40] 31 (0, 0)) (by (with_reducible repeat (first | refine blk_drewN ?_ _ | refine blk_drew ?_ | refine blk_alloc ?_ _)); exact BK273.out) hb); have n15_ := Aside0.mk (below_step (by repeat (first | (with_reducible first | exact HB.out | apply below_alloc | apply pw_below_drewN | apply below_drew1 | refine below_set ?_ GE239.out | refine below_set ?_ GE256.out | refine below_set ?_ GE261.out | refine below_set ?_ GE273.out) | exact HB.out)) hb); have n16_ := Aside0.mk (hbox); have n17_ := Aside0.mk ((by rw [hg]; exact (below_size (by repeat (first | (with_reducible first | exact HB.out | apply below_alloc | apply pw_below_drewN | apply below_drew1 | refine below_set ?_ GE239.out | refine below_set ?_ GE256.out | refine below_set ?_ GE261.out | refine below_set ?_ GE273.out) | exact HB.out))) : w.heap.size ≤ gb303)); have n18_ := Aside0.mk ((by rw [hg]; exact (below_size (by repeat (first | (with_reducible first | exact HB.out | apply below_alloc | apply pw_below_drewN | apply below_drew1 | refine below_set ?_ GE239.out | refine below_set ?_ GE256.out | refine below_set ?_ GE261.out | refine below_set ?_ GE273.out) | exact HB.out))) : w.heap.size ≤ gb303)); have n19_ := Aside0.mk ((by rw [hg]; exact Nat.ne_of_lt (blk_lt (g := gb239) (o := .cells #[.int .i64 a0_0, .slice A0_1 l0_1.length c0_1] 24 (0, 0)) (by (with_reducible repeat (first | refine blk_drewN ?_ _ | refine blk_drew ?_ | refine blk_alloc ?_ _)); exact BK239.out)) : gb239 ≠ gb303)); have n20_ := Aside0.mk ((by rw [hg]; exact Nat.ne_of_gt (blk_lt (g := gb239) (o := .cells #[.int .i64 a0_0, .slice A0_1 l0_1.length c0_1] 24 (0, 0)) (by (with_reducible repeat (first | refine blk_drewN ?_ _ | refine blk_drew ?_ | refine blk_alloc ?_ _)); exact BK239.out)) : gb303 ≠ gb239)); have n21_ := Aside0.mk ((by rw [hg]; exact Nat.ne_of_lt (blk_lt (g := gb256) (o := .cells #[.int .i64 t245, .slice Ao22 t246.length co22, .slice Ao23 t249.length co23, .slice Ao24 t252.length co24] 31 (0, 0)) (by (with_reducible repeat (first | refine blk_drewN ?_ _ | refine blk_drew ?_ | refine blk_alloc ?_ _)); exact BK256.out)) : gb256 ≠ gb303)); have n22_ := Aside0.mk ((by rw [hg]; exact Nat.ne_of_gt (blk_lt (g := gb256) (o := .cells #[.int .i64 t245, .slice Ao22 t246.length co22, .slice Ao23 t249.length co23, .slice Ao24 t252.length co24] 31 (0, 0)) (by (with_reducible repeat (first | refine blk_drewN ?_ _ | refine blk_drew ?_ | refine blk_alloc ?_ _)); exact BK256.out)) : gb303 ≠ gb256)); have n23_ := Aside0.mk ((by rw [hg]; exact Nat.ne_of_lt (blk_lt (g := gb261) (o := .cells #[.int .i64 t257, .slice Ao31 t281.length co31] 29 (0, 0)) (by (with_reducible repeat (first | refine blk_drewN ?_ _ | refine blk_drew ?_ | refine blk_alloc ?_ _)); exact BK261.out)) : gb261 ≠ gb303)); have n24_ := Aside0.mk ((by rw [hg]; exact Nat.ne_of_gt (blk_lt (g := gb261) (o := .cells #[.int .i64 t257, .slice Ao31 t281.length co31] 29 (0, 0)) (by (with_reducible repeat (first | refine blk_drewN ?_ _ | refine blk_drew ?_ | refine blk_alloc ?_ _)); exact BK261.out)) : gb303 ≠ gb261)); have n25_ := Aside0.mk ((by rw [hg]; exact Nat.ne_of_lt (blk_lt (g := gb273) (o := .cells #[.int .i64 t262, .slice Ao38 t263.length co38, .slice Ao39 t266.length co39, .slice Ao40 t269.length co40] 31 (0, 0)) (by (with_reducible repeat (first | refine blk_drewN ?_ _ | refine blk_drew ?_ | refine blk_alloc ?_ _)); exact BK273.out)) : gb273 ≠ gb303)); have n26_ := Aside0.mk ((by rw [hg]; exact Nat.ne_of_gt (blk_lt (g := gb273) (o := .cells #[.int .i64 t262, .slice Ao38 t263.length co38, .slice Ao39 t266.length co39, .slice Ao40 t269.length co40] 31 (0, 0)) (by (with_reducible repeat (first | refine blk_drewN ?_ _ | refine blk_drew ?_ | refine blk_alloc ?_ _)); exact BK273.out)) : gb303 ≠ gb273)); clear HO_257001; clear HO_257002; clear HO_257003; clear HO_262001; clear HO_274001; clear HO_274002; clear HO_274003; clear HO291; clear HO295; clear HO298; clear HO301; clear BK239; clear BK256; clear BK261; clear BK273; clear HB; have HO_257001 := n0_; have HO_257002 := n1_; have HO_257003 := n2_; have HO_262001 := n3_; have HO_274001 := n4_; have HO_274002 := n5_; have HO_274003 := n6_; have HO291 := n7_; have HO295 := n8_; have HO298 := n9_; have HO301 := n10_; have BK239 := n11_; have BK256 := n12_; have BK261 := n13_; have BK273 := n14_; have HB := n15_; have BK303 := n16_; have GW303 := n17_; have GE303 := n18_; have NB239_303 := n19_; have NB303_239 := n20_; have NB256_303 := n21_; have NB303_256 := n22_; have NB261_303 := n23_; have NB303_261 := n24_; have NB273_303 := n25_; have NB303_273 := n26_; clear n0_ n1_ n2_ n3_ n4_ n5_ n6_ n7_ n8_ n9_ n10_ n11_ n12_ n13_ n14_ n15_ n16_ n17_ n18_ n19_ n20_ n21_ n22_ n23_ n24_ n25_ n26_; clear hb hbox hg; have hnb99 := NB303_239.out; have hnc99 := NB239_303.out; have hnb100 := NB303_256.out; have hnc100 := NB256_303.out; have hnb101 := NB303_261.out; have hnc101 := NB261_303.out; have hnb102 := NB303_273.out; have hnc102 := NB273_303.out; have hcz103_0 : w98.cell? ⟨gb303, 0, none⟩ = some (.int .i64 0) := (blk_cell BK303.out 0).trans rfl; have hcz103_1 : w98.cell? ⟨gb303, 1, none⟩ = some (.slice none 0 0) := (blk_cell BK303.out 1).trans rfl; have hcz103_2 : w98.cell? ⟨gb303, 2, none⟩ = some (.slice none 0 0) := (blk_cell BK303.out 2).trans rfl; have hcz103_3 : w98.cell? ⟨gb303, 3, none⟩ = some (.slice none 0 0) := (blk_cell BK303.out 3).trans rfl; have hfz103_0 := blk_frozen BK303.out 0; have hfz103_1 := blk_frozen BK303.out 1; have hfz103_2 := blk_frozen BK303.out 2; have hfz103_3 := blk_frozen BK303.out 3; obtain ⟨Ao104, co104, eo104⟩ := Kd.R_slice HO295.out; subst eo104; obtain ⟨Ao105, co105, eo105⟩ := Kd.R_slice HO298.out; subst eo105; obtain ⟨Ao106, co106, eo106⟩ := Kd.R_slice HO301.out; subst eo106))
                      (try simp only [Act.put, List.setIfInBounds_toArray, List.set_cons_zero, List.set_cons_succ])
                      go_cut [87] (fun v87 wc => ∃ (kq : Nat) (x87_83 : Bool), v87 = .bool x87_83 ∧ Aside0 (laws_FnExactBuildRanked.j2 kq t283 x87_83 t262 t284 t285 t286 = some r) ∧ Aside0 (kq ≤ kj55) ∧ Aside0 (Kd.R (Kd.int .i64) 3 wc w.heap.size (fun k_ => some k_ ≠ ((.slice Ao23 t249.length co23) : Value).ownBlock ∧ some k_ ≠ ((.slice Ao24 t252.length co24) : Value).ownBlock ∧ some k_ ≠ ((.slice Ao31 t281.length co31) : Value).ownBlock ∧ some k_ ≠ ((.slice Ao38 t263.length co38) : Value).ownBlock ∧ some k_ ≠ ((.slice Ao39 t266.length co39) : Value).ownBlock ∧ some k_ ≠ ((.slice Ao40 t269.length co40) : Value).ownBlock ∧ some k_ ≠ ((.slice Ao104 t293.length co104) : Value).ownBlock ∧ some k_ ≠ ((.slice Ao105 t296.length co105) : Value).ownBlock ∧ some k_ ≠ ((.slice Ao106 t299.length co106) : Value).ownBlock) (.slice Ao22 t246.length co22) t246) ∧ Aside0 (Kd.R (Kd.int .i64) 3 wc w.heap.size (fun k_ => some k_ ≠ ((.slice Ao22 t246.length co22) : Value).ownBlock ∧ some k_ ≠ ((.slice Ao24 t252.length co24) : Value).ownBlock ∧ some k_ ≠ ((.slice Ao31 t281.length co31) : Value).ownBlock ∧ some k_ ≠ ((.slice Ao38 t263.length co38) : Value).ownBlock ∧ some k_ ≠ ((.slice Ao39 t266.length co39) : Value).ownBlock ∧ some k_ ≠ ((.slice Ao40 t269.length co40) : Value).ownBlock ∧ some k_ ≠ ((.slice Ao104 t293.length co104) : Value).ownBlock ∧ some k_ ≠ ((.slice Ao105 t296.length co105) : Value).ownBlock ∧ some k_ ≠ ((.slice Ao106 t299.length co106) : Value).ownBlock) (.slice Ao23 t249.length co23) t249) ∧ Aside0 (Kd.R (Kd.int .i64) 3 wc w.heap.size (fun k_ => some k_ ≠ ((.slice Ao22 t246.length co22) : Value).ownBlock ∧ some k_ ≠ ((.slice Ao23 t249.length co23) : Value).ownBlock ∧ some k_ ≠ ((.slice Ao31 t281.length co31) : Value).ownBlock ∧ some k_ ≠ ((.slice Ao38 t263.length co38) : Value).ownBlock ∧ some k_ ≠ ((.slice Ao39 t266.length co39) : Value).ownBlock ∧ some k_ ≠ ((.slice Ao40 t269.length co40) : Value).ownBlock ∧ some k_ ≠ ((.slice Ao104 t293.length co104) : Value).ownBlock ∧ some k_ ≠ ((.slice Ao105 t296.length co105) : Value).ownBlock ∧ some k_ ≠ ((.slice Ao106 t299.length co106) : Value).ownBlock) (.slice Ao24 t252.length co24) t252) ∧ Aside0 (Kd.R (Kd.int .i64) 3 wc w.heap.size (fun k_ => some k_ ≠ ((.slice Ao22 t246.length co22) : Value).ownBlock ∧ some k_ ≠ ((.slice Ao23 t249.length co23) : Value).ownBlock ∧ some k_ ≠ ((.slice Ao24 t252.length co24) : Value).ownBlock ∧ some k_ ≠ ((.slice Ao38 t263.length co38) : Value).ownBlock ∧ some k_ ≠ ((.slice Ao39 t266.length co39) : Value).ownBlock ∧ some k_ ≠ ((.slice Ao40 t269.length co40) : Value).ownBlock ∧ some k_ ≠ ((.slice Ao104 t293.length co104) : Value).ownBlock ∧ some k_ ≠ ((.slice Ao105 t296.length co105) : Value).ownBlock ∧ some k_ ≠ ((.slice Ao106 t299.length co106) : Value).ownBlock) (.slice Ao31 t281.length co31) t281) ∧ Aside0 (Kd.R (Kd.int .i64) 3 wc w.heap.size (fun k_ => some k_ ≠ ((.slice Ao22 t246.length co22) : Value).ownBlock ∧ some k_ ≠ ((.slice Ao23 t249.length co23) : Value).ownBlock ∧ some k_ ≠ ((.slice Ao24 t252.length co24) : Value).ownBlock ∧ some k_ ≠ ((.slice Ao31 t281.length co31) : Value).ownBlock ∧ some k_ ≠ ((.slice Ao39 t266.length co39) : Value).ownBlock ∧ some k_ ≠ ((.slice Ao40 t269.length co40) : Value).ownBlock ∧ some k_ ≠ ((.slice Ao104 t293.length co104) : Value).ownBlock ∧ some k_ ≠ ((.slice Ao105 t296.length co105) : Value).ownBlock ∧ some k_ ≠ ((.slice Ao106 t299.length co106) : Value).ownBlock) (.slice Ao38 t263.length co38) t284) ∧ Aside0 (Kd.R (Kd.int .i64) 3 wc w.heap.size (fun k_ => some k_ ≠ ((.slice Ao22 t246.length co22) : Value).ownBlock ∧ some k_ ≠ ((.slice Ao23 t249.length co23) : Value).ownBlock ∧ some k_ ≠ ((.slice Ao24 t252.length co24) : Value).ownBlock ∧ some k_ ≠ ((.slice Ao31 t281.length co31) : Value).ownBlock ∧ some k_ ≠ ((.slice Ao38 t263.length co38) : Value).ownBlock ∧ some k_ ≠ ((.slice Ao40 t269.length co40) : Value).ownBlock ∧ some k_ ≠ ((.slice Ao104 t293.length co104) : Value).ownBlock ∧ some k_ ≠ ((.slice Ao105 t296.length co105) : Value).ownBlock ∧ some k_ ≠ ((.slice Ao106 t299.length co106) : Value).ownBlock) (.slice Ao39 t266.length co39) t285) ∧ Aside0 (Kd.R (Kd.int .i64) 3 wc w.heap.size (fun k_ => some k_ ≠ ((.slice Ao22 t246.length co22) : Value).ownBlock ∧ some k_ ≠ ((.slice Ao23 t249.length co23) : Value).ownBlock ∧ some k_ ≠ ((.slice Ao24 t252.length co24) : Value).ownBlock ∧ some k_ ≠ ((.slice Ao31 t281.length co31) : Value).ownBlock ∧ some k_ ≠ ((.slice Ao38 t263.length co38) : Value).ownBlock ∧ some k_ ≠ ((.slice Ao39 t266.length co39) : Value).ownBlock ∧ some k_ ≠ ((.slice Ao104 t293.length co104) : Value).ownBlock ∧ some k_ ≠ ((.slice Ao105 t296.length co105) : Value).ownBlock ∧ some k_ ≠ ((.slice Ao106 t299.length co106) : Value).ownBlock) (.slice Ao40 t269.length co40) t286) ∧ Aside0 (Kd.R (Kd.int .i64) 3 wc w.heap.size (fun k_ => some k_ ≠ ((.slice Ao22 t246.length co22) : Value).ownBlock ∧ some k_ ≠ ((.slice Ao23 t249.length co23) : Value).ownBlock ∧ some k_ ≠ ((.slice Ao24 t252.length co24) : Value).ownBlock ∧ some k_ ≠ ((.slice Ao31 t281.length co31) : Value).ownBlock ∧ some k_ ≠ ((.slice Ao38 t263.length co38) : Value).ownBlock ∧ some k_ ≠ ((.slice Ao39 t266.length co39) : Value).ownBlock ∧ some k_ ≠ ((.slice Ao40 t269.length co40) : Value).ownBlock ∧ some k_ ≠ ((.slice Ao105 t296.length co105) : Value).ownBlock ∧ some k_ ≠ ((.slice Ao106 t299.length co106) : Value).ownBlock) (.slice Ao104 t293.length co104) t293) ∧ Aside0 (Kd.R (Kd.int .i64) 3 wc w.heap.size (fun k_ => some k_ ≠ ((.slice Ao22 t246.length co22) : Value).ownBlock ∧ some k_ ≠ ((.slice Ao23 t249.length co23) : Value).ownBlock ∧ some k_ ≠ ((.slice Ao24 t252.length co24) : Value).ownBlock ∧ some k_ ≠ ((.slice Ao31 t281.length co31) : Value).ownBlock ∧ some k_ ≠ ((.slice Ao38 t263.length co38) : Value).ownBlock ∧ some k_ ≠ ((.slice Ao39 t266.length co39) : Value).ownBlock ∧ some k_ ≠ ((.slice Ao40 t269.length co40) : Value).ownBlock ∧ some k_ ≠ ((.slice Ao104 t293.length co104) : Value).ownBlock ∧ some k_ ≠ ((.slice Ao106 t299.length co106) : Value).ownBlock) (.slice Ao105 t296.length co105) t296) ∧ Aside0 (Kd.R (Kd.int .i64) 3 wc w.heap.size (fun k_ => some k_ ≠ ((.slice Ao22 t246.length co22) : Value).ownBlock ∧ some k_ ≠ ((.slice Ao23 t249.length co23) : Value).ownBlock ∧ some k_ ≠ ((.slice Ao24 t252.length co24) : Value).ownBlock ∧ some k_ ≠ ((.slice Ao31 t281.length co31) : Value).ownBlock ∧ some k_ ≠ ((.slice Ao38 t263.length co38) : Value).ownBlock ∧ some k_ ≠ ((.slice Ao39 t266.length co39) : Value).ownBlock ∧ some k_ ≠ ((.slice Ao40 t269.length co40) : Value).ownBlock ∧ some k_ ≠ ((.slice Ao104 t293.length co104) : Value).ownBlock ∧ some k_ ≠ ((.slice Ao105 t296.length co105) : Value).ownBlock) (.slice Ao106 t299.length co106) t299) ∧ Aside0 (wc.heap[gb239]? = some (.cells #[.int .i64 a0_0, (.slice A0_1 l0_1.length c0_1)] 24 (0, 0))) ∧ Aside0 (wc.heap[gb256]? = some (.cells #[.int .i64 t245, (.slice Ao22 t246.length co22), (.slice Ao23 t249.length co23), (.slice Ao24 t252.length co24)] 31 (0, 0))) ∧ Aside0 (wc.heap[gb261]? = some (.cells #[.int .i64 t257, (.slice Ao31 t281.length co31)] 29 (0, 0))) ∧ Aside0 (wc.heap[gb273]? = some (.cells #[.int .i64 t262, (.slice Ao38 t263.length co38), (.slice Ao39 t266.length co39), (.slice Ao40 t269.length co40)] 31 (0, 0))) ∧ Aside0 (wc.heap[gb303]? = some (.cells #[.int .i64 t292, (.slice Ao104 t293.length co104), (.slice Ao105 t296.length co105), (.slice Ao106 t299.length co106)] 31 (0, 0))) ∧ Aside0 (Below w.heap.size w wc))
                      case first =>
                        have H := HC84.out
                        clear HC84
                        replace H := Option.bind_eq_some_iff.mp H
                        obtain ⟨t304, A1070, H⟩ := H
                        replace H : (if t304 = true then (laws_FnExactBuildRanked.j2 kj55 t283 (t302 != t255) t262 t284 t285 t286) else (none)) = some r := H
                        have A107 := Aside0.mk A1070
                        clear A1070
                        by_cases c108 : t304 = true
                        · subst c108
                          have H1 : (laws_FnExactBuildRanked.j2 kj55 t283 (t302 != t255) t262 t284 t285 t286) = some r := by rw [if_pos rfl] at H; exact H
                          clear H
                          have H := H1
                          clear H1
                          have H' := Aside0.mk H
                          clear H
                          have hnb109 := NB303_239.out
                          have hnc109 := NB239_303.out
                          have hnb110 := NB303_256.out
                          have hnc110 := NB256_303.out
                          have hnb111 := NB303_261.out
                          have hnc111 := NB261_303.out
                          have hnb112 := NB303_273.out
                          have hnc112 := NB273_303.out
                          have hcz113_0 : w98.cell? ⟨gb303, 0, none⟩ = some (.int .i64 0) := (blk_cell BK303.out 0).trans rfl
                          have hcz113_1 : w98.cell? ⟨gb303, 1, none⟩ = some (.slice none 0 0) := (blk_cell BK303.out 1).trans rfl
                          have hcz113_2 : w98.cell? ⟨gb303, 2, none⟩ = some (.slice none 0 0) := (blk_cell BK303.out 2).trans rfl
                          have hcz113_3 : w98.cell? ⟨gb303, 3, none⟩ = some (.slice none 0 0) := (blk_cell BK303.out 3).trans rfl
                          have hfz113_0 := blk_frozen BK303.out 0
                          have hfz113_1 := blk_frozen BK303.out 1
                          have hfz113_2 := blk_frozen BK303.out 2
                          have hfz113_3 := blk_frozen BK303.out 3
                          have hnb114 := NB256_239.out
                          have hnc114 := NB239_256.out
                          have hnb115 := NB256_261.out
                          have hnc115 := NB261_256.out
                          have hnb116 := NB256_273.out
                          have hnc116 := NB273_256.out
                          have hcz117_0 : w98.cell? ⟨gb256, 0, none⟩ = some (.int .i64 t245) := (blk_cell BK256.out 0).trans rfl
                          have hcz117_1 : w98.cell? ⟨gb256, 1, none⟩ = some (.slice Ao22 t246.length co22) := (blk_cell BK256.out 1).trans rfl
                          have hcz117_2 : w98.cell? ⟨gb256, 2, none⟩ = some (.slice Ao23 t249.length co23) := (blk_cell BK256.out 2).trans rfl
                          have hcz117_3 : w98.cell? ⟨gb256, 3, none⟩ = some (.slice Ao24 t252.length co24) := (blk_cell BK256.out 3).trans rfl
                          have hfz117_0 := blk_frozen BK256.out 0
                          have hfz117_1 := blk_frozen BK256.out 1
                          have hfz117_2 := blk_frozen BK256.out 2
                          have hfz117_3 := blk_frozen BK256.out 3
                          go_wp2_with (first | ((with_reducible refine gate_callee (f := 19) rfl ?_); refine goesL_ (some 81) rfl rfl Try.func19 (by kernel_rfl) rfl #[.agg #[.int .i64 t292, .slice Ao104 t293.length co104, .slice Ao105 t296.length co105, .slice Ao106 t299.length co106], .agg #[.int .i64 t245, .slice Ao22 t246.length co22, .slice Ao23 t249.length co23, .slice Ao24 t252.length co24]] rfl (by (try simp only [List.map_toArray, List.map_cons, List.map_nil]); first | done | rfl | (simp only [List.length_drop, List.length_take]; rfl)) ?_; (with_reducible refine (laws_eqRanked.calls kj55 t292 _ _ t293 _ _ t296 _ _ t299 t245 _ _ t246 _ _ t249 _ _ t252 true _ ?side1 ?side2 ?side3 ?side4 ?side5 ?side6 ?side7 ?side8 ?side9 ?side10 ?side11 ?side12 A107.out).mono ?_); (case side1 => refine (Kd.R_reads' (e := 3) (base := w.heap.size) (ok := fun k_ => (((((((((some k_ ≠ (.slice Ao105 t296.length co105 : Value).ownBlock ∧ some k_ ≠ (.slice Ao106 t299.length co106 : Value).ownBlock) ∧ some k_ ≠ (.slice Ao22 t246.length co22 : Value).ownBlock) ∧ some k_ ≠ (.slice Ao23 t249.length co23 : Value).ownBlock) ∧ some k_ ≠ (.slice Ao24 t252.length co24 : Value).ownBlock) ∧ some k_ ≠ (.slice Ao31 t281.length co31 : Value).ownBlock) ∧ some k_ ≠ (.slice Ao38 t263.length co38 : Value).ownBlock) ∧ some k_ ≠ (.slice Ao39 t266.length co39 : Value).ownBlock) ∧ some k_ ≠ (.slice Ao40 t269.length co40 : Value).ownBlock) ∧ some k_ ≠ (.slice Ao96 t289.length co96 : Value).ownBlock)) (n := t293.length) (c := co104) ?_).2.2; exact (by (with_reducible repeat (first | apply Kd.R_alloc | apply Kd.R_drewN | apply Kd.R_drew)); exact (Kd.R_mono (Kd.R_far (p := ⟨gb303, 3, none⟩) (Kd.R_far (p := ⟨gb303, 2, none⟩) (Kd.R_far (p := ⟨gb303, 1, none⟩) (Kd.R_far (p := ⟨gb303, 0, none⟩) (Kd.R_types HO295.out BK303.out (by decide)) (fun _ hk => hk.2) (.int .i64 t292)) (fun _ hk => hk.2) (.slice Ao104 t293.length co104)) (fun _ hk => hk.2) (.slice Ao105 t296.length co105)) (fun _ hk => hk.2) (.slice Ao106 t299.length co106)) (fun _ h_ => h_.1)))); (case side2 => exact (Kd.R_reads' HO295.out).2.1); (case side3 => refine (Kd.R_reads' (e := 3) (base := w.heap.size) (ok := fun k_ => (((((((((some k_ ≠ (.slice Ao104 t293.length co104 : Value).ownBlock ∧ some k_ ≠ (.slice Ao106 t299.length co106 : Value).ownBlock) ∧ some k_ ≠ (.slice Ao22 t246.length co22 : Value).ownBlock) ∧ some k_ ≠ (.slice Ao23 t249.length co23 : Value).ownBlock) ∧ some k_ ≠ (.slice Ao24 t252.length co24 : Value).ownBlock) ∧ some k_ ≠ (.slice Ao31 t281.length co31 : Value).ownBlock) ∧ some k_ ≠ (.slice Ao38 t263.length co38 : Value).ownBlock) ∧ some k_ ≠ (.slice Ao39 t266.length co39 : Value).ownBlock) ∧ some k_ ≠ (.slice Ao40 t269.length co40 : Value).ownBlock) ∧ some k_ ≠ (.slice Ao96 t289.length co96 : Value).ownBlock)) (n := t296.length) (c := co105) ?_).2.2; exact (by (with_reducible repeat (first | apply Kd.R_alloc | apply Kd.R_drewN | apply Kd.R_drew)); exact (Kd.R_mono (Kd.R_far (p := ⟨gb303, 3, none⟩) (Kd.R_far (p := ⟨gb303, 2, none⟩) (Kd.R_far (p := ⟨gb303, 1, none⟩) (Kd.R_far (p := ⟨gb303, 0, none⟩) (Kd.R_types HO298.out BK303.out (by decide)) (fun _ hk => hk.2) (.int .i64 t292)) (fun _ hk => hk.2) (.slice Ao104 t293.length co104)) (fun _ hk => hk.2) (.slice Ao105 t296.length co105)) (fun _ hk => hk.2) (.slice Ao106 t299.length co106)) (fun _ h_ => h_.1)))); (case side4 => exact (Kd.R_reads' HO298.out).2.1); (case side5 => refine (Kd.R_reads' (e := 3) (base := w.heap.size) (ok := fun k_ => (((((((((some k_ ≠ (.slice Ao104 t293.length co104 : Value).ownBlock ∧ some k_ ≠ (.slice Ao105 t296.length co105 : Value).ownBlock) ∧ some k_ ≠ (.slice Ao22 t246.length co22 : Value).ownBlock) ∧ some k_ ≠ (.slice Ao23 t249.length co23 : Value).ownBlock) ∧ some k_ ≠ (.slice Ao24 t252.length co24 : Value).ownBlock) ∧ some k_ ≠ (.slice Ao31 t281.length co31 : Value).ownBlock) ∧ some k_ ≠ (.slice Ao38 t263.length co38 : Value).ownBlock) ∧ some k_ ≠ (.slice Ao39 t266.length co39 : Value).ownBlock) ∧ some k_ ≠ (.slice Ao40 t269.length co40 : Value).ownBlock) ∧ some k_ ≠ (.slice Ao96 t289.length co96 : Value).ownBlock)) (n := t299.length) (c := co106) ?_).2.2; exact (by (with_reducible repeat (first | apply Kd.R_alloc | apply Kd.R_drewN | apply Kd.R_drew)); exact (Kd.R_mono (Kd.R_far (p := ⟨gb303, 3, none⟩) (Kd.R_far (p := ⟨gb303, 2, none⟩) (Kd.R_far (p := ⟨gb303, 1, none⟩) (Kd.R_far (p := ⟨gb303, 0, none⟩) (Kd.R_types HO301.out BK303.out (by decide)) (fun _ hk => hk.2) (.int .i64 t292)) (fun _ hk => hk.2) (.slice Ao104 t293.length co104)) (fun _ hk => hk.2) (.slice Ao105 t296.length co105)) (fun _ hk => hk.2) (.slice Ao106 t299.length co106)) (fun _ h_ => h_.1)))); (case side6 => exact (Kd.R_reads' HO301.out).2.1); (case side7 => refine (Kd.R_reads' (e := 3) (base := w.heap.size) (ok := fun k_ => (((((some k_ ≠ (.slice Ao23 t249.length co23 : Value).ownBlock ∧ (some k_ ≠ (.slice Ao24 t252.length co24 : Value).ownBlock ∧ (some k_ ≠ (.slice Ao31 t281.length co31 : Value).ownBlock ∧ (some k_ ≠ (.slice Ao38 t263.length co38 : Value).ownBlock ∧ (some k_ ≠ (.slice Ao39 t266.length co39 : Value).ownBlock ∧ some k_ ≠ (.slice Ao40 t269.length co40 : Value).ownBlock))))) ∧ some k_ ≠ (.slice Ao96 t289.length co96 : Value).ownBlock) ∧ some k_ ≠ (.slice Ao104 t293.length co104 : Value).ownBlock) ∧ some k_ ≠ (.slice Ao105 t296.length co105 : Value).ownBlock) ∧ some k_ ≠ (.slice Ao106 t299.length co106 : Value).ownBlock)) (n := t246.length) (c := co22) ?_).2.2; exact (by (with_reducible repeat (first | apply Kd.R_alloc | apply Kd.R_drewN | apply Kd.R_drew)); exact (Kd.R_mono (Kd.R_far (p := ⟨gb303, 3, none⟩) (Kd.R_far (p := ⟨gb303, 2, none⟩) (Kd.R_far (p := ⟨gb303, 1, none⟩) (Kd.R_far (p := ⟨gb303, 0, none⟩) (Kd.R_types HO_257001.out BK303.out (by decide)) (fun _ hk => hk.2) (.int .i64 t292)) (fun _ hk => hk.2) (.slice Ao104 t293.length co104)) (fun _ hk => hk.2) (.slice Ao105 t296.length co105)) (fun _ hk => hk.2) (.slice Ao106 t299.length co106)) (fun _ h_ => h_.1)))); (case side8 => exact (Kd.R_reads' HO_257001.out).2.1); (case side9 => refine (Kd.R_reads' (e := 3) (base := w.heap.size) (ok := fun k_ => (((((some k_ ≠ (.slice Ao22 t246.length co22 : Value).ownBlock ∧ (some k_ ≠ (.slice Ao24 t252.length co24 : Value).ownBlock ∧ (some k_ ≠ (.slice Ao31 t281.length co31 : Value).ownBlock ∧ (some k_ ≠ (.slice Ao38 t263.length co38 : Value).ownBlock ∧ (some k_ ≠ (.slice Ao39 t266.length co39 : Value).ownBlock ∧ some k_ ≠ (.slice Ao40 t269.length co40 : Value).ownBlock))))) ∧ some k_ ≠ (.slice Ao96 t289.length co96 : Value).ownBlock) ∧ some k_ ≠ (.slice Ao104 t293.length co104 : Value).ownBlock) ∧ some k_ ≠ (.slice Ao105 t296.length co105 : Value).ownBlock) ∧ some k_ ≠ (.slice Ao106 t299.length co106 : Value).ownBlock)) (n := t249.length) (c := co23) ?_).2.2; exact (by (with_reducible repeat (first | apply Kd.R_alloc | apply Kd.R_drewN | apply Kd.R_drew)); exact (Kd.R_mono (Kd.R_far (p := ⟨gb303, 3, none⟩) (Kd.R_far (p := ⟨gb303, 2, none⟩) (Kd.R_far (p := ⟨gb303, 1, none⟩) (Kd.R_far (p := ⟨gb303, 0, none⟩) (Kd.R_types HO_257002.out BK303.out (by decide)) (fun _ hk => hk.2) (.int .i64 t292)) (fun _ hk => hk.2) (.slice Ao104 t293.length co104)) (fun _ hk => hk.2) (.slice Ao105 t296.length co105)) (fun _ hk => hk.2) (.slice Ao106 t299.length co106)) (fun _ h_ => h_.1)))); (case side10 => exact (Kd.R_reads' HO_257002.out).2.1); (case side11 => refine (Kd.R_reads' (e := 3) (base := w.heap.size) (ok := fun k_ => (((((some k_ ≠ (.slice Ao22 t246.length co22 : Value).ownBlock ∧ (some k_ ≠ (.slice Ao23 t249.length co23 : Value).ownBlock ∧ (some k_ ≠ (.slice Ao31 t281.length co31 : Value).ownBlock ∧ (some k_ ≠ (.slice Ao38 t263.length co38 : Value).ownBlock ∧ (some k_ ≠ (.slice Ao39 t266.length co39 : Value).ownBlock ∧ some k_ ≠ (.slice Ao40 t269.length co40 : Value).ownBlock))))) ∧ some k_ ≠ (.slice Ao96 t289.length co96 : Value).ownBlock) ∧ some k_ ≠ (.slice Ao104 t293.length co104 : Value).ownBlock) ∧ some k_ ≠ (.slice Ao105 t296.length co105 : Value).ownBlock) ∧ some k_ ≠ (.slice Ao106 t299.length co106 : Value).ownBlock)) (n := t252.length) (c := co24) ?_).2.2; exact (by (with_reducible repeat (first | apply Kd.R_alloc | apply Kd.R_drewN | apply Kd.R_drew)); exact (Kd.R_mono (Kd.R_far (p := ⟨gb303, 3, none⟩) (Kd.R_far (p := ⟨gb303, 2, none⟩) (Kd.R_far (p := ⟨gb303, 1, none⟩) (Kd.R_far (p := ⟨gb303, 0, none⟩) (Kd.R_types HO_257003.out BK303.out (by decide)) (fun _ hk => hk.2) (.int .i64 t292)) (fun _ hk => hk.2) (.slice Ao104 t293.length co104)) (fun _ hk => hk.2) (.slice Ao105 t296.length co105)) (fun _ hk => hk.2) (.slice Ao106 t299.length co106)) (fun _ h_ => h_.1)))); (case side12 => exact (Kd.R_reads' HO_257003.out).2.1); rintro e w118 ⟨rfl, hb⟩; refine ⟨_, rfl, ?_⟩; have n0_ := Aside0.mk (Kd.R_below (by (with_reducible repeat (first | apply Kd.R_alloc | apply Kd.R_drewN | apply Kd.R_drew)); exact (Kd.R_mono (Kd.R_far (p := ⟨gb303, 3, none⟩) (Kd.R_far (p := ⟨gb303, 2, none⟩) (Kd.R_far (p := ⟨gb303, 1, none⟩) (Kd.R_far (p := ⟨gb303, 0, none⟩) (Kd.R_types HO_257001.out BK303.out (by decide)) (fun _ hk => hk.2) (.int .i64 t292)) (fun _ hk => hk.2) (.slice Ao104 t293.length co104)) (fun _ hk => hk.2) (.slice Ao105 t296.length co105)) (fun _ hk => hk.2) (.slice Ao106 t299.length co106)) (fun _ h_ => h_.1))) hb); have n1_ := Aside0.mk (Kd.R_below (by (with_reducible repeat (first | apply Kd.R_alloc | apply Kd.R_drewN | apply Kd.R_drew)); exact (Kd.R_mono (Kd.R_far (p := ⟨gb303, 3, none⟩) (Kd.R_far (p := ⟨gb303, 2, none⟩) (Kd.R_far (p := ⟨gb303, 1, none⟩) (Kd.R_far (p := ⟨gb303, 0, none⟩) (Kd.R_types HO_257002.out BK303.out (by decide)) (fun _ hk => hk.2) (.int .i64 t292)) (fun _ hk => hk.2) (.slice Ao104 t293.length co104)) (fun _ hk => hk.2) (.slice Ao105 t296.length co105)) (fun _ hk => hk.2) (.slice Ao106 t299.length co106)) (fun _ h_ => h_.1))) hb); have n2_ := Aside0.mk (Kd.R_below (by (with_reducible repeat (first | apply Kd.R_alloc | apply Kd.R_drewN | apply Kd.R_drew)); exact (Kd.R_mono (Kd.R_far (p := ⟨gb303, 3, none⟩) (Kd.R_far (p := ⟨gb303, 2, none⟩) (Kd.R_far (p := ⟨gb303, 1, none⟩) (Kd.R_far (p := ⟨gb303, 0, none⟩) (Kd.R_types HO_257003.out BK303.out (by decide)) (fun _ hk => hk.2) (.int .i64 t292)) (fun _ hk => hk.2) (.slice Ao104 t293.length co104)) (fun _ hk => hk.2) (.slice Ao105 t296.length co105)) (fun _ hk => hk.2) (.slice Ao106 t299.length co106)) (fun _ h_ => h_.1))) hb); have n3_ := Aside0.mk (Kd.R_below (by (with_reducible repeat (first | apply Kd.R_alloc | apply Kd.R_drewN | apply Kd.R_drew)); exact (Kd.R_mono (Kd.R_far (p := ⟨gb303, 3, none⟩) (Kd.R_far (p := ⟨gb303, 2, none⟩) (Kd.R_far (p := ⟨gb303, 1, none⟩) (Kd.R_far (p := ⟨gb303, 0, none⟩) (Kd.R_types HO_262001.out BK303.out (by decide)) (fun _ hk => hk.2) (.int .i64 t292)) (fun _ hk => hk.2) (.slice Ao104 t293.length co104)) (fun _ hk => hk.2) (.slice Ao105 t296.length co105)) (fun _ hk => hk.2) (.slice Ao106 t299.length co106)) (fun _ h_ => h_.1))) hb); have n4_ := Aside0.mk (Kd.R_below (by (with_reducible repeat (first | apply Kd.R_alloc | apply Kd.R_drewN | apply Kd.R_drew)); exact (Kd.R_mono (Kd.R_far (p := ⟨gb303, 3, none⟩) (Kd.R_far (p := ⟨gb303, 2, none⟩) (Kd.R_far (p := ⟨gb303, 1, none⟩) (Kd.R_far (p := ⟨gb303, 0, none⟩) (Kd.R_types HO_274001.out BK303.out (by decide)) (fun _ hk => hk.2) (.int .i64 t292)) (fun _ hk => hk.2) (.slice Ao104 t293.length co104)) (fun _ hk => hk.2) (.slice Ao105 t296.length co105)) (fun _ hk => hk.2) (.slice Ao106 t299.length co106)) (fun _ h_ => h_.1))) hb); have n5_ := Aside0.mk (Kd.R_below (by (with_reducible repeat (first | apply Kd.R_alloc | apply Kd.R_drewN | apply Kd.R_drew)); exact (Kd.R_mono (Kd.R_far (p := ⟨gb303, 3, none⟩) (Kd.R_far (p := ⟨gb303, 2, none⟩) (Kd.R_far (p := ⟨gb303, 1, none⟩) (Kd.R_far (p := ⟨gb303, 0, none⟩) (Kd.R_types HO_274002.out BK303.out (by decide)) (fun _ hk => hk.2) (.int .i64 t292)) (fun _ hk => hk.2) (.slice Ao104 t293.length co104)) (fun _ hk => hk.2) (.slice Ao105 t296.length co105)) (fun _ hk => hk.2) (.slice Ao106 t299.length co106)) (fun _ h_ => h_.1))) hb); have n6_ := Aside0.mk (Kd.R_below (by (with_reducible repeat (first | apply Kd.R_alloc | apply Kd.R_drewN | apply Kd.R_drew)); exact (Kd.R_mono (Kd.R_far (p := ⟨gb303, 3, none⟩) (Kd.R_far (p := ⟨gb303, 2, none⟩) (Kd.R_far (p := ⟨gb303, 1, none⟩) (Kd.R_far (p := ⟨gb303, 0, none⟩) (Kd.R_types HO_274003.out BK303.out (by decide)) (fun _ hk => hk.2) (.int .i64 t292)) (fun _ hk => hk.2) (.slice Ao104 t293.length co104)) (fun _ hk => hk.2) (.slice Ao105 t296.length co105)) (fun _ hk => hk.2) (.slice Ao106 t299.length co106)) (fun _ h_ => h_.1))) hb); have n7_ := Aside0.mk (Kd.R_below (by (with_reducible repeat (first | apply Kd.R_alloc | apply Kd.R_drewN | apply Kd.R_drew)); exact (Kd.R_mono (Kd.R_far (p := ⟨gb303, 3, none⟩) (Kd.R_far (p := ⟨gb303, 2, none⟩) (Kd.R_far (p := ⟨gb303, 1, none⟩) (Kd.R_far (p := ⟨gb303, 0, none⟩) (Kd.R_types HO291.out BK303.out (by decide)) (fun _ hk => hk.2) (.int .i64 t292)) (fun _ hk => hk.2) (.slice Ao104 t293.length co104)) (fun _ hk => hk.2) (.slice Ao105 t296.length co105)) (fun _ hk => hk.2) (.slice Ao106 t299.length co106)) (fun _ h_ => h_.1))) hb); have n8_ := Aside0.mk (Kd.R_below (by (with_reducible repeat (first | apply Kd.R_alloc | apply Kd.R_drewN | apply Kd.R_drew)); exact (Kd.R_mono (Kd.R_far (p := ⟨gb303, 3, none⟩) (Kd.R_far (p := ⟨gb303, 2, none⟩) (Kd.R_far (p := ⟨gb303, 1, none⟩) (Kd.R_far (p := ⟨gb303, 0, none⟩) (Kd.R_types HO295.out BK303.out (by decide)) (fun _ hk => hk.2) (.int .i64 t292)) (fun _ hk => hk.2) (.slice Ao104 t293.length co104)) (fun _ hk => hk.2) (.slice Ao105 t296.length co105)) (fun _ hk => hk.2) (.slice Ao106 t299.length co106)) (fun _ h_ => h_.1))) hb); have n9_ := Aside0.mk (Kd.R_below (by (with_reducible repeat (first | apply Kd.R_alloc | apply Kd.R_drewN | apply Kd.R_drew)); exact (Kd.R_mono (Kd.R_far (p := ⟨gb303, 3, none⟩) (Kd.R_far (p := ⟨gb303, 2, none⟩) (Kd.R_far (p := ⟨gb303, 1, none⟩) (Kd.R_far (p := ⟨gb303, 0, none⟩) (Kd.R_types HO298.out BK303.out (by decide)) (fun _ hk => hk.2) (.int .i64 t292)) (fun _ hk => hk.2) (.slice Ao104 t293.length co104)) (fun _ hk => hk.2) (.slice Ao105 t296.length co105)) (fun _ hk => hk.2) (.slice Ao106 t299.length co106)) (fun _ h_ => h_.1))) hb); have n10_ := Aside0.mk (Kd.R_below (by (with_reducible repeat (first | apply Kd.R_alloc | apply Kd.R_drewN | apply Kd.R_drew)); exact (Kd.R_mono (Kd.R_far (p := ⟨gb303, 3, none⟩) (Kd.R_far (p := ⟨gb303, 2, none⟩) (Kd.R_far (p := ⟨gb303, 1, none⟩) (Kd.R_far (p := ⟨gb303, 0, none⟩) (Kd.R_types HO301.out BK303.out (by decide)) (fun _ hk => hk.2) (.int .i64 t292)) (fun _ hk => hk.2) (.slice Ao104 t293.length co104)) (fun _ hk => hk.2) (.slice Ao105 t296.length co105)) (fun _ hk => hk.2) (.slice Ao106 t299.length co106)) (fun _ h_ => h_.1))) hb); have n11_ := Aside0.mk (blk_below (g := gb239) (o := .cells #[.int .i64 a0_0, .slice A0_1 l0_1.length c0_1] 24 (0, 0)) (by (with_reducible repeat (first | refine blk_drewN ?_ _ | refine blk_drew ?_ | refine blk_alloc ?_ _)); refine blk_far ?_ NB239_303.out _; (with_reducible repeat (first | refine blk_drewN ?_ _ | refine blk_drew ?_ | refine blk_alloc ?_ _)); refine blk_far ?_ NB239_303.out _; (with_reducible repeat (first | refine blk_drewN ?_ _ | refine blk_drew ?_ | refine blk_alloc ?_ _)); refine blk_far ?_ NB239_303.out _; (with_reducible repeat (first | refine blk_drewN ?_ _ | refine blk_drew ?_ | refine blk_alloc ?_ _)); refine blk_far ?_ NB239_303.out _; (with_reducible repeat (first | refine blk_drewN ?_ _ | refine blk_drew ?_ | refine blk_alloc ?_ _)); exact BK239.out) hb); have n12_ := Aside0.mk (blk_below (g := gb256) (o := .cells #[.int .i64 t245, .slice Ao22 t246.length co22, .slice Ao23 t249.length co23, .slice Ao24 t252.length co24] 31 (0, 0)) (by (with_reducible repeat (first | refine blk_drewN ?_ _ | refine blk_drew ?_ | refine blk_alloc ?_ _)); refine blk_far ?_ NB256_303.out _; (with_reducible repeat (first | refine blk_drewN ?_ _ | refine blk_drew ?_ | refine blk_alloc ?_ _)); refine blk_far ?_ NB256_303.out _; (with_reducible repeat (first | refine blk_drewN ?_ _ | refine blk_drew ?_ | refine blk_alloc ?_ _)); refine blk_far ?_ NB256_303.out _; (with_reducible repeat (first | refine blk_drewN ?_ _ | refine blk_drew ?_ | refine blk_alloc ?_ _)); refine blk_far ?_ NB256_303.out _; (with_reducible repeat (first | refine blk_drewN ?_ _ | refine blk_drew ?_ | refine blk_alloc ?_ _)); exact BK256.out) hb); have n13_ := Aside0.mk (blk_below (g := gb261) (o := .cells #[.int .i64 t257, .slice Ao31 t281.length co31] 29 (0, 0)) (by (with_reducible repeat (first | refine blk_drewN ?_ _ | refine blk_drew ?_ | refine blk_alloc ?_ _)); refine blk_far ?_ NB261_303.out _; (with_reducible repeat (first | refine blk_drewN ?_ _ | refine blk_drew ?_ | refine blk_alloc ?_ _)); refine blk_far ?_ NB261_303.out _; (with_reducible repeat (first | refine blk_drewN ?_ _ | refine blk_drew ?_ | refine blk_alloc ?_ _)); refine blk_far ?_ NB261_303.out _; (with_reducible repeat (first | refine blk_drewN ?_ _ | refine blk_drew ?_ | refine blk_alloc ?_ _)); refine blk_far ?_ NB261_303.out _; (with_reducible repeat (first | refine blk_drewN ?_ _ | refine blk_drew ?_ | refine blk_alloc ?_ _)); exact BK261.out) hb); have n14_ := Aside0.mk (blk_below (g := gb273) (o := .cells #[.int .i64 t262, .slice Ao38 t263.length co38, .slice Ao39 t266.length co39, .slice Ao40 t269.length co40] 31 (0, 0)) (by (with_reducible repeat (first | refine blk_drewN ?_ _ | refine blk_drew ?_ | refine blk_alloc ?_ _)); refine blk_far ?_ NB273_303.out _; (with_reducible repeat (first | refine blk_drewN ?_ _ | refine blk_drew ?_ | refine blk_alloc ?_ _)); refine blk_far ?_ NB273_303.out _; (with_reducible repeat (first | refine blk_drewN ?_ _ | refine blk_drew ?_ | refine blk_alloc ?_ _)); refine blk_far ?_ NB273_303.out _; (with_reducible repeat (first | refine blk_drewN ?_ _ | refine blk_drew ?_ | refine blk_alloc ?_ _)); refine blk_far ?_ NB273_303.out _; (with_reducible repeat (first | refine blk_drewN ?_ _ | refine blk_drew ?_ | refine blk_alloc ?_ _)); exact BK273.out) hb); have n15_ := Aside0.mk (blk_below (g := gb303) (o := .cells #[.int .i64 t292, .slice Ao104 t293.length co104, .slice Ao105 t296.length co105, .slice Ao106 t299.length co106] 31 (0, 0)) (by (with_reducible repeat (first | refine blk_drewN ?_ _ | refine blk_drew ?_ | refine blk_alloc ?_ _)); refine blk_put (cs := #[.int .i64 t292, .slice Ao104 t293.length co104, .slice Ao105 t296.length co105, .slice none 0 0]) ?_ 3 _ rfl; (with_reducible repeat (first | refine blk_drewN ?_ _ | refine blk_drew ?_ | refine blk_alloc ?_ _)); refine blk_put (cs := #[.int .i64 t292, .slice Ao104 t293.length co104, .slice none 0 0, .slice none 0 0]) ?_ 2 _ rfl; (with_reducible repeat (first | refine blk_drewN ?_ _ | refine blk_drew ?_ | refine blk_alloc ?_ _)); refine blk_put (cs := #[.int .i64 t292, .slice none 0 0, .slice none 0 0, .slice none 0 0]) ?_ 1 _ rfl; (with_reducible repeat (first | refine blk_drewN ?_ _ | refine blk_drew ?_ | refine blk_alloc ?_ _)); refine blk_put (cs := #[.int .i64 0, .slice none 0 0, .slice none 0 0, .slice none 0 0]) ?_ 0 _ rfl; (with_reducible repeat (first | refine blk_drewN ?_ _ | refine blk_drew ?_ | refine blk_alloc ?_ _)); exact BK303.out) hb); have n16_ := Aside0.mk (below_step (by repeat (first | (with_reducible first | exact HB.out | apply below_alloc | apply pw_below_drewN | apply below_drew1 | refine below_set ?_ GE239.out | refine below_set ?_ GE256.out | refine below_set ?_ GE261.out | refine below_set ?_ GE273.out | refine below_set ?_ GE303.out) | exact HB.out)) hb); clear HO_257001; clear HO_257002; clear HO_257003; clear HO_262001; clear HO_274001; clear HO_274002; clear HO_274003; clear HO291; clear HO295; clear HO298; clear HO301; clear BK239; clear BK256; clear BK261; clear BK273; clear BK303; clear HB; have HO_257001 := n0_; have HO_257002 := n1_; have HO_257003 := n2_; have HO_262001 := n3_; have HO_274001 := n4_; have HO_274002 := n5_; have HO_274003 := n6_; have HO291 := n7_; have HO295 := n8_; have HO298 := n9_; have HO301 := n10_; have BK239 := n11_; have BK256 := n12_; have BK261 := n13_; have BK273 := n14_; have BK303 := n15_; have HB := n16_; clear n0_ n1_ n2_ n3_ n4_ n5_ n6_ n7_ n8_ n9_ n10_ n11_ n12_ n13_ n14_ n15_ n16_; (try clear hb); (try clear hb2); (try clear hk); (try clear hi)))
                          go_meet
                          case rel => exact ⟨_, ((t302 != t255)), (by first | rfl | (simp; done) | (simp [*]; done)), H', ⟨by have := HJ10.out; have := HJ55.out; first | omega | exact Nat.le_refl _⟩, ⟨by (try simp only [hl262001_55]); (with_reducible repeat (first | apply Kd.R_alloc | apply Kd.R_drewN | apply Kd.R_drew)); exact Kd.R_mono HO_257001.out (fun _ hk => ⟨hk.1.1.1.1.1, ⟨hk.1.1.1.1.2.1, ⟨hk.1.1.1.1.2.2.1, ⟨hk.1.1.1.1.2.2.2.1, ⟨hk.1.1.1.1.2.2.2.2.1, ⟨hk.1.1.1.1.2.2.2.2.2, ⟨hk.1.1.2, ⟨hk.1.2, hk.2⟩⟩⟩⟩⟩⟩⟩⟩)⟩, ⟨by (try simp only [hl262001_55]); (with_reducible repeat (first | apply Kd.R_alloc | apply Kd.R_drewN | apply Kd.R_drew)); exact Kd.R_mono HO_257002.out (fun _ hk => ⟨hk.1.1.1.1.1, ⟨hk.1.1.1.1.2.1, ⟨hk.1.1.1.1.2.2.1, ⟨hk.1.1.1.1.2.2.2.1, ⟨hk.1.1.1.1.2.2.2.2.1, ⟨hk.1.1.1.1.2.2.2.2.2, ⟨hk.1.1.2, ⟨hk.1.2, hk.2⟩⟩⟩⟩⟩⟩⟩⟩)⟩, ⟨by (try simp only [hl262001_55]); (with_reducible repeat (first | apply Kd.R_alloc | apply Kd.R_drewN | apply Kd.R_drew)); exact Kd.R_mono HO_257003.out (fun _ hk => ⟨hk.1.1.1.1.1, ⟨hk.1.1.1.1.2.1, ⟨hk.1.1.1.1.2.2.1, ⟨hk.1.1.1.1.2.2.2.1, ⟨hk.1.1.1.1.2.2.2.2.1, ⟨hk.1.1.1.1.2.2.2.2.2, ⟨hk.1.1.2, ⟨hk.1.2, hk.2⟩⟩⟩⟩⟩⟩⟩⟩)⟩, ⟨by (try simp only [hl262001_55]); (with_reducible repeat (first | apply Kd.R_alloc | apply Kd.R_drewN | apply Kd.R_drew)); exact Kd.R_mono HO_262001.out (fun _ hk => ⟨hk.1.1.1.1.1, ⟨hk.1.1.1.1.2.1, ⟨hk.1.1.1.1.2.2.1, ⟨hk.1.1.1.1.2.2.2.1, ⟨hk.1.1.1.1.2.2.2.2.1, ⟨hk.1.1.1.1.2.2.2.2.2, ⟨hk.1.1.2, ⟨hk.1.2, hk.2⟩⟩⟩⟩⟩⟩⟩⟩)⟩, ⟨by (try simp only [hl262001_55]); (with_reducible repeat (first | apply Kd.R_alloc | apply Kd.R_drewN | apply Kd.R_drew)); exact Kd.R_mono HO_274001.out (fun _ hk => ⟨hk.1.1.1.1.1, ⟨hk.1.1.1.1.2.1, ⟨hk.1.1.1.1.2.2.1, ⟨hk.1.1.1.1.2.2.2.1, ⟨hk.1.1.1.1.2.2.2.2.1, ⟨hk.1.1.1.1.2.2.2.2.2, ⟨hk.1.1.2, ⟨hk.1.2, hk.2⟩⟩⟩⟩⟩⟩⟩⟩)⟩, ⟨by (try simp only [hl262001_55]); (with_reducible repeat (first | apply Kd.R_alloc | apply Kd.R_drewN | apply Kd.R_drew)); exact Kd.R_mono HO_274002.out (fun _ hk => ⟨hk.1.1.1.1.1, ⟨hk.1.1.1.1.2.1, ⟨hk.1.1.1.1.2.2.1, ⟨hk.1.1.1.1.2.2.2.1, ⟨hk.1.1.1.1.2.2.2.2.1, ⟨hk.1.1.1.1.2.2.2.2.2, ⟨hk.1.1.2, ⟨hk.1.2, hk.2⟩⟩⟩⟩⟩⟩⟩⟩)⟩, ⟨by (try simp only [hl262001_55]); (with_reducible repeat (first | apply Kd.R_alloc | apply Kd.R_drewN | apply Kd.R_drew)); exact Kd.R_mono HO_274003.out (fun _ hk => ⟨hk.1.1.1.1.1, ⟨hk.1.1.1.1.2.1, ⟨hk.1.1.1.1.2.2.1, ⟨hk.1.1.1.1.2.2.2.1, ⟨hk.1.1.1.1.2.2.2.2.1, ⟨hk.1.1.1.1.2.2.2.2.2, ⟨hk.1.1.2, ⟨hk.1.2, hk.2⟩⟩⟩⟩⟩⟩⟩⟩)⟩, ⟨by (try simp only [hl262001_55]); (with_reducible repeat (first | apply Kd.R_alloc | apply Kd.R_drewN | apply Kd.R_drew)); exact Kd.R_mono HO295.out (fun _ hk => ⟨hk.1.1.1.1.1.1.1.2, ⟨hk.1.1.1.1.1.1.2, ⟨hk.1.1.1.1.1.2, ⟨hk.1.1.1.1.2, ⟨hk.1.1.1.2, ⟨hk.1.1.2, ⟨hk.1.2, ⟨hk.1.1.1.1.1.1.1.1.1, hk.1.1.1.1.1.1.1.1.2⟩⟩⟩⟩⟩⟩⟩⟩)⟩, ⟨by (try simp only [hl262001_55]); (with_reducible repeat (first | apply Kd.R_alloc | apply Kd.R_drewN | apply Kd.R_drew)); exact Kd.R_mono HO298.out (fun _ hk => ⟨hk.1.1.1.1.1.1.1.2, ⟨hk.1.1.1.1.1.1.2, ⟨hk.1.1.1.1.1.2, ⟨hk.1.1.1.1.2, ⟨hk.1.1.1.2, ⟨hk.1.1.2, ⟨hk.1.2, ⟨hk.1.1.1.1.1.1.1.1.1, hk.1.1.1.1.1.1.1.1.2⟩⟩⟩⟩⟩⟩⟩⟩)⟩, ⟨by (try simp only [hl262001_55]); (with_reducible repeat (first | apply Kd.R_alloc | apply Kd.R_drewN | apply Kd.R_drew)); exact Kd.R_mono HO301.out (fun _ hk => ⟨hk.1.1.1.1.1.1.1.2, ⟨hk.1.1.1.1.1.1.2, ⟨hk.1.1.1.1.1.2, ⟨hk.1.1.1.1.2, ⟨hk.1.1.1.2, ⟨hk.1.1.2, ⟨hk.1.2, ⟨hk.1.1.1.1.1.1.1.1.1, hk.1.1.1.1.1.1.1.1.2⟩⟩⟩⟩⟩⟩⟩⟩)⟩, ⟨by (try simp only [hl262001_55]); (with_reducible repeat (first | refine blk_drewN ?_ _ | refine blk_drew ?_ | refine blk_alloc ?_ _)); exact BK239.out⟩, ⟨by (try simp only [hl262001_55]); (with_reducible repeat (first | refine blk_drewN ?_ _ | refine blk_drew ?_ | refine blk_alloc ?_ _)); exact BK256.out⟩, ⟨by (try simp only [hl262001_55]); (with_reducible repeat (first | refine blk_drewN ?_ _ | refine blk_drew ?_ | refine blk_alloc ?_ _)); exact BK261.out⟩, ⟨by (try simp only [hl262001_55]); (with_reducible repeat (first | refine blk_drewN ?_ _ | refine blk_drew ?_ | refine blk_alloc ?_ _)); exact BK273.out⟩, ⟨by (try simp only [hl262001_55]); (with_reducible repeat (first | refine blk_drewN ?_ _ | refine blk_drew ?_ | refine blk_alloc ?_ _)); exact BK303.out⟩, ⟨by repeat (first | (with_reducible first | exact HB.out | apply below_alloc | apply pw_below_drewN | apply below_drew1 | refine below_set ?_ GE239.out | refine below_set ?_ GE256.out | refine below_set ?_ GE261.out | refine below_set ?_ GE273.out | refine below_set ?_ GE303.out) | exact HB.out)⟩⟩
                        · replace c108 := Bool.eq_false_iff.mpr c108
                          subst c108
                          have H1 : (none) = some r := by rw [if_neg (show ¬ (false = true) by decide)] at H; exact H
                          clear H
                          have H := H1
                          clear H1
                          exact absurd H (by simp)
                      case rest =>
                        clear HC84
                        try clear c1
                        try clear c2
                        try clear p2
                        try clear c3
                        try clear c3b0
                        try clear c4
                        try clear c5
                        try clear c6
                        try clear c7
                        try clear c8
                        try clear c9
                        try clear c10
                        try clear c11
                        try clear c19
                        try clear c20
                        try clear c21
                        try clear c22
                        try clear c23
                        try clear c24
                        try clear c25
                        try clear c26
                        try clear c27
                        try clear c28
                        try clear c29
                        try clear c34
                        try clear c35
                        try clear c36
                        try clear c42
                        try clear c43
                        try clear c44
                        try clear c45
                        try clear c47
                        try clear c48
                        try clear c51
                        try clear c54
                        try clear c61
                        try clear c62
                        try clear c63
                        try clear c66
                        try clear c66b0
                        try clear c68
                        try clear c69
                        try clear c70
                        try clear c71
                        try clear c73
                        try clear c74
                        try clear c77
                        try clear c80
                        try clear c80b0
                        try clear c81
                        try clear c81b0
                        try clear c81b1
                        try clear c85
                        try clear c86
                        try clear c87
                        try clear c92
                        try clear c93
                        try clear c99
                        try clear c100
                        try clear c101
                        try clear c102
                        try clear c108
                        try clear c109
                        try clear c110
                        try clear c111
                        try clear c112
                        try clear c114
                        try clear c115
                        try clear c116
                        try clear hcz103_0
                        try clear hcz103_1
                        try clear hcz103_2
                        try clear hcz103_3
                        try clear hcz113_0
                        try clear hcz113_1
                        try clear hcz113_2
                        try clear hcz113_3
                        try clear hcz117_0
                        try clear hcz117_1
                        try clear hcz117_2
                        try clear hcz117_3
                        try clear hcz13_0
                        try clear hcz13_1
                        try clear hcz15_0
                        try clear hcz15_1
                        try clear hcz21_0
                        try clear hcz21_1
                        try clear hcz21_2
                        try clear hcz21_3
                        try clear hcz25_0
                        try clear hcz25_1
                        try clear hcz30_0
                        try clear hcz30_1
                        try clear hcz37_0
                        try clear hcz37_1
                        try clear hcz37_2
                        try clear hcz37_3
                        try clear hcz46_0
                        try clear hcz46_1
                        try clear hcz46_2
                        try clear hcz46_3
                        try clear hcz49_0
                        try clear hcz49_1
                        try clear hcz49_2
                        try clear hcz49_3
                        try clear hcz5_0
                        try clear hcz5_1
                        try clear hcz64_0
                        try clear hcz64_1
                        try clear hcz72_0
                        try clear hcz72_1
                        try clear hcz72_2
                        try clear hcz72_3
                        try clear hcz75_0
                        try clear hcz75_1
                        try clear hcz75_2
                        try clear hcz75_3
                        try clear hcz88_0
                        try clear hcz88_1
                        try clear hcz88_2
                        try clear hcz88_3
                        try clear hcz90_0
                        try clear hcz90_1
                        try clear hcz90_2
                        try clear hcz90_3
                        try clear hcz94_0
                        try clear hcz94_1
                        try clear hfz103_0
                        try clear hfz103_1
                        try clear hfz103_2
                        try clear hfz103_3
                        try clear hfz113_0
                        try clear hfz113_1
                        try clear hfz113_2
                        try clear hfz113_3
                        try clear hfz117_0
                        try clear hfz117_1
                        try clear hfz117_2
                        try clear hfz117_3
                        try clear hfz13_0
                        try clear hfz13_1
                        try clear hfz15_0
                        try clear hfz15_1
                        try clear hfz21_0
                        try clear hfz21_1
                        try clear hfz21_2
                        try clear hfz21_3
                        try clear hfz25_0
                        try clear hfz25_1
                        try clear hfz30_0
                        try clear hfz30_1
                        try clear hfz37_0
                        try clear hfz37_1
                        try clear hfz37_2
                        try clear hfz37_3
                        try clear hfz46_0
                        try clear hfz46_1
                        try clear hfz46_2
                        try clear hfz46_3
                        try clear hfz49_0
                        try clear hfz49_1
                        try clear hfz49_2
                        try clear hfz49_3
                        try clear hfz5_0
                        try clear hfz5_1
                        try clear hfz64_0
                        try clear hfz64_1
                        try clear hfz72_0
                        try clear hfz72_1
                        try clear hfz72_2
                        try clear hfz72_3
                        try clear hfz75_0
                        try clear hfz75_1
                        try clear hfz75_2
                        try clear hfz75_3
                        try clear hfz88_0
                        try clear hfz88_1
                        try clear hfz88_2
                        try clear hfz88_3
                        try clear hfz90_0
                        try clear hfz90_1
                        try clear hfz90_2
                        try clear hfz90_3
                        try clear hfz94_0
                        try clear hfz94_1
                        try clear p2
                        obtain ⟨kq, x87_83, rfl, HA, HJ83, HO_257001, HO_257002, HO_257003, HO_262001, HO_274001, HO_274002, HO_274003, HO_304001, HO_304002, HO_304003, BK239, BK256, BK261, BK273, BK303, HB⟩ := hcut
                        have hl274001_83 := (Kd.R_reads' HO_274001.out).1
                        rw [hl274001_83] at HO_274001
                        (try simp only [hl274001_83])
                        (try simp only [hl274001_83] at BK239)
                        (try simp only [hl274001_83] at BK256)
                        (try simp only [hl274001_83] at BK261)
                        (try simp only [hl274001_83] at BK273)
                        (try simp only [hl274001_83] at BK303)
                        (try simp only [hl274001_83] at HO_257001)
                        (try simp only [hl274001_83] at HO_257002)
                        (try simp only [hl274001_83] at HO_257003)
                        (try simp only [hl274001_83] at HO_262001)
                        (try simp only [hl274001_83] at HO_274002)
                        (try simp only [hl274001_83] at HO_274003)
                        (try simp only [hl274001_83] at HO_304001)
                        (try simp only [hl274001_83] at HO_304002)
                        (try simp only [hl274001_83] at HO_304003)
                        have hl274002_83 := (Kd.R_reads' HO_274002.out).1
                        rw [hl274002_83] at HO_274002
                        (try simp only [hl274002_83])
                        (try simp only [hl274002_83] at BK239)
                        (try simp only [hl274002_83] at BK256)
                        (try simp only [hl274002_83] at BK261)
                        (try simp only [hl274002_83] at BK273)
                        (try simp only [hl274002_83] at BK303)
                        (try simp only [hl274002_83] at HO_257001)
                        (try simp only [hl274002_83] at HO_257002)
                        (try simp only [hl274002_83] at HO_257003)
                        (try simp only [hl274002_83] at HO_262001)
                        (try simp only [hl274002_83] at HO_274001)
                        (try simp only [hl274002_83] at HO_274003)
                        (try simp only [hl274002_83] at HO_304001)
                        (try simp only [hl274002_83] at HO_304002)
                        (try simp only [hl274002_83] at HO_304003)
                        have hl274003_83 := (Kd.R_reads' HO_274003.out).1
                        rw [hl274003_83] at HO_274003
                        (try simp only [hl274003_83])
                        (try simp only [hl274003_83] at BK239)
                        (try simp only [hl274003_83] at BK256)
                        (try simp only [hl274003_83] at BK261)
                        (try simp only [hl274003_83] at BK273)
                        (try simp only [hl274003_83] at BK303)
                        (try simp only [hl274003_83] at HO_257001)
                        (try simp only [hl274003_83] at HO_257002)
                        (try simp only [hl274003_83] at HO_257003)
                        (try simp only [hl274003_83] at HO_262001)
                        (try simp only [hl274003_83] at HO_274001)
                        (try simp only [hl274003_83] at HO_274002)
                        (try simp only [hl274003_83] at HO_304001)
                        (try simp only [hl274003_83] at HO_304002)
                        (try simp only [hl274003_83] at HO_304003)
                        cases kq with
                        | zero => exact absurd HA.out (by simp [laws_FnExactBuildRanked.j2])
                        | succ kj83 =>
                          have H := HA.out
                          clear HA
                          simp only [laws_FnExactBuildRanked.j2] at H
                          by_cases c119 : x87_83 = true
                          · subst c119
                            have H1 : (none) = some r := by rw [if_pos rfl] at H; exact H
                            clear H
                            have H := H1
                            clear H1
                            exact absurd H (by simp)
                          · replace c119 := Bool.eq_false_iff.mpr c119
                            subst c119
                            have H1 : ((laws_heldRanked.f kj83 t262 t284 t285 t286 1).bind fun t305 => (if t305 < 0 then (none) else (if t305 = t283 then (some true) else (none)))) = some r := by rw [if_neg (show ¬ (false = true) by decide)] at H; exact H
                            clear H
                            have H := H1
                            clear H1
                            replace H := Option.bind_eq_some_iff.mp H
                            obtain ⟨t305, A1200, H⟩ := H
                            replace H : (if t305 < 0 then (none) else (if t305 = t283 then (some true) else (none))) = some r := H
                            have A120 := Aside0.mk A1200
                            clear A1200
                            by_cases c121 : t305 < 0
                            · rw [if_pos c121] at H
                              exact absurd H (by simp)
                            · rw [if_neg c121] at H
                              have c121b0 : decide (t305 < 0) = false := decide_eq_false c121
                              clear c121
                              by_cases c122 : t305 = t283
                              · rw [if_pos c122] at H
                                have c122b0 : (t305 == t283) = true := beq_iff_eq.mpr c122
                                have c122b1 : (t305 != t283) = false := bne_eq_false_iff_eq.mpr c122
                                clear c122
                                obtain rfl := Option.some.inj H
                                have hnb123 := NB273_239.out
                                have hnc123 := NB239_273.out
                                have hnb124 := NB273_256.out
                                have hnc124 := NB256_273.out
                                have hnb125 := NB273_261.out
                                have hnc125 := NB261_273.out
                                have hnb126 := NB273_303.out
                                have hnc126 := NB303_273.out
                                have hcz127_0 : wc.cell? ⟨gb273, 0, none⟩ = some (.int .i64 t262) := (blk_cell BK273.out 0).trans rfl
                                have hcz127_1 : wc.cell? ⟨gb273, 1, none⟩ = some (.slice Ao38 t284.length co38) := (blk_cell BK273.out 1).trans rfl
                                have hcz127_2 : wc.cell? ⟨gb273, 2, none⟩ = some (.slice Ao39 t285.length co39) := (blk_cell BK273.out 2).trans rfl
                                have hcz127_3 : wc.cell? ⟨gb273, 3, none⟩ = some (.slice Ao40 t286.length co40) := (blk_cell BK273.out 3).trans rfl
                                have hfz127_0 := blk_frozen BK273.out 0
                                have hfz127_1 := blk_frozen BK273.out 1
                                have hfz127_2 := blk_frozen BK273.out 2
                                have hfz127_3 := blk_frozen BK273.out 3
                                go_wp2_with (first | ((with_reducible refine gate_callee (f := 27) rfl ?_); refine goesL_ (some 90) rfl rfl Try.func27 (by kernel_rfl) rfl #[.agg #[.int .i64 t262, .slice Ao38 t284.length co38, .slice Ao39 t285.length co39, .slice Ao40 t286.length co40], .int .i64 1] rfl (by (try simp only [List.map_toArray, List.map_cons, List.map_nil]); first | done | rfl | (simp only [List.length_drop, List.length_take]; rfl)) ?_; (with_reducible refine (laws_heldRanked.calls kj83 t262 _ _ t284 _ _ t285 _ _ t286 1 t305 _ ?side1 ?side2 ?side3 ?side4 ?side5 ?side6 A120.out).mono ?_); (case side1 => repeat (first | exact (Kd.R_reads' HO_274001.out).2.2 | (with_reducible refine Kd.C_alloc ?_ _) | (with_reducible refine Kd.C_drewN ?_ _) | (with_reducible refine Kd.C_drew ?_))); (case side2 => exact (Kd.R_reads' HO_274001.out).2.1); (case side3 => repeat (first | exact (Kd.R_reads' HO_274002.out).2.2 | (with_reducible refine Kd.C_alloc ?_ _) | (with_reducible refine Kd.C_drewN ?_ _) | (with_reducible refine Kd.C_drew ?_))); (case side4 => exact (Kd.R_reads' HO_274002.out).2.1); (case side5 => repeat (first | exact (Kd.R_reads' HO_274003.out).2.2 | (with_reducible refine Kd.C_alloc ?_ _) | (with_reducible refine Kd.C_drewN ?_ _) | (with_reducible refine Kd.C_drew ?_))); (case side6 => exact (Kd.R_reads' HO_274003.out).2.1); rintro e w128 ⟨rfl, hb⟩; refine ⟨_, rfl, ?_⟩; have n0_ := Aside0.mk (Kd.R_below (by (with_reducible repeat (first | apply Kd.R_alloc | apply Kd.R_drewN | apply Kd.R_drew)); exact HO_257001.out) hb); have n1_ := Aside0.mk (Kd.R_below (by (with_reducible repeat (first | apply Kd.R_alloc | apply Kd.R_drewN | apply Kd.R_drew)); exact HO_257002.out) hb); have n2_ := Aside0.mk (Kd.R_below (by (with_reducible repeat (first | apply Kd.R_alloc | apply Kd.R_drewN | apply Kd.R_drew)); exact HO_257003.out) hb); have n3_ := Aside0.mk (Kd.R_below (by (with_reducible repeat (first | apply Kd.R_alloc | apply Kd.R_drewN | apply Kd.R_drew)); exact HO_262001.out) hb); have n4_ := Aside0.mk (Kd.R_below (by (with_reducible repeat (first | apply Kd.R_alloc | apply Kd.R_drewN | apply Kd.R_drew)); exact HO_274001.out) hb); have n5_ := Aside0.mk (Kd.R_below (by (with_reducible repeat (first | apply Kd.R_alloc | apply Kd.R_drewN | apply Kd.R_drew)); exact HO_274002.out) hb); have n6_ := Aside0.mk (Kd.R_below (by (with_reducible repeat (first | apply Kd.R_alloc | apply Kd.R_drewN | apply Kd.R_drew)); exact HO_274003.out) hb); have n7_ := Aside0.mk (Kd.R_below (by (with_reducible repeat (first | apply Kd.R_alloc | apply Kd.R_drewN | apply Kd.R_drew)); exact HO_304001.out) hb); have n8_ := Aside0.mk (Kd.R_below (by (with_reducible repeat (first | apply Kd.R_alloc | apply Kd.R_drewN | apply Kd.R_drew)); exact HO_304002.out) hb); have n9_ := Aside0.mk (Kd.R_below (by (with_reducible repeat (first | apply Kd.R_alloc | apply Kd.R_drewN | apply Kd.R_drew)); exact HO_304003.out) hb); have n10_ := Aside0.mk (blk_below (g := gb239) (o := .cells #[.int .i64 a0_0, .slice A0_1 l0_1.length c0_1] 24 (0, 0)) (by (with_reducible repeat (first | refine blk_drewN ?_ _ | refine blk_drew ?_ | refine blk_alloc ?_ _)); exact BK239.out) hb); have n11_ := Aside0.mk (blk_below (g := gb256) (o := .cells #[.int .i64 t245, .slice Ao22 t246.length co22, .slice Ao23 t249.length co23, .slice Ao24 t252.length co24] 31 (0, 0)) (by (with_reducible repeat (first | refine blk_drewN ?_ _ | refine blk_drew ?_ | refine blk_alloc ?_ _)); exact BK256.out) hb); have n12_ := Aside0.mk (blk_below (g := gb261) (o := .cells #[.int .i64 t257, .slice Ao31 t281.length co31] 29 (0, 0)) (by (with_reducible repeat (first | refine blk_drewN ?_ _ | refine blk_drew ?_ | refine blk_alloc ?_ _)); exact BK261.out) hb); have n13_ := Aside0.mk (blk_below (g := gb273) (o := .cells #[.int .i64 t262, .slice Ao38 t284.length co38, .slice Ao39 t285.length co39, .slice Ao40 t286.length co40] 31 (0, 0)) (by (with_reducible repeat (first | refine blk_drewN ?_ _ | refine blk_drew ?_ | refine blk_alloc ?_ _)); exact BK273.out) hb); have n14_ := Aside0.mk (blk_below (g := gb303) (o := .cells #[.int .i64 t292, .slice Ao104 t293.length co104, .slice Ao105 t296.length co105, .slice Ao106 t299.length co106] 31 (0, 0)) (by (with_reducible repeat (first | refine blk_drewN ?_ _ | refine blk_drew ?_ | refine blk_alloc ?_ _)); exact BK303.out) hb); have n15_ := Aside0.mk (below_step (by repeat (first | (with_reducible first | exact HB.out | apply below_alloc | apply pw_below_drewN | apply below_drew1 | refine below_set ?_ GE239.out | refine below_set ?_ GE256.out | refine below_set ?_ GE261.out | refine below_set ?_ GE273.out | refine below_set ?_ GE303.out) | exact HB.out)) hb); clear HO_257001; clear HO_257002; clear HO_257003; clear HO_262001; clear HO_274001; clear HO_274002; clear HO_274003; clear HO_304001; clear HO_304002; clear HO_304003; clear BK239; clear BK256; clear BK261; clear BK273; clear BK303; clear HB; have HO_257001 := n0_; have HO_257002 := n1_; have HO_257003 := n2_; have HO_262001 := n3_; have HO_274001 := n4_; have HO_274002 := n5_; have HO_274003 := n6_; have HO_304001 := n7_; have HO_304002 := n8_; have HO_304003 := n9_; have BK239 := n10_; have BK256 := n11_; have BK261 := n12_; have BK273 := n13_; have BK303 := n14_; have HB := n15_; clear n0_ n1_ n2_ n3_ n4_ n5_ n6_ n7_ n8_ n9_ n10_ n11_ n12_ n13_ n14_ n15_; (try clear hb); (try clear hb2); (try clear hk); (try clear hi)))
                                go_ret
                                exact ⟨by first | rfl | (simp [errW_none, errW_some] <;> rfl) | (simp [*, errW_none, errW_some] <;> rfl), by repeat (first | (with_reducible first | exact HB.out | apply below_alloc | apply pw_below_drewN | apply below_drew1 | refine below_set ?_ GE239.out | refine below_set ?_ GE256.out | refine below_set ?_ GE261.out | refine below_set ?_ GE273.out | refine below_set ?_ GE303.out) | exact HB.out)⟩
                              · rw [if_neg c122] at H
                                exact absurd H (by simp)
                    · rw [if_neg c81] at H
                      exact absurd H (by simp)
          · replace c54 := Bool.eq_false_iff.mpr c54
            subst c54
            have H1 : (none) = some r := by rw [if_neg (show ¬ (false = true) by decide)] at H; exact H
            clear H
            have H := H1
            clear H1
            exact absurd H (by simp)

/-- The plain statement of laws_FnExactBuildRanked. -/
def laws_FnExactBuildRanked.Pure : Prop := ∀ (a0_0 : Int) (l0_1 : List Int), (Lit.int .i64 a0_0).wf = true → l0_1.length ≤ maxLen → (∀ x ∈ l0_1, (Lit.int .i64 x).wf = true) → ∃ k, laws_FnExactBuildRanked.f k a0_0 l0_1 = some true

end Go.Proofs.Ytpidlhpjcjaojaa.PFnExactBuildRanked
