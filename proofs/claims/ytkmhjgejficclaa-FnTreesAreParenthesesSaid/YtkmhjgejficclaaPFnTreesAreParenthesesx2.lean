-- Laid by a program of this session: the print of the kit with additions of ours (wip/tools/patchprint.py). Nothing of it is trusted: Lean checks it.
import Derived.Test.YtkmhjgejficclaaPFnTreesAreParenthesesx0
import Derived.Test.YtkmhjgejficclaaPFnTreesAreParenthesesx1
namespace Go.Proofs.Ytkmhjgejficclaa.PFnTreesAreParentheses
open Go.RowKit Go.Proofs.YtkmhjgejficclaaW.PrintWords Go.Proofs.YtkmhjgejficclaaW.PrintLast Go.Proofs.YtkmhjgejficclaaW.PrintMore
attribute [local go_sem] max2_int min2_int max_two min_two max_three min_three max_four min_four   -- for this text's walks alone
set_option linter.unusedVariables false
set_option linter.unusedSimpArgs false

theorem am4_ {p : Prop} (h : p) : Aside0 p := ⟨h⟩
theorem lm4_ {P : Prop} (h : P := by (try simp only [List.map_toArray, List.map_cons, List.map_nil]); first | done | rfl | (simp only [List.length_drop, List.length_take]; rfl)) : P := h
theorem lc4_ {P Q : Prop} (h : P) (f : P → Q := by intro h_; repeat (first | exact h_ | (with_reducible refine Kd.C_alloc ?_ _) | (with_reducible refine Kd.C_drewN ?_ _) | (with_reducible refine Kd.C_drew ?_))) : Q := f h
theorem lt4_ {P Q : Prop} (h : P) (f : P → Q := by intro h_; (with_reducible repeat (first | apply Kd.R_alloc | apply Kd.R_drewN | apply Kd.R_drew)); exact h_) : Q := f h
theorem lf4_ {P Q : Prop} (h : Aside0 P) (f : P → Q := by intro h_; (with_reducible repeat (first | apply Kd.R_alloc | apply Kd.R_drewN | apply Kd.R_drew)); exact h_) : Q := f h.out
theorem lb4_ {P Q : Prop} (h : Aside0 P) (f : P → Q := by intro h_; (with_reducible repeat (first | refine blk_drewN ?_ _ | refine blk_drew ?_ | refine blk_alloc ?_ _)); exact h_) : Q := f h.out
theorem lw4_ {P Q : Prop} (h : Aside0 P) (f : P → Q := by intro h_; repeat (first | (with_reducible first | exact h_ | apply below_alloc | apply pw_below_drewN | apply below_drew1 | refine below_set ?_ (Aside0.out (by assumption))) | exact h_)) : Q := f h.out
/-! ### spec_raFrom: function 91 -/
mutual
def spec_raFrom.l0 : Nat → List Bool → List Int → List Int → Int → Int → Option (Int × List Int)
 | 0, _, _, _, _, _ => none
 | k + 1, x3, x4, x7, x8, x9 => if x9 < x8 then (if 0 ≤ x9 then (if x9 < (x7.length : Int) then (spec_raFrom.l1 k x3 x4 x9 (rd x7 x9) x7 x8 x9) else (none)) else (none)) else (spec_raFrom.l2 k x3 (x4.length : Int) 0)
def spec_raFrom.l1 : Nat → List Bool → List Int → Int → Int → List Int → Int → Int → Option (Int × List Int)
 | 0, _, _, _, _, _, _, _ => none
 | k + 1, x3, x4, x5, x6, x7, x8, x9 => if (x4.length : Int) > 0 then (if 0 ≤ (wrap64 ((x4.length : Int) - 1)) then (if (wrap64 ((x4.length : Int) - 1)) < (x4.length : Int) then (if (rd x4 (wrap64 ((x4.length : Int) - 1))) = x6 then (if x4.length < 17592186044416 then (if x3.length < 140737488355328 then (spec_raFrom.l0 k (x3 ++ [true]) (x4 ++ [x5]) x7 x8 (wrap64 (x9 + 1))) else (none)) else (none)) else (if (wrap64 ((x4.length : Int) - 1)) ≤ (x4.length : Int) then (if x3.length < 140737488355328 then (spec_raFrom.l1 k (x3 ++ [false]) (x4.take ((wrap64 ((x4.length : Int) - 1)) : Int).toNat) x5 x6 x7 x8 x9) else (none)) else (none))) else (none)) else (none)) else (if x4.length < 17592186044416 then (if x3.length < 140737488355328 then (spec_raFrom.l0 k (x3 ++ [true]) (x4 ++ [x5]) x7 x8 (wrap64 (x9 + 1))) else (none)) else (none))
def spec_raFrom.l2 : Nat → List Bool → Int → Int → Option (Int × List Int)
 | 0, _, _, _ => none
 | k + 1, x3, x44, x45 => if x45 < x44 then (if x3.length < 140737488355328 then (spec_raFrom.l2 k (x3 ++ [false]) x44 (wrap64 (x45 + 1))) else (none)) else ((spec_biSome.f k x3).bind fun bt142 => (some (bt142.1, bt142.2)))
end
def spec_raFrom.f (k : Nat) (l0 : List Int) : Option (Int × List Int) := spec_raFrom.l0 k ([] : List Bool) ([] : List Int) l0 (l0.length : Int) 0
theorem spec_raFrom.mono_l : ∀ k, (∀ y0 y1 y2 y3 y4, LeO (spec_raFrom.l0 k y0 y1 y2 y3 y4) (spec_raFrom.l0 (k + 1) y0 y1 y2 y3 y4)) ∧ (∀ y0 y1 y2 y3 y4 y5 y6, LeO (spec_raFrom.l1 k y0 y1 y2 y3 y4 y5 y6) (spec_raFrom.l1 (k + 1) y0 y1 y2 y3 y4 y5 y6)) ∧ (∀ y0 y1 y2, LeO (spec_raFrom.l2 k y0 y1 y2) (spec_raFrom.l2 (k + 1) y0 y1 y2))
 | 0 => ⟨fun _ _ _ _ _ r h => by simp [spec_raFrom.l0] at h, fun _ _ _ _ _ _ _ r h => by simp [spec_raFrom.l1] at h, fun _ _ _ r h => by simp [spec_raFrom.l2] at h⟩
 | k + 1 => by
  obtain ⟨ih0, ih1, ih2⟩ := spec_raFrom.mono_l k
  refine ⟨?_, ?_, ?_⟩
  ·intro y0 y1 y2 y3 y4
   unfold spec_raFrom.l0
   repeat' first
   | (with_reducible exact ih0 _ _ _ _ _)
   | (with_reducible exact ih1 _ _ _ _ _ _ _)
   | (with_reducible exact ih2 _ _ _)
   | (with_reducible exact spec_biSome.mono _ _)
   | (with_reducible exact LeO.refl _)
   | (with_reducible exact LeO.none _)
   | (with_reducible refine LeO.ite ?_ ?_)
   | (with_reducible refine LeO.bind ?_ (fun _ => ?_))
   | exact ih0 _ _ _ _ _
   | exact ih1 _ _ _ _ _ _ _
   | exact ih2 _ _ _
   | exact spec_biSome.mono _ _
   | exact LeO.none _
   | refine LeO.ite ?_ ?_
   | refine LeO.bind ?_ (fun _ => ?_)
  ·intro y0 y1 y2 y3 y4 y5 y6
   unfold spec_raFrom.l1
   repeat' first
   | (with_reducible exact ih0 _ _ _ _ _)
   | (with_reducible exact ih1 _ _ _ _ _ _ _)
   | (with_reducible exact ih2 _ _ _)
   | (with_reducible exact spec_biSome.mono _ _)
   | (with_reducible exact LeO.refl _)
   | (with_reducible exact LeO.none _)
   | (with_reducible refine LeO.ite ?_ ?_)
   | (with_reducible refine LeO.bind ?_ (fun _ => ?_))
   | exact ih0 _ _ _ _ _
   | exact ih1 _ _ _ _ _ _ _
   | exact ih2 _ _ _
   | exact spec_biSome.mono _ _
   | exact LeO.none _
   | refine LeO.ite ?_ ?_
   | refine LeO.bind ?_ (fun _ => ?_)
  ·intro y0 y1 y2
   unfold spec_raFrom.l2
   repeat' first
   | (with_reducible exact ih0 _ _ _ _ _)
   | (with_reducible exact ih1 _ _ _ _ _ _ _)
   | (with_reducible exact ih2 _ _ _)
   | (with_reducible exact spec_biSome.mono _ _)
   | (with_reducible exact LeO.refl _)
   | (with_reducible exact LeO.none _)
   | (with_reducible refine LeO.ite ?_ ?_)
   | (with_reducible refine LeO.bind ?_ (fun _ => ?_))
   | exact ih0 _ _ _ _ _
   | exact ih1 _ _ _ _ _ _ _
   | exact ih2 _ _ _
   | exact spec_biSome.mono _ _
   | exact LeO.none _
   | refine LeO.ite ?_ ?_
   | refine LeO.bind ?_ (fun _ => ?_)
theorem spec_raFrom.mono : ∀ a0 k, LeO (spec_raFrom.f k a0) (spec_raFrom.f (k + 1) a0) := by
 intro a0 k
 obtain ⟨ih0, ih1, ih2⟩ := spec_raFrom.mono_l k
 unfold spec_raFrom.f
 repeat' first
   | (with_reducible exact ih0 _ _ _ _ _)
   | (with_reducible exact ih1 _ _ _ _ _ _ _)
   | (with_reducible exact ih2 _ _ _)
   | (with_reducible exact spec_biSome.mono _ _)
   | (with_reducible exact LeO.refl _)
   | (with_reducible exact LeO.none _)
   | (with_reducible refine LeO.ite ?_ ?_)
   | (with_reducible refine LeO.bind ?_ (fun _ => ?_))
   | exact ih0 _ _ _ _ _
   | exact ih1 _ _ _ _ _ _ _
   | exact ih2 _ _ _
   | exact spec_biSome.mono _ _
   | exact LeO.none _
   | refine LeO.ite ?_ ?_
   | refine LeO.bind ?_ (fun _ => ?_)
set_option maxHeartbeats 8000000 in
set_option maxRecDepth 100000 in
theorem spec_raFrom.calls (k : Nat) (A0 : Option Addr) (c0 : Nat) (l0 : List Int) (r1 : Int) (r2 : List Int) (w : World) (hr0 : Kd.C (Kd.int .i64) w A0 l0.length l0) (hc0 : l0.length ≤ c0) (h : spec_raFrom.f k l0 = some (r1, r2)) :
  Calls Try.prog 91 #[.slice A0 l0.length c0] w fun e w' => ∃ v1_ : Value, e = .returned (.agg #[.int .i64 r1, v1_]) ∧ Kd.R (Kd.int .i64) 3 w' w.heap.size (fun _ => True) v1_ r2 ∧ Below w.heap.size w w' := by
 have hu26 := Try.underlying26
 have HR0 := am4_ hr0
 have HC0 := am4_ hc0
 clear hr0 hc0
 have HB := am4_ (Below.refl w.heap.size w)
 have H : (spec_raFrom.l0 k ([] : List Bool) ([] : List Int) l0 (l0.length : Int) 0) = some (r1, r2) := h
 clear h
 have H' := am4_ H
 clear H
 go_enter Try.func91, Try.ntmps91
 go_wp2_with (first | ((with_reducible refine gate_dst (N := 2) rfl ?_); (try (refine gate_guard (by rfl) ?_; dsimp only)); refine box_event ?hg (N := 2) ?hd (cs := #[.int .i64 0, .slice none 0 0]) (t := 26) ?hr ?_; (case hd => rfl); (case hg => rfl); (case hr => first | (go_simp; done) | (go_simp; rfl)); intro gb118 hg w2 hbox hb; have n0_ := am4_ (below_step (lw4_ HB) hb); have n1_ := am4_ (hbox); have n2_ := am4_ ((by rw [hg]; exact (below_size (lw4_ HB)) : w.heap.size ≤ gb118)); have n3_ := am4_ ((by rw [hg]; exact (below_size (lw4_ HB)) : w.heap.size ≤ gb118)); clear HB; have HB := n0_; have BK118 := n1_; have GW118 := n2_; have GE118 := n3_; clear n0_ n1_ n2_ n3_; clear hb hbox hg))
 go_loopg [3, 4, 9] k (fun kq v3 v4 v9 w' => ∃ (x3_1 : List Bool) (x4_1 : List Int) (x9_1 : Int), v9 = .int .i64 x9_1 ∧ Aside0 (spec_raFrom.l0 kq x3_1 x4_1 l0 (l0.length : Int) x9_1 = some (r1, r2)) ∧ Aside0 (kq ≤ k) ∧ Aside0 (Kd.R Kd.bool 4 w' w.heap.size (fun _ => True) v3 x3_1) ∧ Aside0 (Kd.R (Kd.int .i64) 3 w' w.heap.size (fun _ => True) v4 x4_1) ∧ Aside0 (w'.heap[gb118]? = some (.cells #[.int .i64 0, (.slice none 0 0)] 26 (0, 0))) ∧ Aside0 (Below w.heap.size w w'))
 case atStart => exact ⟨(([] : List Bool)), (([] : List Int)), (0), (by first | rfl | (simp; done) | (simp [*]; done)), H', ⟨Nat.le_refl _⟩, ⟨by first | exact Kd.R_nil _ _ _ _ _ | exact Kd.N_nil _ _ _ _ _ | exact Kd.V_nil _ _ _ _ _ | exact Kd.Q_nil _ _ _ _ _ | exact Kd.S_nil _ _ _ _ _⟩, ⟨by first | exact Kd.R_nil _ _ _ _ _ | exact Kd.N_nil _ _ _ _ _ | exact Kd.V_nil _ _ _ _ _ | exact Kd.Q_nil _ _ _ _ _ | exact Kd.S_nil _ _ _ _ _⟩, ⟨lb4_ BK118⟩, ⟨lw4_ HB⟩⟩
 case round =>
  clear H'
  try clear p2
  obtain ⟨x3_1, x4_1, x9_1, rfl, HA, HK1, HO_3, HO_4, BK118, HB⟩ := hrel
  cases gk with
  | zero => exact absurd HA.out (by simp [spec_raFrom.l0])
  | succ k1 =>
   have H := HA.out
   clear HA
   simp only [spec_raFrom.l0] at H
   by_cases c3 : x9_1 < (l0.length : Int)
   ·rw [if_pos c3] at H
    have c3b0 : decide (x9_1 < (l0.length : Int)) = true := decide_eq_true c3
    clear c3
    by_cases c4 : 0 ≤ x9_1
    ·rw [if_pos c4] at H
     have c4b0 : decide (0 ≤ x9_1) = true := decide_eq_true c4
     clear c4
     by_cases c5 : x9_1 < (l0.length : Int)
     ·rw [if_pos c5] at H
      have c5b0 : decide (x9_1 < (l0.length : Int)) = true := decide_eq_true c5
      clear c5
      have H' := am4_ H
      clear H
      have p119 : 0 ≤ (x9_1 : Int) := of_decide_eq_true (by first | (with_reducible assumption) | assumption)
      have q119 : x9_1 < (l0.length : Int) := of_decide_eq_true (by first | (with_reducible assumption) | assumption)
      obtain ⟨ad119, e119, hx119_0⟩ := Kd.at_int HR0.out x9_1 p119 q119
      cases e119
      replace hx119_0 := (HB.out.cell (World.block_lt_of_cell? w _ hx119_0)).trans hx119_0
      replace p119 := eq_true p119
      replace q119 := eq_true q119
      go_wp2
      go_loopg [3, 4] k1 (fun kq v3 v4 w' => ∃ (x3_2 : List Bool) (x4_2 : List Int), Aside0 (spec_raFrom.l1 kq x3_2 x4_2 x9_1 (rd l0 x9_1) l0 (l0.length : Int) x9_1 = some (r1, r2)) ∧ Aside0 (kq ≤ k1) ∧ Aside0 (Kd.R Kd.bool 4 w' w.heap.size (fun _ => True) v3 x3_2) ∧ Aside0 (Kd.R (Kd.int .i64) 3 w' w.heap.size (fun _ => True) v4 x4_2) ∧ Aside0 (w'.heap[gb118]? = some (.cells #[.int .i64 0, (.slice none 0 0)] 26 (0, 0))) ∧ Aside0 (Below w.heap.size w w'))
      case atStart => exact ⟨(x3_1), (x4_1), H', ⟨Nat.le_refl _⟩, ⟨lf4_ HO_3⟩, ⟨lf4_ HO_4⟩, ⟨lb4_ BK118⟩, ⟨lw4_ HB⟩⟩
      case round =>
       clear H'
       try clear p1
       try clear q1
       try clear hx1
       try clear p2
       try clear c3
       try clear c3b0
       try clear c4
       try clear c4b0
       try clear c5
       try clear c5b0
       try clear hx119_0
       try clear p119
       try clear p2
       try clear q119
       obtain ⟨x3_2, x4_2, HA, HK2, HO_3, HO_4, BK118, HB⟩ := hrel
       cases gk with
       | zero => exact absurd HA.out (by simp [spec_raFrom.l1])
       | succ k2 =>
        have H := HA.out
        clear HA
        simp only [spec_raFrom.l1] at H
        by_cases c6 : (x4_2.length : Int) > 0
        ·rw [if_pos c6] at H
         have c6b0 : decide (0 < (x4_2.length : Int)) = true := decide_eq_true c6
         have c6b1 : decide (0 < x4_2.length) = true := decide_eq_true (by omega)
         clear c6
         obtain ⟨ji7, hji7⟩ : ∃ j_ : Int, (wrap64 ((x4_2.length : Int) - 1)) = j_ := ⟨_, rfl⟩
         replace H : (if 0 ≤ (ji7) then (if (ji7) < (x4_2.length : Int) then (if (rd x4_2 (ji7)) = (rd l0 x9_1) then (if x4_2.length < 17592186044416 then (if x3_2.length < 140737488355328 then (spec_raFrom.l0 k2 (x3_2 ++ [true]) (x4_2 ++ [x9_1]) l0 (l0.length : Int) (wrap64 (x9_1 + 1))) else (none)) else (none)) else (if (ji7) ≤ (x4_2.length : Int) then (if x3_2.length < 140737488355328 then (spec_raFrom.l1 k2 (x3_2 ++ [false]) (x4_2.take ((ji7) : Int).toNat) x9_1 (rd l0 x9_1) l0 (l0.length : Int) x9_1) else (none)) else (none))) else (none)) else (none)) = some (r1, r2) := by first | (rw [hji7] at H; exact H) | (simp only [hji7] at H ⊢; exact H)
         have hji7w : (IntKind.i64.wrap ((x4_2.length : Int) - 1)) = ji7 := (i64_w _).trans hji7
         by_cases c8 : 0 ≤ (ji7)
         ·rw [if_pos c8] at H
          have c8b0 : decide (0 ≤ (ji7)) = true := decide_eq_true c8
          clear c8
          by_cases c9 : (ji7) < (x4_2.length : Int)
          ·rw [if_pos c9] at H
           have c9b0 : decide ((ji7) < (x4_2.length : Int)) = true := decide_eq_true c9
           clear c9
           by_cases c10 : (rd x4_2 (ji7)) = (rd l0 x9_1)
           ·rw [if_pos c10] at H
            have c10b0 : ((rd x4_2 (ji7)) == (rd l0 x9_1)) = true := beq_iff_eq.mpr c10
            have c10b1 : ((rd x4_2 (ji7)) != (rd l0 x9_1)) = false := bne_eq_false_iff_eq.mpr c10
            clear c10
            by_cases c11 : x4_2.length < 17592186044416
            ·rw [if_pos c11] at H
             have LMc11 := am4_ c11
             clear c11
             obtain ⟨y121, hy121⟩ : ∃ y_ : List Int, y_ = (x4_2 ++ [x9_1]) := ⟨_, rfl⟩
             replace H : (if x3_2.length < 140737488355328 then (spec_raFrom.l0 k2 (x3_2 ++ [true]) y121 l0 (l0.length : Int) (wrap64 (x9_1 + 1))) else (none)) = some (r1, r2) := by first | (rw [hy121]; with_reducible exact H) | (have H2_ := (Option.bind_some _ _).symm.trans H; rw [hy121]; with_reducible exact H2_) | (have H2_ := (Option.bind_some _ _).symm.trans H; with_reducible exact H2_) | with_reducible exact H | (rw [hy121]; exact H) | exact H
             have Ny121 := am4_ hy121
             clear hy121
             by_cases c12 : x3_2.length < 140737488355328
             ·rw [if_pos c12] at H
              have LMc12 := am4_ c12
              clear c12
              obtain ⟨y124, hy124⟩ : ∃ y_ : List Bool, y_ = (x3_2 ++ [true]) := ⟨_, rfl⟩
              replace H : (spec_raFrom.l0 k2 y124 y121 l0 (l0.length : Int) (wrap64 (x9_1 + 1))) = some (r1, r2) := by first | (rw [hy124]; with_reducible exact H) | (have H2_ := (Option.bind_some _ _).symm.trans H; rw [hy124]; with_reducible exact H2_) | (have H2_ := (Option.bind_some _ _).symm.trans H; with_reducible exact H2_) | with_reducible exact H | (rw [hy124]; exact H) | exact H
              have Ny124 := am4_ hy124
              clear hy124
              have H' := am4_ H
              clear H
              obtain ⟨Ao13, co13, eo13⟩ := Kd.R_slice HO_4.out
              subst eo13
              have p120 : 0 ≤ ((ji7) : Int) := of_decide_eq_true (by first | (with_reducible assumption) | assumption)
              have q120 : (ji7) < (x4_2.length : Int) := of_decide_eq_true (by first | (with_reducible assumption) | assumption)
              obtain ⟨ad120, e120, hx120_0⟩ := Kd.at_int (Kd.R_reads' HO_4.out).2.2 (ji7) p120 q120
              cases e120
              replace p120 := eq_true p120
              replace q120 := eq_true q120
              go_wp2_with (first | ((with_reducible refine gate_builtin (b := .append) (xs := #[.tmp 35, .tmp 37]) rfl ?_); (try (refine gate_guard (by rfl) ?_; dsimp only)); at_builtin; refine Kd.R_append (Kd.int .i64) (w0 := w) w.heap.size rfl (.tmp 35) (.tmp 37) 22 3 (.int .i64 0) 8 rfl Try.underlying22 info3 rfl (by decide) (by omega) (.slice (some ad120) x4_2.length co13) x4_2 x9_1 [.int .i64 x9_1] (fun _ => True) (fun _ => False) rfl rfl ?aP (fun _ hk => hk.elim) ?aF ?aO ?aB ?aS ?aL ?_; (case aP => exact rfl); (case aB => exact (lw4_ HB)); (case aF => exact (fun _ _ => trivial)); (case aO => exact (lf4_ HO_4)); (case aS => exact (below_size (lw4_ HB))); (case aL => have := LMc11.out; omega); intro v122 w14 ho hb hg hat; rw [← Ny121.out] at ho; have n0_ := am4_ (Kd.R_over' (lf4_ HO_3) (Kd.R_typed (lf4_ HO_4)) (by decide) hg); have n1_ := am4_ (blk_grown (g := gb118) (o := .cells #[.int .i64 0, .slice none 0 0] 26 (0, 0)) (lb4_ BK118) hg (Kd.R_ne HO_4.out BK118.out (by decide))); have n2_ := am4_ (hb); have n3_ := am4_ (ho); clear HO_3; clear BK118; clear HB; clear HO_4; have HO_3 := n0_; have BK118 := n1_; have HB := n2_; have HO123 := n3_; clear n0_ n1_ n2_ n3_; clear ho hb hg hat) | ((with_reducible refine gate_builtin (b := .append) (xs := #[.tmp 39, .tmp 40]) rfl ?_); (try (refine gate_guard (by rfl) ?_; dsimp only)); at_builtin; refine Kd.R_append Kd.bool (w0 := w) w.heap.size rfl (.tmp 39) (.tmp 40) 88 4 (.bool false) 1 rfl Try.underlying88 info4 rfl (by decide) (by omega) u3 x3_2 true [.bool true] (fun _ => True) (fun _ => False) rfl rfl ?aP (fun _ hk => hk.elim) ?aF ?aO ?aB ?aS ?aL ?_; (case aP => exact rfl); (case aB => exact (lw4_ HB)); (case aF => exact (fun _ _ => trivial)); (case aO => exact (lf4_ HO_3)); (case aS => exact (below_size (lw4_ HB))); (case aL => have := LMc12.out; omega); intro v125 w15 ho hb hg hat; rw [← Ny124.out] at ho; have n0_ := am4_ (blk_grown (g := gb118) (o := .cells #[.int .i64 0, .slice none 0 0] 26 (0, 0)) (lb4_ BK118) hg (Kd.R_ne HO_3.out BK118.out (by decide))); have n1_ := am4_ (Kd.R_over' (lf4_ HO123) (Kd.R_typed (lf4_ HO_3)) (by decide) hg); have n2_ := am4_ (hb); have n3_ := am4_ (ho); clear BK118; clear HO123; clear HB; clear HO_3; have BK118 := n0_; have HO123 := n1_; have HB := n2_; have HO126 := n3_; clear n0_ n1_ n2_ n3_; clear ho hb hg hat))
              go_roundg k2
              case measure => have := HK1.out; have := HK2.out; omega
              case rel => exact ⟨(y124), (y121), (wrap64 (x9_1 + 1)), (by first | rfl | (simp; done) | (simp [*]; done)), H', ⟨by have := HK1.out; have := HK2.out; omega⟩, ⟨lf4_ HO126⟩, ⟨lf4_ HO123⟩, ⟨lb4_ BK118⟩, ⟨lw4_ HB⟩⟩
             ·rw [if_neg c12] at H
              exact absurd H (by simp)
            ·rw [if_neg c11] at H
             exact absurd H (by simp)
           ·rw [if_neg c10] at H
            have c10b0 : ((rd x4_2 (ji7)) == (rd l0 x9_1)) = false := beq_eq_false_iff_ne.mpr c10
            have c10b1 : ((rd x4_2 (ji7)) != (rd l0 x9_1)) = true := bne_iff_ne.mpr c10
            by_cases c16 : (ji7) ≤ (x4_2.length : Int)
            ·rw [if_pos c16] at H
             have c16b0 := eq_true c16
             have c16b1 : decide ((ji7) ≤ (x4_2.length : Int)) = true := decide_eq_true c16
             clear c16
             obtain ⟨y127, hy127⟩ : ∃ y_ : List Int, y_ = (x4_2.take ((ji7) : Int).toNat) := ⟨_, rfl⟩
             replace H : (if x3_2.length < 140737488355328 then (spec_raFrom.l1 k2 (x3_2 ++ [false]) y127 x9_1 (rd l0 x9_1) l0 (l0.length : Int) x9_1) else (none)) = some (r1, r2) := by first | (rw [hy127]; with_reducible exact H) | (have H2_ := (Option.bind_some _ _).symm.trans H; rw [hy127]; with_reducible exact H2_) | (have H2_ := (Option.bind_some _ _).symm.trans H; with_reducible exact H2_) | with_reducible exact H | (rw [hy127]; exact H) | exact H
             have Ny127 := am4_ hy127
             clear hy127
             by_cases c17 : x3_2.length < 140737488355328
             ·rw [if_pos c17] at H
              have LMc17 := am4_ c17
              clear c17
              obtain ⟨y130, hy130⟩ : ∃ y_ : List Bool, y_ = (x3_2 ++ [false]) := ⟨_, rfl⟩
              replace H : (spec_raFrom.l1 k2 y130 y127 x9_1 (rd l0 x9_1) l0 (l0.length : Int) x9_1) = some (r1, r2) := by first | (rw [hy130]; with_reducible exact H) | (have H2_ := (Option.bind_some _ _).symm.trans H; rw [hy130]; with_reducible exact H2_) | (have H2_ := (Option.bind_some _ _).symm.trans H; with_reducible exact H2_) | with_reducible exact H | (rw [hy130]; exact H) | exact H
              have Ny130 := am4_ hy130
              clear hy130
              have H' := am4_ H
              clear H
              obtain ⟨Ao18, co18, eo18⟩ := Kd.R_slice HO_4.out
              subst eo18
              have p120 : 0 ≤ ((ji7) : Int) := of_decide_eq_true (by first | (with_reducible assumption) | assumption)
              have q120 : (ji7) < (x4_2.length : Int) := of_decide_eq_true (by first | (with_reducible assumption) | assumption)
              obtain ⟨ad120, e120, hx120_0⟩ := Kd.at_int (Kd.R_reads' HO_4.out).2.2 (ji7) p120 q120
              cases e120
              replace p120 := eq_true p120
              replace q120 := eq_true q120
              have q19 : ((ji7) : Int) ≤ ((x4_2.length : Int) : Int) := of_decide_eq_true (by first | (with_reducible assumption) | assumption)
              obtain ⟨i019, hi019, _, hsz19, _⟩ := info_parts info3
              have hcut19 := cut_to (P := Try.prog) 22 3 .i64 Try.underlying22 hi019 (some ad120) x4_2.length co18 (ji7) (of_decide_eq_true (by first | (with_reducible assumption) | assumption)) q19 (Kd.R_reads' HO_4.out).2.1
              have hr19 := Kd.R_take (m := ((ji7) : Int).toNat) HO_4.out (by omega)
              have hy19 : y127.length = ((ji7) : Int).toNat := (by rw [Ny127.out, List.length_take]; omega)
              rw [← Ny127.out] at hr19
              rw [← hy19] at hr19 hcut19
              clear hy19 hi019 hsz19 HO_4
              have HO129 := am4_ hr19
              clear hr19
              replace q19 := eq_true q19
              go_wp2_with (first | ((with_reducible refine gate_builtin (b := .append) (xs := #[.tmp 32, .tmp 33]) rfl ?_); (try (refine gate_guard (by rfl) ?_; dsimp only)); at_builtin; refine Kd.R_append Kd.bool (w0 := w) w.heap.size rfl (.tmp 32) (.tmp 33) 88 4 (.bool false) 1 rfl Try.underlying88 info4 rfl (by decide) (by omega) u3 x3_2 false [.bool false] (fun _ => True) (fun _ => False) rfl rfl ?aP (fun _ hk => hk.elim) ?aF ?aO ?aB ?aS ?aL ?_; (case aP => exact rfl); (case aB => exact (lw4_ HB)); (case aF => exact (fun _ _ => trivial)); (case aO => exact (lf4_ HO_3)); (case aS => exact (below_size (lw4_ HB))); (case aL => have := LMc17.out; omega); intro v131 w20 ho hb hg hat; rw [← Ny130.out] at ho; have n0_ := am4_ (Kd.R_over' (lf4_ HO129) (Kd.R_typed (lf4_ HO_3)) (by decide) hg); have n1_ := am4_ (blk_grown (g := gb118) (o := .cells #[.int .i64 0, .slice none 0 0] 26 (0, 0)) (lb4_ BK118) hg (Kd.R_ne HO_3.out BK118.out (by decide))); have n2_ := am4_ (hb); have n3_ := am4_ (ho); clear HO129; clear BK118; clear HB; clear HO_3; have HO129 := n0_; have BK118 := n1_; have HB := n2_; have HO132 := n3_; clear n0_ n1_ n2_ n3_; clear ho hb hg hat))
              go_roundg k2
              case measure => have := HK1.out; have := HK2.out; omega
              case rel => exact ⟨(y130), (y127), H', ⟨by have := HK1.out; have := HK2.out; omega⟩, ⟨lf4_ HO132⟩, ⟨lf4_ HO129⟩, ⟨lb4_ BK118⟩, ⟨lw4_ HB⟩⟩
             ·rw [if_neg c17] at H
              exact absurd H (by simp)
            ·rw [if_neg c16] at H
             exact absurd H (by simp)
          ·rw [if_neg c9] at H
           exact absurd H (by simp)
         ·rw [if_neg c8] at H
          exact absurd H (by simp)
        ·rw [if_neg c6] at H
         have c6b0 : decide (0 < (x4_2.length : Int)) = false := decide_eq_false c6
         have c6b1 : decide (0 < x4_2.length) = false := decide_eq_false (by omega)
         clear c6
         by_cases c21 : x4_2.length < 17592186044416
         ·rw [if_pos c21] at H
          have LMc21 := am4_ c21
          clear c21
          obtain ⟨y133, hy133⟩ : ∃ y_ : List Int, y_ = (x4_2 ++ [x9_1]) := ⟨_, rfl⟩
          replace H : (if x3_2.length < 140737488355328 then (spec_raFrom.l0 k2 (x3_2 ++ [true]) y133 l0 (l0.length : Int) (wrap64 (x9_1 + 1))) else (none)) = some (r1, r2) := by first | (rw [hy133]; with_reducible exact H) | (have H2_ := (Option.bind_some _ _).symm.trans H; rw [hy133]; with_reducible exact H2_) | (have H2_ := (Option.bind_some _ _).symm.trans H; with_reducible exact H2_) | with_reducible exact H | (rw [hy133]; exact H) | exact H
          have Ny133 := am4_ hy133
          clear hy133
          by_cases c22 : x3_2.length < 140737488355328
          ·rw [if_pos c22] at H
           have LMc22 := am4_ c22
           clear c22
           obtain ⟨y136, hy136⟩ : ∃ y_ : List Bool, y_ = (x3_2 ++ [true]) := ⟨_, rfl⟩
           replace H : (spec_raFrom.l0 k2 y136 y133 l0 (l0.length : Int) (wrap64 (x9_1 + 1))) = some (r1, r2) := by first | (rw [hy136]; with_reducible exact H) | (have H2_ := (Option.bind_some _ _).symm.trans H; rw [hy136]; with_reducible exact H2_) | (have H2_ := (Option.bind_some _ _).symm.trans H; with_reducible exact H2_) | with_reducible exact H | (rw [hy136]; exact H) | exact H
           have Ny136 := am4_ hy136
           clear hy136
           have H' := am4_ H
           clear H
           obtain ⟨Ao23, co23, eo23⟩ := Kd.R_slice HO_4.out
           subst eo23
           go_wp2_with (first | ((with_reducible refine gate_builtin (b := .append) (xs := #[.tmp 35, .tmp 37]) rfl ?_); (try (refine gate_guard (by rfl) ?_; dsimp only)); at_builtin; refine Kd.R_append (Kd.int .i64) (w0 := w) w.heap.size rfl (.tmp 35) (.tmp 37) 22 3 (.int .i64 0) 8 rfl Try.underlying22 info3 rfl (by decide) (by omega) (.slice Ao23 x4_2.length co23) x4_2 x9_1 [.int .i64 x9_1] (fun _ => True) (fun _ => False) rfl rfl ?aP (fun _ hk => hk.elim) ?aF ?aO ?aB ?aS ?aL ?_; (case aP => exact rfl); (case aB => exact (lw4_ HB)); (case aF => exact (fun _ _ => trivial)); (case aO => exact (lf4_ HO_4)); (case aS => exact (below_size (lw4_ HB))); (case aL => have := LMc21.out; omega); intro v134 w24 ho hb hg hat; rw [← Ny133.out] at ho; have n0_ := am4_ (Kd.R_over' (lf4_ HO_3) (Kd.R_typed (lf4_ HO_4)) (by decide) hg); have n1_ := am4_ (blk_grown (g := gb118) (o := .cells #[.int .i64 0, .slice none 0 0] 26 (0, 0)) (lb4_ BK118) hg (Kd.R_ne HO_4.out BK118.out (by decide))); have n2_ := am4_ (hb); have n3_ := am4_ (ho); clear HO_3; clear BK118; clear HB; clear HO_4; have HO_3 := n0_; have BK118 := n1_; have HB := n2_; have HO135 := n3_; clear n0_ n1_ n2_ n3_; clear ho hb hg hat) | ((with_reducible refine gate_builtin (b := .append) (xs := #[.tmp 39, .tmp 40]) rfl ?_); (try (refine gate_guard (by rfl) ?_; dsimp only)); at_builtin; refine Kd.R_append Kd.bool (w0 := w) w.heap.size rfl (.tmp 39) (.tmp 40) 88 4 (.bool false) 1 rfl Try.underlying88 info4 rfl (by decide) (by omega) u3 x3_2 true [.bool true] (fun _ => True) (fun _ => False) rfl rfl ?aP (fun _ hk => hk.elim) ?aF ?aO ?aB ?aS ?aL ?_; (case aP => exact rfl); (case aB => exact (lw4_ HB)); (case aF => exact (fun _ _ => trivial)); (case aO => exact (lf4_ HO_3)); (case aS => exact (below_size (lw4_ HB))); (case aL => have := LMc22.out; omega); intro v137 w25 ho hb hg hat; rw [← Ny136.out] at ho; have n0_ := am4_ (blk_grown (g := gb118) (o := .cells #[.int .i64 0, .slice none 0 0] 26 (0, 0)) (lb4_ BK118) hg (Kd.R_ne HO_3.out BK118.out (by decide))); have n1_ := am4_ (Kd.R_over' (lf4_ HO135) (Kd.R_typed (lf4_ HO_3)) (by decide) hg); have n2_ := am4_ (hb); have n3_ := am4_ (ho); clear BK118; clear HO135; clear HB; clear HO_3; have BK118 := n0_; have HO135 := n1_; have HB := n2_; have HO138 := n3_; clear n0_ n1_ n2_ n3_; clear ho hb hg hat))
           go_roundg k2
           case measure => have := HK1.out; have := HK2.out; omega
           case rel => exact ⟨(y136), (y133), (wrap64 (x9_1 + 1)), (by first | rfl | (simp; done) | (simp [*]; done)), H', ⟨by have := HK1.out; have := HK2.out; omega⟩, ⟨lf4_ HO138⟩, ⟨lf4_ HO135⟩, ⟨lb4_ BK118⟩, ⟨lw4_ HB⟩⟩
          ·rw [if_neg c22] at H
           exact absurd H (by simp)
         ·rw [if_neg c21] at H
          exact absurd H (by simp)
     ·rw [if_neg c5] at H
      exact absurd H (by simp)
    ·rw [if_neg c4] at H
     exact absurd H (by simp)
   ·rw [if_neg c3] at H
    have c3b0 : decide (x9_1 < (l0.length : Int)) = false := decide_eq_false c3
    clear c3
    have H' := am4_ H
    clear H
    obtain ⟨Ao26, co26, eo26⟩ := Kd.R_slice HO_4.out
    subst eo26
    go_wp2
    go_loopg [3, 45] k1 (fun kq v3 v45 w' => ∃ (x3_2 : List Bool) (x45_2 : Int), v45 = .int .i64 x45_2 ∧ Aside0 (spec_raFrom.l2 kq x3_2 (x4_1.length : Int) x45_2 = some (r1, r2)) ∧ Aside0 (kq ≤ k1) ∧ Aside0 (Kd.R Kd.bool 4 w' w.heap.size (fun _ => True) v3 x3_2) ∧ Aside0 (w'.heap[gb118]? = some (.cells #[.int .i64 0, (.slice none 0 0)] 26 (0, 0))) ∧ Aside0 (Below w.heap.size w w'))
    case atStart => exact ⟨(x3_1), (0), (by first | rfl | (simp; done) | (simp [*]; done)), H', ⟨Nat.le_refl _⟩, ⟨lf4_ HO_3⟩, ⟨lb4_ BK118⟩, ⟨lw4_ HB⟩⟩
    case round =>
     clear H'
     try clear c1
     try clear p1
     try clear q1
     try clear hx1
     try clear c2
     try clear p2
     try clear c3
     try clear c3b0
     try clear c4
     try clear c4b0
     try clear c5
     try clear c5b0
     try clear c6
     try clear c6b0
     try clear c6b1
     try clear p6
     try clear c8
     try clear c8b0
     try clear c9
     try clear c9b0
     try clear c10
     try clear c10b0
     try clear c10b1
     try clear c11
     try clear p11
     try clear q11
     try clear hx11
     try clear c12
     try clear p12
     try clear q12
     try clear hx12
     try clear c16
     try clear c16b0
     try clear c16b1
     try clear c17
     try clear q19
     try clear c21
     try clear c22
     try clear hx119_0
     try clear hx120_0
     try clear p1
     try clear p119
     try clear p120
     try clear p2
     try clear q1
     try clear q119
     try clear q120
     try clear q19
     obtain ⟨x3_2, x45_2, rfl, HA, HK2, HO_3, BK118, HB⟩ := hrel
     cases gk with
     | zero => exact absurd HA.out (by simp [spec_raFrom.l2])
     | succ k2 =>
      have H := HA.out
      clear HA
      simp only [spec_raFrom.l2] at H
      by_cases c27 : x45_2 < (x4_1.length : Int)
      ·rw [if_pos c27] at H
       have c27b0 : decide (x45_2 < (x4_1.length : Int)) = true := decide_eq_true c27
       clear c27
       by_cases c28 : x3_2.length < 140737488355328
       ·rw [if_pos c28] at H
        have LMc28 := am4_ c28
        clear c28
        obtain ⟨y139, hy139⟩ : ∃ y_ : List Bool, y_ = (x3_2 ++ [false]) := ⟨_, rfl⟩
        replace H : (spec_raFrom.l2 k2 y139 (x4_1.length : Int) (wrap64 (x45_2 + 1))) = some (r1, r2) := by first | (rw [hy139]; with_reducible exact H) | (have H2_ := (Option.bind_some _ _).symm.trans H; rw [hy139]; with_reducible exact H2_) | (have H2_ := (Option.bind_some _ _).symm.trans H; with_reducible exact H2_) | with_reducible exact H | (rw [hy139]; exact H) | exact H
        have Ny139 := am4_ hy139
        clear hy139
        have H' := am4_ H
        clear H
        go_wp2_with (first | ((with_reducible refine gate_builtin (b := .append) (xs := #[.tmp 47, .tmp 48]) rfl ?_); (try (refine gate_guard (by rfl) ?_; dsimp only)); at_builtin; refine Kd.R_append Kd.bool (w0 := w) w.heap.size rfl (.tmp 47) (.tmp 48) 88 4 (.bool false) 1 rfl Try.underlying88 info4 rfl (by decide) (by omega) u3 x3_2 false [.bool false] (fun _ => True) (fun _ => False) rfl rfl ?aP (fun _ hk => hk.elim) ?aF ?aO ?aB ?aS ?aL ?_; (case aP => exact rfl); (case aB => exact (lw4_ HB)); (case aF => exact (fun _ _ => trivial)); (case aO => exact (lf4_ HO_3)); (case aS => exact (below_size (lw4_ HB))); (case aL => have := LMc28.out; omega); intro v140 w29 ho hb hg hat; rw [← Ny139.out] at ho; have n0_ := am4_ (blk_grown (g := gb118) (o := .cells #[.int .i64 0, .slice none 0 0] 26 (0, 0)) (lb4_ BK118) hg (Kd.R_ne HO_3.out BK118.out (by decide))); have n1_ := am4_ (hb); have n2_ := am4_ (ho); clear BK118; clear HB; clear HO_3; have BK118 := n0_; have HB := n1_; have HO141 := n2_; clear n0_ n1_ n2_; clear ho hb hg hat))
        go_roundg k2
        case measure => have := HK1.out; have := HK2.out; omega
        case rel => exact ⟨(y139), (wrap64 (x45_2 + 1)), (by first | rfl | (simp; done) | (simp [*]; done)), H', ⟨by have := HK1.out; have := HK2.out; omega⟩, ⟨lf4_ HO141⟩, ⟨lb4_ BK118⟩, ⟨lw4_ HB⟩⟩
       ·rw [if_neg c28] at H
        exact absurd H (by simp)
      ·rw [if_neg c27] at H
       have c27b0 : decide (x45_2 < (x4_1.length : Int)) = false := decide_eq_false c27
       clear c27
       replace H := Option.bind_eq_some_iff.mp H
       obtain ⟨⟨t142, t143⟩, A300, H⟩ := H
       replace H : (some (t142, t143)) = some (r1, r2) := H
       have A30 := am4_ A300
       clear A300
       simp only [Option.some.injEq, Prod.mk.injEq] at H
       obtain ⟨rfl, rfl⟩ := H
       obtain ⟨Ao31, co31, eo31⟩ := Kd.R_slice HO_3.out
       subst eo31
       go_wp2_with (first | ((with_reducible refine gate_callee (f := 72) rfl ?_); refine goesL_ (some 52) rfl rfl Try.func72 (by kernel_rfl) rfl #[.slice Ao31 x3_2.length co31] rfl lm4_ ?_; (with_reducible refine (spec_biSome.calls k2 _ _ x3_2 t142 t143 _ ?side1 ?side2 A30.out).mono ?_); (case side1 => exact lc4_ (Kd.R_reads' HO_3.out).2.2); (case side2 => exact (Kd.R_reads' HO_3.out).2.1); rintro e w32 ⟨v144, rfl, ho0, hb⟩; refine ⟨_, rfl, ?_⟩; have n0_ := am4_ (Kd.R_below (lf4_ HO_3) hb); have n1_ := am4_ (Kd.R_lower ho0 (below_size (lw4_ HB))); have n2_ := am4_ (blk_below (g := gb118) (o := .cells #[.int .i64 0, .slice none 0 0] 26 (0, 0)) (lb4_ BK118) hb); have n3_ := am4_ (below_step (lw4_ HB) hb); clear HO_3; clear BK118; clear HB; have HO_3 := n0_; have HO145 := n1_; have BK118 := n2_; have HB := n3_; clear n0_ n1_ n2_ n3_; (try clear hb); (try clear hb2); (try clear hk); (try clear hi); (try clear ho0); have hcz33_0 : w32.cell? ⟨gb118, 0, none⟩ = some (.int .i64 0) := (blk_cell BK118.out 0).trans rfl; have hcz33_1 : w32.cell? ⟨gb118, 1, none⟩ = some (.slice none 0 0) := (blk_cell BK118.out 1).trans rfl; have hfz33_0 := blk_frozen BK118.out 0; have hfz33_1 := blk_frozen BK118.out 1; obtain ⟨Ao34, co34, eo34⟩ := Kd.R_slice HO145.out; subst eo34))
       refine bodyPost_ret (results_cell_row rfl _ _ gb118 26 #[.int .i64 t142, .slice Ao34 t143.length co34] (0, 0) _ rfl (by (with_reducible repeat (first | refine blk_drewN ?_ _ | refine blk_drew ?_ | refine blk_alloc ?_ _)); refine blk_put (cs := #[.int .i64 t142, .slice none 0 0]) ?_ 1 _ rfl; (with_reducible repeat (first | refine blk_drewN ?_ _ | refine blk_drew ?_ | refine blk_alloc ?_ _)); refine blk_put (cs := #[.int .i64 0, .slice none 0 0]) ?_ 0 _ rfl; (with_reducible repeat (first | refine blk_drewN ?_ _ | refine blk_drew ?_ | refine blk_alloc ?_ _)); exact BK118.out) Try.underlying26 rfl (by kernel_rfl)) rfl ?_
       exact ⟨_, by first | rfl | (simp [errW_none, errW_some] <;> rfl) | (simp [*, errW_none, errW_some] <;> rfl), by (with_reducible repeat (first | apply Kd.R_alloc | apply Kd.R_drewN | apply Kd.R_drew)); exact Kd.R_mono (Kd.R_far (p := ⟨gb118, 1, none⟩) (Kd.R_far (p := ⟨gb118, 0, none⟩) (Kd.R_types HO145.out BK118.out (by decide)) (fun _ hk => hk.2) (.int .i64 t142)) (fun _ hk => hk.2) (.slice Ao34 t143.length co34)) (fun _ hk => trivial), lw4_ HB⟩

theorem am5_ {p : Prop} (h : p) : Aside0 p := ⟨h⟩
theorem lm5_ {P : Prop} (h : P := by (try simp only [List.map_toArray, List.map_cons, List.map_nil]); first | done | rfl | (simp only [List.length_drop, List.length_take]; rfl)) : P := h
theorem lc5_ {P Q : Prop} (h : P) (f : P → Q := by intro h_; repeat (first | exact h_ | (with_reducible refine Kd.C_alloc ?_ _) | (with_reducible refine Kd.C_drewN ?_ _) | (with_reducible refine Kd.C_drew ?_))) : Q := f h
theorem lt5_ {P Q : Prop} (h : P) (f : P → Q := by intro h_; (with_reducible repeat (first | apply Kd.R_alloc | apply Kd.R_drewN | apply Kd.R_drew)); exact h_) : Q := f h
theorem lf5_ {P Q : Prop} (h : Aside0 P) (f : P → Q := by intro h_; (with_reducible repeat (first | apply Kd.R_alloc | apply Kd.R_drewN | apply Kd.R_drew)); exact h_) : Q := f h.out
theorem lb5_ {P Q : Prop} (h : Aside0 P) (f : P → Q := by intro h_; (with_reducible repeat (first | refine blk_drewN ?_ _ | refine blk_drew ?_ | refine blk_alloc ?_ _)); exact h_) : Q := f h.out
theorem lw5_ {P Q : Prop} (h : Aside0 P) (f : P → Q := by intro h_; repeat (first | (with_reducible first | exact h_ | apply below_alloc | apply pw_below_drewN | apply below_drew1 | refine below_set ?_ (Aside0.out (by assumption))) | exact h_)) : Q := f h.out
/-! ### spec_ParenthesesOf: function 29 -/
def spec_ParenthesesOf.f (k : Nat) (l0 : List Int) : Option (Int × List Int × Bool) := (spec_raTree.f k l0).bind fun t147 => (if t147 = true then ((spec_raFrom.f k l0).bind fun bt148 => (some (bt148.1, bt148.2, true))) else (some (0, ([] : List Int), false)))
theorem spec_ParenthesesOf.mono : ∀ a0 k, LeO (spec_ParenthesesOf.f k a0) (spec_ParenthesesOf.f (k + 1) a0) := by
 intro a0 k
 unfold spec_ParenthesesOf.f
 repeat' first
   | (with_reducible exact spec_raFrom.mono _ _)
   | (with_reducible exact spec_raTree.mono _ _)
   | (with_reducible exact LeO.refl _)
   | (with_reducible exact LeO.none _)
   | (with_reducible refine LeO.ite ?_ ?_)
   | (with_reducible refine LeO.bind ?_ (fun _ => ?_))
   | exact spec_raFrom.mono _ _
   | exact spec_raTree.mono _ _
   | exact LeO.none _
   | refine LeO.ite ?_ ?_
   | refine LeO.bind ?_ (fun _ => ?_)
set_option maxHeartbeats 8000000 in
set_option maxRecDepth 100000 in
theorem spec_ParenthesesOf.calls (k : Nat) (A0 : Option Addr) (c0 : Nat) (l0 : List Int) (r1 : Int) (r2 : List Int) (r3 : Bool) (w : World) (hr0 : Kd.C (Kd.int .i64) w A0 l0.length l0) (hc0 : l0.length ≤ c0) (h : spec_ParenthesesOf.f k l0 = some (r1, r2, r3)) :
  Calls Try.prog 29 #[.slice A0 l0.length c0] w fun e w' => ∃ v1_ : Value, e = .returned (.tuple #[.agg #[.int .i64 r1, v1_], .bool r3]) ∧ Kd.R (Kd.int .i64) 3 w' w.heap.size (fun _ => True) v1_ r2 ∧ Below w.heap.size w w' := by
 have hu26 := Try.underlying26
 have HR0 := am5_ hr0
 have HC0 := am5_ hc0
 clear hr0 hc0
 have HB := am5_ (Below.refl w.heap.size w)
 have H : ((spec_raTree.f k l0).bind fun t147 => (if t147 = true then ((spec_raFrom.f k l0).bind fun bt148 => (some (bt148.1, bt148.2, true))) else (some (0, ([] : List Int), false)))) = some (r1, r2, r3) := h
 clear h
 replace H := Option.bind_eq_some_iff.mp H
 obtain ⟨t147, A20, H⟩ := H
 replace H : (if t147 = true then ((spec_raFrom.f k l0).bind fun bt148 => (some (bt148.1, bt148.2, true))) else (some (0, ([] : List Int), false))) = some (r1, r2, r3) := H
 have A2 := am5_ A20
 clear A20
 by_cases c3 : t147 = true
 ·subst c3
  have H1 : ((spec_raFrom.f k l0).bind fun bt148 => (some (bt148.1, bt148.2, true))) = some (r1, r2, r3) := by rw [if_pos rfl] at H; exact H
  clear H
  have H := H1
  clear H1
  replace H := Option.bind_eq_some_iff.mp H
  obtain ⟨⟨t148, t149⟩, A40, H⟩ := H
  replace H : (some (t148, t149, true)) = some (r1, r2, r3) := H
  have A4 := am5_ A40
  clear A40
  simp only [Option.some.injEq, Prod.mk.injEq] at H
  obtain ⟨rfl, rfl, rfl⟩ := H
  go_enter Try.func29, Try.ntmps29
  go_wp2_with (first | ((with_reducible refine gate_dst (N := 2) rfl ?_); refine box_event ?hg (N := 2) ?hd (cs := #[.int .i64 0, .slice none 0 0]) (t := 26) ?hr ?_; (case hd => rfl); (case hg => rfl); (case hr => first | (go_simp; done) | (go_simp; rfl)); intro gb146 hg w5 hbox hb; have n0_ := am5_ (below_step (lw5_ HB) hb); have n1_ := am5_ (hbox); have n2_ := am5_ ((by rw [hg]; exact (below_size (lw5_ HB)) : w.heap.size ≤ gb146)); have n3_ := am5_ ((by rw [hg]; exact (below_size (lw5_ HB)) : w.heap.size ≤ gb146)); clear HB; have HB := n0_; have BK146 := n1_; have GW146 := n2_; have GE146 := n3_; clear n0_ n1_ n2_ n3_; clear hb hbox hg) | ((with_reducible refine gate_callee (f := 90) rfl ?_); refine goesL_ (some 5) rfl rfl Try.func90 (by kernel_rfl) rfl #[.slice A0 l0.length c0] rfl lm5_ ?_; (with_reducible refine (spec_raTree.calls k _ _ l0 true _ ?side1 ?side2 A2.out).mono ?_); (case side1 => exact lc5_ (Kd.C_below HR0.out HB.out)); (case side2 => exact HC0.out); rintro e w' ⟨rfl, ⟨nd, rfl⟩⟩; refine ⟨_, rfl, ?_⟩; (try (rw [drewN_self w5]; generalize hq_ : World.drewN w5 _ = w5; have n0_ : Aside0 (w5.heap[gb146]? = some (.cells #[.int .i64 0, .slice none 0 0] 26 (0, 0))) := ⟨by rw [← hq_]; exact (lb5_ BK146)⟩; have n1_ : Aside0 (Below w.heap.size w w5) := ⟨by rw [← hq_]; exact (lw5_ HB)⟩; clear BK146 HB hq_; have BK146 := n0_; have HB := n1_; clear n0_ n1_))) | ((with_reducible refine gate_callee (f := 91) rfl ?_); refine goesL_ (some 9) rfl rfl Try.func91 (by kernel_rfl) rfl #[.slice A0 l0.length c0] rfl lm5_ ?_; (with_reducible refine (spec_raFrom.calls k _ _ l0 t148 t149 _ ?side1 ?side2 A4.out).mono ?_); (case side1 => exact lc5_ (Kd.C_below HR0.out HB.out)); (case side2 => exact HC0.out); rintro e w6 ⟨v150, rfl, ho0, hb⟩; refine ⟨_, rfl, ?_⟩; have n0_ := am5_ (Kd.R_lower ho0 (below_size (lw5_ HB))); have n1_ := am5_ (blk_below (g := gb146) (o := .cells #[.int .i64 0, .slice none 0 0] 26 (0, 0)) (lb5_ BK146) hb); have n2_ := am5_ (below_step (lw5_ HB) hb); clear BK146; clear HB; have HO151 := n0_; have BK146 := n1_; have HB := n2_; clear n0_ n1_ n2_; (try clear hb); (try clear hb2); (try clear hk); (try clear hi); (try clear ho0); have hcz7_0 : w6.cell? ⟨gb146, 0, none⟩ = some (.int .i64 0) := (blk_cell BK146.out 0).trans rfl; have hcz7_1 : w6.cell? ⟨gb146, 1, none⟩ = some (.slice none 0 0) := (blk_cell BK146.out 1).trans rfl; have hfz7_0 := blk_frozen BK146.out 0; have hfz7_1 := blk_frozen BK146.out 1; obtain ⟨Ao8, co8, eo8⟩ := Kd.R_slice HO151.out; subst eo8))
  refine bodyPost_ret (results_ct rfl _ _ gb146 26 #[.int .i64 t148, .slice Ao8 t149.length co8] (0, 0) _ rfl (by (with_reducible repeat (first | refine blk_drewN ?_ _ | refine blk_drew ?_ | refine blk_alloc ?_ _)); refine blk_put (cs := #[.int .i64 t148, .slice none 0 0]) ?_ 1 _ rfl; (with_reducible repeat (first | refine blk_drewN ?_ _ | refine blk_drew ?_ | refine blk_alloc ?_ _)); refine blk_put (cs := #[.int .i64 0, .slice none 0 0]) ?_ 0 _ rfl; (with_reducible repeat (first | refine blk_drewN ?_ _ | refine blk_drew ?_ | refine blk_alloc ?_ _)); exact BK146.out) Try.underlying26 rfl (by kernel_rfl)) rfl ?_
  exact ⟨_, by first | rfl | (simp [errW_none, errW_some] <;> rfl) | (simp [*, errW_none, errW_some] <;> rfl), by (with_reducible repeat (first | apply Kd.R_alloc | apply Kd.R_drewN | apply Kd.R_drew)); exact Kd.R_mono (Kd.R_far (p := ⟨gb146, 1, none⟩) (Kd.R_far (p := ⟨gb146, 0, none⟩) (Kd.R_types HO151.out BK146.out (by decide)) (fun _ hk => hk.2) (.int .i64 t148)) (fun _ hk => hk.2) (.slice Ao8 t149.length co8)) (fun _ hk => trivial), lw5_ HB⟩
 ·replace c3 := Bool.eq_false_iff.mpr c3
  subst c3
  have H1 : (some (0, ([] : List Int), false)) = some (r1, r2, r3) := by rw [if_neg (show ¬ (false = true) by decide)] at H; exact H
  clear H
  have H := H1
  clear H1
  simp only [Option.some.injEq, Prod.mk.injEq] at H
  obtain ⟨rfl, rfl, rfl⟩ := H
  go_enter Try.func29, Try.ntmps29
  go_wp2_with (first | ((with_reducible refine gate_dst (N := 2) rfl ?_); refine box_event ?hg (N := 2) ?hd (cs := #[.int .i64 0, .slice none 0 0]) (t := 26) ?hr ?_; (case hd => rfl); (case hg => rfl); (case hr => first | (go_simp; done) | (go_simp; rfl)); intro gb146 hg w9 hbox hb; have n0_ := am5_ (below_step (lw5_ HB) hb); have n1_ := am5_ (hbox); have n2_ := am5_ ((by rw [hg]; exact (below_size (lw5_ HB)) : w.heap.size ≤ gb146)); have n3_ := am5_ ((by rw [hg]; exact (below_size (lw5_ HB)) : w.heap.size ≤ gb146)); clear HB; have HB := n0_; have BK146 := n1_; have GW146 := n2_; have GE146 := n3_; clear n0_ n1_ n2_ n3_; clear hb hbox hg) | ((with_reducible refine gate_callee (f := 90) rfl ?_); refine goesL_ (some 5) rfl rfl Try.func90 (by kernel_rfl) rfl #[.slice A0 l0.length c0] rfl lm5_ ?_; (with_reducible refine (spec_raTree.calls k _ _ l0 false _ ?side1 ?side2 A2.out).mono ?_); (case side1 => exact lc5_ (Kd.C_below HR0.out HB.out)); (case side2 => exact HC0.out); rintro e w' ⟨rfl, ⟨nd, rfl⟩⟩; refine ⟨_, rfl, ?_⟩; (try (rw [drewN_self w9]; generalize hq_ : World.drewN w9 _ = w9; have n0_ : Aside0 (w9.heap[gb146]? = some (.cells #[.int .i64 0, .slice none 0 0] 26 (0, 0))) := ⟨by rw [← hq_]; exact (lb5_ BK146)⟩; have n1_ : Aside0 (Below w.heap.size w w9) := ⟨by rw [← hq_]; exact (lw5_ HB)⟩; clear BK146 HB hq_; have BK146 := n0_; have HB := n1_; clear n0_ n1_)); have hcz10_0 : w9.cell? ⟨gb146, 0, none⟩ = some (.int .i64 0) := (blk_cell BK146.out 0).trans rfl; have hcz10_1 : w9.cell? ⟨gb146, 1, none⟩ = some (.slice none 0 0) := (blk_cell BK146.out 1).trans rfl; have hfz10_0 := blk_frozen BK146.out 0; have hfz10_1 := blk_frozen BK146.out 1))
  refine bodyPost_ret (results_ct rfl _ _ gb146 26 #[.int .i64 0, .slice none 0 0] (0, 0) _ rfl (by (with_reducible repeat (first | refine blk_drewN ?_ _ | refine blk_drew ?_ | refine blk_alloc ?_ _)); refine blk_put (cs := #[.int .i64 0, .slice none 0 0]) ?_ 1 _ rfl; (with_reducible repeat (first | refine blk_drewN ?_ _ | refine blk_drew ?_ | refine blk_alloc ?_ _)); refine blk_put (cs := #[.int .i64 0, .slice none 0 0]) ?_ 0 _ rfl; (with_reducible repeat (first | refine blk_drewN ?_ _ | refine blk_drew ?_ | refine blk_alloc ?_ _)); exact BK146.out) Try.underlying26 rfl (by kernel_rfl)) rfl ?_
  exact ⟨_, by first | rfl | (simp [errW_none, errW_some] <;> rfl) | (simp [*, errW_none, errW_some] <;> rfl), by first | exact Kd.R_nil _ _ _ _ _ | exact Kd.N_nil _ _ _ _ _ | exact Kd.V_nil _ _ _ _ _ | exact Kd.Q_nil _ _ _ _ _ | exact Kd.S_nil _ _ _ _ _, lw5_ HB⟩

end Go.Proofs.Ytkmhjgejficclaa.PFnTreesAreParentheses
