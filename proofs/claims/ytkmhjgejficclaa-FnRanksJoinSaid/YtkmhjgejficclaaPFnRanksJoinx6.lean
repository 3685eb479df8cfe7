-- Laid by a program of this session: the print of the kit with additions of ours (wip/tools/patchprint.py). Nothing of it is trusted: Lean checks it.
import Derived.Test.YtkmhjgejficclaaPFnRanksJoinx0
import Derived.Test.YtkmhjgejficclaaPFnRanksJoinx5
namespace Go.Proofs.Ytkmhjgejficclaa.PFnRanksJoin
open Go.RowKit Go.Proofs.YtkmhjgejficclaaW.PrintWords Go.Proofs.YtkmhjgejficclaaW.PrintLast Go.Proofs.YtkmhjgejficclaaW.PrintMore
attribute [local go_sem] max2_int min2_int max_two min_two max_three min_three max_four min_four   -- for this text's walks alone
set_option linter.unusedVariables false
set_option linter.unusedSimpArgs false

/-! ### impl_blank: function 92 -/
def impl_blank.f (a0 : Int) : Option (Int × List Int) := (impl_words.f a0).bind fun t217 => (if 0 ≤ t217 then (if (t217 : Int).toNat ≤ 35184372088832 then (some (a0, (List.replicate (t217 : Int).toNat 0))) else (none)) else (none))
set_option maxHeartbeats 8000000 in
set_option maxRecDepth 100000 in
theorem impl_blank.calls (a0 : Int) (r1 : Int) (r2 : List Int) (w : World) (h : impl_blank.f a0 = some (r1, r2)) :
  Calls Try.prog 92 #[.int .i64 a0] w fun e w' => ∃ v1_ : Value, e = .returned (.agg #[.int .i64 r1, v1_]) ∧ Kd.R (Kd.int .i64) 3 w' w.heap.size (fun _ => True) v1_ r2 ∧ Below w.heap.size w w' := by
 have hu26 := Try.underlying26
 have HB := am_ (Below.refl w.heap.size w)
 have H : ((impl_words.f a0).bind fun t217 => (if 0 ≤ t217 then (if (t217 : Int).toNat ≤ 35184372088832 then (some (a0, (List.replicate (t217 : Int).toNat 0))) else (none)) else (none))) = some (r1, r2) := h
 clear h
 replace H := Option.bind_eq_some_iff.mp H
 obtain ⟨t217, A20, H⟩ := H
 replace H : (if 0 ≤ t217 then (if (t217 : Int).toNat ≤ 35184372088832 then (some (a0, (List.replicate (t217 : Int).toNat 0))) else (none)) else (none)) = some (r1, r2) := H
 have A2 := am_ A20
 clear A20
 by_cases c3 : 0 ≤ t217
 ·rw [if_pos c3] at H
  have c3b0 := eq_true c3
  have c3b1 : decide (0 ≤ t217) = true := decide_eq_true c3
  clear c3
  by_cases c4 : (t217 : Int).toNat ≤ 35184372088832
  ·rw [if_pos c4] at H
   have c4b0 := eq_true c4
   have c4b1 : decide ((t217 : Int).toNat ≤ 35184372088832) = true := decide_eq_true c4
   clear c4
   obtain ⟨y218, hy218⟩ : ∃ y_ : List Int, y_ = (List.replicate (t217 : Int).toNat 0) := ⟨_, rfl⟩
   replace H : (some (a0, y218)) = some (r1, r2) := by first | (rw [hy218]; with_reducible exact H) | (have H2_ := (Option.bind_some _ _).symm.trans H; rw [hy218]; with_reducible exact H2_) | (have H2_ := (Option.bind_some _ _).symm.trans H; with_reducible exact H2_) | with_reducible exact H | (rw [hy218]; exact H) | exact H
   have Ny218 := am_ hy218
   clear hy218
   simp only [Option.some.injEq, Prod.mk.injEq] at H
   obtain ⟨rfl, rfl⟩ := H
   go_enter Try.func92, Try.ntmps92
   go_wp2_with (first | ((with_reducible refine gate_dst (N := 2) rfl ?_); refine bev_ 2 #[.int .i64 0, .slice none 0 0] 26 rfl rfl ?_; intro gb216 hg w5 hbox hb; have BK216 := am_ (hbox); have GW216 := am_ ((by rw [hg]; exact (below_size (lw_ HB)) : w.heap.size ≤ gb216)); have GE216 := am_ ((by rw [hg]; exact (below_size (lw_ HB)) : w.heap.size ≤ gb216)); replace HB := am_ (below_step (lw_ HB) hb); clear hb hbox hg) | ((with_reducible refine gate_callee (f := 102) rfl ?_); refine goesL_ (some 5) rfl rfl Try.func102 (by kernel_rfl) rfl #[.int .i64 a0] rfl lm_ ?_; (with_reducible refine (impl_words.calls a0 t217 _ A2.out).mono ?_); rintro e w' ⟨rfl, ⟨nd, rfl⟩⟩; refine ⟨_, rfl, ?_⟩; (try (rw [drewN_self w5]; generalize hq_ : World.drewN w5 _ = w5; have n0_ : Aside0 (w5.heap[gb216]? = some (.cells #[.int .i64 0, .slice none 0 0] 26 (0, 0))) := ⟨by rw [← hq_]; exact (lb_ BK216)⟩; have n1_ : Aside0 (Below w.heap.size w w5) := ⟨by rw [← hq_]; exact (lw_ HB)⟩; clear BK216 HB hq_; have BK216 := n0_; have HB := n1_; clear n0_ n1_))) | ((with_reducible refine gate_dst (N := 6) rfl ?_); refine Kd.R_make (Kd.int .i64) _ 3 rfl (N := 6) rfl 22 _ _ rfl t217 rfl rfl Try.underlying22 (.int .i64 0) 8 info3 rfl (by decide) (by omega) 0 (ok := fun _ => True) (okp := fun _ => True) rfl (fun _ hk => hk) trivial (of_decide_eq_true (by first | (with_reducible assumption) | assumption)) (Nat.le_trans (Nat.mul_le_mul_right _ (of_decide_eq_true (by first | (with_reducible assumption) | assumption) : t217.toNat ≤ 35184372088832)) (by omega)) (Below.refl _ _) (Nat.le_refl _) ?_; intro v219 w6 ho7 hb hg_ hnew_; clear hg_ hnew_; (first | rw [← Ny218.out] at ho7 | (simp only [Int.reduceToNat] at ho7; rw [← Ny218.out] at ho7)); have HO220 := am_ (Kd.R_lower ho7 (below_size (lw_ HB))); replace BK216 := am_ (blk_below (g := gb216) (lb_ BK216) hb); replace HB := am_ (below_step (lw_ HB) hb); clear hb ho7; obtain ⟨Ao8, co8, eo8⟩ := Kd.R_slice HO220.out; subst eo8; obtain ⟨hcz9_0, hcz9_1, hfz9_0, hfz9_1⟩ := bx2_ BK216.out))
   refine bodyPost_ret (results_cell_row rfl _ _ gb216 26 #[.int .i64 a0, .slice Ao8 y218.length co8] (0, 0) _ rfl (lq_ BK216) Try.underlying26 rfl (by kernel_rfl)) rfl ?_
   exact ⟨_, er_, lt_ (mt_ (fr2_ HO220.out BK216.out (.int .i64 a0) (.slice Ao8 y218.length co8))), lw_ HB⟩
  ·rw [if_neg c4] at H
   exact absurd H (by simp)
 ·rw [if_neg c3] at H
  exact absurd H (by simp)

/-! ### impl_madeBits: function 80 (by hand) -/
theorem amH_ {p : Prop} (h : p) : Aside0 p := ⟨h⟩
theorem lmH_ {P : Prop} (h : P := by (try simp only [List.map_toArray, List.map_cons, List.map_nil]); first | done | rfl | (simp only [List.length_drop, List.length_take]; rfl)) : P := h
theorem lcH_ {P Q : Prop} (h : P) (f : P → Q := by intro h_; exact lc_ h_) : Q := f h
theorem lfH_ {P Q : Prop} (h : Aside0 P) (f : P → Q := by intro h_; (with_reducible repeat (first | apply Kd.R_alloc | apply Kd.R_drewN | apply Kd.R_drew)); exact h_) : Q := f h.out
theorem lbH_ {P Q : Prop} (h : Aside0 P) (f : P → Q := by intro h_; (with_reducible repeat (first | refine blk_drewN ?_ _ | refine blk_drew ?_ | refine blk_alloc ?_ _)); exact h_) : Q := f h.out
theorem lwH_ {P Q : Prop} (h : Aside0 P) (f : P → Q := by intro h_; repeat (first | (with_reducible first | exact h_ | apply below_alloc | apply pw_below_drewN | apply below_drew1 | refine below_set ?_ (Aside0.out (by assumption))) | exact h_)) : Q := f h.out
theorem gate_callvH_ {P : Program} {ops : Array Oper} {rest : List Oper} {o : Oper} {a : Act} {Q : Exit → Act → World → Prop} {W : World} {x : Nat} {xs_ : Array Operand} {ts : Array TypeId} (_ho : o.op = .call { callee := .value (.tmp x), args := xs_, argTypes := ts }) (h : wpList P ops Q (o :: rest) a W) : wpList P ops Q (o :: rest) a W := h
/-- A call of a function value, in a plain region. -/
theorem goesFH_ {P : Program} {ops : Array Oper} {rest : List Oper} {oi : Oper} {a : Act} {Q : Exit → Act → World → Prop} {w : World} (N : Option Tmp) (hd : oi.dst = N) (hg : oi.guard = none) {x : Operand} {f : FuncId} {fn : Func} {xs_ : Array Operand} {ts : Array TypeId} {caps : Array Value} (hf : P.funcs[f]? = some fn) (hname : (fn.name == "runtime.NumGoroutine") = false) (hb : fn.body.isSome = true) (args : Array Value)
  (hop : oi.op = .call { callee := .value x, args := xs_, argTypes := ts }) (hx : a.eval x = .func (.func f) #[] caps) (hargs : xs_.map a.eval ++ caps = args)
  (h : Calls P f args w fun e w' => ∃ v, e = .returned v ∧ wpList P ops Q rest (a.put N v) w') : wpList P ops Q (oi :: rest) a w := by
 refine wpList_plain hg fun K hK => ?_
 have he := enters_ hf hname hb args w
 have hrun : (execOp a.eval oi).run P w = .ok (.enter f args) w := by
  unfold execOp
  simp [hop, resolve, Deferred.ofValue, invoke, hx, hargs, he]
 unfold Oper.wp
 rw [hrun, Oper.upon_enter]
 refine h.mono fun e w'' hh => ?_
 obtain ⟨v, rfl, hk⟩ := hh
 subst hd
 exact hK _ _ hk
def impl_madeBits.l0 : Nat → (Int → Option Bool) → Int → Int → Int → List Int → Option (Int × List Int)
 | 0, _, _, _, _, _ => none
 | k + 1, g, x9, x10, x5_0, x5_1 => if x10 < x9 then ((g x10).bind fun t1 => ((impl_Bits_set.f x5_0 x5_1 x10 t1).bind fun t2 => (impl_madeBits.l0 k g x9 (wrap64 (x10 + 1)) x5_0 t2))) else (some (x5_0, x5_1))
def impl_madeBits.f (k : Nat) (a0 : Int) (g : Int → Option Bool) : Option (Int × List Int) := (impl_blank.f a0).bind fun bt => (impl_madeBits.l0 k g a0 0 bt.1 bt.2)
theorem impl_madeBits.mono_l : ∀ k, (∀ y0 y1 y2 y3 y4, LeO (impl_madeBits.l0 k y0 y1 y2 y3 y4) (impl_madeBits.l0 (k + 1) y0 y1 y2 y3 y4))
 | 0 => fun _ _ _ _ _ r h => by simp [impl_madeBits.l0] at h
 | k + 1 => by
  have ih0 := impl_madeBits.mono_l k
  intro y0 y1 y2 y3 y4
  unfold impl_madeBits.l0
  repeat' first
   | (with_reducible exact ih0 _ _ _ _ _)
   | (with_reducible exact LeO.refl _)
   | (with_reducible exact LeO.none _)
   | (with_reducible refine LeO.ite ?_ ?_)
   | (with_reducible refine LeO.bind ?_ (fun _ => ?_))
   | exact LeO.none _
   | refine LeO.ite ?_ ?_
   | refine LeO.bind ?_ (fun _ => ?_)
theorem impl_madeBits.mono : ∀ a0 g k, LeO (impl_madeBits.f k a0 g) (impl_madeBits.f (k + 1) a0 g) := by
 intro a0 g k
 have ih0 := impl_madeBits.mono_l k
 unfold impl_madeBits.f
 repeat' first
   | (with_reducible exact ih0 _ _ _ _ _)
   | (with_reducible exact LeO.refl _)
   | (with_reducible exact LeO.none _)
   | (with_reducible refine LeO.ite ?_ ?_)
   | (with_reducible refine LeO.bind ?_ (fun _ => ?_))
   | exact LeO.none _
   | refine LeO.ite ?_ ?_
   | refine LeO.bind ?_ (fun _ => ?_)
set_option maxHeartbeats 8000000 in
set_option maxRecDepth 100000 in
theorem impl_madeBits.calls (k : Nat) (fid : FuncId) (fn : Func) (caps : Array Value) (hfn : Try.prog.funcs[fid]? = some fn) (hnm : (fn.name == "runtime.NumGoroutine") = false) (hbd : fn.body.isSome = true) (a0 : Int) (g : Int → Option Bool) (r1 : Int) (r2 : List Int) (w : World)
  (hF : ∀ (i : Int) (b : Bool) (w1 : World), g i = some b → Below w.heap.size w w1 → Calls Try.prog fid (#[.int .i64 i] ++ caps) w1 fun e w2 => e = .returned (.bool b) ∧ Below w1.heap.size w1 w2)
  (h : impl_madeBits.f k a0 g = some (r1, r2)) :
  Calls Try.prog 80 #[.int .i64 a0, .func (.func fid) #[] caps] w fun e w' => ∃ v1_ : Value, e = .returned (.agg #[.int .i64 r1, v1_]) ∧ Kd.R (Kd.int .i64) 3 w' w.heap.size (fun _ => True) v1_ r2 ∧ Below w.heap.size w w' := by
 have hu26 := Try.underlying26
 have HFN := amH_ (And.intro hfn (And.intro hnm hbd))
 have HF := amH_ (show ∀ (i : Int) (b : Bool) (w1 : World), g i = some b → Below w.heap.size w w1 → Calls Try.prog fid (#[.int .i64 i] ++ caps) w1 (fun e w2 => e = .returned (.bool b) ∧ Below w1.heap.size w1 w2) from hF)
 clear hF hfn hnm hbd
 have HB := amH_ (Below.refl w.heap.size w)
 have H : ((impl_blank.f a0).bind fun bt => (impl_madeBits.l0 k g a0 0 bt.1 bt.2)) = some (r1, r2) := h
 clear h
 replace H := Option.bind_eq_some_iff.mp H
 obtain ⟨⟨t1, t2⟩, A30, H⟩ := H
 replace H : (impl_madeBits.l0 k g a0 0 t1 t2) = some (r1, r2) := H
 have A3 := amH_ A30
 clear A30
 have H' := amH_ H
 clear H
 go_enter Try.func80, Try.ntmps80
 go_wp2_with (first | ((with_reducible refine gate_dst (N := 4) rfl ?_); refine bev_ 4 #[.int .i64 0, .slice none 0 0] 26 rfl rfl ?_; intro g4 hg w1 hbox hb; have BKg4 := amH_ (hbox); have GEg4 := amH_ ((by rw [hg]; exact (below_size (lwH_ HB)) : w.heap.size ≤ g4)); replace HB := amH_ (below_step (lwH_ HB) hb); clear hb hbox hg) | ((with_reducible refine gate_callee (f := 92) rfl ?_); refine goesL_ (some 8) rfl rfl Try.func92 (by kernel_rfl) rfl #[.int .i64 a0] rfl lmH_ ?_; (with_reducible refine (impl_blank.calls a0 t1 t2 _ A3.out).mono ?_); rintro e w2 ⟨v8, rfl, ho0, hb⟩; refine ⟨_, rfl, ?_⟩; have HO := amH_ (Kd.R_lower ho0 (below_size (lwH_ HB))); replace BKg4 := amH_ (blk_below (lbH_ BKg4) hb); replace HB := amH_ (below_step (lwH_ HB) hb); (try clear hb); (try clear ho0)) | ((with_reducible refine gate_dst (N := 5) rfl ?_); refine bev_ 5 #[.int .i64 0, .slice none 0 0] 26 rfl rfl ?_; intro g5 hg w3 hbox hb; have BKg5 := amH_ (hbox); have GEg5 := amH_ ((by rw [hg]; exact (below_size (lwH_ HB)) : w.heap.size ≤ g5)); have NBg4_g5 := amH_ ((by rw [hg]; exact Nat.ne_of_lt (blk_lt (g := g4) (lbH_ BKg4)) : g4 ≠ g5)); have NBg5_g4 := amH_ ((by rw [hg]; exact Nat.ne_of_gt (blk_lt (g := g4) (lbH_ BKg4)) : g5 ≠ g4)); replace HO := amH_ (Kd.R_below (lfH_ HO) hb); replace BKg4 := amH_ (blk_below (lbH_ BKg4) hb); replace HB := amH_ (below_step (lwH_ HB) hb); clear hb hbox hg; have hn0g5g4 := NBg5_g4.out; have hn1g4g5 := NBg4_g5.out; have hcz5_0 : w3.cell? ⟨g5, 0, none⟩ = some (.int .i64 0) := (blk_cell BKg5.out 0).trans rfl; have hfz5_0 := blk_frozen BKg5.out 0; have hcz5_1 : w3.cell? ⟨g5, 1, none⟩ = some (.slice none 0 0) := (blk_cell BKg5.out 1).trans rfl; have hfz5_1 := blk_frozen BKg5.out 1; obtain ⟨Ao, co, eo⟩ := Kd.R_slice HO.out; subst eo))
 go_loopg [10] k (fun kq v10 w' => ∃ (x10_1 : Int) (xl : List Int) (u : Value), v10 = .int .i64 x10_1 ∧ Aside0 (impl_madeBits.l0 kq g a0 x10_1 t1 xl = some (r1, r2)) ∧ Aside0 (kq ≤ k) ∧ Aside0 (Kd.R (Kd.int .i64) 3 w' w.heap.size (fun _ => True) u xl) ∧ Aside0 (w'.heap[g4]? = some (.cells #[.int .i64 0, (.slice none 0 0)] 26 (0, 0))) ∧ Aside0 (w'.heap[g5]? = some (.cells #[.int .i64 t1, u] 26 (0, 0))) ∧ Aside0 (Below w.heap.size w w'))
 case atStart => exact ⟨(0), (t2), (.slice Ao t2.length co), sr_, H', ⟨Nat.le_refl _⟩, ⟨lt_ (mt_ (fr2_ HO.out BKg5.out (.int .i64 t1) (.slice Ao t2.length co)))⟩, ⟨lg_ BKg4⟩, ⟨lq_ BKg5⟩, ⟨lwH_ HB⟩⟩
 case round =>
  clear H'
  try clear hcz5_0
  try clear hcz5_1
  try clear hfz5_0
  try clear hfz5_1
  obtain ⟨x10_1, xl, u, rfl, HA, HK1, HO, BKg4, BKg5, HB⟩ := hrel
  cases gk with
  | zero => exact absurd HA.out (by simp [impl_madeBits.l0])
  | succ k1 =>
   have H := HA.out
   clear HA
   simp only [impl_madeBits.l0] at H
   by_cases c10 : x10_1 < a0
   ·rw [if_pos c10] at H
    have c10b0 : decide (x10_1 < a0) = true := decide_eq_true c10
    clear c10
    replace H := Option.bind_eq_some_iff.mp H
    obtain ⟨t3, A40, H⟩ := H
    replace H : ((impl_Bits_set.f t1 xl x10_1 t3).bind fun t2 => (impl_madeBits.l0 k1 g a0 (wrap64 (x10_1 + 1)) t1 t2)) = some (r1, r2) := H
    have A4 := amH_ A40
    clear A40
    replace H := Option.bind_eq_some_iff.mp H
    obtain ⟨t4, A50, H⟩ := H
    replace H : (impl_madeBits.l0 k1 g a0 (wrap64 (x10_1 + 1)) t1 t4) = some (r1, r2) := H
    have A5 := amH_ A50
    clear A50
    have H' := amH_ H
    clear H
    obtain ⟨Ao, co, eo⟩ := Kd.R_slice HO.out
    subst eo
    go_wp2_with (first | ((with_reducible refine gate_callvH_ (x := 14) rfl ?_); refine goesFH_ (some 16) rfl rfl HFN.out.1 HFN.out.2.1 HFN.out.2.2 (#[.int .i64 x10_1] ++ caps) rfl (by first | rfl | (go_simp; done) | (go_simp; rfl)) (by (try simp only [List.map_toArray, List.map_cons, List.map_nil]); rfl) ?_; (with_reducible refine (HF.out x10_1 t3 _ A4.out (lwH_ HB)).mono ?_); rintro e w4 ⟨rfl, hb⟩; refine ⟨_, rfl, ?_⟩; replace HO := amH_ (Kd.R_below (lfH_ HO) hb); replace BKg4 := amH_ (blk_below (lbH_ BKg4) hb); replace BKg5 := amH_ (blk_below (lbH_ BKg5) hb); replace HB := amH_ (below_step (lwH_ HB) hb); (try clear hb)) | ((with_reducible refine gate_callee (f := 76) rfl ?_); refine goesL_ (some 17) rfl rfl Try.func76 (by kernel_rfl) rfl #[.pointer (some ⟨g5, 0, none⟩), .int .i64 x10_1, .bool t3] rfl lmH_ ?_; (with_reducible refine (impl_Bits_set.calls g5 t1 (fun k_ => some k_ = (.slice Ao xl.length co : Value).ownBlock) (.slice Ao xl.length co) xl x10_1 t3 t4 w _ ?side1 ?side2 ?side3 A5.out).mono ?_); (case side1 => exact lw_ HB); (case side2 => exact lb_ BKg5); (case side3 => exact Kd.R_tight rfl HO.out); rintro e w5 ⟨rfl, hy0, hb, hkp⟩; refine ⟨_, rfl, ?_⟩; replace BKg4 := amH_ (blk_kept (lbH_ BKg4) hkp (fun hs_ => (fun e_ => (Kd.R_ne HO.out BKg4.out (by decide)) e_) hs_)); replace BKg5 := amH_ (blk_kept (lbH_ BKg5) hkp (fun hs_ => (fun e_ => (Kd.R_ne HO.out BKg5.out (by decide)) e_) hs_)); replace HO := amH_ (Kd.R_reok rfl hy0 (fun k_ e_ => HO.out.1 k_ e_)); replace HB := amH_ (hb); (try clear hb); (try clear hkp); (try clear hy0)))
    go_roundg k1
    case measure => have := HK1.out; omega
    case rel => exact ⟨(wrap64 (x10_1 + 1)), (t4), (.slice Ao xl.length co), sr_, H', ⟨by have := HK1.out; omega⟩, ⟨lfH_ HO⟩, ⟨lbH_ BKg4⟩, ⟨lbH_ BKg5⟩, ⟨lwH_ HB⟩⟩
   ·rw [if_neg c10] at H
    have c10b0 : decide (x10_1 < a0) = false := decide_eq_false c10
    clear c10
    simp only [Option.some.injEq, Prod.mk.injEq] at H
    obtain ⟨rfl, rfl⟩ := H
    have hnb16 := NBg5_g4.out
    have hnc16 := NBg4_g5.out
    have hcz7_0 : wr.cell? ⟨g5, 0, none⟩ = some (.int .i64 t1) := (blk_cell BKg5.out 0).trans rfl
    have hfz7_0 := blk_frozen BKg5.out 0
    have hcz7_1 : wr.cell? ⟨g5, 1, none⟩ = some (u) := (blk_cell BKg5.out 1).trans rfl
    have hfz7_1 := blk_frozen BKg5.out 1
    have hcz8_0 : wr.cell? ⟨g4, 0, none⟩ = some (.int .i64 0) := (blk_cell BKg4.out 0).trans rfl
    have hfz8_0 := blk_frozen BKg4.out 0
    have hcz8_1 : wr.cell? ⟨g4, 1, none⟩ = some (.slice none 0 0) := (blk_cell BKg4.out 1).trans rfl
    have hfz8_1 := blk_frozen BKg4.out 1
    obtain ⟨Ao, co, eo⟩ := Kd.R_slice HO.out
    subst eo
    go_wp2
    refine bodyPost_ret (results_cell_row rfl _ _ g4 26 #[.int .i64 t1, .slice Ao xl.length co] (0, 0) _ rfl (lq_ BKg4) Try.underlying26 rfl (by kernel_rfl)) rfl ?_
    exact ⟨_, rfl, lt_ (mt_ (fr2_ HO.out BKg4.out (.int .i64 t1) (.slice Ao xl.length co))), lwH_ HB⟩

/-! ### impl_Bits_at: function 82 -/
def impl_Bits_at.f (a0_0 : Int) (l0_1 : List Int) (a1 : Int) : Option (Bool) := if 0 ≤ (wrap64 (Int.tdiv a1 16)) then (if (wrap64 (Int.tdiv a1 16)) < (l0_1.length : Int) then (if 0 ≤ (Int.tmod a1 16) then (some ((Go.bits .and .i64 (shr .i64 (rd l0_1 (wrap64 (Int.tdiv a1 16))) (Int.tmod a1 16)) 1) == 1)) else (none)) else (none)) else (none)
set_option maxHeartbeats 8000000 in
set_option maxRecDepth 100000 in
theorem impl_Bits_at.calls (g0 : Nat) (ex0 : List Value) (ty0 : TypeId) (a0_0 : Int) (A0_1 : Option Addr) (c0_1 : Nat) (l0_1 : List Int) (a1 : Int) (r : Bool) (w : World) (hb0 : w.heap[g0]? = some (.cells ⟨.int .i64 a0_0 :: .slice A0_1 l0_1.length c0_1 :: ex0⟩ ty0 (0, 0))) (hr0_1 : Kd.C (Kd.int .i64) w A0_1 l0_1.length l0_1) (hc0_1 : l0_1.length ≤ c0_1) (h : impl_Bits_at.f a0_0 l0_1 a1 = some r) :
  Calls Try.prog 82 #[.pointer (some ⟨g0, 0, none⟩), .int .i64 a1] w fun e w' => e = .returned (.bool r) ∧ Below w.heap.size w w' := by
 have HR0_1 := am_ hr0_1
 have HC0_1 := am_ hc0_1
 clear hr0_1 hc0_1
 have BK0 := am_ hb0
 clear hb0
 have HB := am_ (Below.refl w.heap.size w)
 have H : (if 0 ≤ (wrap64 (Int.tdiv a1 16)) then (if (wrap64 (Int.tdiv a1 16)) < (l0_1.length : Int) then (if 0 ≤ (Int.tmod a1 16) then (some ((Go.bits .and .i64 (shr .i64 (rd l0_1 (wrap64 (Int.tdiv a1 16))) (Int.tmod a1 16)) 1) == 1)) else (none)) else (none)) else (none)) = some r := h
 clear h
 obtain ⟨ji3, hji3⟩ : ∃ j_ : Int, (wrap64 (Int.tdiv a1 16)) = j_ := ⟨_, rfl⟩
 replace H : (if 0 ≤ (ji3) then (if (ji3) < (l0_1.length : Int) then (if 0 ≤ (Int.tmod a1 16) then (some ((Go.bits .and .i64 (shr .i64 (rd l0_1 (ji3)) (Int.tmod a1 16)) 1) == 1)) else (none)) else (none)) else (none)) = some r := by first | (rw [hji3] at H; exact H) | (simp only [hji3] at H ⊢; exact H)
 have hji3w : (IntKind.i64.wrap (Int.tdiv a1 16)) = ji3 := (i64_w _).trans hji3
 by_cases c4 : 0 ≤ (ji3)
 ·rw [if_pos c4] at H
  have c4b0 : decide (0 ≤ (ji3)) = true := decide_eq_true c4
  clear c4
  by_cases c5 : (ji3) < (l0_1.length : Int)
  ·rw [if_pos c5] at H
   have c5b0 : decide ((ji3) < (l0_1.length : Int)) = true := decide_eq_true c5
   clear c5
   obtain ⟨ji6, hji6⟩ : ∃ j_ : Int, (Int.tmod a1 16) = j_ := ⟨_, rfl⟩
   replace H : (if 0 ≤ (ji6) then (some ((Go.bits .and .i64 (shr .i64 (rd l0_1 (ji3)) (ji6)) 1) == 1)) else (none)) = some r := by first | (rw [hji6] at H; exact H) | (simp only [hji6] at H ⊢; exact H)
   by_cases c7 : 0 ≤ (ji6)
   ·rw [if_pos c7] at H
    have c7b0 := eq_true c7
    have c7b1 : decide (0 ≤ (ji6)) = true := decide_eq_true c7
    clear c7
    obtain ⟨ji8, hji8⟩ : ∃ j_ : Int, (shr .i64 (rd l0_1 (ji3)) (ji6)) = j_ := ⟨_, rfl⟩
    replace H : (some ((Go.bits .and .i64 (ji8) 1) == 1)) = some r := by first | (rw [hji8] at H; exact H) | (simp only [hji8] at H ⊢; exact H)
    have hji8_ : ((rd l0_1 (ji3)) / 2 ^ min (ji6).toNat 64) = ji8 := hji8
    have hji8z : (ji6) ≤ 64 → ((rd l0_1 (ji3)) / 2 ^ (ji6).toNat) = ji8 := shr_small hji8
    obtain rfl := Option.some.inj H
    have hcz9_0 : w.cell? ⟨g0, 0, none⟩ = some (.int .i64 a0_0) := (blk_cell BK0.out 0).trans rfl
    have hcz9_1 : w.cell? ⟨g0, 1, none⟩ = some (.slice A0_1 l0_1.length c0_1) := (blk_cell BK0.out 1).trans rfl
    have hfz9_0 := blk_frozen BK0.out 0
    have hfz9_1 := blk_frozen BK0.out 1
    have p221 : 0 ≤ ((ji3) : Int) := of_decide_eq_true (by first | (with_reducible assumption) | assumption)
    have q221 : (ji3) < (l0_1.length : Int) := of_decide_eq_true (by first | (with_reducible assumption) | assumption)
    obtain ⟨ad221, e221, hx221_0⟩ := Kd.at_int HR0_1.out (ji3) p221 q221
    cases e221
    replace p221 := eq_true p221
    replace q221 := eq_true q221
    go_enter Try.func82, Try.ntmps82
    go_wp2
    go_ret
    exact ⟨by first | rfl | (simp [errW_none, errW_some] <;> rfl) | (simp only [← hji3, ← hji6, ← hji8]; first | rfl | (simp [errW_none, errW_some] <;> rfl)) | (simp [*, errW_none, errW_some] <;> rfl), lw_ HB⟩
   ·rw [if_neg c7] at H
    exact absurd H (by simp)
  ·rw [if_neg c5] at H
   exact absurd H (by simp)
 ·rw [if_neg c4] at H
  exact absurd H (by simp)

/-! ### impl_joinBits: function 84 (by hand) -/
/-- What the closure of joinBits answers. -/
def impl_joinBits.of (a0_0 : Int) (l0_1 : List Int) (a1_0 : Int) (l1_1 : List Int) (i : Int) : Option Bool := if i < a0_0 then (impl_Bits_at.f a0_0 l0_1 i) else (impl_Bits_at.f a1_0 l1_1 (wrap64 (i - a0_0)))
def impl_joinBits.f (k : Nat) (a0_0 : Int) (l0_1 : List Int) (a1_0 : Int) (l1_1 : List Int) : Option (Int × List Int) := impl_madeBits.f k (wrap64 (a0_0 + a1_0)) (impl_joinBits.of a0_0 l0_1 a1_0 l1_1)
theorem impl_joinBits.mono : ∀ a0 a1 a2 a3 k, LeO (impl_joinBits.f k a0 a1 a2 a3) (impl_joinBits.f (k + 1) a0 a1 a2 a3) := by
 intro a0 a1 a2 a3 k
 unfold impl_joinBits.f
 exact impl_madeBits.mono _ _ _
set_option maxHeartbeats 8000000 in
set_option maxRecDepth 100000 in
theorem impl_joinBits.lit (ga gb : Nat) (a0_0 : Int) (A0_1 : Option Addr) (c0_1 : Nat) (l0_1 : List Int) (a1_0 : Int) (A1_1 : Option Addr) (c1_1 : Nat) (l1_1 : List Int) (i : Int) (r : Bool) (w : World) (hba : w.heap[ga]? = some (.cells #[.int .i64 a0_0, .slice A0_1 l0_1.length c0_1] 26 (0, 0))) (hbb : w.heap[gb]? = some (.cells #[.int .i64 a1_0, .slice A1_1 l1_1.length c1_1] 26 (0, 0))) (hr0 : Kd.C (Kd.int .i64) w A0_1 l0_1.length l0_1) (hc0 : l0_1.length ≤ c0_1) (hr1 : Kd.C (Kd.int .i64) w A1_1 l1_1.length l1_1) (hc1 : l1_1.length ≤ c1_1) (h : impl_joinBits.of a0_0 l0_1 a1_0 l1_1 i = some r) :
  Calls Try.prog 126 #[.int .i64 i, .pointer (some ⟨ga, 0, none⟩), .pointer (some ⟨gb, 0, none⟩)] w fun e w' => e = .returned (.bool r) ∧ Below w.heap.size w w' := by
 have HR0 := amH_ hr0
 have HC0 := amH_ hc0
 have HR1 := amH_ hr1
 have HC1 := amH_ hc1
 have BKga := amH_ hba
 have BKgb := amH_ hbb
 clear hr0 hc0 hr1 hc1 hba hbb
 have HB := amH_ (Below.refl w.heap.size w)
 have hcz0 : w.cell? ⟨ga, 0, none⟩ = some (.int .i64 a0_0) := (blk_cell BKga.out 0).trans rfl
 have hfz0 := blk_frozen BKga.out 0
 unfold impl_joinBits.of at h
 by_cases c : i < a0_0
 ·rw [if_pos c] at h
  have cb : decide (i < a0_0) = true := decide_eq_true c
  clear c
  have A1 := amH_ h
  clear h
  go_enter Try.func126, Try.ntmps126
  go_wp2_with (first | ((with_reducible refine gate_callee (f := 82) rfl ?_); refine goesL_ (some 10) rfl rfl Try.func82 (by kernel_rfl) rfl #[.pointer (some ⟨ga, 0, none⟩), .int .i64 i] rfl lmH_ ?_; (with_reducible refine (impl_Bits_at.calls ga [] 26 a0_0 A0_1 c0_1 l0_1 i r _ ?side1 ?side2 ?side3 A1.out).mono ?_); (case side1 => exact lb_ BKga); (case side2 => exact lc_ (Kd.C_below HR0.out HB.out)); (case side3 => exact HC0.out); rintro e w2 ⟨rfl, hb⟩; refine ⟨_, rfl, ?_⟩; replace HB := amH_ (below_step (lwH_ HB) hb); (try clear hb); (try clear ho0)))
  go_ret
  exact ⟨rfl, lwH_ HB⟩
 ·rw [if_neg c] at h
  have cb : decide (i < a0_0) = false := decide_eq_false c
  clear c
  have A1 := amH_ h
  clear h
  go_enter Try.func126, Try.ntmps126
  go_wp2_with (first | ((with_reducible refine gate_callee (f := 82) rfl ?_); refine goesL_ (some 15) rfl rfl Try.func82 (by kernel_rfl) rfl #[.pointer (some ⟨gb, 0, none⟩), .int .i64 (wrap64 (i - a0_0))] rfl lmH_ ?_; (with_reducible refine (impl_Bits_at.calls gb [] 26 a1_0 A1_1 c1_1 l1_1 (wrap64 (i - a0_0)) r _ ?side1 ?side2 ?side3 A1.out).mono ?_); (case side1 => exact lb_ BKgb); (case side2 => exact lc_ (Kd.C_below HR1.out HB.out)); (case side3 => exact HC1.out); rintro e w2 ⟨rfl, hb⟩; refine ⟨_, rfl, ?_⟩; replace HB := amH_ (below_step (lwH_ HB) hb); (try clear hb); (try clear ho0)))
  go_ret
  exact ⟨rfl, lwH_ HB⟩
set_option maxHeartbeats 8000000 in
set_option maxRecDepth 100000 in
theorem impl_joinBits.calls (k : Nat) (a0_0 : Int) (A0_1 : Option Addr) (c0_1 : Nat) (l0_1 : List Int) (a1_0 : Int) (A1_1 : Option Addr) (c1_1 : Nat) (l1_1 : List Int) (r1 : Int) (r2 : List Int) (w : World) (hr0_1 : Kd.C (Kd.int .i64) w A0_1 l0_1.length l0_1) (hc0_1 : l0_1.length ≤ c0_1) (hr1_1 : Kd.C (Kd.int .i64) w A1_1 l1_1.length l1_1) (hc1_1 : l1_1.length ≤ c1_1) (h : impl_joinBits.f k a0_0 l0_1 a1_0 l1_1 = some (r1, r2)) :
  Calls Try.prog 84 #[.agg #[.int .i64 a0_0, .slice A0_1 l0_1.length c0_1], .agg #[.int .i64 a1_0, .slice A1_1 l1_1.length c1_1]] w fun e w' => ∃ v1_ : Value, e = .returned (.agg #[.int .i64 r1, v1_]) ∧ Kd.R (Kd.int .i64) 3 w' w.heap.size (fun _ => True) v1_ r2 ∧ Below w.heap.size w w' := by
 have hu26 := Try.underlying26
 have hmf : ∀ (fn : Fn) (first cap : Array Value) (w : World), (Instr.makeFunc fn first cap).run Try.prog w = .ok (.func fn first cap) w := fun _ _ _ _ => rfl
 have HR0 := amH_ hr0_1
 have HC0 := amH_ hc0_1
 have HR1 := amH_ hr1_1
 have HC1 := amH_ hc1_1
 clear hr0_1 hc0_1 hr1_1 hc1_1
 have HB := amH_ (Below.refl w.heap.size w)
 have H : (impl_madeBits.f k (wrap64 (a0_0 + a1_0)) (impl_joinBits.of a0_0 l0_1 a1_0 l1_1)) = some (r1, r2) := h
 clear h
 have A1 := amH_ H
 clear H
 go_enter Try.func84, Try.ntmps84
 go_wp2_with (first | ((with_reducible refine gate_dst (N := 2) rfl ?_); refine bev_ 2 #[.int .i64 a0_0, .slice A0_1 l0_1.length c0_1] 26 rfl rfl ?_; intro g2 hg w1 hbox hb; have BKg2 := amH_ (hbox); have GEg2 := amH_ ((by rw [hg]; exact (below_size (lwH_ HB)) : w.heap.size ≤ g2)); replace HB := amH_ (below_step (lwH_ HB) hb); clear hb hbox hg) | ((with_reducible refine gate_dst (N := 3) rfl ?_); refine bev_ 3 #[.int .i64 a1_0, .slice A1_1 l1_1.length c1_1] 26 rfl rfl ?_; intro g3 hg w2 hbox hb; have BKg3 := amH_ (hbox); have GEg3 := amH_ ((by rw [hg]; exact (below_size (lwH_ HB)) : w.heap.size ≤ g3)); have NBg2_g3 := amH_ ((by rw [hg]; exact Nat.ne_of_lt (blk_lt (g := g2) (lbH_ BKg2)) : g2 ≠ g3)); have NBg3_g2 := amH_ ((by rw [hg]; exact Nat.ne_of_gt (blk_lt (g := g2) (lbH_ BKg2)) : g3 ≠ g2)); replace BKg2 := amH_ (blk_below (lbH_ BKg2) hb); replace HB := amH_ (below_step (lwH_ HB) hb); clear hb hbox hg) | ((with_reducible refine gate_dst (N := 4) rfl ?_); refine bev_ 4 #[.int .i64 0, .slice none 0 0] 26 rfl rfl ?_; intro g4 hg w3 hbox hb; have BKg4 := amH_ (hbox); have GEg4 := amH_ ((by rw [hg]; exact (below_size (lwH_ HB)) : w.heap.size ≤ g4)); have NBg2_g4 := amH_ ((by rw [hg]; exact Nat.ne_of_lt (blk_lt (g := g2) (lbH_ BKg2)) : g2 ≠ g4)); have NBg4_g2 := amH_ ((by rw [hg]; exact Nat.ne_of_gt (blk_lt (g := g2) (lbH_ BKg2)) : g4 ≠ g2)); have NBg3_g4 := amH_ ((by rw [hg]; exact Nat.ne_of_lt (blk_lt (g := g3) (lbH_ BKg3)) : g3 ≠ g4)); have NBg4_g3 := amH_ ((by rw [hg]; exact Nat.ne_of_gt (blk_lt (g := g3) (lbH_ BKg3)) : g4 ≠ g3)); replace BKg2 := amH_ (blk_below (lbH_ BKg2) hb); replace BKg3 := amH_ (blk_below (lbH_ BKg3) hb); replace HB := amH_ (below_step (lwH_ HB) hb); clear hb hbox hg; have hcz2_0 : w3.cell? ⟨g2, 0, none⟩ = some (.int .i64 a0_0) := (blk_cell BKg2.out 0).trans rfl; have hfz2_0 := blk_frozen BKg2.out 0; have hcz3_0 : w3.cell? ⟨g3, 0, none⟩ = some (.int .i64 a1_0) := (blk_cell BKg3.out 0).trans rfl; have hfz3_0 := blk_frozen BKg3.out 0) | ((with_reducible refine gate_callee (f := 80) rfl ?_); refine goesL_ (some 11) rfl rfl Try.func80 (by kernel_rfl) rfl #[.int .i64 (wrap64 (a0_0 + a1_0)), .func (.func 126) #[] #[.pointer (some ⟨g2, 0, none⟩), .pointer (some ⟨g3, 0, none⟩)]] rfl lmH_ ?_; (with_reducible refine (impl_madeBits.calls k 126 Try.f126 #[.pointer (some ⟨g2, 0, none⟩), .pointer (some ⟨g3, 0, none⟩)] Try.func126 (by kernel_rfl) (by kernel_rfl) (wrap64 (a0_0 + a1_0)) (impl_joinBits.of a0_0 l0_1 a1_0 l1_1) r1 r2 _ ?side1 A1.out).mono ?_); (case side1 => intro i_ b_ w_ hg_ hb_; exact impl_joinBits.lit g2 g3 a0_0 A0_1 c0_1 l0_1 a1_0 A1_1 c1_1 l1_1 i_ b_ w_ (blk_below (lbH_ BKg2) hb_) (blk_below (lbH_ BKg3) hb_) (Kd.C_below (Kd.C_below HR0.out (lwH_ HB)) hb_) HC0.out (Kd.C_below (Kd.C_below HR1.out (lwH_ HB)) hb_) HC1.out hg_); rintro e w4 ⟨v11, rfl, ho0, hb⟩; refine ⟨_, rfl, ?_⟩; have HO := amH_ (Kd.R_lower ho0 (below_size (lwH_ HB))); replace BKg2 := amH_ (blk_below (lbH_ BKg2) hb); replace BKg3 := amH_ (blk_below (lbH_ BKg3) hb); replace BKg4 := amH_ (blk_below (lbH_ BKg4) hb); replace HB := amH_ (below_step (lwH_ HB) hb); (try clear hb); (try clear ho0); have hn0g4g3 := NBg4_g3.out; have hn1g3g4 := NBg3_g4.out; have hn2g4g2 := NBg4_g2.out; have hn3g2g4 := NBg2_g4.out; have hcz4_0 : w4.cell? ⟨g4, 0, none⟩ = some (.int .i64 0) := (blk_cell BKg4.out 0).trans rfl; have hfz4_0 := blk_frozen BKg4.out 0; have hcz4_1 : w4.cell? ⟨g4, 1, none⟩ = some (.slice none 0 0) := (blk_cell BKg4.out 1).trans rfl; have hfz4_1 := blk_frozen BKg4.out 1; obtain ⟨Ao, co, eo⟩ := Kd.R_slice HO.out; subst eo))
 refine bodyPost_ret (results_cell_row rfl _ _ g4 26 #[.int .i64 r1, .slice Ao r2.length co] (0, 0) _ rfl (lq_ BKg4) Try.underlying26 rfl (by kernel_rfl)) rfl ?_
 exact ⟨_, rfl, lt_ (mt_ (fr2_ HO.out BKg4.out (.int .i64 r1) (.slice Ao r2.length co))), lwH_ HB⟩

/-! ### impl_JoinBits: function 26 -/
def impl_JoinBits.f (k : Nat) (a0_0 : Int) (l0_1 : List Int) (a1_0 : Int) (l1_1 : List Int) : Option (Int × List Int × Bool) := (impl_IsBits.f k a0_0 l0_1).bind fun t225 => (if t225 = true then ((impl_IsBits.f k a1_0 l1_1).bind fun t226 => (if t226 = true then (if (wrap64 (a0_0 + a1_0)) > 4096 then (some (0, ([] : List Int), false)) else ((impl_joinBits.f k a0_0 l0_1 a1_0 l1_1).bind fun bt227 => (some (bt227.1, bt227.2, true)))) else (some (0, ([] : List Int), false)))) else (some (0, ([] : List Int), false)))
theorem impl_JoinBits.mono : ∀ a0 a1 a2 a3 k, LeO (impl_JoinBits.f k a0 a1 a2 a3) (impl_JoinBits.f (k + 1) a0 a1 a2 a3) := by
 intro a0 a1 a2 a3 k
 unfold impl_JoinBits.f
 repeat' first
   | (with_reducible exact impl_IsBits.mono _ _ _)
   | (with_reducible exact impl_joinBits.mono _ _ _ _ _)
   | (with_reducible exact LeO.refl _)
   | (with_reducible exact LeO.none _)
   | (with_reducible refine LeO.ite ?_ ?_)
   | (with_reducible refine LeO.bind ?_ (fun _ => ?_))
   | exact impl_IsBits.mono _ _ _
   | exact impl_joinBits.mono _ _ _ _ _
   | exact LeO.none _
   | refine LeO.ite ?_ ?_
   | refine LeO.bind ?_ (fun _ => ?_)
set_option maxHeartbeats 8000000 in
set_option maxRecDepth 100000 in
theorem impl_JoinBits.calls (k : Nat) (a0_0 : Int) (A0_1 : Option Addr) (c0_1 : Nat) (l0_1 : List Int) (a1_0 : Int) (A1_1 : Option Addr) (c1_1 : Nat) (l1_1 : List Int) (r1 : Int) (r2 : List Int) (r3 : Bool) (w : World) (hr0_1 : Kd.C (Kd.int .i64) w A0_1 l0_1.length l0_1) (hc0_1 : l0_1.length ≤ c0_1) (hr1_1 : Kd.C (Kd.int .i64) w A1_1 l1_1.length l1_1) (hc1_1 : l1_1.length ≤ c1_1) (h : impl_JoinBits.f k a0_0 l0_1 a1_0 l1_1 = some (r1, r2, r3)) :
  Calls Try.prog 26 #[.agg #[.int .i64 a0_0, .slice A0_1 l0_1.length c0_1], .agg #[.int .i64 a1_0, .slice A1_1 l1_1.length c1_1]] w fun e w' => ∃ v1_ : Value, e = .returned (.tuple #[.agg #[.int .i64 r1, v1_], .bool r3]) ∧ Kd.R (Kd.int .i64) 3 w' w.heap.size (fun _ => True) v1_ r2 ∧ Below w.heap.size w w' := by
 have hu26 := Try.underlying26
 have HR0_1 := am_ hr0_1
 have HC0_1 := am_ hc0_1
 clear hr0_1 hc0_1
 have HR1_1 := am_ hr1_1
 have HC1_1 := am_ hc1_1
 clear hr1_1 hc1_1
 have HB := am_ (Below.refl w.heap.size w)
 have H : ((impl_IsBits.f k a0_0 l0_1).bind fun t225 => (if t225 = true then ((impl_IsBits.f k a1_0 l1_1).bind fun t226 => (if t226 = true then (if (wrap64 (a0_0 + a1_0)) > 4096 then (some (0, ([] : List Int), false)) else ((impl_joinBits.f k a0_0 l0_1 a1_0 l1_1).bind fun bt227 => (some (bt227.1, bt227.2, true)))) else (some (0, ([] : List Int), false)))) else (some (0, ([] : List Int), false)))) = some (r1, r2, r3) := h
 clear h
 replace H := Option.bind_eq_some_iff.mp H
 obtain ⟨t225, A30, H⟩ := H
 replace H : (if t225 = true then ((impl_IsBits.f k a1_0 l1_1).bind fun t226 => (if t226 = true then (if (wrap64 (a0_0 + a1_0)) > 4096 then (some (0, ([] : List Int), false)) else ((impl_joinBits.f k a0_0 l0_1 a1_0 l1_1).bind fun bt227 => (some (bt227.1, bt227.2, true)))) else (some (0, ([] : List Int), false)))) else (some (0, ([] : List Int), false))) = some (r1, r2, r3) := H
 have A3 := am_ A30
 clear A30
 by_cases c4 : t225 = true
 ·subst c4
  have H1 : ((impl_IsBits.f k a1_0 l1_1).bind fun t226 => (if t226 = true then (if (wrap64 (a0_0 + a1_0)) > 4096 then (some (0, ([] : List Int), false)) else ((impl_joinBits.f k a0_0 l0_1 a1_0 l1_1).bind fun bt227 => (some (bt227.1, bt227.2, true)))) else (some (0, ([] : List Int), false)))) = some (r1, r2, r3) := by rw [if_pos rfl] at H; exact H
  clear H
  have H := H1
  clear H1
  replace H := Option.bind_eq_some_iff.mp H
  obtain ⟨t226, A50, H⟩ := H
  replace H : (if t226 = true then (if (wrap64 (a0_0 + a1_0)) > 4096 then (some (0, ([] : List Int), false)) else ((impl_joinBits.f k a0_0 l0_1 a1_0 l1_1).bind fun bt227 => (some (bt227.1, bt227.2, true)))) else (some (0, ([] : List Int), false))) = some (r1, r2, r3) := H
  have A5 := am_ A50
  clear A50
  by_cases c6 : t226 = true
  ·subst c6
   have H1 : (if (wrap64 (a0_0 + a1_0)) > 4096 then (some (0, ([] : List Int), false)) else ((impl_joinBits.f k a0_0 l0_1 a1_0 l1_1).bind fun bt227 => (some (bt227.1, bt227.2, true)))) = some (r1, r2, r3) := by rw [if_pos rfl] at H; exact H
   clear H
   have H := H1
   clear H1
   by_cases c7 : (wrap64 (a0_0 + a1_0)) > 4096
   ·rw [if_pos c7] at H
    have c7b0 : decide (4096 < (wrap64 (a0_0 + a1_0))) = true := decide_eq_true c7
    clear c7
    simp only [Option.some.injEq, Prod.mk.injEq] at H
    obtain ⟨rfl, rfl, rfl⟩ := H
    go_enter Try.func26, Try.ntmps26
    go_wp2_with (first | ((with_reducible refine gate_dst (N := 2) rfl ?_); refine bev_ 2 #[.int .i64 a0_0, .slice A0_1 l0_1.length c0_1] 26 rfl rfl ?_; intro gb222 hg w8 hbox hb; have BK222 := am_ (hbox); have GW222 := am_ ((by rw [hg]; exact (below_size (lw_ HB)) : w.heap.size ≤ gb222)); have GE222 := am_ ((by rw [hg]; exact (below_size (lw_ HB)) : w.heap.size ≤ gb222)); replace HB := am_ (below_step (lw_ HB) hb); clear hb hbox hg) | ((with_reducible refine gate_dst (N := 3) rfl ?_); refine bev_ 3 #[.int .i64 a1_0, .slice A1_1 l1_1.length c1_1] 26 rfl rfl ?_; intro gb223 hg w9 hbox hb; have BK223 := am_ (hbox); have GW223 := am_ ((by rw [hg]; exact (below_size (lw_ HB)) : w.heap.size ≤ gb223)); have GE223 := am_ ((by rw [hg]; exact (below_size (lw_ HB)) : w.heap.size ≤ gb223)); have NB222_223 := am_ ((by rw [hg]; exact Nat.ne_of_lt (blk_lt (g := gb222) (lb_ BK222)) : gb222 ≠ gb223)); have NB223_222 := am_ ((by rw [hg]; exact Nat.ne_of_gt (blk_lt (g := gb222) (lb_ BK222)) : gb223 ≠ gb222)); replace BK222 := am_ (blk_below (g := gb222) (lb_ BK222) hb); replace HB := am_ (below_step (lw_ HB) hb); clear hb hbox hg) | ((with_reducible refine gate_dst (N := 4) rfl ?_); refine bev_ 4 #[.int .i64 0, .slice none 0 0] 26 rfl rfl ?_; intro gb224 hg w10 hbox hb; have BK224 := am_ (hbox); have GW224 := am_ ((by rw [hg]; exact (below_size (lw_ HB)) : w.heap.size ≤ gb224)); have GE224 := am_ ((by rw [hg]; exact (below_size (lw_ HB)) : w.heap.size ≤ gb224)); have NB222_224 := am_ ((by rw [hg]; exact Nat.ne_of_lt (blk_lt (g := gb222) (lb_ BK222)) : gb222 ≠ gb224)); have NB224_222 := am_ ((by rw [hg]; exact Nat.ne_of_gt (blk_lt (g := gb222) (lb_ BK222)) : gb224 ≠ gb222)); have NB223_224 := am_ ((by rw [hg]; exact Nat.ne_of_lt (blk_lt (g := gb223) (lb_ BK223)) : gb223 ≠ gb224)); have NB224_223 := am_ ((by rw [hg]; exact Nat.ne_of_gt (blk_lt (g := gb223) (lb_ BK223)) : gb224 ≠ gb223)); replace BK222 := am_ (blk_below (g := gb222) (lb_ BK222) hb); replace BK223 := am_ (blk_below (g := gb223) (lb_ BK223) hb); replace HB := am_ (below_step (lw_ HB) hb); clear hb hbox hg; have hnb11 := NB222_223.out; have hnc11 := NB223_222.out; have hnb12 := NB222_224.out; have hnc12 := NB224_222.out; obtain ⟨hcz13_0, hcz13_1, hfz13_0, hfz13_1⟩ := bx2_ BK222.out) | ((with_reducible refine gate_callee (f := 73) rfl ?_); refine goesL_ (some 7) rfl rfl Try.func73 (by kernel_rfl) rfl #[.agg #[.int .i64 a0_0, .slice A0_1 l0_1.length c0_1]] rfl lm_ ?_; (with_reducible refine (impl_IsBits.calls k a0_0 _ _ l0_1 true _ ?side1 ?side2 A3.out).mono ?_); (case side1 => exact lc_ (Kd.C_below HR0_1.out HB.out)); (case side2 => exact HC0_1.out); rintro e w14 ⟨rfl, hb⟩; refine ⟨_, rfl, ?_⟩; replace BK222 := am_ (blk_below (g := gb222) (lb_ BK222) hb); replace BK223 := am_ (blk_below (g := gb223) (lb_ BK223) hb); replace BK224 := am_ (blk_below (g := gb224) (lb_ BK224) hb); replace HB := am_ (below_step (lw_ HB) hb); (try clear hb); (try clear hb2); (try clear hk); (try clear hi); have hnb15 := NB223_224.out; have hnc15 := NB224_223.out; obtain ⟨hcz16_0, hcz16_1, hfz16_0, hfz16_1⟩ := bx2_ BK223.out) | (go_at_call 73; (with_reducible refine (impl_IsBits.calls k a1_0 _ _ l1_1 true _ ?side1 ?side2 A5.out).mono ?_); (case side1 => exact lc_ (Kd.C_below HR1_1.out HB.out)); (case side2 => exact HC1_1.out); rintro e w17 ⟨rfl, hb⟩; replace BK222 := am_ (blk_below (g := gb222) (lb_ BK222) hb); replace BK223 := am_ (blk_below (g := gb223) (lb_ BK223) hb); replace BK224 := am_ (blk_below (g := gb224) (lb_ BK224) hb); replace HB := am_ (below_step (lw_ HB) hb); (try clear hb); (try clear hb2); (try clear hk); (try clear hi); obtain ⟨hcz18_0, hcz18_1, hfz18_0, hfz18_1⟩ := bx2_ BK222.out; obtain ⟨hcz19_0, hcz19_1, hfz19_0, hfz19_1⟩ := bx2_ BK223.out; obtain ⟨hcz20_0, hcz20_1, hfz20_0, hfz20_1⟩ := bx2_ BK224.out))
    refine bodyPost_ret (results_ct rfl _ _ gb224 26 #[.int .i64 0, .slice none 0 0] (0, 0) _ rfl (lq_ BK224) Try.underlying26 rfl (by kernel_rfl)) rfl ?_
    exact ⟨_, er_, by first | exact Kd.R_nil _ _ _ _ _ | exact Kd.N_nil _ _ _ _ _ | exact Kd.V_nil _ _ _ _ _ | exact Kd.Q_nil _ _ _ _ _ | exact Kd.S_nil _ _ _ _ _, lw_ HB⟩
   ·rw [if_neg c7] at H
    have c7b0 : decide (4096 < (wrap64 (a0_0 + a1_0))) = false := decide_eq_false c7
    clear c7
    replace H := Option.bind_eq_some_iff.mp H
    obtain ⟨⟨t227, t228⟩, A210, H⟩ := H
    replace H : (some (t227, t228, true)) = some (r1, r2, r3) := H
    have A21 := am_ A210
    clear A210
    simp only [Option.some.injEq, Prod.mk.injEq] at H
    obtain ⟨rfl, rfl, rfl⟩ := H
    go_enter Try.func26, Try.ntmps26
    go_wp2_with (first | ((with_reducible refine gate_dst (N := 2) rfl ?_); refine bev_ 2 #[.int .i64 a0_0, .slice A0_1 l0_1.length c0_1] 26 rfl rfl ?_; intro gb222 hg w22 hbox hb; have BK222 := am_ (hbox); have GW222 := am_ ((by rw [hg]; exact (below_size (lw_ HB)) : w.heap.size ≤ gb222)); have GE222 := am_ ((by rw [hg]; exact (below_size (lw_ HB)) : w.heap.size ≤ gb222)); replace HB := am_ (below_step (lw_ HB) hb); clear hb hbox hg) | ((with_reducible refine gate_dst (N := 3) rfl ?_); refine bev_ 3 #[.int .i64 a1_0, .slice A1_1 l1_1.length c1_1] 26 rfl rfl ?_; intro gb223 hg w23 hbox hb; have BK223 := am_ (hbox); have GW223 := am_ ((by rw [hg]; exact (below_size (lw_ HB)) : w.heap.size ≤ gb223)); have GE223 := am_ ((by rw [hg]; exact (below_size (lw_ HB)) : w.heap.size ≤ gb223)); have NB222_223 := am_ ((by rw [hg]; exact Nat.ne_of_lt (blk_lt (g := gb222) (lb_ BK222)) : gb222 ≠ gb223)); have NB223_222 := am_ ((by rw [hg]; exact Nat.ne_of_gt (blk_lt (g := gb222) (lb_ BK222)) : gb223 ≠ gb222)); replace BK222 := am_ (blk_below (g := gb222) (lb_ BK222) hb); replace HB := am_ (below_step (lw_ HB) hb); clear hb hbox hg) | ((with_reducible refine gate_dst (N := 4) rfl ?_); refine bev_ 4 #[.int .i64 0, .slice none 0 0] 26 rfl rfl ?_; intro gb224 hg w24 hbox hb; have BK224 := am_ (hbox); have GW224 := am_ ((by rw [hg]; exact (below_size (lw_ HB)) : w.heap.size ≤ gb224)); have GE224 := am_ ((by rw [hg]; exact (below_size (lw_ HB)) : w.heap.size ≤ gb224)); have NB222_224 := am_ ((by rw [hg]; exact Nat.ne_of_lt (blk_lt (g := gb222) (lb_ BK222)) : gb222 ≠ gb224)); have NB224_222 := am_ ((by rw [hg]; exact Nat.ne_of_gt (blk_lt (g := gb222) (lb_ BK222)) : gb224 ≠ gb222)); have NB223_224 := am_ ((by rw [hg]; exact Nat.ne_of_lt (blk_lt (g := gb223) (lb_ BK223)) : gb223 ≠ gb224)); have NB224_223 := am_ ((by rw [hg]; exact Nat.ne_of_gt (blk_lt (g := gb223) (lb_ BK223)) : gb224 ≠ gb223)); replace BK222 := am_ (blk_below (g := gb222) (lb_ BK222) hb); replace BK223 := am_ (blk_below (g := gb223) (lb_ BK223) hb); replace HB := am_ (below_step (lw_ HB) hb); clear hb hbox hg; have hnb25 := NB222_223.out; have hnc25 := NB223_222.out; have hnb26 := NB222_224.out; have hnc26 := NB224_222.out; obtain ⟨hcz27_0, hcz27_1, hfz27_0, hfz27_1⟩ := bx2_ BK222.out) | ((with_reducible refine gate_callee (f := 73) rfl ?_); refine goesL_ (some 7) rfl rfl Try.func73 (by kernel_rfl) rfl #[.agg #[.int .i64 a0_0, .slice A0_1 l0_1.length c0_1]] rfl lm_ ?_; (with_reducible refine (impl_IsBits.calls k a0_0 _ _ l0_1 true _ ?side1 ?side2 A3.out).mono ?_); (case side1 => exact lc_ (Kd.C_below HR0_1.out HB.out)); (case side2 => exact HC0_1.out); rintro e w28 ⟨rfl, hb⟩; refine ⟨_, rfl, ?_⟩; replace BK222 := am_ (blk_below (g := gb222) (lb_ BK222) hb); replace BK223 := am_ (blk_below (g := gb223) (lb_ BK223) hb); replace BK224 := am_ (blk_below (g := gb224) (lb_ BK224) hb); replace HB := am_ (below_step (lw_ HB) hb); (try clear hb); (try clear hb2); (try clear hk); (try clear hi); have hnb29 := NB223_224.out; have hnc29 := NB224_223.out; obtain ⟨hcz30_0, hcz30_1, hfz30_0, hfz30_1⟩ := bx2_ BK223.out) | (go_at_call 73; (with_reducible refine (impl_IsBits.calls k a1_0 _ _ l1_1 true _ ?side1 ?side2 A5.out).mono ?_); (case side1 => exact lc_ (Kd.C_below HR1_1.out HB.out)); (case side2 => exact HC1_1.out); rintro e w31 ⟨rfl, hb⟩; replace BK222 := am_ (blk_below (g := gb222) (lb_ BK222) hb); replace BK223 := am_ (blk_below (g := gb223) (lb_ BK223) hb); replace BK224 := am_ (blk_below (g := gb224) (lb_ BK224) hb); replace HB := am_ (below_step (lw_ HB) hb); (try clear hb); (try clear hb2); (try clear hk); (try clear hi); obtain ⟨hcz32_0, hcz32_1, hfz32_0, hfz32_1⟩ := bx2_ BK222.out; obtain ⟨hcz33_0, hcz33_1, hfz33_0, hfz33_1⟩ := bx2_ BK223.out) | ((with_reducible refine gate_callee (f := 84) rfl ?_); refine goesL_ (some 25) rfl rfl Try.func84 (by kernel_rfl) rfl #[.agg #[.int .i64 a0_0, .slice A0_1 l0_1.length c0_1], .agg #[.int .i64 a1_0, .slice A1_1 l1_1.length c1_1]] rfl lm_ ?_; (with_reducible refine (impl_joinBits.calls k a0_0 _ _ l0_1 a1_0 _ _ l1_1 t227 t228 _ ?side1 ?side2 ?side3 ?side4 A21.out).mono ?_); (case side1 => exact lc_ (Kd.C_below HR0_1.out HB.out)); (case side2 => exact HC0_1.out); (case side3 => exact lc_ (Kd.C_below HR1_1.out HB.out)); (case side4 => exact HC1_1.out); rintro e w34 ⟨v229, rfl, ho0, hb⟩; refine ⟨_, rfl, ?_⟩; have HO230 := am_ (Kd.R_lower ho0 (below_size (lw_ HB))); replace BK222 := am_ (blk_below (g := gb222) (lb_ BK222) hb); replace BK223 := am_ (blk_below (g := gb223) (lb_ BK223) hb); replace BK224 := am_ (blk_below (g := gb224) (lb_ BK224) hb); replace HB := am_ (below_step (lw_ HB) hb); (try clear hb); (try clear hb2); (try clear hk); (try clear hi); (try clear ho0); obtain ⟨hcz35_0, hcz35_1, hfz35_0, hfz35_1⟩ := bx2_ BK224.out; obtain ⟨Ao36, co36, eo36⟩ := Kd.R_slice HO230.out; subst eo36))
    refine bodyPost_ret (results_ct rfl _ _ gb224 26 #[.int .i64 t227, .slice Ao36 t228.length co36] (0, 0) _ rfl (lq_ BK224) Try.underlying26 rfl (by kernel_rfl)) rfl ?_
    exact ⟨_, er_, lt_ (mt_ (fr2_ HO230.out BK224.out (.int .i64 t227) (.slice Ao36 t228.length co36))), lw_ HB⟩
  ·replace c6 := Bool.eq_false_iff.mpr c6
   subst c6
   have H1 : (some (0, ([] : List Int), false)) = some (r1, r2, r3) := by rw [if_neg (show ¬ (false = true) by decide)] at H; exact H
   clear H
   have H := H1
   clear H1
   simp only [Option.some.injEq, Prod.mk.injEq] at H
   obtain ⟨rfl, rfl, rfl⟩ := H
   go_enter Try.func26, Try.ntmps26
   go_wp2_with (first | ((with_reducible refine gate_dst (N := 2) rfl ?_); refine bev_ 2 #[.int .i64 a0_0, .slice A0_1 l0_1.length c0_1] 26 rfl rfl ?_; intro gb222 hg w37 hbox hb; have BK222 := am_ (hbox); have GW222 := am_ ((by rw [hg]; exact (below_size (lw_ HB)) : w.heap.size ≤ gb222)); have GE222 := am_ ((by rw [hg]; exact (below_size (lw_ HB)) : w.heap.size ≤ gb222)); replace HB := am_ (below_step (lw_ HB) hb); clear hb hbox hg) | ((with_reducible refine gate_dst (N := 3) rfl ?_); refine bev_ 3 #[.int .i64 a1_0, .slice A1_1 l1_1.length c1_1] 26 rfl rfl ?_; intro gb223 hg w38 hbox hb; have BK223 := am_ (hbox); have GW223 := am_ ((by rw [hg]; exact (below_size (lw_ HB)) : w.heap.size ≤ gb223)); have GE223 := am_ ((by rw [hg]; exact (below_size (lw_ HB)) : w.heap.size ≤ gb223)); have NB222_223 := am_ ((by rw [hg]; exact Nat.ne_of_lt (blk_lt (g := gb222) (lb_ BK222)) : gb222 ≠ gb223)); have NB223_222 := am_ ((by rw [hg]; exact Nat.ne_of_gt (blk_lt (g := gb222) (lb_ BK222)) : gb223 ≠ gb222)); replace BK222 := am_ (blk_below (g := gb222) (lb_ BK222) hb); replace HB := am_ (below_step (lw_ HB) hb); clear hb hbox hg) | ((with_reducible refine gate_dst (N := 4) rfl ?_); refine bev_ 4 #[.int .i64 0, .slice none 0 0] 26 rfl rfl ?_; intro gb224 hg w39 hbox hb; have BK224 := am_ (hbox); have GW224 := am_ ((by rw [hg]; exact (below_size (lw_ HB)) : w.heap.size ≤ gb224)); have GE224 := am_ ((by rw [hg]; exact (below_size (lw_ HB)) : w.heap.size ≤ gb224)); have NB222_224 := am_ ((by rw [hg]; exact Nat.ne_of_lt (blk_lt (g := gb222) (lb_ BK222)) : gb222 ≠ gb224)); have NB224_222 := am_ ((by rw [hg]; exact Nat.ne_of_gt (blk_lt (g := gb222) (lb_ BK222)) : gb224 ≠ gb222)); have NB223_224 := am_ ((by rw [hg]; exact Nat.ne_of_lt (blk_lt (g := gb223) (lb_ BK223)) : gb223 ≠ gb224)); have NB224_223 := am_ ((by rw [hg]; exact Nat.ne_of_gt (blk_lt (g := gb223) (lb_ BK223)) : gb224 ≠ gb223)); replace BK222 := am_ (blk_below (g := gb222) (lb_ BK222) hb); replace BK223 := am_ (blk_below (g := gb223) (lb_ BK223) hb); replace HB := am_ (below_step (lw_ HB) hb); clear hb hbox hg; have hnb40 := NB222_223.out; have hnc40 := NB223_222.out; have hnb41 := NB222_224.out; have hnc41 := NB224_222.out; obtain ⟨hcz42_0, hcz42_1, hfz42_0, hfz42_1⟩ := bx2_ BK222.out) | ((with_reducible refine gate_callee (f := 73) rfl ?_); refine goesL_ (some 7) rfl rfl Try.func73 (by kernel_rfl) rfl #[.agg #[.int .i64 a0_0, .slice A0_1 l0_1.length c0_1]] rfl lm_ ?_; (with_reducible refine (impl_IsBits.calls k a0_0 _ _ l0_1 true _ ?side1 ?side2 A3.out).mono ?_); (case side1 => exact lc_ (Kd.C_below HR0_1.out HB.out)); (case side2 => exact HC0_1.out); rintro e w43 ⟨rfl, hb⟩; refine ⟨_, rfl, ?_⟩; replace BK222 := am_ (blk_below (g := gb222) (lb_ BK222) hb); replace BK223 := am_ (blk_below (g := gb223) (lb_ BK223) hb); replace BK224 := am_ (blk_below (g := gb224) (lb_ BK224) hb); replace HB := am_ (below_step (lw_ HB) hb); (try clear hb); (try clear hb2); (try clear hk); (try clear hi); have hnb44 := NB223_224.out; have hnc44 := NB224_223.out; obtain ⟨hcz45_0, hcz45_1, hfz45_0, hfz45_1⟩ := bx2_ BK223.out) | (go_at_call 73; (with_reducible refine (impl_IsBits.calls k a1_0 _ _ l1_1 false _ ?side1 ?side2 A5.out).mono ?_); (case side1 => exact lc_ (Kd.C_below HR1_1.out HB.out)); (case side2 => exact HC1_1.out); rintro e w46 ⟨rfl, hb⟩; replace BK222 := am_ (blk_below (g := gb222) (lb_ BK222) hb); replace BK223 := am_ (blk_below (g := gb223) (lb_ BK223) hb); replace BK224 := am_ (blk_below (g := gb224) (lb_ BK224) hb); replace HB := am_ (below_step (lw_ HB) hb); (try clear hb); (try clear hb2); (try clear hk); (try clear hi); obtain ⟨hcz47_0, hcz47_1, hfz47_0, hfz47_1⟩ := bx2_ BK224.out))
   refine bodyPost_ret (results_ct rfl _ _ gb224 26 #[.int .i64 0, .slice none 0 0] (0, 0) _ rfl (lq_ BK224) Try.underlying26 rfl (by kernel_rfl)) rfl ?_
   exact ⟨_, er_, by first | exact Kd.R_nil _ _ _ _ _ | exact Kd.N_nil _ _ _ _ _ | exact Kd.V_nil _ _ _ _ _ | exact Kd.Q_nil _ _ _ _ _ | exact Kd.S_nil _ _ _ _ _, lw_ HB⟩
 ·replace c4 := Bool.eq_false_iff.mpr c4
  subst c4
  have H1 : (some (0, ([] : List Int), false)) = some (r1, r2, r3) := by rw [if_neg (show ¬ (false = true) by decide)] at H; exact H
  clear H
  have H := H1
  clear H1
  simp only [Option.some.injEq, Prod.mk.injEq] at H
  obtain ⟨rfl, rfl, rfl⟩ := H
  go_enter Try.func26, Try.ntmps26
  go_wp2_with (first | ((with_reducible refine gate_dst (N := 2) rfl ?_); refine bev_ 2 #[.int .i64 a0_0, .slice A0_1 l0_1.length c0_1] 26 rfl rfl ?_; intro gb222 hg w48 hbox hb; have BK222 := am_ (hbox); have GW222 := am_ ((by rw [hg]; exact (below_size (lw_ HB)) : w.heap.size ≤ gb222)); have GE222 := am_ ((by rw [hg]; exact (below_size (lw_ HB)) : w.heap.size ≤ gb222)); replace HB := am_ (below_step (lw_ HB) hb); clear hb hbox hg) | ((with_reducible refine gate_dst (N := 3) rfl ?_); refine bev_ 3 #[.int .i64 a1_0, .slice A1_1 l1_1.length c1_1] 26 rfl rfl ?_; intro gb223 hg w49 hbox hb; have BK223 := am_ (hbox); have GW223 := am_ ((by rw [hg]; exact (below_size (lw_ HB)) : w.heap.size ≤ gb223)); have GE223 := am_ ((by rw [hg]; exact (below_size (lw_ HB)) : w.heap.size ≤ gb223)); have NB222_223 := am_ ((by rw [hg]; exact Nat.ne_of_lt (blk_lt (g := gb222) (lb_ BK222)) : gb222 ≠ gb223)); have NB223_222 := am_ ((by rw [hg]; exact Nat.ne_of_gt (blk_lt (g := gb222) (lb_ BK222)) : gb223 ≠ gb222)); replace BK222 := am_ (blk_below (g := gb222) (lb_ BK222) hb); replace HB := am_ (below_step (lw_ HB) hb); clear hb hbox hg) | ((with_reducible refine gate_dst (N := 4) rfl ?_); refine bev_ 4 #[.int .i64 0, .slice none 0 0] 26 rfl rfl ?_; intro gb224 hg w50 hbox hb; have BK224 := am_ (hbox); have GW224 := am_ ((by rw [hg]; exact (below_size (lw_ HB)) : w.heap.size ≤ gb224)); have GE224 := am_ ((by rw [hg]; exact (below_size (lw_ HB)) : w.heap.size ≤ gb224)); have NB222_224 := am_ ((by rw [hg]; exact Nat.ne_of_lt (blk_lt (g := gb222) (lb_ BK222)) : gb222 ≠ gb224)); have NB224_222 := am_ ((by rw [hg]; exact Nat.ne_of_gt (blk_lt (g := gb222) (lb_ BK222)) : gb224 ≠ gb222)); have NB223_224 := am_ ((by rw [hg]; exact Nat.ne_of_lt (blk_lt (g := gb223) (lb_ BK223)) : gb223 ≠ gb224)); have NB224_223 := am_ ((by rw [hg]; exact Nat.ne_of_gt (blk_lt (g := gb223) (lb_ BK223)) : gb224 ≠ gb223)); replace BK222 := am_ (blk_below (g := gb222) (lb_ BK222) hb); replace BK223 := am_ (blk_below (g := gb223) (lb_ BK223) hb); replace HB := am_ (below_step (lw_ HB) hb); clear hb hbox hg; have hnb51 := NB222_223.out; have hnc51 := NB223_222.out; have hnb52 := NB222_224.out; have hnc52 := NB224_222.out; obtain ⟨hcz53_0, hcz53_1, hfz53_0, hfz53_1⟩ := bx2_ BK222.out) | ((with_reducible refine gate_callee (f := 73) rfl ?_); refine goesL_ (some 7) rfl rfl Try.func73 (by kernel_rfl) rfl #[.agg #[.int .i64 a0_0, .slice A0_1 l0_1.length c0_1]] rfl lm_ ?_; (with_reducible refine (impl_IsBits.calls k a0_0 _ _ l0_1 false _ ?side1 ?side2 A3.out).mono ?_); (case side1 => exact lc_ (Kd.C_below HR0_1.out HB.out)); (case side2 => exact HC0_1.out); rintro e w54 ⟨rfl, hb⟩; refine ⟨_, rfl, ?_⟩; replace BK222 := am_ (blk_below (g := gb222) (lb_ BK222) hb); replace BK223 := am_ (blk_below (g := gb223) (lb_ BK223) hb); replace BK224 := am_ (blk_below (g := gb224) (lb_ BK224) hb); replace HB := am_ (below_step (lw_ HB) hb); (try clear hb); (try clear hb2); (try clear hk); (try clear hi); have hnb55 := NB224_223.out; have hnc55 := NB223_224.out; obtain ⟨hcz56_0, hcz56_1, hfz56_0, hfz56_1⟩ := bx2_ BK224.out))
  refine bodyPost_ret (results_ct rfl _ _ gb224 26 #[.int .i64 0, .slice none 0 0] (0, 0) _ rfl (lq_ BK224) Try.underlying26 rfl (by kernel_rfl)) rfl ?_
  exact ⟨_, er_, by first | exact Kd.R_nil _ _ _ _ _ | exact Kd.N_nil _ _ _ _ _ | exact Kd.V_nil _ _ _ _ _ | exact Kd.Q_nil _ _ _ _ _ | exact Kd.S_nil _ _ _ _ _, lw_ HB⟩

/-! ### slices_Clone_int_int: function 124 (by hand) -/
def slices_Clone_int_int.f (l0 : List Int) : Option (List Int) := if l0.length < 17592186044416 then (some l0) else (none)
set_option maxHeartbeats 8000000 in
set_option maxRecDepth 100000 in
theorem slices_Clone_int_int.calls (A0 : Option Addr) (c0 : Nat) (l0 : List Int) (r : List Int) (w : World) (hr0 : Kd.C (Kd.int .i64) w A0 l0.length l0) (hc0 : l0.length ≤ c0) (h : slices_Clone_int_int.f l0 = some r) :
  Calls Try.prog 124 #[.slice A0 l0.length c0] w fun e w' => ∃ v0_ : Value, e = .returned (v0_) ∧ Kd.R (Kd.int .i64) 3 w' w.heap.size (fun _ => True) v0_ r ∧ Below w.heap.size w w' := by
 have hnil := fun (w : World) (a : Option Addr) (n c : Nat) => Lib.run_eql_slice_nil (P := Try.prog) w 22 3 a n c 0 0 Try.underlying22
 cases A0 with
 | none =>
  have hl : l0 = [] := by
   cases l0 with
   | nil => rfl
   | cons x xs => obtain ⟨_, e, _⟩ := Kd.at_int hr0 0 (by omega) (by simp only [List.length_cons]; omega); cases e
  subst hl
  obtain rfl : ([] : List Int) = r := by simpa [slices_Clone_int_int.f] using h
  go_enter Try.func124, Try.ntmps124
  go_wp2
  go_ret
  exact ⟨_, rfl, Kd.R_nil _ _ _ _ _, Below.refl _ _⟩
 | some a0 =>
 have HR0 := am_ hr0
 have HC0 := am_ hc0
 clear hr0 hc0
 have HB := am_ (Below.refl w.heap.size w)
 unfold slices_Clone_int_int.f at h
 by_cases c2 : l0.length < 17592186044416
 ·rw [if_pos c2] at h
  have LMc2 := am_ c2
  clear c2
  obtain rfl := Option.some.inj h
  clear h
  go_enter Try.func124, Try.ntmps124
  go_wp2_with (first | ((with_reducible refine gate_dst (N := 5) rfl ?_); refine Kd.R_lit (Kd.int .i64) _ 3 ?hg (N := 5) ?hd (xs := ([] : List Int)) (inner := []) (ok := fun _ => True) (okp := fun _ => True) ?hr ?hp (fun _ hk => hk) trivial (Below.refl _ _) (Nat.le_refl _) (by simp) ?_; (case hd => rfl); (case hg => rfl); (case hr => first | (go_simp; done) | (go_simp; rfl)); (case hp => exact (Reps.none _ _)); intro v118 w3 ho4 hb hg_ hnew_; clear hg_ hnew_; (first | done | skip); have HO119 := am_ (Kd.R_lower ho4 (below_size (lw_ HB))); replace HB := am_ (below_step (lw_ HB) hb); clear hb ho4) | ((with_reducible refine gate_builtin (b := .append) (xs := #[.tmp 5, .tmp 6]) rfl ?_); at_builtin; refine Kd.R_append_rows (Kd.int .i64) (w0 := w) w.heap.size rfl (.tmp 5) (.tmp 6) 22 3 (.int .i64 0) 8 rfl Try.underlying22 info3 rfl (by decide) (by omega) v118 ([] : List Int) l0 _ _ _ (fun _ => True) (fun _ => False) rfl rfl ?aO ?aR (fun _ _ h => h) (fun _ h => h.elim) ?aF ?aB ?aS ?aL ?_; (case aR => exact lc_ (Kd.C_below HR0.out HB.out)); (case aB => exact (lw_ HB)); (case aF => exact (fun _ _ => trivial)); (case aO => exact (lf_ HO119)); (case aS => exact (below_size (lw_ HB))); (case aL => have := LMc2.out; simp only [List.length_nil]; omega); intro v121 w5 ho hb hg hat; have HO122 := am_ (ho); replace HB := am_ (hb); clear HO119; clear ho hb hg hat))
  go_ret
  exact ⟨_, rfl, lf_ HO122, lw_ HB⟩
 ·rw [if_neg c2] at h
  exact absurd h (by simp)

/-! ### impl_cloneBits: function 75 -/
def impl_cloneBits.f (a0_0 : Int) (l0_1 : List Int) : Option (Int × List Int) := (slices_Clone_int_int.f l0_1).bind fun t233 => (some (a0_0, t233))
set_option maxHeartbeats 8000000 in
set_option maxRecDepth 100000 in
theorem impl_cloneBits.calls (a0_0 : Int) (A0_1 : Option Addr) (c0_1 : Nat) (l0_1 : List Int) (r1 : Int) (r2 : List Int) (w : World) (hr0_1 : Kd.C (Kd.int .i64) w A0_1 l0_1.length l0_1) (hc0_1 : l0_1.length ≤ c0_1) (h : impl_cloneBits.f a0_0 l0_1 = some (r1, r2)) :
  Calls Try.prog 75 #[.agg #[.int .i64 a0_0, .slice A0_1 l0_1.length c0_1]] w fun e w' => ∃ v1_ : Value, e = .returned (.agg #[.int .i64 r1, v1_]) ∧ Kd.R (Kd.int .i64) 3 w' w.heap.size (fun _ => True) v1_ r2 ∧ Below w.heap.size w w' := by
 have hu26 := Try.underlying26
 have HR0_1 := am_ hr0_1
 have HC0_1 := am_ hc0_1
 clear hr0_1 hc0_1
 have HB := am_ (Below.refl w.heap.size w)
 have H : ((slices_Clone_int_int.f l0_1).bind fun t233 => (some (a0_0, t233))) = some (r1, r2) := h
 clear h
 replace H := Option.bind_eq_some_iff.mp H
 obtain ⟨t233, A20, H⟩ := H
 replace H : (some (a0_0, t233)) = some (r1, r2) := H
 have A2 := am_ A20
 clear A20
 simp only [Option.some.injEq, Prod.mk.injEq] at H
 obtain ⟨rfl, rfl⟩ := H
 go_enter Try.func75, Try.ntmps75
 try go_wp2_with (first | ((with_reducible refine gate_dst (N := 1) rfl ?_); refine bev_ 1 #[.int .i64 a0_0, .slice A0_1 l0_1.length c0_1] 26 rfl rfl ?_; intro gb231 hg w3 hbox hb; have BK231 := am_ (hbox); have GW231 := am_ ((by rw [hg]; exact (below_size (lw_ HB)) : w.heap.size ≤ gb231)); have GE231 := am_ ((by rw [hg]; exact (below_size (lw_ HB)) : w.heap.size ≤ gb231)); replace HB := am_ (below_step (lw_ HB) hb); clear hb hbox hg) | ((with_reducible refine gate_dst (N := 2) rfl ?_); refine bev_ 2 #[.int .i64 0, .slice none 0 0] 26 rfl rfl ?_; intro gb232 hg w4 hbox hb; have BK232 := am_ (hbox); have GW232 := am_ ((by rw [hg]; exact (below_size (lw_ HB)) : w.heap.size ≤ gb232)); have GE232 := am_ ((by rw [hg]; exact (below_size (lw_ HB)) : w.heap.size ≤ gb232)); have NB231_232 := am_ ((by rw [hg]; exact Nat.ne_of_lt (blk_lt (g := gb231) (lb_ BK231)) : gb231 ≠ gb232)); have NB232_231 := am_ ((by rw [hg]; exact Nat.ne_of_gt (blk_lt (g := gb231) (lb_ BK231)) : gb232 ≠ gb231)); replace BK231 := am_ (blk_below (g := gb231) (lb_ BK231) hb); replace HB := am_ (below_step (lw_ HB) hb); clear hb hbox hg))
 have n0_ := am_ (blk_drew BK231.out)
 have n1_ := am_ (blk_drew BK232.out)
 have n2_ := am_ (below_drew1 HB.out)
 clear BK231
 clear BK232
 clear HB
 have BK231 := n0_
 have BK232 := n1_
 have HB := n2_
 clear n0_ n1_ n2_
 refine start_ (n := 7) (S := fun w' => w'.cell? ⟨gb231, 0, none⟩ = some (.int .i64 a0_0) ∧ w'.cell? ⟨gb231, 1, none⟩ = some (.slice A0_1 l0_1.length c0_1)) (ds := []) #[false, false, false, false, false, false, false] (by kernel_rfl) rfl rfl ⟨(blk_cell BK231.out 0).trans rfl, (blk_cell BK231.out 1).trans rfl⟩ (fun hHeld => ?_)
 generalize w4.drew = w5 at BK231 BK232 HB hHeld ⊢
 refine pure_ (i := 0) (N := some 3) (v := ?_) (a' := ?_) #[true, false, false, false, false, false, false] rfl rfl (by kernel_rfl) (fun _ _ _ h => h) (Or.inl ⟨by rfl, ?_⟩) ?_ ?_
 rotate_left
 ·intro w'
  go_simp
  with_reducible rfl
 rotate_left
 ·simp only [Act.put, List.setIfInBounds_toArray, List.set_cons_zero, List.set_cons_succ, i64_w, i32_w]
  rfl
 refine pure_ (i := 2) (N := some 5) (v := ?_) (a' := ?_) #[true, false, true, false, false, false, false] rfl rfl (by kernel_rfl) (fun _ _ _ h => h) (Or.inl ⟨by rfl, ?_⟩) ?_ ?_
 rotate_left
 ·intro w'
  go_simp
  with_reducible rfl
 rotate_left
 ·simp only [Act.put, List.setIfInBounds_toArray, List.set_cons_zero, List.set_cons_succ, i64_w, i32_w]
  rfl
 refine take_ (i := 1) (N := some 4) (v := ?_) (a' := ?_) #[true, true, true, false, false, false, false] rfl rfl (by kernel_rfl) (fun _ _ _ h => h) (Or.inl ⟨by rfl, ?_⟩) hHeld ?_ ?_
 rotate_left
 ·rintro w' ⟨s0, s1⟩
  go_simp
  with_reducible rfl
 rotate_left
 ·simp only [Act.put, List.setIfInBounds_toArray, List.set_cons_zero, List.set_cons_succ, i64_w, i32_w]
  rfl
 refine take_ (i := 3) (N := some 6) (v := ?_) (a' := ?_) #[true, true, true, true, false, false, false] rfl rfl (by kernel_rfl) (fun _ _ _ h => h) (Or.inl ⟨by rfl, ?_⟩) hHeld ?_ ?_
 rotate_left
 ·rintro w' ⟨s0, s1⟩
  go_simp
  with_reducible rfl
 rotate_left
 ·simp only [Act.put, List.setIfInBounds_toArray, List.set_cons_zero, List.set_cons_succ, i64_w, i32_w]
  rfl
 refine one_ (i := 4) (N := some 7) #[true, true, true, true, true, false, false] rfl rfl (by kernel_rfl) (by decide) (fun K hK => ?_)
 refine goes_ Try.func124 (by kernel_rfl) rfl #[.slice A0_1 l0_1.length c0_1] (by rfl) rfl rfl lm_ ?_
 with_reducible refine (slices_Clone_int_int.calls _ _ l0_1 t233 _ ?side1 ?side2 A2.out).mono ?_
 (case side1 => exact lc_ (Kd.C_below HR0_1.out HB.out))
 (case side2 => exact HC0_1.out)
 rintro e w6 ⟨v234, rfl, ho0, hb⟩
 refine ⟨_, rfl, ?_⟩
 have n0_ := am_ (Kd.R_lower ho0 (below_size (lw_ HB)))
 have n1_ := am_ (blk_below (g := gb231) (lb_ BK231) hb)
 have n2_ := am_ (blk_below (g := gb232) (lb_ BK232) hb)
 have n3_ := am_ (below_step (lw_ HB) hb)
 clear BK231
 clear BK232
 clear HB
 have HO235 := n0_
 have BK231 := n1_
 have BK232 := n2_
 have HB := n3_
 clear n0_ n1_ n2_ n3_
 (try clear hb)
 (try clear hb2)
 (try clear hk)
 (try clear hi)
 (try clear ho0)
 obtain ⟨Ao7, co7, eo7⟩ := Kd.R_slice HO235.out
 (first | subst eo7 | (injection eo7 with f1_ f2_ f3_; have f4_ := f1_.symm; have f5_ := f3_.symm; clear f1_ f2_ f3_; subst f4_; subst f5_))
 refine hK.out _ _ ⟨(blk_cell BK231.out 0).trans rfl, (blk_cell BK231.out 1).trans rfl⟩ (fun hHeld => ?_)
 clear hK K
 refine norm_ (a' := ?_) ?_ ?_
 rotate_left
 ·show Act.put _ (some 7) _ = _
  simp only [Act.put, List.setIfInBounds_toArray, List.set_cons_zero, List.set_cons_succ, i64_w, i32_w]
  rfl
 refine pure_ (i := 5) (N := some 8) (v := ?_) (a' := ?_) #[true, true, true, true, true, true, false] rfl rfl (by kernel_rfl) (fun _ _ _ h => h) (Or.inl ⟨by rfl, ?_⟩) ?_ ?_
 rotate_left
 ·intro w'
  go_simp
  with_reducible rfl
 rotate_left
 ·simp only [Act.put, List.setIfInBounds_toArray, List.set_cons_zero, List.set_cons_succ, i64_w, i32_w]
  rfl
 refine one_ (i := 6) (N := none) #[true, true, true, true, true, true, true] rfl rfl (by kernel_rfl) (by decide) (fun K hK => ?_)
 have hs8 : w6.cell? ⟨gb232, 0, none⟩ = some (.int .i64 0) := (blk_cell BK232.out 0).trans rfl
 have hfs8 := blk_frozen BK232.out 0
 have hns8_0 := NB231_232.out
 have hms8_0 := NB232_231.out
 have hs9 : w6.cell? ⟨gb232, 1, none⟩ = some (.slice none 0 0) := (blk_cell BK232.out 1).trans rfl
 have hfs9 := blk_frozen BK232.out 1
 have hns9_0 := NB231_232.out
 have hms9_0 := NB232_231.out
 refine skip_ (w1 := ?_) (by rfl) rfl ?_ ?_
 rotate_left
 ·go_simp
  rfl
 refine hK.out _ _ ⟨((cell_far (p := ⟨gb232, _, none⟩) NB231_232.out _).trans (((cell_far (p := ⟨gb232, _, none⟩) NB231_232.out _).trans (hHeld.1)))), ((cell_far (p := ⟨gb232, _, none⟩) NB231_232.out _).trans (((cell_far (p := ⟨gb232, _, none⟩) NB231_232.out _).trans (hHeld.2))))⟩ (fun hHeld => ?_)
 clear hK K
 refine done_ (by kernel_rfl) ?_
 try go_wp2
 refine bodyPost_ret (results_cell_row rfl _ _ gb232 26 #[.int .i64 a0_0, .slice Ao7 t233.length co7] (0, 0) _ rfl (lq_ BK232) Try.underlying26 rfl (by kernel_rfl)) rfl ?_
 exact ⟨_, er_, lt_ (mt_ (fr2_ HO235.out BK232.out (.int .i64 a0_0) (.slice Ao7 t233.length co7))), lw_ HB⟩

/-! ### impl_Bits_count: function 104 -/
def impl_Bits_count.l0 : Nat → Int → Int → Int → Int → List Int → Option (Int)
 | 0, _, _, _, _, _ => none
 | k + 1, x2, x7, x8, x1000, x1001 => if x8 < x2 then ((impl_Bits_at.f x1000 x1001 x8).bind fun t236 => (if t236 = true then (impl_Bits_count.l0 k x2 (wrap64 (x7 + 1)) (wrap64 (x8 + 1)) x1000 x1001) else (impl_Bits_count.l0 k x2 x7 (wrap64 (x8 + 1)) x1000 x1001))) else (some x7)
def impl_Bits_count.f (k : Nat) (a0_0 : Int) (l0_1 : List Int) (a1 : Int) (a2 : Int) : Option (Int) := impl_Bits_count.l0 k a2 0 a1 a0_0 l0_1
theorem impl_Bits_count.mono_l : ∀ k, (∀ y0 y1 y2 y3 y4, LeO (impl_Bits_count.l0 k y0 y1 y2 y3 y4) (impl_Bits_count.l0 (k + 1) y0 y1 y2 y3 y4))
 | 0 => fun _ _ _ _ _ r h => by simp [impl_Bits_count.l0] at h
 | k + 1 => by
  have ih0 := impl_Bits_count.mono_l k
  ·intro y0 y1 y2 y3 y4
   unfold impl_Bits_count.l0
   repeat' first
   | (with_reducible exact ih0 _ _ _ _ _)
   | (with_reducible exact LeO.refl _)
   | (with_reducible exact LeO.none _)
   | (with_reducible refine LeO.ite ?_ ?_)
   | (with_reducible refine LeO.bind ?_ (fun _ => ?_))
   | exact ih0 _ _ _ _ _
   | exact LeO.none _
   | refine LeO.ite ?_ ?_
   | refine LeO.bind ?_ (fun _ => ?_)
theorem impl_Bits_count.mono : ∀ a0 a1 a2 a3 k, LeO (impl_Bits_count.f k a0 a1 a2 a3) (impl_Bits_count.f (k + 1) a0 a1 a2 a3) := by
 intro a0 a1 a2 a3 k
 have ih0 := impl_Bits_count.mono_l k
 unfold impl_Bits_count.f
 repeat' first
   | (with_reducible exact ih0 _ _ _ _ _)
   | (with_reducible exact LeO.refl _)
   | (with_reducible exact LeO.none _)
   | (with_reducible refine LeO.ite ?_ ?_)
   | (with_reducible refine LeO.bind ?_ (fun _ => ?_))
   | exact ih0 _ _ _ _ _
   | exact LeO.none _
   | refine LeO.ite ?_ ?_
   | refine LeO.bind ?_ (fun _ => ?_)
set_option maxHeartbeats 8000000 in
set_option maxRecDepth 100000 in
theorem impl_Bits_count.calls (k : Nat) (g0 : Nat) (ex0 : List Value) (ty0 : TypeId) (a0_0 : Int) (A0_1 : Option Addr) (c0_1 : Nat) (l0_1 : List Int) (a1 : Int) (a2 : Int) (r : Int) (w : World) (hb0 : w.heap[g0]? = some (.cells ⟨.int .i64 a0_0 :: .slice A0_1 l0_1.length c0_1 :: ex0⟩ ty0 (0, 0))) (hr0_1 : Kd.C (Kd.int .i64) w A0_1 l0_1.length l0_1) (hc0_1 : l0_1.length ≤ c0_1) (h : impl_Bits_count.f k a0_0 l0_1 a1 a2 = some r) :
  Calls Try.prog 104 #[.pointer (some ⟨g0, 0, none⟩), .int .i64 a1, .int .i64 a2] w fun e w' => e = .returned (.int .i64 r) ∧ Below w.heap.size w w' := by
 have HR0_1 := am_ hr0_1
 have HC0_1 := am_ hc0_1
 clear hr0_1 hc0_1
 have BK0 := am_ hb0
 clear hb0
 have HB := am_ (Below.refl w.heap.size w)
 have H : (impl_Bits_count.l0 k a2 0 a1 a0_0 l0_1) = some r := h
 clear h
 have H' := am_ H
 clear H
 go_enter Try.func104, Try.ntmps104
 go_wp2
 go_loopg [7, 8] k (fun kq v7 v8 w' => ∃ (x7_1 : Int) (x8_1 : Int) (x1000_1 : Int), v7 = .int .i64 x7_1 ∧ v8 = .int .i64 x8_1 ∧ Aside0 (impl_Bits_count.l0 kq a2 x7_1 x8_1 x1000_1 l0_1 = some r) ∧ Aside0 (kq ≤ k) ∧ Aside0 (w'.heap[g0]? = some (.cells ⟨.int .i64 x1000_1 :: (.slice A0_1 l0_1.length c0_1) :: ex0⟩ ty0 (0, 0))) ∧ Aside0 (Below w.heap.size w w'))
 case atStart => exact ⟨(0), (a1), (a0_0), sr_, sr_, H', ⟨Nat.le_refl _⟩, ⟨lb_ BK0⟩, ⟨lw_ HB⟩⟩
 case round =>
  clear H'
  try clear c1
  try clear p2
  obtain ⟨x7_1, x8_1, x1000_1, rfl, rfl, HA, HK1, BK0, HB⟩ := hrel
  cases gk with
  | zero => exact absurd HA.out (by simp [impl_Bits_count.l0])
  | succ k1 =>
   have H := HA.out
   clear HA
   simp only [impl_Bits_count.l0] at H
   by_cases c4 : x8_1 < a2
   ·rw [if_pos c4] at H
    have c4b0 : decide (x8_1 < a2) = true := decide_eq_true c4
    clear c4
    replace H := Option.bind_eq_some_iff.mp H
    obtain ⟨t236, A50, H⟩ := H
    replace H : (if t236 = true then (impl_Bits_count.l0 k1 a2 (wrap64 (x7_1 + 1)) (wrap64 (x8_1 + 1)) x1000_1 l0_1) else (impl_Bits_count.l0 k1 a2 x7_1 (wrap64 (x8_1 + 1)) x1000_1 l0_1)) = some r := H
    have A5 := am_ A50
    clear A50
    by_cases c6 : t236 = true
    ·subst c6
     have H1 : (impl_Bits_count.l0 k1 a2 (wrap64 (x7_1 + 1)) (wrap64 (x8_1 + 1)) x1000_1 l0_1) = some r := by rw [if_pos rfl] at H; exact H
     clear H
     have H := H1
     clear H1
     have H' := am_ H
     clear H
     go_wp2_with (first | ((with_reducible refine gate_callee (f := 82) rfl ?_); refine goesL_ (some 17) rfl rfl Try.func82 (by kernel_rfl) rfl #[.pointer (some ⟨g0, 0, none⟩), .int .i64 x8_1] rfl lm_ ?_; (with_reducible refine (impl_Bits_at.calls g0 ex0 ty0 x1000_1 A0_1 c0_1 l0_1 x8_1 true _ ?side1 ?side2 ?side3 A5.out).mono ?_); (case side1 => exact lb_ BK0); (case side2 => exact lc_ (Kd.C_below HR0_1.out HB.out)); (case side3 => exact HC0_1.out); rintro e w7 ⟨rfl, hb⟩; refine ⟨_, rfl, ?_⟩; replace BK0 := am_ (blk_below (g := g0) (lb_ BK0) hb); replace HB := am_ (below_step (lw_ HB) hb); (try clear hb); (try clear hb2); (try clear hk); (try clear hi)))
     go_roundg k1
     case measure => have := HK1.out; omega
     case rel => exact ⟨(wrap64 (x7_1 + 1)), (wrap64 (x8_1 + 1)), (x1000_1), sr_, sr_, H', ⟨by have := HK1.out; omega⟩, ⟨lb_ BK0⟩, ⟨lw_ HB⟩⟩
    ·replace c6 := Bool.eq_false_iff.mpr c6
     subst c6
     have H1 : (impl_Bits_count.l0 k1 a2 x7_1 (wrap64 (x8_1 + 1)) x1000_1 l0_1) = some r := by rw [if_neg (show ¬ (false = true) by decide)] at H; exact H
     clear H
     have H := H1
     clear H1
     have H' := am_ H
     clear H
     go_wp2_with (first | ((with_reducible refine gate_callee (f := 82) rfl ?_); refine goesL_ (some 17) rfl rfl Try.func82 (by kernel_rfl) rfl #[.pointer (some ⟨g0, 0, none⟩), .int .i64 x8_1] rfl lm_ ?_; (with_reducible refine (impl_Bits_at.calls g0 ex0 ty0 x1000_1 A0_1 c0_1 l0_1 x8_1 false _ ?side1 ?side2 ?side3 A5.out).mono ?_); (case side1 => exact lb_ BK0); (case side2 => exact lc_ (Kd.C_below HR0_1.out HB.out)); (case side3 => exact HC0_1.out); rintro e w8 ⟨rfl, hb⟩; refine ⟨_, rfl, ?_⟩; replace BK0 := am_ (blk_below (g := g0) (lb_ BK0) hb); replace HB := am_ (below_step (lw_ HB) hb); (try clear hb); (try clear hb2); (try clear hk); (try clear hi)))
     go_roundg k1
     case measure => have := HK1.out; omega
     case rel => exact ⟨(x7_1), (wrap64 (x8_1 + 1)), (x1000_1), sr_, sr_, H', ⟨by have := HK1.out; omega⟩, ⟨lb_ BK0⟩, ⟨lw_ HB⟩⟩
   ·rw [if_neg c4] at H
    have c4b0 : decide (x8_1 < a2) = false := decide_eq_false c4
    clear c4
    obtain rfl := Option.some.inj H
    go_wp2
    go_ret
    exact ⟨er_, lw_ HB⟩

/-! ### impl_ranked: function 96 -/
def impl_ranked.l0 : Nat → Int → Int → Int → Int → Int → List Int → Int → List Int → List Int → List Int → Option (Int × List Int × List Int × List Int)
 | 0, _, _, _, _, _, _, _, _, _, _ => none
 | k + 1, x4, x5, x6, x7, x238000, x238001, x244000, x244001, x244002, x244003 => if x6 < x238000 then (if (Int.tmod x6 64) = 0 then (if x244002.length < 17592186044416 then (if x244003.length < 17592186044416 then ((impl_Bits_count.f k x238000 x238001 x6 (mn (wrap64 (x6 + 16)) x238000)).bind fun t250 => (impl_ranked.l0 k (wrap64 (x4 + t250)) x4 (wrap64 (x6 + 16)) (wrap64 (x7 + 1)) x238000 x238001 x244000 x244001 (x244002 ++ [x4]) (x244003 ++ [0]))) else (none)) else (none)) else (if x244003.length < 17592186044416 then ((impl_Bits_count.f k x238000 x238001 x6 (mn (wrap64 (x6 + 16)) x238000)).bind fun t254 => (impl_ranked.l0 k (wrap64 (x4 + t254)) x5 (wrap64 (x6 + 16)) (wrap64 (x7 + 1)) x238000 x238001 x244000 x244001 x244002 (x244003 ++ [wrap64 (x4 - x5)]))) else (none))) else (some (x244000, x244001, x244002, x244003))
def impl_ranked.f (k : Nat) (a0_0 : Int) (l0_1 : List Int) : Option (Int × List Int × List Int × List Int) := (impl_cloneBits.f a0_0 l0_1).bind fun bt239 => (impl_ranked.l0 k 0 0 0 0 a0_0 l0_1 bt239.1 bt239.2 ([] : List Int) ([] : List Int))
theorem impl_ranked.mono_l : ∀ k, (∀ y0 y1 y2 y3 y4 y5 y6 y7 y8 y9, LeO (impl_ranked.l0 k y0 y1 y2 y3 y4 y5 y6 y7 y8 y9) (impl_ranked.l0 (k + 1) y0 y1 y2 y3 y4 y5 y6 y7 y8 y9))
 | 0 => fun _ _ _ _ _ _ _ _ _ _ r h => by simp [impl_ranked.l0] at h
 | k + 1 => by
  have ih0 := impl_ranked.mono_l k
  ·intro y0 y1 y2 y3 y4 y5 y6 y7 y8 y9
   unfold impl_ranked.l0
   repeat' first
   | (with_reducible exact ih0 _ _ _ _ _ _ _ _ _ _)
   | (with_reducible exact impl_Bits_count.mono _ _ _ _ _)
   | (with_reducible exact LeO.refl _)
   | (with_reducible exact LeO.none _)
   | (with_reducible refine LeO.ite ?_ ?_)
   | (with_reducible refine LeO.bind ?_ (fun _ => ?_))
   | exact ih0 _ _ _ _ _ _ _ _ _ _
   | exact impl_Bits_count.mono _ _ _ _ _
   | exact LeO.none _
   | refine LeO.ite ?_ ?_
   | refine LeO.bind ?_ (fun _ => ?_)
theorem impl_ranked.mono : ∀ a0 a1 k, LeO (impl_ranked.f k a0 a1) (impl_ranked.f (k + 1) a0 a1) := by
 intro a0 a1 k
 have ih0 := impl_ranked.mono_l k
 unfold impl_ranked.f
 repeat' first
   | (with_reducible exact ih0 _ _ _ _ _ _ _ _ _ _)
   | (with_reducible exact impl_Bits_count.mono _ _ _ _ _)
   | (with_reducible exact LeO.refl _)
   | (with_reducible exact LeO.none _)
   | (with_reducible refine LeO.ite ?_ ?_)
   | (with_reducible refine LeO.bind ?_ (fun _ => ?_))
   | exact ih0 _ _ _ _ _ _ _ _ _ _
   | exact impl_Bits_count.mono _ _ _ _ _
   | exact LeO.none _
   | refine LeO.ite ?_ ?_
   | refine LeO.bind ?_ (fun _ => ?_)
set_option maxHeartbeats 8000000 in
set_option maxRecDepth 100000 in
theorem impl_ranked.calls (k : Nat) (a0_0 : Int) (A0_1 : Option Addr) (c0_1 : Nat) (l0_1 : List Int) (r1 : Int) (r2 : List Int) (r3 : List Int) (r4 : List Int) (w : World) (hr0_1 : Kd.C (Kd.int .i64) w A0_1 l0_1.length l0_1) (hc0_1 : l0_1.length ≤ c0_1) (h : impl_ranked.f k a0_0 l0_1 = some (r1, r2, r3, r4)) :
  Calls Try.prog 96 #[.agg #[.int .i64 a0_0, .slice A0_1 l0_1.length c0_1]] w fun e w' => ∃ v1_ v2_ v3_ : Value, e = .returned (.agg #[.int .i64 r1, v1_, v2_, v3_]) ∧ Kd.R (Kd.int .i64) 3 w' w.heap.size (fun k_ => nb_ k_ v2_ ∧ nb_ k_ v3_) v1_ r2 ∧ Kd.R (Kd.int .i64) 3 w' w.heap.size (fun k_ => nb_ k_ v1_ ∧ nb_ k_ v3_) v2_ r3 ∧ Kd.R (Kd.int .i64) 3 w' w.heap.size (fun k_ => nb_ k_ v1_ ∧ nb_ k_ v2_) v3_ r4 ∧ Below w.heap.size w w' := by
 have hu26 := Try.underlying26
 have hu48 := Try.underlying48
 have HR0_1 := am_ hr0_1
 have HC0_1 := am_ hc0_1
 clear hr0_1 hc0_1
 have HB := am_ (Below.refl w.heap.size w)
 have H : ((impl_cloneBits.f a0_0 l0_1).bind fun bt239 => (impl_ranked.l0 k 0 0 0 0 a0_0 l0_1 bt239.1 bt239.2 ([] : List Int) ([] : List Int))) = some (r1, r2, r3, r4) := h
 clear h
 replace H := Option.bind_eq_some_iff.mp H
 obtain ⟨⟨t239, t240⟩, A20, H⟩ := H
 replace H : (impl_ranked.l0 k 0 0 0 0 a0_0 l0_1 t239 t240 ([] : List Int) ([] : List Int)) = some (r1, r2, r3, r4) := H
 have A2 := am_ A20
 clear A20
 have H' := am_ H
 clear H
 go_enter Try.func96, Try.ntmps96
 go_wp2_with (first | ((with_reducible refine gate_dst (N := 1) rfl ?_); refine bev_ 1 #[.int .i64 a0_0, .slice A0_1 l0_1.length c0_1] 26 rfl rfl ?_; intro gb237 hg w3 hbox hb; have BK237 := am_ (hbox); have GW237 := am_ ((by rw [hg]; exact (below_size (lw_ HB)) : w.heap.size ≤ gb237)); have GE237 := am_ ((by rw [hg]; exact (below_size (lw_ HB)) : w.heap.size ≤ gb237)); replace HB := am_ (below_step (lw_ HB) hb); clear hb hbox hg) | ((with_reducible refine gate_dst (N := 2) rfl ?_); refine bev_ 2 #[.int .i64 0, .slice none 0 0, .slice none 0 0, .slice none 0 0] 48 rfl rfl ?_; intro gb238 hg w4 hbox hb; have BK238 := am_ (hbox); have GW238 := am_ ((by rw [hg]; exact (below_size (lw_ HB)) : w.heap.size ≤ gb238)); have GE238 := am_ ((by rw [hg]; exact (below_size (lw_ HB)) : w.heap.size ≤ gb238)); have NB237_238 := am_ ((by rw [hg]; exact Nat.ne_of_lt (blk_lt (g := gb237) (lb_ BK237)) : gb237 ≠ gb238)); have NB238_237 := am_ ((by rw [hg]; exact Nat.ne_of_gt (blk_lt (g := gb237) (lb_ BK237)) : gb238 ≠ gb237)); replace BK237 := am_ (blk_below (g := gb237) (lb_ BK237) hb); replace HB := am_ (below_step (lw_ HB) hb); clear hb hbox hg; have hnb5 := NB237_238.out; have hnc5 := NB238_237.out; obtain ⟨hcz6_0, hcz6_1, hfz6_0, hfz6_1⟩ := bx2_ BK237.out) | ((with_reducible refine gate_callee (f := 75) rfl ?_); refine goesL_ (some 9) rfl rfl Try.func75 (by kernel_rfl) rfl #[.agg #[.int .i64 a0_0, .slice A0_1 l0_1.length c0_1]] rfl lm_ ?_; (with_reducible refine (impl_cloneBits.calls a0_0 _ _ l0_1 t239 t240 _ ?side1 ?side2 A2.out).mono ?_); (case side1 => exact lc_ (Kd.C_below HR0_1.out HB.out)); (case side2 => exact HC0_1.out); rintro e w7 ⟨v241, rfl, ho0, hb⟩; refine ⟨_, rfl, ?_⟩; have HO242 := am_ (Kd.R_lower ho0 (below_size (lw_ HB))); replace BK237 := am_ (blk_below (g := gb237) (lb_ BK237) hb); replace BK238 := am_ (blk_below (g := gb238) (lb_ BK238) hb); replace HB := am_ (below_step (lw_ HB) hb); (try clear hb); (try clear hb2); (try clear hk); (try clear hi); (try clear ho0); obtain ⟨Ao8, co8, eo8⟩ := Kd.R_slice HO242.out; subst eo8) | ((with_reducible refine gate_dst (N := 3) rfl ?_); refine bev_ 3 #[.int .i64 0, .slice none 0 0, .slice none 0 0, .slice none 0 0] 48 rfl rfl ?_; intro gb243 hg w9 hbox hb; have BK243 := am_ (hbox); have GW243 := am_ ((by rw [hg]; exact (below_size (lw_ HB)) : w.heap.size ≤ gb243)); have GE243 := am_ ((by rw [hg]; exact (below_size (lw_ HB)) : w.heap.size ≤ gb243)); have NB237_243 := am_ ((by rw [hg]; exact Nat.ne_of_lt (blk_lt (g := gb237) (lb_ BK237)) : gb237 ≠ gb243)); have NB243_237 := am_ ((by rw [hg]; exact Nat.ne_of_gt (blk_lt (g := gb237) (lb_ BK237)) : gb243 ≠ gb237)); have NB238_243 := am_ ((by rw [hg]; exact Nat.ne_of_lt (blk_lt (g := gb238) (lb_ BK238)) : gb238 ≠ gb243)); have NB243_238 := am_ ((by rw [hg]; exact Nat.ne_of_gt (blk_lt (g := gb238) (lb_ BK238)) : gb243 ≠ gb238)); replace HO242 := am_ (Kd.R_below (lf_ HO242) hb); replace BK237 := am_ (blk_below (g := gb237) (lb_ BK237) hb); replace BK238 := am_ (blk_below (g := gb238) (lb_ BK238) hb); replace HB := am_ (below_step (lw_ HB) hb); clear hb hbox hg; have hnb10 := NB243_237.out; have hnc10 := NB237_243.out; have hnb11 := NB243_238.out; have hnc11 := NB238_243.out; obtain ⟨hcz12_0, hcz12_1, hcz12_2, hcz12_3, hfz12_0, hfz12_1, hfz12_2, hfz12_3⟩ := bx4_ BK243.out))
 go_loopg [4, 5, 6, 7] k (fun kq v4 v5 v6 v7 w' => ∃ (x4_1 : Int) (x5_1 : Int) (x6_1 : Int) (x7_1 : Int) (x244002_1 : List Int) (x244003_1 : List Int) (u244002 : Value) (u244003 : Value), v4 = .int .i64 x4_1 ∧ v5 = .int .i64 x5_1 ∧ v6 = .int .i64 x6_1 ∧ v7 = .int .i64 x7_1 ∧ Aside0 (impl_ranked.l0 kq x4_1 x5_1 x6_1 x7_1 a0_0 l0_1 t239 t240 x244002_1 x244003_1 = some (r1, r2, r3, r4)) ∧ Aside0 (kq ≤ k) ∧ Aside0 (Kd.R (Kd.int .i64) 3 w' w.heap.size (fun k_ => nb_ k_ u244002 ∧ nb_ k_ u244003) (.slice Ao8 t240.length co8) t240) ∧ Aside0 (Kd.R (Kd.int .i64) 3 w' w.heap.size (fun k_ => ns_ k_ Ao8 t240 co8 ∧ nb_ k_ u244003) u244002 x244002_1) ∧ Aside0 (Kd.R (Kd.int .i64) 3 w' w.heap.size (fun k_ => ns_ k_ Ao8 t240 co8 ∧ nb_ k_ u244002) u244003 x244003_1) ∧ Aside0 (w'.heap[gb237]? = some (.cells #[.int .i64 a0_0, (.slice A0_1 l0_1.length c0_1)] 26 (0, 0))) ∧ Aside0 (w'.heap[gb238]? = some (.cells #[.int .i64 0, (.slice none 0 0), (.slice none 0 0), (.slice none 0 0)] 48 (0, 0))) ∧ Aside0 (w'.heap[gb243]? = some (.cells #[.int .i64 t239, (.slice Ao8 t240.length co8), u244002, u244003] 48 (0, 0))) ∧ Aside0 (Below w.heap.size w w'))
 case atStart => exact ⟨(0), (0), (0), (0), (([] : List Int)), (([] : List Int)), (.slice none 0 0), (.slice none 0 0), sr_, sr_, sr_, sr_, H', ⟨Nat.le_refl _⟩, ⟨lt_ (Kd.R_mono (fr4_ HO242.out BK243.out (.int .i64 t239) (.slice Ao8 t240.length co8) (.slice none 0 0) (.slice none 0 0)) (fun _ hk => ⟨(by simp [Value.ownBlock]), (by simp [Value.ownBlock])⟩))⟩, ⟨by first | exact Kd.R_nil _ _ _ _ _ | exact Kd.N_nil _ _ _ _ _ | exact Kd.V_nil _ _ _ _ _ | exact Kd.Q_nil _ _ _ _ _ | exact Kd.S_nil _ _ _ _ _⟩, ⟨by first | exact Kd.R_nil _ _ _ _ _ | exact Kd.N_nil _ _ _ _ _ | exact Kd.V_nil _ _ _ _ _ | exact Kd.Q_nil _ _ _ _ _ | exact Kd.S_nil _ _ _ _ _⟩, ⟨lg_ BK237⟩, ⟨lg_ BK238⟩, ⟨lq_ BK243⟩, ⟨lw_ HB⟩⟩
 case round =>
  clear H'
  try clear c1
  try clear p2
  try clear c5
  try clear c7
  try clear c9
  try clear c10
  try clear c11
  try clear hcz12_0
  try clear hcz12_1
  try clear hcz12_2
  try clear hcz12_3
  try clear hcz6_0
  try clear hcz6_1
  try clear hfz12_0
  try clear hfz12_1
  try clear hfz12_2
  try clear hfz12_3
  try clear hfz6_0
  try clear hfz6_1
  obtain ⟨x4_1, x5_1, x6_1, x7_1, x244002_1, x244003_1, u244002, u244003, rfl, rfl, rfl, rfl, HA, HK1, HO_244001, HO_244002, HO_244003, BK237, BK238, BK243, HB⟩ := hrel
  cases gk with
  | zero => exact absurd HA.out (by simp [impl_ranked.l0])
  | succ k1 =>
   have H := HA.out
   clear HA
   simp only [impl_ranked.l0] at H
   by_cases c13 : x6_1 < a0_0
   ·rw [if_pos c13] at H
    have c13b0 : decide (x6_1 < a0_0) = true := decide_eq_true c13
    clear c13
    by_cases c14 : (Int.tmod x6_1 64) = 0
    ·rw [if_pos c14] at H
     have c14b0 : ((Int.tmod x6_1 64) == 0) = true := beq_iff_eq.mpr c14
     have c14b1 : ((Int.tmod x6_1 64) != 0) = false := bne_eq_false_iff_eq.mpr c14
     clear c14
     by_cases c15 : x244002_1.length < 17592186044416
     ·rw [if_pos c15] at H
      have LMc15 := am_ c15
      clear c15
      obtain ⟨y244, hy244⟩ : ∃ y_ : List Int, y_ = (x244002_1 ++ [x4_1]) := ⟨_, rfl⟩
      replace H : (if x244003_1.length < 17592186044416 then ((impl_Bits_count.f k1 a0_0 l0_1 x6_1 (mn (wrap64 (x6_1 + 16)) a0_0)).bind fun t250 => (impl_ranked.l0 k1 (wrap64 (x4_1 + t250)) x4_1 (wrap64 (x6_1 + 16)) (wrap64 (x7_1 + 1)) a0_0 l0_1 t239 t240 y244 (x244003_1 ++ [0]))) else (none)) = some (r1, r2, r3, r4) := by first | (rw [hy244]; with_reducible exact H) | (have H2_ := (Option.bind_some _ _).symm.trans H; rw [hy244]; with_reducible exact H2_) | (have H2_ := (Option.bind_some _ _).symm.trans H; with_reducible exact H2_) | with_reducible exact H | (rw [hy244]; exact H) | exact H
      have Ny244 := am_ hy244
      clear hy244
      by_cases c16 : x244003_1.length < 17592186044416
      ·rw [if_pos c16] at H
       have LMc16 := am_ c16
       clear c16
       obtain ⟨y247, hy247⟩ : ∃ y_ : List Int, y_ = (x244003_1 ++ [0]) := ⟨_, rfl⟩
       replace H : ((impl_Bits_count.f k1 a0_0 l0_1 x6_1 (mn (wrap64 (x6_1 + 16)) a0_0)).bind fun t250 => (impl_ranked.l0 k1 (wrap64 (x4_1 + t250)) x4_1 (wrap64 (x6_1 + 16)) (wrap64 (x7_1 + 1)) a0_0 l0_1 t239 t240 y244 y247)) = some (r1, r2, r3, r4) := by first | (rw [hy247]; with_reducible exact H) | (have H2_ := (Option.bind_some _ _).symm.trans H; rw [hy247]; with_reducible exact H2_) | (have H2_ := (Option.bind_some _ _).symm.trans H; with_reducible exact H2_) | with_reducible exact H | (rw [hy247]; exact H) | exact H
       have Ny247 := am_ hy247
       clear hy247
       obtain ⟨ji17, hji17⟩ : ∃ j_ : Int, (mn (wrap64 (x6_1 + 16)) a0_0) = j_ := ⟨_, rfl⟩
       replace H : ((impl_Bits_count.f k1 a0_0 l0_1 x6_1 (ji17)).bind fun t250 => (impl_ranked.l0 k1 (wrap64 (x4_1 + t250)) x4_1 (wrap64 (x6_1 + 16)) (wrap64 (x7_1 + 1)) a0_0 l0_1 t239 t240 y244 y247)) = some (r1, r2, r3, r4) := by first | (rw [hji17] at H; exact H) | (simp only [hji17] at H ⊢; exact H)
       have hji17_ : (if a0_0 < (wrap64 (x6_1 + 16)) then a0_0 else (wrap64 (x6_1 + 16))) = ji17 := hji17
       replace H := Option.bind_eq_some_iff.mp H
       obtain ⟨t250, A180, H⟩ := H
       replace H : (impl_ranked.l0 k1 (wrap64 (x4_1 + t250)) x4_1 (wrap64 (x6_1 + 16)) (wrap64 (x7_1 + 1)) a0_0 l0_1 t239 t240 y244 y247) = some (r1, r2, r3, r4) := H
       have A18 := am_ A180
       clear A180
       have H' := am_ H
       clear H
       have hnb19 := NB237_238.out
       have hnc19 := NB238_237.out
       have hnb20 := NB237_243.out
       have hnc20 := NB243_237.out
       obtain ⟨hcz21_0, hcz21_1, hfz21_0, hfz21_1⟩ := bx2_ BK237.out
       have hnb22 := NB243_238.out
       have hnc22 := NB238_243.out
       obtain ⟨hcz23_0, hcz23_1, hcz23_2, hcz23_3, hfz23_0, hfz23_1, hfz23_2, hfz23_3⟩ := bx4_ BK243.out
       go_wp2_with (first | ((with_reducible refine gate_builtin (b := .append) (xs := #[.tmp 23, .tmp 25]) rfl ?_); at_builtin; refine Kd.R_append (Kd.int .i64) (w0 := w) w.heap.size rfl (.tmp 23) (.tmp 25) 22 3 (.int .i64 0) 8 rfl Try.underlying22 info3 rfl (by decide) (by omega) u244002 x244002_1 x4_1 [.int .i64 x4_1] (fun k_ => ns_ k_ Ao8 t240 co8 ∧ nb_ k_ u244003) (fun _ => False) rfl rfl ?aP (fun _ hk => hk.elim) ?aF ?aO ?aB ?aS ?aL ?_; (case aP => exact rfl); (case aB => exact (lw_ HB)); (case aF => exact (fun k_ hk => ⟨Kd.fresh' (Kd.R_lt (lf_ HO_244001)) k_ hk, Kd.fresh' (Kd.R_lt (lf_ HO_244003)) k_ hk⟩)); (case aO => exact (lf_ HO_244002)); (case aS => exact (below_size (lw_ HB))); (case aL => have := LMc15.out; omega); intro v245 w24 ho hb hg hat; rw [← Ny244.out] at ho; have HO246 := am_ (ho); replace HO_244001 := am_ (Kd.R_after (ok := (fun k_ => nb_ k_ u244003)) (lo_ HO_244001) hg hat); replace HO_244003 := am_ (Kd.R_after (ok := (fun k_ => ns_ k_ Ao8 t240 co8)) (lf_ HO_244003) hg hat); replace BK237 := am_ (blk_grown (g := gb237) (lb_ BK237) hg (Kd.R_ne HO_244002.out BK237.out (by decide))); replace BK238 := am_ (blk_grown (g := gb238) (lb_ BK238) hg (Kd.R_ne HO_244002.out BK238.out (by decide))); replace BK243 := am_ (blk_grown (g := gb243) (lb_ BK243) hg (Kd.R_ne HO_244002.out BK243.out (by decide))); replace HB := am_ (hb); clear HO_244002; clear ho hb hg hat; obtain ⟨Ao25, co25, eo25⟩ := Kd.R_slice HO246.out; subst eo25; obtain ⟨hcz26_0, hcz26_1, hcz26_2, hcz26_3, hfz26_0, hfz26_1, hfz26_2, hfz26_3⟩ := bx4_ BK243.out) | ((with_reducible refine gate_builtin (b := .append) (xs := #[.tmp 30, .tmp 34]) rfl ?_); at_builtin; refine Kd.R_append (Kd.int .i64) (w0 := w) w.heap.size rfl (.tmp 30) (.tmp 34) 22 3 (.int .i64 0) 8 rfl Try.underlying22 info3 rfl (by decide) (by omega) u244003 x244003_1 0 [.int .i64 0] (fun k_ => ns_ k_ Ao8 t240 co8 ∧ ns_ k_ Ao25 y244 co25) (fun _ => False) rfl (by first | (go_simp; done) | (go_simp; rfl)) ?aP (fun _ hk => hk.elim) ?aF ?aO ?aB ?aS ?aL ?_; (case aP => exact rfl); (case aB => exact (lw_ HB)); (case aF => exact (fun k_ hk => ⟨Kd.fresh' (Kd.R_lt (lt_ ((m1_ (Kd.R_far (p := ⟨gb243, 2, none⟩) (Kd.R_types HO_244001.out BK243.out (by decide)) (fun _ hk => hk.2) (.slice Ao25 y244.length co25)))))) k_ hk, Kd.fresh' (Kd.R_lt (lt_ ((m1_ (Kd.R_far (p := ⟨gb243, 2, none⟩) (Kd.R_types HO246.out BK243.out (by decide)) (fun _ hk => hk.2) (.slice Ao25 y244.length co25)))))) k_ hk⟩)); (case aO => exact (lo2_ (Kd.R_far (p := ⟨gb243, 2, none⟩) (Kd.R_types HO_244003.out BK243.out (by decide)) (fun _ hk => hk.2) (.slice Ao25 y244.length co25)))); (case aS => exact (below_size (lw_ HB))); (case aL => have := LMc16.out; omega); intro v248 w27 ho hb hg hat; rw [← Ny247.out] at ho; have HO249 := am_ (ho); replace HO_244001 := am_ (Kd.R_after (ok := (fun k_ => ns_ k_ Ao25 y244 co25)) (lo2_ (Kd.R_far (p := ⟨gb243, 2, none⟩) (Kd.R_types HO_244001.out BK243.out (by decide)) (fun _ hk => hk.2) (.slice Ao25 y244.length co25))) hg hat); replace BK237 := am_ (blk_grown (g := gb237) (lg_ BK237) hg (Kd.R_ne HO_244003.out BK237.out (by decide))); replace BK238 := am_ (blk_grown (g := gb238) (lg_ BK238) hg (Kd.R_ne HO_244003.out BK238.out (by decide))); replace HO246 := am_ (Kd.R_after (ok := (fun k_ => ns_ k_ Ao8 t240 co8)) (lo2_ (Kd.R_far (p := ⟨gb243, 2, none⟩) (Kd.R_types HO246.out BK243.out (by decide)) (fun _ hk => hk.2) (.slice Ao25 y244.length co25))) hg hat); replace BK243 := am_ (blk_grown (g := gb243) (o := .cells #[.int .i64 t239, .slice Ao8 t240.length co8, .slice Ao25 y244.length co25, u244003] 48 (0, 0)) (lq_ BK243) hg (Kd.R_ne HO_244003.out BK243.out (by decide))); replace HB := am_ (hb); clear HO_244003; clear ho hb hg hat; obtain ⟨Ao28, co28, eo28⟩ := Kd.R_slice HO249.out; subst eo28; obtain ⟨hcz29_0, hcz29_1, hcz29_2, hcz29_3, hfz29_0, hfz29_1, hfz29_2, hfz29_3⟩ := bx4_ BK243.out; obtain ⟨hcz30_0, hcz30_1, hfz30_0, hfz30_1⟩ := bx2_ BK237.out) | ((with_reducible refine gate_callee (f := 104) rfl ?_); refine goesL_ (some 44) rfl rfl Try.func104 (by kernel_rfl) rfl #[.pointer (some ⟨gb237, 0, none⟩), .int .i64 x6_1, .int .i64 ji17] rfl (by (try simp only [List.map_toArray, List.map_cons, List.map_nil]); first | done | (simp only [hji17]; rfl) | rfl | (simp only [List.length_drop, List.length_take]; rfl)) ?_; (with_reducible refine (impl_Bits_count.calls k1 gb237 [] 26 a0_0 A0_1 c0_1 l0_1 x6_1 ji17 t250 _ ?side1 ?side2 ?side3 A18.out).mono ?_); (case side1 => exact lg_ BK237); (case side2 => exact Kd.C_below HR0_1.out (lw_ HB)); (case side3 => exact HC0_1.out); rintro e w31 ⟨rfl, hb⟩; refine ⟨_, rfl, ?_⟩; replace HO_244001 := am_ (Kd.R_below (lt_ ((m1_ (Kd.R_far (p := ⟨gb243, 3, none⟩) (Kd.R_types HO_244001.out BK243.out (by decide)) (fun _ hk => hk.2) (.slice Ao28 y247.length co28))))) hb); replace HO246 := am_ (Kd.R_below (lt_ ((m1_ (Kd.R_far (p := ⟨gb243, 3, none⟩) (Kd.R_types HO246.out BK243.out (by decide)) (fun _ hk => hk.2) (.slice Ao28 y247.length co28))))) hb); replace HO249 := am_ (Kd.R_below (lt_ ((m1_ (Kd.R_far (p := ⟨gb243, 3, none⟩) (Kd.R_types HO249.out BK243.out (by decide)) (fun _ hk => hk.2) (.slice Ao28 y247.length co28))))) hb); replace BK237 := am_ (blk_below (g := gb237) (lg_ BK237) hb); replace BK238 := am_ (blk_below (g := gb238) (lg_ BK238) hb); replace BK243 := am_ (blk_below (g := gb243) (o := .cells #[.int .i64 t239, .slice Ao8 t240.length co8, .slice Ao25 y244.length co25, .slice Ao28 y247.length co28] 48 (0, 0)) (lq_ BK243) hb); replace HB := am_ (below_step (lw_ HB) hb); (try clear hb); (try clear hb2); (try clear hk); (try clear hi)))
       go_roundg k1
       case measure => have := HK1.out; omega
       case rel => exact ⟨(wrap64 (x4_1 + t250)), (x4_1), (wrap64 (x6_1 + 16)), (wrap64 (x7_1 + 1)), (y244), (y247), (.slice Ao25 y244.length co25), (.slice Ao28 y247.length co28), sr_, sr_, sr_, sr_, H', ⟨by have := HK1.out; omega⟩, ⟨lf_ HO_244001⟩, ⟨lf_ HO246⟩, ⟨lf_ HO249⟩, ⟨lb_ BK237⟩, ⟨lb_ BK238⟩, ⟨lb_ BK243⟩, ⟨lw_ HB⟩⟩
      ·rw [if_neg c16] at H
       exact absurd H (by simp)
     ·rw [if_neg c15] at H
      exact absurd H (by simp)
    ·rw [if_neg c14] at H
     have c14b0 : ((Int.tmod x6_1 64) == 0) = false := beq_eq_false_iff_ne.mpr c14
     have c14b1 : ((Int.tmod x6_1 64) != 0) = true := bne_iff_ne.mpr c14
     by_cases c32 : x244003_1.length < 17592186044416
     ·rw [if_pos c32] at H
      have LMc32 := am_ c32
      clear c32
      obtain ⟨y251, hy251⟩ : ∃ y_ : List Int, y_ = (x244003_1 ++ [wrap64 (x4_1 - x5_1)]) := ⟨_, rfl⟩
      replace H : ((impl_Bits_count.f k1 a0_0 l0_1 x6_1 (mn (wrap64 (x6_1 + 16)) a0_0)).bind fun t254 => (impl_ranked.l0 k1 (wrap64 (x4_1 + t254)) x5_1 (wrap64 (x6_1 + 16)) (wrap64 (x7_1 + 1)) a0_0 l0_1 t239 t240 x244002_1 y251)) = some (r1, r2, r3, r4) := by first | (rw [hy251]; with_reducible exact H) | (have H2_ := (Option.bind_some _ _).symm.trans H; rw [hy251]; with_reducible exact H2_) | (have H2_ := (Option.bind_some _ _).symm.trans H; with_reducible exact H2_) | with_reducible exact H | (rw [hy251]; exact H) | exact H
      have Ny251 := am_ hy251
      clear hy251
      obtain ⟨ji33, hji33⟩ : ∃ j_ : Int, (mn (wrap64 (x6_1 + 16)) a0_0) = j_ := ⟨_, rfl⟩
      replace H : ((impl_Bits_count.f k1 a0_0 l0_1 x6_1 (ji33)).bind fun t254 => (impl_ranked.l0 k1 (wrap64 (x4_1 + t254)) x5_1 (wrap64 (x6_1 + 16)) (wrap64 (x7_1 + 1)) a0_0 l0_1 t239 t240 x244002_1 y251)) = some (r1, r2, r3, r4) := by first | (rw [hji33] at H; exact H) | (simp only [hji33] at H ⊢; exact H)
      have hji33_ : (if a0_0 < (wrap64 (x6_1 + 16)) then a0_0 else (wrap64 (x6_1 + 16))) = ji33 := hji33
      replace H := Option.bind_eq_some_iff.mp H
      obtain ⟨t254, A340, H⟩ := H
      replace H : (impl_ranked.l0 k1 (wrap64 (x4_1 + t254)) x5_1 (wrap64 (x6_1 + 16)) (wrap64 (x7_1 + 1)) a0_0 l0_1 t239 t240 x244002_1 y251) = some (r1, r2, r3, r4) := H
      have A34 := am_ A340
      clear A340
      have H' := am_ H
      clear H
      have hnb35 := NB237_238.out
      have hnc35 := NB238_237.out
      have hnb36 := NB237_243.out
      have hnc36 := NB243_237.out
      obtain ⟨hcz37_0, hcz37_1, hfz37_0, hfz37_1⟩ := bx2_ BK237.out
      have hnb38 := NB243_238.out
      have hnc38 := NB238_243.out
      obtain ⟨hcz39_0, hcz39_1, hcz39_2, hcz39_3, hfz39_0, hfz39_1, hfz39_2, hfz39_3⟩ := bx4_ BK243.out
      go_wp2_with (first | ((with_reducible refine gate_builtin (b := .append) (xs := #[.tmp 30, .tmp 34]) rfl ?_); at_builtin; refine Kd.R_append (Kd.int .i64) (w0 := w) w.heap.size rfl (.tmp 30) (.tmp 34) 22 3 (.int .i64 0) 8 rfl Try.underlying22 info3 rfl (by decide) (by omega) u244003 x244003_1 (wrap64 (x4_1 - x5_1)) [.int .i64 (wrap64 (x4_1 - x5_1))] (fun k_ => ns_ k_ Ao8 t240 co8 ∧ nb_ k_ u244002) (fun _ => False) rfl rfl ?aP (fun _ hk => hk.elim) ?aF ?aO ?aB ?aS ?aL ?_; (case aP => exact rfl); (case aB => exact (lw_ HB)); (case aF => exact (fun k_ hk => ⟨Kd.fresh' (Kd.R_lt (lf_ HO_244001)) k_ hk, Kd.fresh' (Kd.R_lt (lf_ HO_244002)) k_ hk⟩)); (case aO => exact (lf_ HO_244003)); (case aS => exact (below_size (lw_ HB))); (case aL => have := LMc32.out; omega); intro v252 w40 ho hb hg hat; rw [← Ny251.out] at ho; have HO253 := am_ (ho); replace HO_244001 := am_ (Kd.R_after (ok := (fun k_ => nb_ k_ u244002)) (lf_ HO_244001) hg hat); replace HO_244002 := am_ (Kd.R_after (ok := (fun k_ => ns_ k_ Ao8 t240 co8)) (lf_ HO_244002) hg hat); replace BK237 := am_ (blk_grown (g := gb237) (lb_ BK237) hg (Kd.R_ne HO_244003.out BK237.out (by decide))); replace BK238 := am_ (blk_grown (g := gb238) (lb_ BK238) hg (Kd.R_ne HO_244003.out BK238.out (by decide))); replace BK243 := am_ (blk_grown (g := gb243) (lb_ BK243) hg (Kd.R_ne HO_244003.out BK243.out (by decide))); replace HB := am_ (hb); clear HO_244003; clear ho hb hg hat; obtain ⟨Ao41, co41, eo41⟩ := Kd.R_slice HO253.out; subst eo41; obtain ⟨hcz42_0, hcz42_1, hcz42_2, hcz42_3, hfz42_0, hfz42_1, hfz42_2, hfz42_3⟩ := bx4_ BK243.out; obtain ⟨hcz43_0, hcz43_1, hfz43_0, hfz43_1⟩ := bx2_ BK237.out) | ((with_reducible refine gate_callee (f := 104) rfl ?_); refine goesL_ (some 44) rfl rfl Try.func104 (by kernel_rfl) rfl #[.pointer (some ⟨gb237, 0, none⟩), .int .i64 x6_1, .int .i64 ji33] rfl (by (try simp only [List.map_toArray, List.map_cons, List.map_nil]); first | done | (simp only [hji33]; rfl) | rfl | (simp only [List.length_drop, List.length_take]; rfl)) ?_; (with_reducible refine (impl_Bits_count.calls k1 gb237 [] 26 a0_0 A0_1 c0_1 l0_1 x6_1 ji33 t254 _ ?side1 ?side2 ?side3 A34.out).mono ?_); (case side1 => exact lg_ BK237); (case side2 => exact Kd.C_below HR0_1.out (lw_ HB)); (case side3 => exact HC0_1.out); rintro e w44 ⟨rfl, hb⟩; refine ⟨_, rfl, ?_⟩; replace HO_244001 := am_ (Kd.R_below (lt_ ((m1_ (Kd.R_far (p := ⟨gb243, 3, none⟩) (Kd.R_types HO_244001.out BK243.out (by decide)) (fun _ hk => hk.2) (.slice Ao41 y251.length co41))))) hb); replace HO_244002 := am_ (Kd.R_below (lt_ ((m1_ (Kd.R_far (p := ⟨gb243, 3, none⟩) (Kd.R_types HO_244002.out BK243.out (by decide)) (fun _ hk => hk.2) (.slice Ao41 y251.length co41))))) hb); replace HO253 := am_ (Kd.R_below (lt_ ((m1_ (Kd.R_far (p := ⟨gb243, 3, none⟩) (Kd.R_types HO253.out BK243.out (by decide)) (fun _ hk => hk.2) (.slice Ao41 y251.length co41))))) hb); replace BK237 := am_ (blk_below (g := gb237) (lg_ BK237) hb); replace BK238 := am_ (blk_below (g := gb238) (lg_ BK238) hb); replace BK243 := am_ (blk_below (g := gb243) (o := .cells #[.int .i64 t239, .slice Ao8 t240.length co8, u244002, .slice Ao41 y251.length co41] 48 (0, 0)) (lq_ BK243) hb); replace HB := am_ (below_step (lw_ HB) hb); (try clear hb); (try clear hb2); (try clear hk); (try clear hi)))
      go_roundg k1
      case measure => have := HK1.out; omega
      case rel => exact ⟨(wrap64 (x4_1 + t254)), (x5_1), (wrap64 (x6_1 + 16)), (wrap64 (x7_1 + 1)), (x244002_1), (y251), (u244002), (.slice Ao41 y251.length co41), sr_, sr_, sr_, sr_, H', ⟨by have := HK1.out; omega⟩, ⟨lf_ HO_244001⟩, ⟨lf_ HO_244002⟩, ⟨lf_ HO253⟩, ⟨lb_ BK237⟩, ⟨lb_ BK238⟩, ⟨lb_ BK243⟩, ⟨lw_ HB⟩⟩
     ·rw [if_neg c32] at H
      exact absurd H (by simp)
   ·rw [if_neg c13] at H
    have c13b0 : decide (x6_1 < a0_0) = false := decide_eq_false c13
    clear c13
    simp only [Option.some.injEq, Prod.mk.injEq] at H
    obtain ⟨rfl, rfl, rfl, rfl⟩ := H
    have hnb45 := NB237_238.out
    have hnc45 := NB238_237.out
    have hnb46 := NB237_243.out
    have hnc46 := NB243_237.out
    obtain ⟨hcz47_0, hcz47_1, hfz47_0, hfz47_1⟩ := bx2_ BK237.out
    have hnb48 := NB243_238.out
    have hnc48 := NB238_243.out
    obtain ⟨hcz49_0, hcz49_1, hcz49_2, hcz49_3, hfz49_0, hfz49_1, hfz49_2, hfz49_3⟩ := bx4_ BK243.out
    obtain ⟨hcz50_0, hcz50_1, hcz50_2, hcz50_3, hfz50_0, hfz50_1, hfz50_2, hfz50_3⟩ := bx4_ BK238.out
    obtain ⟨Ao51, co51, eo51⟩ := Kd.R_slice HO_244002.out
    subst eo51
    obtain ⟨Ao52, co52, eo52⟩ := Kd.R_slice HO_244003.out
    subst eo52
    go_wp2
    refine bodyPost_ret (results_cell_row rfl _ _ gb238 48 #[.int .i64 t239, .slice Ao8 t240.length co8, .slice Ao51 x244002_1.length co51, .slice Ao52 x244003_1.length co52] (0, 0) _ rfl (lq_ BK238) Try.underlying48 rfl (by kernel_rfl)) rfl ?_
    exact ⟨_, _, _, er_, lo2_ (fr4_ HO_244001.out BK238.out (.int .i64 t239) (.slice Ao8 t240.length co8) (.slice Ao51 x244002_1.length co51) (.slice Ao52 x244003_1.length co52)), lo2_ (fr4_ HO_244002.out BK238.out (.int .i64 t239) (.slice Ao8 t240.length co8) (.slice Ao51 x244002_1.length co51) (.slice Ao52 x244003_1.length co52)), lo2_ (fr4_ HO_244003.out BK238.out (.int .i64 t239) (.slice Ao8 t240.length co8) (.slice Ao51 x244002_1.length co51) (.slice Ao52 x244003_1.length co52)), lw_ HB⟩

end Go.Proofs.Ytkmhjgejficclaa.PFnRanksJoin
