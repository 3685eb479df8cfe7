-- Laid by a program of this session: the print of the kit with additions of ours (wip/tools/patchprint.py). Nothing of it is trusted: Lean checks it.
import Derived.Test.YtkmhjgejficclaaProg
import Derived.WalkSpells
import Derived.WalkLawsBesides
import Derived.Below
import Derived.Deep.Draws
import Derived.Deep.AppendLies
import Derived.Maps.AppendAt
import Derived.OwnWalk
import Derived.Laws.BytesArg
import Derived.Laws.MakeOwn
import Derived.Laws.OwnMore
import Derived.Deep.OwnRows
import Derived.Tactics
import Derived.Lib.ConvBytes
import Derived.Laws.Slices
import Derived.WalkKit
import Derived.KernelRfl
import Derived.RowKit3
import Derived.Deep.LoopGhost
import Derived.Deep.QuietTactic
import Derived.BigQuiet
import Derived.WideLaws
import Derived.Deep.DeepCutAuto
import Derived.Deep.CutBlock
import Derived.Deep.RegionHeld3
import Derived.Laws.Rows
import Derived.Lib.AppendStr
import Derived.ArgAppend
import Derived.Laws.IdiomCopy
import Derived.OrdersHeld
import Derived.Laws.BitsLemmas
import Derived.RowKit
import Derived.Test.YtkmhjgejficclaaVFnExactJoinRanked
namespace Go.Proofs.Ytkmhjgejficclaa.PFnExactJoinRanked
open Go.RowKit Go.Proofs.YtkmhjgejficclaaW.PrintWords Go.Proofs.YtkmhjgejficclaaW.PrintLast Go.Proofs.YtkmhjgejficclaaW.PrintMore
attribute [local go_sem] max2_int min2_int max_two min_two max_three min_three max_four min_four   -- for this text's walks alone
set_option linter.unusedVariables false
set_option linter.unusedSimpArgs false



def errW : Option Int → Value
  | none => .nilIface
  | some c => .iface 0 (.int .i64 c)
theorem errW_none : errW none = .nilIface := rfl
theorem errW_some (c : Int) : errW (some c) = .iface 0 (.int .i64 c) := rfl

theorem info3 : (Try.prog.info? 3).map (fun i => (i.zero, i.size, i.bytes)) = some (some (.int .i64 0), 1, 8) := by kernel_rfl
theorem info4 : (Try.prog.info? 4).map (fun i => (i.zero, i.size, i.bytes)) = some (some (.bool false), 1, 1) := by kernel_rfl
-- the values' own types

abbrev nb_ (k : Nat) (v : Value) : Prop := some k ≠ v.ownBlock
abbrev ns_ {α : Type} (k : Nat) (A : Option Addr) (l : List α) (c : Nat) : Prop := some k ≠ (Value.slice A l.length c).ownBlock
def ob_ (A : Option Addr) : Option Nat := (Value.slice A 0 0).ownBlock
theorem ownL_ (A : Option Addr) (n c : Nat) : (Value.slice A n c).ownBlock = ob_ A := by cases A <;> rfl
theorem am_ {p : Prop} (h : p) : Aside0 p := ⟨h⟩
theorem lm_ {P : Prop} (h : P := by (try simp only [List.map_toArray, List.map_cons, List.map_nil]); first | done | rfl | (simp only [List.length_drop, List.length_take]; rfl)) : P := h
theorem lc_ {P Q : Prop} (h : P) (f : P → Q := by intro h_; repeat (first | exact h_ | (with_reducible refine Kd.C_alloc ?_ _) | (with_reducible refine Kd.C_drewN ?_ _) | (with_reducible refine Kd.C_drew ?_))) : Q := f h
section
variable {α : Type} {d : Kd α} {e base : Nat} {ok ok' : Nat → Prop} {w w1 : World} {v : Value} {xs : List α}
theorem lt_ (h : d.R e w base ok v xs) (f : d.R e w base ok v xs → d.R e w1 base ok v xs := by intro h_; (with_reducible repeat (first | apply Kd.R_alloc | apply Kd.R_drewN | apply Kd.R_drew)); exact h_) : d.R e w1 base ok v xs := f h
theorem lf_ (h : Aside0 (d.R e w base ok v xs)) (f : d.R e w base ok v xs → d.R e w1 base ok v xs := by intro h_; (with_reducible repeat (first | apply Kd.R_alloc | apply Kd.R_drewN | apply Kd.R_drew)); exact h_) : d.R e w1 base ok v xs := f h.out
theorem lo2_ (h : d.R e w base ok v xs) (f : d.R e w base ok v xs → d.R e w1 base ok' v xs := by intro h_; (with_reducible repeat (first | apply Kd.R_alloc | apply Kd.R_drewN | apply Kd.R_drew)); exact Kd.R_mono h_ (by intro k_ h2_; revert h2_; (try simp only [and_imp, nb_, ns_, ownL_]); intros; (repeat' apply And.intro) <;> first | assumption | trivial)) : d.R e w1 base ok' v xs := f h
theorem lo_ (h : Aside0 (d.R e w base ok v xs)) (f : d.R e w base ok v xs → d.R e w1 base ok' v xs := by intro h_; (with_reducible repeat (first | apply Kd.R_alloc | apply Kd.R_drewN | apply Kd.R_drew)); exact Kd.R_mono h_ (by intro k_ h2_; revert h2_; (try simp only [and_imp, nb_, ns_, ownL_]); intros; (repeat' apply And.intro) <;> first | assumption | trivial)) : d.R e w1 base ok' v xs := f h.out
end
theorem bqs_ {g i : Nat} {w : World} {t : TypeId} {cs cs' : Array Value} {u : Value} (h : w.heap[g]? = some (.cells cs t (0, 0))) (e : cs.setIfInBounds i u = cs') : (w.setCell ⟨g, i, none⟩ u).heap[g]? = some (.cells cs' t (0, 0)) := blk_put h i u e
theorem bq1_0 {g : Nat} {w : World} {t : TypeId} {x a : Value} (h : w.heap[g]? = some (.cells #[x] t (0, 0))) : (w.setCell ⟨g, 0, none⟩ a).heap[g]? = some (.cells #[a] t (0, 0)) := blk_put h 0 a rfl
theorem bq2_0 {g : Nat} {w : World} {t : TypeId} {x a b : Value} (h : w.heap[g]? = some (.cells #[x, b] t (0, 0))) : (w.setCell ⟨g, 0, none⟩ a).heap[g]? = some (.cells #[a, b] t (0, 0)) := blk_put h 0 a rfl
theorem bq2_1 {g : Nat} {w : World} {t : TypeId} {x a b : Value} (h : w.heap[g]? = some (.cells #[a, x] t (0, 0))) : (w.setCell ⟨g, 1, none⟩ b).heap[g]? = some (.cells #[a, b] t (0, 0)) := blk_put h 1 b rfl
theorem bq4_0 {g : Nat} {w : World} {t : TypeId} {x a b c d : Value} (h : w.heap[g]? = some (.cells #[x, b, c, d] t (0, 0))) : (w.setCell ⟨g, 0, none⟩ a).heap[g]? = some (.cells #[a, b, c, d] t (0, 0)) := blk_put h 0 a rfl
theorem bq4_1 {g : Nat} {w : World} {t : TypeId} {x a b c d : Value} (h : w.heap[g]? = some (.cells #[a, x, c, d] t (0, 0))) : (w.setCell ⟨g, 1, none⟩ b).heap[g]? = some (.cells #[a, b, c, d] t (0, 0)) := blk_put h 1 b rfl
theorem bq4_2 {g : Nat} {w : World} {t : TypeId} {x a b c d : Value} (h : w.heap[g]? = some (.cells #[a, b, x, d] t (0, 0))) : (w.setCell ⟨g, 2, none⟩ c).heap[g]? = some (.cells #[a, b, c, d] t (0, 0)) := blk_put h 2 c rfl
theorem bq4_3 {g : Nat} {w : World} {t : TypeId} {x a b c d : Value} (h : w.heap[g]? = some (.cells #[a, b, c, x] t (0, 0))) : (w.setCell ⟨g, 3, none⟩ d).heap[g]? = some (.cells #[a, b, c, d] t (0, 0)) := blk_put h 3 d rfl
section
variable {g t B : Nat} {o : Obj} {cs cs' : Array Value} {w W W' : World} {row : Option Nat} {S : Nat → Prop}
theorem lb_ (h : Aside0 (W.heap[g]? = some o)) (f : W.heap[g]? = some o → W'.heap[g]? = some o := by intro h_; (with_reducible repeat (first | refine blk_drewN ?_ _ | refine blk_drew ?_ | refine blk_alloc ?_ _)); exact h_) : W'.heap[g]? = some o := f h.out
theorem lg_ (h : Aside0 (W.heap[g]? = some o)) (f : W.heap[g]? = some o → W'.heap[g]? = some o := by intro h_; (with_reducible repeat (first | refine blk_drewN ?_ _ | refine blk_drew ?_ | refine blk_alloc ?_ _ | refine blk_far ?_ (Aside0.out (by assumption)) _)); exact h_) : W'.heap[g]? = some o := f h.out
theorem lq_ (h : Aside0 (W.heap[g]? = some (.cells cs t (0, 0)))) (f : W.heap[g]? = some (.cells cs t (0, 0)) → W'.heap[g]? = some (.cells cs' t (0, 0)) := by intro h_; (with_reducible repeat (first | refine blk_drewN ?_ _ | refine blk_drew ?_ | refine blk_alloc ?_ _ | apply bq2_1 | apply bq2_0 | apply bq4_3 | apply bq4_2 | apply bq4_1 | apply bq4_0 | apply bq1_0 | refine blk_far ?_ (Aside0.out (by assumption)) _)); exact h_) : W'.heap[g]? = some (.cells cs' t (0, 0)) := f h.out
theorem lw_ (h : Aside0 (Below B w W)) (f : Below B w W → Below B w W' := by intro h_; repeat (first | (with_reducible first | exact h_ | apply below_alloc | apply pw_below_drewN | apply below_drew1 | refine below_set ?_ (Aside0.out (by assumption))) | exact h_)) : Below B w W' := f h.out
theorem lk_ (h : Aside0 (KeepBut w W g row)) (f : KeepBut w W g row → KeepBut w W' g row := by intro h_; repeat (first | (with_reducible first | exact h_ | apply KeepBut.set_ | apply keep_drewN | apply keep_drew | apply keep_alloc | refine keep_far ?_ (Aside0.out (by assumption)) _) | exact h_)) : KeepBut w W' g row := f h.out
theorem lp_ (h : Aside0 (Kept w W S)) (f : Kept w W S → Kept w W' S := by intro h_; repeat (first | (with_reducible first | exact h_ | apply Kept.alloc | apply Kept.drewN | apply Kept.drew | refine Kept.setCell ?_ (.inr (Aside0.out (by assumption))) _ | refine Kept.setCell ?_ (Aside0.out (by assumption)) _) | exact h_)) : Kept w W' S := f h.out
end
theorem sr_ {P : Prop} (h : P := by first | rfl | (simp; done) | (simp [*]; done)) : P := h
theorem er_ {P : Prop} (h : P := by first | rfl | (simp [errW_none, errW_some] <;> rfl) | (simp [*, errW_none, errW_some] <;> rfl)) : P := h
theorem bx1_ {w : World} {g : Nat} {t : TypeId} {a : Value} (h : w.heap[g]? = some (.cells #[a] t (0, 0))) : w.cell? ⟨g, 0, none⟩ = some a ∧ w.frozen? ⟨g, 0, none⟩ = false := ⟨(blk_cell h 0).trans rfl, blk_frozen h 0⟩
theorem bc1_ {w : World} {g : Nat} {t : TypeId} {a : Value} (h : w.heap[g]? = some (.cells #[a] t (0, 0))) : w.cell? ⟨g, 0, none⟩ = some a := (blk_cell h 0).trans rfl
theorem bx2_ {w : World} {g : Nat} {t : TypeId} {a b : Value} (h : w.heap[g]? = some (.cells #[a, b] t (0, 0))) : w.cell? ⟨g, 0, none⟩ = some a ∧ w.cell? ⟨g, 1, none⟩ = some b ∧ w.frozen? ⟨g, 0, none⟩ = false ∧ w.frozen? ⟨g, 1, none⟩ = false := ⟨(blk_cell h 0).trans rfl, (blk_cell h 1).trans rfl, blk_frozen h 0, blk_frozen h 1⟩
theorem bc2_ {w : World} {g : Nat} {t : TypeId} {a b : Value} (h : w.heap[g]? = some (.cells #[a, b] t (0, 0))) : w.cell? ⟨g, 0, none⟩ = some a ∧ w.cell? ⟨g, 1, none⟩ = some b := ⟨(blk_cell h 0).trans rfl, (blk_cell h 1).trans rfl⟩
theorem bx4_ {w : World} {g : Nat} {t : TypeId} {a b c d : Value} (h : w.heap[g]? = some (.cells #[a, b, c, d] t (0, 0))) : w.cell? ⟨g, 0, none⟩ = some a ∧ w.cell? ⟨g, 1, none⟩ = some b ∧ w.cell? ⟨g, 2, none⟩ = some c ∧ w.cell? ⟨g, 3, none⟩ = some d ∧ w.frozen? ⟨g, 0, none⟩ = false ∧ w.frozen? ⟨g, 1, none⟩ = false ∧ w.frozen? ⟨g, 2, none⟩ = false ∧ w.frozen? ⟨g, 3, none⟩ = false := ⟨(blk_cell h 0).trans rfl, (blk_cell h 1).trans rfl, (blk_cell h 2).trans rfl, (blk_cell h 3).trans rfl, blk_frozen h 0, blk_frozen h 1, blk_frozen h 2, blk_frozen h 3⟩
theorem bc4_ {w : World} {g : Nat} {t : TypeId} {a b c d : Value} (h : w.heap[g]? = some (.cells #[a, b, c, d] t (0, 0))) : w.cell? ⟨g, 0, none⟩ = some a ∧ w.cell? ⟨g, 1, none⟩ = some b ∧ w.cell? ⟨g, 2, none⟩ = some c ∧ w.cell? ⟨g, 3, none⟩ = some d := ⟨(blk_cell h 0).trans rfl, (blk_cell h 1).trans rfl, (blk_cell h 2).trans rfl, (blk_cell h 3).trans rfl⟩
section
variable {α α' : Type} {d : Kd α} {d' : Kd α'} {e e' base b' g N : Nat} {ok ok' p q : Nat → Prop} {w w1 W : World} {v u : Value} {xs : List α} {ys : List α'}
theorem m1_ (h : d.R e w base (fun k => p k ∧ q k) v xs) : d.R e w base p v xs := Kd.R_mono h (fun _ h => h.1)
theorem m2_ (h : d.R e w base (fun k => p k ∧ q k) v xs) : d.R e w base q v xs := Kd.R_mono h (fun _ h => h.2)
theorem mt_ (h : d.R e w base ok v xs) : d.R e w base (fun _ => True) v xs := Kd.R_mono h (fun _ _ => trivial)
theorem lj_ (h : d.R e w base ok v xs) (f : ∀ k, ok k → ok' k := by intro k_ h2_; revert h2_; (try simp only [and_imp, nb_, ns_, ownL_]); intros; (repeat' apply And.intro) <;> first | assumption | trivial) : d.R e w base ok' v xs := Kd.R_mono h f
theorem td_ (h : d.R e w1 base (fun k => ok k ∧ k < N) u xs) (ho : d'.R e' w1 N ok' v ys) : d.R e w1 base (fun k => (ok k ∧ some k ≠ v.ownBlock) ∧ k < N) u xs := Kd.R_told h (Kd.R_base ho)
theorem nw_ (h : d.R e w1 W.heap.size ok v xs) (A : Aside0 (d'.R e' w b' ok' u ys)) (f : d'.R e' w b' ok' u ys → d'.R e' W b' ok' u ys := by intro h_; (with_reducible repeat (first | apply Kd.R_alloc | apply Kd.R_drewN | apply Kd.R_drew)); exact h_) : d.R e w1 W.heap.size (fun k => ok k ∧ some k ≠ u.ownBlock) v xs := Kd.R_new' h (Kd.R_lt (f A.out))
theorem fr2_ {t : Nat} {cs : Array Value} (h : d.R e w base ok v xs) (hb : w.heap[g]? = some (.cells cs t (0, 0))) (a0 a1 : Value) (ht : ∀ q, q ∈ e :: d.E → q ≠ t := by decide) : d.R e ((w.setCell ⟨g, 0, none⟩ a0).setCell ⟨g, 1, none⟩ a1) base (fun k => ok k ∧ k ≠ g) v xs := Kd.R_far (p := ⟨g, 1, none⟩) (Kd.R_far (p := ⟨g, 0, none⟩) (Kd.R_types h hb ht) (fun _ hk => hk.2) a0) (fun _ hk => hk.2) a1
theorem fr4_ {t : Nat} {cs : Array Value} (h : d.R e w base ok v xs) (hb : w.heap[g]? = some (.cells cs t (0, 0))) (a0 a1 a2 a3 : Value) (ht : ∀ q, q ∈ e :: d.E → q ≠ t := by decide) : d.R e ((((w.setCell ⟨g, 0, none⟩ a0).setCell ⟨g, 1, none⟩ a1).setCell ⟨g, 2, none⟩ a2).setCell ⟨g, 3, none⟩ a3) base (fun k => ok k ∧ k ≠ g) v xs := Kd.R_far (p := ⟨g, 3, none⟩) (Kd.R_far (p := ⟨g, 2, none⟩) (Kd.R_far (p := ⟨g, 1, none⟩) (Kd.R_far (p := ⟨g, 0, none⟩) (Kd.R_types h hb ht) (fun _ hk => hk.2) a0) (fun _ hk => hk.2) a1) (fun _ hk => hk.2) a2) (fun _ hk => hk.2) a3
end
section
variable {P : Program} {ops : Array Oper} {rest : List Oper} {o : Oper} {a : Act} {Q : Exit → Act → World → Prop} {W : World}
theorem bev_ (N : Tmp) (cs : Array Value) (t : TypeId) (hd : o.dst = some N) (hgd : o.guard = none)
    (h : ∀ g, g = W.heap.size → ∀ w1, w1.heap[g]? = some (.cells cs t (0, 0)) → Below W.heap.size W w1 → wpList P ops Q rest (a.put o.dst (.pointer (some ⟨g, 0, none⟩))) w1)
    (hrun : (execOp a.eval o).run P W = .ok (.value (.pointer (some ⟨W.heap.size, 0, none⟩))) (W.alloc (.cells cs t (0, 0))) := by first | (go_simp; done) | (go_simp; rfl)) : wpList P ops Q (o :: rest) a W := box_event hgd (N := N) hd hrun h
end

end Go.Proofs.Ytkmhjgejficclaa.PFnExactJoinRanked
