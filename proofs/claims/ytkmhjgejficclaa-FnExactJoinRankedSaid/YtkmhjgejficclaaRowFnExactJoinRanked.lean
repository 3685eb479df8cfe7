/- The row of FnExactJoinRanked: for every input that can be read the call returns true, and its arguments read behind it as before. Laid by a program of this session, in the form of the kit's rows. -/
import Derived.Test.YtkmhjgejficclaaRows
import Derived.Test.YtkmhjgejficclaaPFnExactJoinRankedx11
import Derived.Test.YtkmhjgejficclaaPureFnExactJoinRanked
import Derived.Test.YtkmhjgejficclaaAFnExactJoinRanked
import Derived.WalkKit
import Derived.ProofKit
import Derived.OpenShut
import Derived.ShutString
import Derived.ChangeOld
import Derived.Below
import Derived.SizedLaws
import Derived.Carry
import Derived.Test.YtkmhjgejficclaaVFnExactJoinRanked
namespace Go.Proofs.Ytkmhjgejficclaa.fnExactJoinRanked
open Go.ChangeShapes Go.WideShapes Go.ChangeAt Go.RowKit
open Go.ChangeMaps (open_string shut_string)
set_option linter.unusedVariables false
theorem own : ownKnob Try.prog.godebug = none := by kernel_rfl
theorem laidOut : laidOutB Try.prog = true := by kernel_rfl
set_option maxRecDepth 100000 in
theorem lifted (os : Os) (started : os.Started) (H : Type) (enc : TypeId × Value → H) :
    ReturnsInHanded {} Try.checked os 8 .any (Rows.fnExactJoinRankedSpec.pre6 enc Try.prog Try.f8 Rows.fnExactJoinRankedRow.domain false) (Rows.fnExactJoinRankedSpec.post enc Try.prog Try.f8 false true false false) := by
  refine returnsInHanded_of_change_sized (C := Try.checked) own started (by kernel_rfl) Try.func8
    (ChangeSpec.witness6 (enc := enc) (C := Try.checked) false ⟨#[], #[.agg #[.int .i64 0, .slice none 0 0, .slice none 0 0, .slice none 0 0], .agg #[.int .i64 0, .slice none 0 0, .slice none 0 0, .slice none 0 0]], []⟩ 8 (by kernel_rfl) (by kernel_rfl) (by kernel_rfl) (by kernel_rfl)) ?_
  intro W base args ds gs before hval0 hW hcnd hsz0 _
  have hsz : (DataW.weightsEach Try.prog (Try.f8.params.toList ++ Rows.fnExactJoinRankedSpec.plain.varTypes Try.prog) (ds ++ gs)).all (· ≤ reachBytes) = true := hsz0
  have hval : ∀ (j : Nat) t v, Try.f8.params[j]? = some t → args[j]? = some v → Value.okWide Try.prog W .any base t v := hval0
  have hW' := hW
  obtain ⟨p, q, hA0, hV, rfl, hfz, hnd⟩ := hW
  have hA : DataW.TrodAll enc Try.prog W 0 (fun _ => true) true Try.f8.params.toList args.toList ds p := hA0
  rw [Try.params8] at hA hval hsz
  obtain ⟨v0, vs0, d0, ds0, p0, q0, hargs, rfl, rfl, h0, r0⟩ := trodAll_cons hA
  obtain ⟨v1, vs1, d1, ds1, p1, q1, rfl, rfl, rfl, h1, r1⟩ := trodAll_cons r0
  obtain ⟨rfl, rfl, rfl⟩ := trodAll_nil r1
  obtain rfl : args = #[v0, v1] := by cases args; simp_all
  obtain ⟨rfl, rfl⟩ := trodVars_none hV
  have k0 := h0
  have lt0 : ∀ x ∈ p0, x.block < W.heap.size := by obtain ⟨m, hm⟩ := k0; exact DataW.trod_lt m _ _ _ hm
  obtain ⟨a0_0, A0_1, c0_1, l0_1, A0_2, c0_2, l0_2, A0_3, c0_3, l0_3, rfl, b0_0, b0_2, b0_3⟩ := Go.Proofs.YtkmhjgejficclaaArgs.ranked_of Try.underlying45 (by kernel_rfl) Try.underlying24 rfl rfl rfl (by kernel_rfl) (by kernel_rfl) (by kernel_rfl) rfl rfl (by kernel_rfl) (by kernel_rfl) Try.underlying3 Try.underlying22 Try.underlying22 Try.underlying22 Try.underlying3 (by kernel_rfl) (hval 0 45 v0 rfl rfl) h0
  have k1 := h1
  have lt1 : ∀ x ∈ p1, x.block < W.heap.size := by obtain ⟨m, hm⟩ := k1; exact DataW.trod_lt m _ _ _ hm
  obtain ⟨a1_0, A1_1, c1_1, l1_1, A1_2, c1_2, l1_2, A1_3, c1_3, l1_3, rfl, b1_0, b1_2, b1_3⟩ := Go.Proofs.YtkmhjgejficclaaArgs.ranked_of Try.underlying45 (by kernel_rfl) Try.underlying24 rfl rfl rfl (by kernel_rfl) (by kernel_rfl) (by kernel_rfl) rfl rfl (by kernel_rfl) (by kernel_rfl) Try.underlying3 Try.underlying22 Try.underlying22 Try.underlying22 Try.underlying3 (by kernel_rfl) (hval 1 45 v1 rfl rfl) h1
  clear hA0 hval0 hsz0 hsz
  obtain ⟨k, h⟩ := Pure.FnExactJoinRanked a0_0 l0_1 l0_2 l0_3 a1_0 l1_1 l1_2 l1_3 b0_0.1 b0_0.2.2.2.1 b0_0.2.2.2.2 b0_2.2.2.1 b0_2.2.2.2 b0_3.2.2.1 b0_3.2.2.2 b1_0.1 b1_0.2.2.2.1 b1_0.2.2.2.2 b1_2.2.2.1 b1_2.2.2.2 b1_3.2.2.1 b1_3.2.2.2
  refine (PFnExactJoinRanked.laws_FnExactJoinRanked.calls k a0_0 A0_1 c0_1 l0_1 A0_2 c0_2 l0_2 A0_3 c0_3 l0_3 a1_0 A1_1 c1_1 l1_1 A1_2 c1_2 l1_2 A1_3 c1_3 l1_3 true W b0_0.2.1 b0_0.2.2.1 b0_2.1 b0_2.2.1 b0_3.1 b0_3.2.1 b1_0.2.1 b1_0.2.2.1 b1_2.1 b1_2.2.1 b1_3.1 b1_3.2.1 h).mono fun e W' ⟨he, bel⟩ => ?_
  subst he
  exact ⟨_, rfl, _, _, _, [], _, [], hW', trodAll_mk1 (shut_bool Try.underlying4 _), (trodAll_cons_mk (Below.trod laidOut (by kernel_rfl) (of_decide_eq_true (by kernel_rfl)) k0 bel lt0) (trodAll_cons_mk (Below.trod laidOut (by kernel_rfl) (of_decide_eq_true (by kernel_rfl)) k1 bel lt1) trodAll_mk0)), rfl, bel.frame _, fun h => by cases h⟩
theorem over : Rows.fnExactJoinRankedRow.holds Try.pinned (OpenSpec.ofChange Rows.fnExactJoinRankedSpec) :=
  OpenClaim.holds_of_wide 8 Try.f8 rfl rfl rfl rfl rfl rfl rfl ⟨rfl, rfl, rfl, rfl, rfl⟩ rfl rfl rfl rfl rfl (by kernel_rfl) Try.func8 (by kernel_rfl)
    (of_decide_eq_true (by kernel_rfl)) (by unfold Func.isWrapper; first | (rw [if_pos (by decide +kernel)]; kernel_rfl) | (rw [if_neg (by decide +kernel)]; exact ⟨rfl, rfl⟩))
    (fun os started H enc _ => lifted os started H enc)
theorem proved : Rows.FnExactJoinRankedSaid := over
#print axioms proved
end Go.Proofs.Ytkmhjgejficclaa.fnExactJoinRanked
namespace Go.Proofs.Ytkmhjgejficclaa
/-- The row, under a short name, for the claim. -/
theorem fnExactJoinRanked_holds : Rows.FnExactJoinRankedSaid := fnExactJoinRanked.proved
end Go.Proofs.Ytkmhjgejficclaa
