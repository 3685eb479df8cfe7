/- WidthFor of the program and of the reference answer the same, for all numbers. -/
import Derived.Test.YtjfinlglbmmifaaPFnExactWidthForx1
namespace Go.Proofs.Ytjfinlglbmmifaa.Pure
open Go.RowKit Go.Proofs.Ytjfinlglbmmifaa.PFnExactWidthFor Go.Proofs.YtjfinlglbmmifaaW.PrintWords Go.Proofs.YtjfinlglbmmifaaW.PrintLast Go.Proofs.YtjfinlglbmmifaaW.PrintMore
set_option linter.unusedVariables false
set_option linter.unusedSimpArgs false

theorem w64 {x : Int} (h1 : -9223372036854775808 ≤ x) (h2 : x ≤ 9223372036854775807) : wrap64 x = x := by unfold wrap64; omega
theorem w64n (i : Nat) (h : i < 9223372036854775807) : wrap64 ((i : Int) + 1) = ((i + 1 : Nat) : Int) := by rw [w64 (by omega) (by omega)]; rfl
theorem succOf {k d : Nat} (h : d < k) : ∃ m, k = m + 1 := ⟨k - 1, by omega⟩

theorem inS (a b c : Int) : spec_l1In.f a b c = some (decide (b ≤ a ∧ a ≤ c)) := by
  unfold spec_l1In.f; split <;> simp [*]

theorem inI (a b c : Int) : impl_in.f a b c = some (decide (b ≤ a ∧ a ≤ c)) := by
  unfold impl_in.f; split <;> simp [*]

theorem shl64 (x y : Int) (h0 : 0 ≤ y) (h1 : y ≤ 63) : shl .i64 x y = wrap64 (x * 2 ^ y.toNat) := by
  unfold shl wrap64; rw [Nat.min_eq_left (by simp only [IntKind.bits]; omega), IntKind.wrap_i64]
theorem shr64 (x y : Int) (h0 : 0 ≤ y) (h1 : y ≤ 63) : shr .i64 x y = x / 2 ^ y.toNat := by
  unfold shr; rw [Nat.min_eq_left (by simp only [IntKind.bits]; omega)]

theorem widthStep (c l : Int) (hc : 0 ≤ c) (hc2 : c ≤ 60) (hl : l ≤ 100000) (hl1 : 1 ≤ l) (d : Nat) : ∀ (k k' w : Nat), 17 - w = d → w ≤ 17 → d < k → d < k' →
    ∃ r : Int, spec_spWidth.l0 k c l w = some r ∧ impl_WidthFor.l0 k' c l w = some (r, true) := by
  have hm : (if c > 1 then some c else some 1) = some (mx c 1) := by unfold mx; split <;> split <;> first | rfl | (congr 1; omega) | (exfalso; omega)
  have hm1 : 1 ≤ mx c 1 := by unfold mx; split <;> omega
  have hm60 : mx c 1 ≤ 60 := by unfold mx; split <;> omega
  induction d with
  | zero =>
    intro k k' w hd hw hk hk'
    obtain ⟨k, rfl⟩ := succOf hk
    obtain ⟨k', rfl⟩ := succOf hk'
    have : w = 17 := by omega
    subst this
    have e : wrap64 (((17 : Nat) : Int) + 1) = 18 := w64n 17 (by omega)
    have e1 : ¬ shl .i64 (mx c 1) 18 ≤ l := by
      rw [shl64 _ _ (by omega) (by omega), show (2 : Int) ^ (18 : Int).toNat = 262144 from rfl, w64 (by omega) (by omega)]; omega
    refine ⟨17, ?_, ?_⟩
    · simp only [spec_spWidth.l0, spec_l1Most.f]
      rw [hm, Option.bind_some, e, if_pos (by omega), if_neg e1]; rfl
    · simp only [impl_WidthFor.l0]
      rw [e, if_pos (by omega), if_neg e1]; rfl
  | succ d ih =>
    intro k k' w hd hw hk hk'
    obtain ⟨k, rfl⟩ := succOf hk
    obtain ⟨k', rfl⟩ := succOf hk'
    obtain ⟨r, h1, h2⟩ := ih k k' (w+1) (by omega) (by omega) (by omega) (by omega)
    simp only [spec_spWidth.l0, spec_l1Most.f, impl_WidthFor.l0]
    have h0 : (0 : Int) ≤ ((w + 1 : Nat) : Int) := by omega
    rw [hm, Option.bind_some, w64n w (by omega), if_pos h0, if_pos h0]
    by_cases c2 : shl .i64 (mx c 1) ((w+1 : Nat) : Int) ≤ l
    · rw [if_pos c2, if_pos c2]; exact ⟨r, h1, h2⟩
    · rw [if_neg c2, if_neg c2]; exact ⟨_, rfl, rfl⟩
theorem FnExactWidthFor : laws_FnExactWidthFor.Pure := by
  intro c l _ _
  refine ⟨20, ?_⟩
  unfold laws_FnExactWidthFor.f spec_WidthFor.f impl_WidthFor.f
  simp only [inS, inI, spec_spLimit.f, impl_limitOk.f, Option.bind_some]
  by_cases h1 : 0 ≤ c ∧ c ≤ 60
  · rw [decide_eq_true h1, if_pos rfl, if_pos rfl]
    by_cases h2 : 1 ≤ l ∧ l ≤ 100000
    · obtain ⟨r, e1, e2⟩ := widthStep c l h1.1 h1.2 h2.2 h2.1 17 20 19 0 (by omega) (by omega) (by omega) (by omega)
      rw [decide_eq_true h2, if_pos rfl]
      unfold spec_spWidth.f
      simp only [impl_WidthFor.j0]
      simp only [Int.natCast_zero] at e1 e2
      rw [e1]; simp [e2]
    · rw [decide_eq_false h2]
      simp [impl_WidthFor.j0]
  · rw [decide_eq_false h1]
    simp [impl_WidthFor.j0]

end Go.Proofs.Ytjfinlglbmmifaa.Pure
