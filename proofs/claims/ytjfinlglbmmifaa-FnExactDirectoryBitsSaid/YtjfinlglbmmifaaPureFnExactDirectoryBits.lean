/- DirectoryBits of the program and of the reference answer the same, for every number. -/
import Derived.Test.YtjfinlglbmmifaaPFnExactDirectoryBitsx1
namespace Go.Proofs.Ytjfinlglbmmifaa.Pure
open Go.RowKit Go.Proofs.Ytjfinlglbmmifaa.PFnExactDirectoryBits Go.Proofs.YtjfinlglbmmifaaW.PrintWords Go.Proofs.YtjfinlglbmmifaaW.PrintLast Go.Proofs.YtjfinlglbmmifaaW.PrintMore
set_option linter.unusedVariables false
set_option linter.unusedSimpArgs false

theorem w64 {x : Int} (h1 : -9223372036854775808 ≤ x) (h2 : x ≤ 9223372036854775807) : wrap64 x = x := by unfold wrap64; omega
theorem w64n (i : Nat) (h : i < 9223372036854775807) : wrap64 ((i : Int) + 1) = ((i + 1 : Nat) : Int) := by rw [w64 (by omega) (by omega)]; rfl
theorem succOf {k d : Nat} (h : d < k) : ∃ m, k = m + 1 := ⟨k - 1, by omega⟩

theorem inS (a b c : Int) : spec_l1In.f a b c = some (decide (b ≤ a ∧ a ≤ c)) := by
  unfold spec_l1In.f; split <;> simp [*]

theorem inI (a b c : Int) : impl_in.f a b c = some (decide (b ≤ a ∧ a ≤ c)) := by
  unfold impl_in.f; split <;> simp [*]

theorem FnExactDirectoryBits : laws_FnExactDirectoryBits.Pure := by
  intro a h
  unfold laws_FnExactDirectoryBits.f spec_DirectoryBits.f impl_DirectoryBits.f
  rw [inS, inI, Option.bind_some, Option.bind_some]
  by_cases c : 0 ≤ a ∧ a ≤ 4096
  · rw [if_pos (by simpa using c), if_pos (by simpa using c)]
    have e : wrap64 (wrap64 (a + 64) - 1) = wrap64 (a + 63) := by
      rw [w64 (x := a + 64) (by omega) (by omega)]; congr 1; omega
    have e2 : wrap64 (wrap64 (a + 16) - 1) = wrap64 (a + 15) := by
      rw [w64 (x := a + 16) (by omega) (by omega)]; congr 1; omega
    simp only [spec_raSize.f, impl_words.f, Option.bind_some, e, e2]
    simp
  · rw [if_neg (by simpa using c), if_neg (by simpa using c)]; simp

end Go.Proofs.Ytjfinlglbmmifaa.Pure
