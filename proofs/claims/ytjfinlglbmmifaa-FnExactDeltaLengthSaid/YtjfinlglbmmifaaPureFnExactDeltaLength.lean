/- DeltaLength of the program and of the reference answer the same, for every number. -/
import Derived.Test.YtjfinlglbmmifaaPFnExactDeltaLengthx1
namespace Go.Proofs.Ytjfinlglbmmifaa.Pure
open Go.RowKit Go.Proofs.Ytjfinlglbmmifaa.PFnExactDeltaLength Go.Proofs.YtjfinlglbmmifaaW.PrintWords Go.Proofs.YtjfinlglbmmifaaW.PrintLast Go.Proofs.YtjfinlglbmmifaaW.PrintMore
set_option linter.unusedVariables false
set_option linter.unusedSimpArgs false

theorem w64 {x : Int} (h1 : -9223372036854775808 ≤ x) (h2 : x ≤ 9223372036854775807) : wrap64 x = x := by unfold wrap64; omega
theorem w64n (i : Nat) (h : i < 9223372036854775807) : wrap64 ((i : Int) + 1) = ((i + 1 : Nat) : Int) := by rw [w64 (by omega) (by omega)]; rfl
theorem succOf {k d : Nat} (h : d < k) : ∃ m, k = m + 1 := ⟨k - 1, by omega⟩

theorem inS (a b c : Int) : spec_l1In.f a b c = some (decide (b ≤ a ∧ a ≤ c)) := by
  unfold spec_l1In.f; split <;> simp [*]

theorem inI (a b c : Int) : impl_in.f a b c = some (decide (b ≤ a ∧ a ≤ c)) := by
  unfold impl_in.f; split <;> simp [*]

theorem shl64 (x y : Int) (h0 : 0 ≤ y) (h1 : y ≤ 63) : shl .i64 x y = wrap64 (x * 2 ^ y.toNat) := by
  unfold shl wrap64; rw [Nat.min_eq_left (by simp only [IntKind.bits]; omega), IntKind.wrap_i64]
theorem shr64 (x y : Int) (h0 : 0 ≤ y) (h1 : y ≤ 63) : shr .i64 x y = x / 2 ^ y.toNat := by
  unfold shr; rw [Nat.min_eq_left (by simp only [IntKind.bits]; omega)]

theorem len_of (x : Nat) (d : Nat) (h : 2 ^ d ≤ x) (h2 : x < 2 ^ (d + 1)) (h3 : x < 2 ^ 64) : Lib.bitLen x = d + 1 := by
  have e := Lib.bitLen_shift d x h h3
  have hp : 0 < 2 ^ d := Nat.two_pow_pos d
  have hq : x / 2 ^ d = 1 := by
    rw [Nat.pow_succ] at h2
    have h4 : x / 2 ^ d < 2 := (Nat.div_lt_iff_lt_mul hp).2 (by omega)
    have h5 : 1 ≤ x / 2 ^ d := (Nat.one_le_div_iff hp).2 h
    omega
  rw [hq] at e
  rw [e]; rfl
theorem digitsS_l (x : Nat) (h1 : 1 ≤ x) (hx : x ≤ 100000) (m : Nat) : ∀ (k d : Nat), d + m = 17 → 2 ^ d ≤ x → m < k → spec_spDigits.l0 k x d = some ((Lib.bitLen x : Nat) - 1 : Int) := by
  induction m with
  | zero =>
    intro k d hd hp hk
    have : d = 17 := by omega
    subst this
    exact absurd hp (by omega)
  | succ m ih =>
    intro k d hd hp hk
    obtain ⟨k, rfl⟩ := succOf hk
    have hpos : 0 < 2 ^ d := Nat.two_pow_pos d
    have hc : (2 : Int) ^ d = ((2 ^ d : Nat) : Int) := by simp
    have es : shl .i64 2 (d : Int) = ((2 ^ (d + 1) : Nat) : Int) := by
      rw [shl64 _ _ (by omega) (by omega), Int.toNat_natCast, hc, w64 (by omega) (by omega), Nat.pow_succ]; omega
    simp only [spec_spDigits.l0]
    rw [if_pos (by omega), es, w64n d (by omega)]
    by_cases c : 2 ^ (d + 1) ≤ x
    · rw [if_pos (by omega)]; exact ih k (d + 1) (by omega) c (by omega)
    · have := len_of x d hp (by omega) (by omega)
      rw [if_neg (by omega), this]; congr 1; omega
theorem digitsS (x : Int) (h1 : 1 ≤ x) (hx : x ≤ 100000) (k : Nat) (hk : 17 < k) : spec_spDigits.f k x = some ((Lib.bitLen x.toNat : Nat) - 1 : Int) := by
  have := digitsS_l x.toNat (by omega) (by omega) 17 k 0 (by omega) (by simp; omega) hk
  rw [Int.toNat_of_nonneg (by omega)] at this
  exact this
theorem bitLen_range (x : Int) (h1 : 1 ≤ x) (hx : x ≤ 100000) : 1 ≤ Lib.bitLen x.toNat ∧ Lib.bitLen x.toNat ≤ 17 := by
  have go : ∀ m d : Nat, d + m = 17 → 2 ^ d ≤ x.toNat → 1 ≤ Lib.bitLen x.toNat ∧ Lib.bitLen x.toNat ≤ 17 := by
    intro m
    induction m with
    | zero => intro d hd hp; have : d = 17 := by omega
              subst this; exact absurd hp (by omega)
    | succ m ih =>
      intro d hd hp
      by_cases c : 2 ^ (d + 1) ≤ x.toNat
      · exact ih (d + 1) (by omega) c
      · have := len_of x.toNat d hp (by omega) (by omega); omega
  exact go 17 0 (by omega) (by simp; omega)

theorem digitsI (x : Int) (h1 : 1 ≤ x) (hx : x ≤ 100000) : impl_digits.f x = some ((Lib.bitLen x.toNat : Nat) - 1 : Int) := by
  have hr := bitLen_range x h1 hx
  have e : IntKind.u64.wrap x = x := by rw [IntKind.wrap_u64]; omega
  unfold impl_digits.f bits_Len.f
  rw [e, if_pos (by omega), if_pos (by omega), Option.bind_some, w64 (by omega) (by omega)]

theorem FnExactDeltaLength : laws_FnExactDeltaLength.Pure := by
  intro a _
  obtain ⟨k, hk⟩ : ∃ k, k = 20 := ⟨_, rfl⟩
  refine ⟨k, ?_⟩
  unfold laws_FnExactDeltaLength.f spec_DeltaLength.f impl_DeltaLength.f spec_spNumber.f
  rw [inS, inI, Option.bind_some, Option.bind_some, Option.bind_some]
  by_cases c : 1 ≤ a ∧ a ≤ 100000
  · have hr := bitLen_range a c.1 c.2
    have e : wrap64 (((Lib.bitLen a.toNat : Nat) : Int) - 1 + 1) = ((Lib.bitLen a.toNat : Nat) : Int) := by rw [w64 (by omega) (by omega)]; omega
    rw [decide_eq_true c, if_pos rfl, if_pos rfl, digitsS a c.1 c.2 k (by omega), digitsI a c.1 c.2]
    simp only [Option.bind_some]
    rw [e, digitsS _ (by omega) (by omega) k (by omega), digitsI _ (by omega) (by omega)]; simp
  · rw [decide_eq_false c, if_neg (by simp), if_neg (by simp)]; simp

end Go.Proofs.Ytjfinlglbmmifaa.Pure
