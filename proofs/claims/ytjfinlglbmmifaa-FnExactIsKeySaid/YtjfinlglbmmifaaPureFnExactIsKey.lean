/- IsKey of the program and of the reference answer the same, for every string. -/
import Derived.Test.YtjfinlglbmmifaaPFnExactIsKeyx1
namespace Go.Proofs.Ytjfinlglbmmifaa.Pure
open Go.RowKit Go.Proofs.Ytjfinlglbmmifaa.PFnExactIsKey Go.Proofs.YtjfinlglbmmifaaW.PrintWords Go.Proofs.YtjfinlglbmmifaaW.PrintLast Go.Proofs.YtjfinlglbmmifaaW.PrintMore
set_option linter.unusedVariables false
set_option linter.unusedSimpArgs false

theorem w64 {x : Int} (h1 : -9223372036854775808 ≤ x) (h2 : x ≤ 9223372036854775807) : wrap64 x = x := by unfold wrap64; omega
theorem w64n (i : Nat) (h : i < 9223372036854775807) : wrap64 ((i : Int) + 1) = ((i + 1 : Nat) : Int) := by rw [w64 (by omega) (by omega)]; rfl
theorem succOf {k d : Nat} (h : d < k) : ∃ m, k = m + 1 := ⟨k - 1, by omega⟩

/-- the bytes from i on are those of a key, and so is the length -/
def keyP (s : ByteArray) (i : Nat) : Prop := (∀ j : Nat, i ≤ j → j < s.size → 33 ≤ bt s j ∧ bt s j ≤ 125) ∧ 1 ≤ s.size ∧ s.size ≤ 12
open Classical in
noncomputable def keyB (s : ByteArray) (i : Nat) : Bool := decide (keyP s i)
open Classical in
theorem keyB_stop (s : ByteArray) (i : Nat) (h : s.size ≤ i) : keyB s i = decide (1 ≤ s.size ∧ s.size ≤ 12) := by
  unfold keyB; apply decide_eq_decide.2; unfold keyP; constructor
  · exact fun h => h.2
  · exact fun h => ⟨fun j _ _ => by omega, h⟩
open Classical in
theorem keyB_no (s : ByteArray) (i : Nat) (h : i < s.size) (hb : ¬ (33 ≤ bt s i ∧ bt s i ≤ 125)) : keyB s i = false := by
  unfold keyB; exact decide_eq_false (p := keyP s i) (fun g => hb (g.1 i (Nat.le_refl _) h))
open Classical in
theorem keyB_go (s : ByteArray) (i : Nat) (h : i < s.size) (hb : (33 ≤ bt s i ∧ bt s i ≤ 125)) : keyB s i = keyB s (i+1) := by
  unfold keyB; apply decide_eq_decide.2; unfold keyP
  constructor
  · exact fun g => ⟨fun j hj hs => g.1 j (by omega) hs, g.2⟩
  · refine fun g => ⟨fun j hj hs => ?_, g.2⟩
    by_cases e : j = i
    · subst e; exact hb
    · exact g.1 j (by omega) hs
open Classical in
theorem keyB_size (s : ByteArray) (i : Nat) (h : keyB s i = true) : 1 ≤ s.size ∧ s.size ≤ 12 := by
  unfold keyB at h; exact (of_decide_eq_true h : keyP s i).2

theorem inS (a b c : Int) : spec_l1In.f a b c = some (decide (b ≤ a ∧ a ≤ c)) := by
  unfold spec_l1In.f; split <;> simp [*]

theorem isKeyS_l (s : ByteArray) (hs : s.size ≤ 140737488351232) (d : Nat) : ∀ (k i : Nat), i ≤ s.size → s.size - i = d → d < k → spec_IsKey.l0 k s i = some (keyB s i) := by
  induction d with
  | zero =>
    intro k i h1 hd hk
    obtain ⟨k, rfl⟩ := succOf hk
    rw [keyB_stop s i (by omega)]
    simp only [spec_IsKey.l0, inS]
    rw [if_neg (by omega), Option.bind_some]; congr 1; simp only [decide_eq_decide]; omega
  | succ d ih =>
    intro k i h1 hd hk
    obtain ⟨k, rfl⟩ := succOf hk
    simp only [spec_IsKey.l0]
    have h2 := ih k (i+1) (by omega) (by omega) (by omega)
    have h3 := w64n i (by omega)
    have h4 := keyB_no s i (by omega)
    have h5 := keyB_go s i (by omega)
    grind
theorem isKeyS (s : ByteArray) (hs : s.size ≤ 140737488351232) (k : Nat) (hk : s.size < k) : spec_IsKey.f k s = some (keyB s 0) :=
  isKeyS_l s hs s.size k 0 (by omega) (by omega) hk

theorem inI (a b c : Int) : impl_in.f a b c = some (decide (b ≤ a ∧ a ≤ c)) := by
  unfold impl_in.f; split <;> simp [*]

theorem isKeyI_l (s : ByteArray) (hs : s.size ≤ 140737488351232) (d : Nat) : ∀ (k i : Nat), i ≤ s.size → s.size - i = d → d < k → impl_IsKey.l0 k s s.size i = some (keyB s i) := by
  induction d with
  | zero =>
    intro k i h1 hd hk
    obtain ⟨k, rfl⟩ := succOf hk
    rw [keyB_stop s i (by omega)]
    simp only [impl_IsKey.l0, inI]
    rw [if_neg (by omega), Option.bind_some]; congr 1; simp only [decide_eq_decide]; omega
  | succ d ih =>
    intro k i h1 hd hk
    obtain ⟨k, rfl⟩ := succOf hk
    simp only [impl_IsKey.l0]
    have h2 := ih k (i+1) (by omega) (by omega) (by omega)
    have h3 := w64n i (by omega)
    have h4 := keyB_no s i (by omega)
    have h5 := keyB_go s i (by omega)
    grind
theorem isKeyI (s : ByteArray) (hs : s.size ≤ 140737488351232) (k : Nat) (hk : s.size < k) : impl_IsKey.f k s = some (keyB s 0) :=
  isKeyI_l s hs s.size k 0 (by omega) (by omega) hk

theorem FnExactIsKey : laws_FnExactIsKey.Pure := by
  intro s hs
  refine ⟨s.size + 1, ?_⟩
  unfold laws_FnExactIsKey.f
  rw [isKeyS s hs _ (by omega), isKeyI s hs _ (by omega)]
  split <;> simp

end Go.Proofs.Ytjfinlglbmmifaa.Pure
