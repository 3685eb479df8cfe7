/- HashOf of the program and of the reference answer the same, for all numbers and strings of at most 2^20 bytes (longer ones are not asked). -/
import Derived.Test.YtjfinlglbmmifaaPFnExactHashOfx1
namespace Go.Proofs.Ytjfinlglbmmifaa.Pure
open Go.RowKit Go.Proofs.Ytjfinlglbmmifaa.PFnExactHashOf Go.Proofs.YtjfinlglbmmifaaW.PrintWords Go.Proofs.YtjfinlglbmmifaaW.PrintLast Go.Proofs.YtjfinlglbmmifaaW.PrintMore
set_option linter.unusedVariables false
set_option linter.unusedSimpArgs false

theorem w64 {x : Int} (h1 : -9223372036854775808 ≤ x) (h2 : x ≤ 9223372036854775807) : wrap64 x = x := by unfold wrap64; omega
theorem w64n (i : Nat) (h : i < 9223372036854775807) : wrap64 ((i : Int) + 1) = ((i + 1 : Nat) : Int) := by rw [w64 (by omega) (by omega)]; rfl
theorem succOf {k d : Nat} (h : d < k) : ∃ m, k = m + 1 := ⟨k - 1, by omega⟩

/-- the bytes from i on are those of a key, and so is the length -/
def keyP (s : ByteArray) (i : Nat) : Prop := (∀ j : Nat, i ≤ j → j < s.size → 33 ≤ bt s j ∧ bt s j ≤ 125) ∧ 1 ≤ s.size ∧ s.size ≤ 12
open Classical in
noncomputable def keyB (s : ByteArray) (i : Nat) : Bool := decide (keyP s i)
open Classical in
theorem keyB_stop (s : ByteArray) (i : Nat) (h : s.size ≤ i) : keyB s i = decide (1 ≤ s.size ∧ s.size ≤ 12) := by
  unfold keyB; apply decide_eq_decide.2; unfold keyP; constructor
  · exact fun h => h.2
  · exact fun h => ⟨fun j _ _ => by omega, h⟩
open Classical in
theorem keyB_no (s : ByteArray) (i : Nat) (h : i < s.size) (hb : ¬ (33 ≤ bt s i ∧ bt s i ≤ 125)) : keyB s i = false := by
  unfold keyB; exact decide_eq_false (p := keyP s i) (fun g => hb (g.1 i (Nat.le_refl _) h))
open Classical in
theorem keyB_go (s : ByteArray) (i : Nat) (h : i < s.size) (hb : (33 ≤ bt s i ∧ bt s i ≤ 125)) : keyB s i = keyB s (i+1) := by
  unfold keyB; apply decide_eq_decide.2; unfold keyP
  constructor
  · exact fun g => ⟨fun j hj hs => g.1 j (by omega) hs, g.2⟩
  · refine fun g => ⟨fun j hj hs => ?_, g.2⟩
    by_cases e : j = i
    · subst e; exact hb
    · exact g.1 j (by omega) hs
open Classical in
theorem keyB_size (s : ByteArray) (i : Nat) (h : keyB s i = true) : 1 ≤ s.size ∧ s.size ≤ 12 := by
  unfold keyB at h; exact (of_decide_eq_true h : keyP s i).2

theorem inS (a b c : Int) : spec_l1In.f a b c = some (decide (b ≤ a ∧ a ≤ c)) := by
  unfold spec_l1In.f; split <;> simp [*]

theorem isKeyS_l (s : ByteArray) (hs : s.size ≤ 140737488351232) (d : Nat) : ∀ (k i : Nat), i ≤ s.size → s.size - i = d → d < k → spec_IsKey.l0 k s i = some (keyB s i) := by
  induction d with
  | zero =>
    intro k i h1 hd hk
    obtain ⟨k, rfl⟩ := succOf hk
    rw [keyB_stop s i (by omega)]
    simp only [spec_IsKey.l0, inS]
    rw [if_neg (by omega), Option.bind_some]; congr 1; simp only [decide_eq_decide]; omega
  | succ d ih =>
    intro k i h1 hd hk
    obtain ⟨k, rfl⟩ := succOf hk
    simp only [spec_IsKey.l0]
    have h2 := ih k (i+1) (by omega) (by omega) (by omega)
    have h3 := w64n i (by omega)
    have h4 := keyB_no s i (by omega)
    have h5 := keyB_go s i (by omega)
    grind
theorem isKeyS (s : ByteArray) (hs : s.size ≤ 140737488351232) (k : Nat) (hk : s.size < k) : spec_IsKey.f k s = some (keyB s 0) :=
  isKeyS_l s hs s.size k 0 (by omega) (by omega) hk

theorem inI (a b c : Int) : impl_in.f a b c = some (decide (b ≤ a ∧ a ≤ c)) := by
  unfold impl_in.f; split <;> simp [*]

theorem isKeyI_l (s : ByteArray) (hs : s.size ≤ 140737488351232) (d : Nat) : ∀ (k i : Nat), i ≤ s.size → s.size - i = d → d < k → impl_IsKey.l0 k s s.size i = some (keyB s i) := by
  induction d with
  | zero =>
    intro k i h1 hd hk
    obtain ⟨k, rfl⟩ := succOf hk
    rw [keyB_stop s i (by omega)]
    simp only [impl_IsKey.l0, inI]
    rw [if_neg (by omega), Option.bind_some]; congr 1; simp only [decide_eq_decide]; omega
  | succ d ih =>
    intro k i h1 hd hk
    obtain ⟨k, rfl⟩ := succOf hk
    simp only [impl_IsKey.l0]
    have h2 := ih k (i+1) (by omega) (by omega) (by omega)
    have h3 := w64n i (by omega)
    have h4 := keyB_no s i (by omega)
    have h5 := keyB_go s i (by omega)
    grind
theorem isKeyI (s : ByteArray) (hs : s.size ≤ 140737488351232) (k : Nat) (hk : s.size < k) : impl_IsKey.f k s = some (keyB s 0) :=
  isKeyI_l s hs s.size k 0 (by omega) (by omega) hk

theorem tmod_ok (x : Int) (h : 0 ≤ x) : 0 ≤ Int.tmod x 65521 ∧ Int.tmod x 65521 ≤ 65520 ∧ Int.tmod x 65521 = x % 65521 := by
  have e : Int.tmod x 65521 = x % 65521 := Int.tmod_eq_emod_of_nonneg h
  omega
theorem bt_range (s : ByteArray) (i : Int) : 0 ≤ bt s i ∧ bt s i ≤ 255 := by
  unfold bt; split
  · rename_i h; have := (s[i.toNat]'h).toNat_lt; omega
  · omega
/-- a product of two remainders, once more a remainder -/
def mulP (x y : Int) : Int := (x * y) % 65521
theorem mulP_range (x y : Int) : 0 ≤ mulP x y ∧ mulP x y ≤ 65520 := by unfold mulP; omega
theorem mul_ok (x y : Int) (hx : 0 ≤ x ∧ x ≤ 65520) (hy : 0 ≤ y ∧ y ≤ 65520) : Int.tmod (wrap64 (x * y)) 65521 = mulP x y := by
  have h0 : 0 ≤ x * y := Int.mul_nonneg hx.1 hy.1
  have h1 : x * y ≤ 65520 * 65520 := Int.mul_le_mul hx.2 hy.2 hy.1 (by omega)
  rw [w64 (by omega) (by omega), (tmod_ok _ h0).2.2]; rfl
/-- the eleventh power by squares -/
def pow11 (h : Int) : Int := mulP (mulP (mulP (mulP (mulP h h) (mulP h h)) h) (mulP (mulP (mulP h h) (mulP h h)) h)) h
theorem mulP_l (x y : Int) : mulP (x % 65521) y = mulP x y := by unfold mulP; rw [Int.mul_emod, Int.emod_emod_of_dvd _ (Int.dvd_refl _), ← Int.mul_emod]
theorem mulP_r (x y : Int) : mulP x (y % 65521) = mulP x y := by unfold mulP; rw [Int.mul_emod, Int.emod_emod_of_dvd _ (Int.dvd_refl _), ← Int.mul_emod]
theorem mulP_ll (x y z : Int) : mulP (mulP x y) z = (x * y * z) % 65521 := by
  show mulP ((x * y) % 65521) z = _; rw [mulP_l]; rfl
theorem mulP_rr (x y z : Int) : mulP x (mulP y z) = (x * (y * z)) % 65521 := by
  show mulP x ((y * z) % 65521) = _; rw [mulP_r]; rfl
theorem em1 (x y : Int) : x % 65521 * y % 65521 = x * y % 65521 := by rw [Int.mul_emod, Int.emod_emod_of_dvd _ (Int.dvd_refl _), ← Int.mul_emod]
theorem em2 (x y : Int) : x * (y % 65521) % 65521 = x * y % 65521 := by rw [Int.mul_emod, Int.emod_emod_of_dvd _ (Int.dvd_refl _), ← Int.mul_emod]
/-- one step after another -/
def powStep (h : Int) : Nat → Int → Int
  | 0, o => o
  | n + 1, o => powStep h n (mulP o h)
theorem pow_eq (h : Int) : powStep h 11 1 = pow11 h := by
  unfold pow11
  simp only [powStep]
  have a (x y : Int) : mulP x y = (x * y) % 65521 := rfl
  simp only [a]
  simp only [em1, em2, Int.one_mul]
  congr 1
  simp only [Int.mul_assoc]
/-- what the bytes from i on make of h -/
def hashFrom (s : ByteArray) : Nat → Nat → Int → Int
  | 0, _, h => h
  | n + 1, i, h => hashFrom s n (i + 1) (Int.tmod (wrap64 (wrap64 (263 * h) + wrap64 (bt s i))) 65521)

theorem hash_step (s : ByteArray) (i h : Int) (hh : 0 ≤ h ∧ h ≤ 65520) : 0 ≤ Int.tmod (wrap64 (wrap64 (263 * h) + wrap64 (bt s i))) 65521 ∧ Int.tmod (wrap64 (wrap64 (263 * h) + wrap64 (bt s i))) 65521 ≤ 65520 := by
  have hb := bt_range s i
  rw [w64 (x := 263 * h) (by omega) (by omega), w64 (x := bt s i) (by omega) (by omega), w64 (by omega) (by omega)]
  have := tmod_ok (263 * h + bt s i) (by omega)
  omega
theorem specHash_l (s : ByteArray) (hs : s.size ≤ 140737488351232) (d : Nat) : ∀ (k i : Nat) (h : Int), 0 ≤ h ∧ h ≤ 65520 → i ≤ s.size → s.size - i = d → d < k →
    spec_biHash.l0 k s h i = some (pow11 (hashFrom s d i h)) := by
  induction d with
  | zero =>
    intro k i h hh h1 hd hk
    obtain ⟨k, rfl⟩ := succOf hk
    simp only [spec_biHash.l0]
    rw [if_neg (by omega)]
    have r1 := mulP_range h h
    rw [mul_ok h h hh hh, mul_ok _ _ r1 r1]
    have r2 := mulP_range (mulP h h) (mulP h h)
    rw [mul_ok _ _ r2 hh]
    have r3 := mulP_range (mulP (mulP h h) (mulP h h)) h
    rw [mul_ok _ _ r3 r3]
    have r4 := mulP_range (mulP (mulP (mulP h h) (mulP h h)) h) (mulP (mulP (mulP h h) (mulP h h)) h)
    rw [mul_ok _ _ r4 hh]; rfl
  | succ d ih =>
    intro k i h hh h1 hd hk
    obtain ⟨k, rfl⟩ := succOf hk
    simp only [spec_biHash.l0]
    rw [if_pos (by omega), if_pos (by omega), w64n i (by omega)]
    exact ih k (i+1) _ (hash_step s i h hh) (by omega) (by omega) (by omega)

theorem implPow_l (h : Int) (hh : 0 ≤ h ∧ h ≤ 65520) (d : Nat) : ∀ (k i : Nat) (o : Int), 0 ≤ o ∧ o ≤ 65520 → i ≤ 11 → 11 - i = d → d < k → impl_hash.l1 k h o i = some (powStep h d o) := by
  induction d with
  | zero =>
    intro k i o ho h1 hd hk
    obtain ⟨k, rfl⟩ := succOf hk
    simp only [impl_hash.l1]
    rw [if_neg (by omega)]; rfl
  | succ d ih =>
    intro k i o ho h1 hd hk
    obtain ⟨k, rfl⟩ := succOf hk
    simp only [impl_hash.l1]
    rw [if_pos (by omega), w64n i (by omega), mul_ok o h ho hh]
    exact ih k (i+1) _ (mulP_range o h) (by omega) (by omega) (by omega)
theorem implHash_l (s : ByteArray) (hs : s.size ≤ 140737488351232) (d : Nat) : ∀ (k i : Nat) (h : Int), 0 ≤ h ∧ h ≤ 65520 → i ≤ s.size → s.size - i = d → d + 12 < k →
    impl_hash.l0 k s h s.size i = some (pow11 (hashFrom s d i h)) := by
  induction d with
  | zero =>
    intro k i h hh h1 hd hk
    obtain ⟨k, rfl⟩ := succOf hk
    simp only [impl_hash.l0]
    rw [if_neg (by omega)]
    have := implPow_l h hh 11 k 0 1 (by omega) (by omega) (by omega) (by omega)
    rw [pow_eq] at this
    exact this
  | succ d ih =>
    intro k i h hh h1 hd hk
    obtain ⟨k, rfl⟩ := succOf hk
    simp only [impl_hash.l0]
    rw [if_pos (by omega), if_pos (by omega), if_pos (by omega), w64n i (by omega)]
    exact ih k (i+1) _ (hash_step s i h hh) (by omega) (by omega) (by omega)
/-- where the hash begins -/
theorem hash_begin (a b : Int) (ha : 0 ≤ a ∧ a ≤ 9999) (hb : 0 ≤ b ∧ b ≤ 9) : 0 ≤ Int.tmod (wrap64 (wrap64 (wrap64 (31 * a) + wrap64 (977 * b)) + 7)) 65521 ∧ Int.tmod (wrap64 (wrap64 (wrap64 (31 * a) + wrap64 (977 * b)) + 7)) 65521 ≤ 65520 := by
  rw [w64 (x := 31 * a) (by omega) (by omega), w64 (x := 977 * b) (by omega) (by omega), w64 (x := 31 * a + 977 * b) (by omega) (by omega), w64 (by omega) (by omega)]
  have := tmod_ok (31 * a + 977 * b + 7) (by omega)
  omega
theorem hash_both (a b : Int) (s : ByteArray) (ha : 0 ≤ a ∧ a ≤ 9999) (hb : 0 ≤ b ∧ b ≤ 9) (hs : s.size ≤ 140737488351232) (k : Nat) (hk : s.size + 12 < k) : ∃ r, spec_biHash.f k a b s = some r ∧ impl_hash.f k a b s = some r := by
  have h := hash_begin a b ha hb
  refine ⟨_, specHash_l s hs s.size k 0 _ h (by omega) (by omega) (by omega), implHash_l s hs s.size k 0 _ h (by omega) (by omega) (by omega)⟩

theorem FnExactHashOf : laws_FnExactHashOf.Pure := by
  intro a b s _ _ hs
  obtain ⟨k, hk⟩ : ∃ k, k = s.size + 13 := ⟨_, rfl⟩
  refine ⟨k, ?_⟩
  unfold laws_FnExactHashOf.f
  split
  · rfl
  unfold spec_HashOf.f impl_HashOf.f spec_biSeed.f impl_isSeed.f
  simp only [inS, inI, Option.bind_some, isKeyS s hs k (by omega), isKeyI s hs k (by omega)]
  by_cases h1 : 0 ≤ a ∧ a ≤ 9999
  · by_cases h2 : 0 ≤ b ∧ b ≤ 9
    · obtain ⟨r, e1, e2⟩ := hash_both a b s h1 h2 hs k (by omega)
      simp only [decide_eq_true h1, decide_eq_true h2, e1, e2, Option.bind_some, if_true]
      cases keyB s 0 <;> simp
    · simp only [decide_eq_true h1, decide_eq_false h2]; simp
  · simp only [decide_eq_false h1]; simp

end Go.Proofs.Ytjfinlglbmmifaa.Pure
