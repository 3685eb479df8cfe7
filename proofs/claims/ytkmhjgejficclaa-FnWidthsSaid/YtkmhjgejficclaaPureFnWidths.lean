/- a width is the greatest one that the limit allows, and that of the sorted numbers; for every code (longer ones than 2^20 bytes are not asked). -/
import Derived.Test.YtkmhjgejficclaaPFnWidthsx7
namespace Go.Proofs.Ytkmhjgejficclaa.Pure
open Go.RowKit Go.Proofs.Ytkmhjgejficclaa.PFnWidths Go.Proofs.YtkmhjgejficclaaW.PrintWords Go.Proofs.YtkmhjgejficclaaW.PrintLast Go.Proofs.YtkmhjgejficclaaW.PrintMore
set_option linter.unusedVariables false
set_option linter.unusedSimpArgs false

theorem w64 {x : Int} (h1 : -9223372036854775808 ≤ x) (h2 : x ≤ 9223372036854775807) : wrap64 x = x := by unfold wrap64; omega
theorem w64n (i : Nat) (h : i < 9223372036854775807) : wrap64 ((i : Int) + 1) = ((i + 1 : Nat) : Int) := by rw [w64 (by omega) (by omega)]; rfl
theorem succOf {k d : Nat} (h : d < k) : ∃ m, k = m + 1 := ⟨k - 1, by omega⟩

theorem shl64 (x y : Int) (h0 : 0 ≤ y) (h1 : y ≤ 63) : shl .i64 x y = wrap64 (x * 2 ^ y.toNat) := by
  unfold shl wrap64; rw [Nat.min_eq_left (by simp only [IntKind.bits]; omega), IntKind.wrap_i64]
theorem shr64 (x y : Int) (h0 : 0 ≤ y) (h1 : y ≤ 63) : shr .i64 x y = x / 2 ^ y.toNat := by
  unfold shr; rw [Nat.min_eq_left (by simp only [IntKind.bits]; omega)]

theorem inS (a b c : Int) : spec_l1In.f a b c = some (decide (b ≤ a ∧ a ≤ c)) := by
  unfold spec_l1In.f; split <;> simp [*]

theorem inI (a b c : Int) : impl_in.f a b c = some (decide (b ≤ a ∧ a ≤ c)) := by
  unfold impl_in.f; split <;> simp [*]

/-- a width is the greatest one that the limit allows -/
theorem widthTells_l (c l : Int) (N : Nat) (hN : mx c 1 = (N : Int)) (hN1 : 1 ≤ N) (hN2 : N ≤ 60) (hl : l ≤ 100000) (hl1 : 1 ≤ l) (hm : (if c > 1 then some c else some 1) = some (N : Int)) (d : Nat) : ∀ (w : Nat), 17 - w = d → w ≤ 17 → (0 < w → ((N * 2 ^ w : Nat) : Int) ≤ l) →
    ∃ r : Nat, r ≤ 17 ∧ (0 < r → ((N * 2 ^ r : Nat) : Int) ≤ l) ∧ l < ((N * 2 ^ (r + 1) : Nat) : Int) ∧ (∀ k, d < k → impl_WidthFor.l0 k c l w = some ((r : Int), true)) ∧ ∀ k, d < k → spec_spWidth.l0 k c l w = some (r : Int) := by
  have es (w : Nat) (hw : w ≤ 17) : shl .i64 (N : Int) ((w + 1 : Nat) : Int) = ((N * 2 ^ (w + 1) : Nat) : Int) := by
    have hp := Nat.pow_le_pow_right (n := 2) (by decide) (show w + 1 ≤ 18 by omega)
    have hq : N * 2 ^ (w + 1) ≤ 60 * 2 ^ 18 := Nat.mul_le_mul hN2 hp
    rw [shl64 _ _ (by omega) (by omega), Int.toNat_natCast]
    have : (N : Int) * 2 ^ (w + 1) = ((N * 2 ^ (w + 1) : Nat) : Int) := by simp
    rw [this, w64 (by omega) (by omega)]
  induction d with
  | zero =>
    intro w hd hw hle
    have : w = 17 := by omega
    subst this
    have hq : 1 * 2 ^ 18 ≤ N * 2 ^ (17 + 1) := Nat.mul_le_mul hN1 (Nat.le_refl _)
    refine ⟨17, by omega, hle, by omega, fun k hk => ?_, fun k hk => ?_⟩
    · obtain ⟨k, rfl⟩ := succOf hk
      simp only [impl_WidthFor.l0]
      rw [w64n 17 (by omega), hN, es 17 (by omega), if_pos (by omega), if_neg (by omega)]
    · obtain ⟨k, rfl⟩ := succOf hk
      simp only [spec_spWidth.l0, spec_l1Most.f]
      rw [hm, Option.bind_some, w64n 17 (by omega), es 17 (by omega), if_pos (by omega), if_neg (by omega)]
  | succ d ih =>
    intro w hd hw hle
    by_cases c2 : ((N * 2 ^ (w + 1) : Nat) : Int) ≤ l
    · obtain ⟨r, h1, h2, h3, h4, h5⟩ := ih (w + 1) (by omega) (by omega) (fun _ => c2)
      refine ⟨r, h1, h2, h3, fun k hk => ?_, fun k hk => ?_⟩
      · obtain ⟨k, rfl⟩ := succOf hk
        simp only [impl_WidthFor.l0]
        rw [w64n w (by omega), hN, es w (by omega), if_pos (by omega), if_pos c2]
        exact h4 k (by omega)
      · obtain ⟨k, rfl⟩ := succOf hk
        simp only [spec_spWidth.l0, spec_l1Most.f]
        rw [hm, Option.bind_some, w64n w (by omega), es w (by omega), if_pos (by omega), if_pos c2]
        exact h5 k (by omega)
    · refine ⟨w, hw, hle, by omega, fun k hk => ?_, fun k hk => ?_⟩
      · obtain ⟨k, rfl⟩ := succOf hk
        simp only [impl_WidthFor.l0]
        rw [w64n w (by omega), hN, es w (by omega), if_pos (by omega), if_neg c2]
      · obtain ⟨k, rfl⟩ := succOf hk
        simp only [spec_spWidth.l0, spec_l1Most.f]
        rw [hm, Option.bind_some, w64n w (by omega), es w (by omega), if_pos (by omega), if_neg c2]
/-- the width of so many numbers for a limit: what both sides answer, and what it is -/
theorem widthTells (c : Nat) (l : Int) (hc : c ≤ 60) (hl1 : 1 ≤ l) (hl : l ≤ 100000) : ∃ (N r : Nat), N = (if c = 0 then 1 else c) ∧ r ≤ 17 ∧ (0 < r → ((N * 2 ^ r : Nat) : Int) ≤ l) ∧ l < ((N * 2 ^ (r + 1) : Nat) : Int) ∧ (∀ k, 20 < k → impl_WidthFor.f k c l = some ((r : Int), true)) ∧ ∀ k, 20 < k → spec_WidthFor.f k c l = some ((r : Int), true) := by
  have hN : mx (c : Int) 1 = ((if c = 0 then 1 else c : Nat) : Int) := by unfold mx; split <;> split <;> omega
  have hm : (if (c : Int) > 1 then some (c : Int) else some 1) = some ((if c = 0 then 1 else c : Nat) : Int) := by split <;> split <;> first | rfl | (congr 1; omega) | omega
  obtain ⟨r, h1, h2, h3, h4, h5⟩ := widthTells_l c l (if c = 0 then 1 else c) hN (by split <;> omega) (by split <;> omega) hl hl1 hm 17 0 (by omega) (by omega) (by omega)
  refine ⟨_, r, rfl, h1, h2, h3, fun k hk => ?_, fun k hk => ?_⟩
  · obtain ⟨k, rfl⟩ := succOf (show 0 < k by omega)
    unfold impl_WidthFor.f impl_limitOk.f
    rw [inI, Option.bind_some, decide_eq_true (by omega), if_pos rfl, inI, Option.bind_some, Option.bind_some, decide_eq_true (by omega)]
    simp only [impl_WidthFor.j0]
    rw [if_neg (by simp)]
    exact h4 k (by omega)
  · unfold spec_WidthFor.f spec_spLimit.f spec_spWidth.f
    rw [inS, Option.bind_some, decide_eq_true (by omega), if_pos rfl, inS, Option.bind_some, Option.bind_some, decide_eq_true (by omega), if_pos rfl]
    have := h5 k (by omega)
    simp only [Int.natCast_zero] at this
    rw [this, Option.bind_some]
theorem widthNone (c l : Int) (h : ¬ ((0 ≤ c ∧ c ≤ 60) ∧ 1 ≤ l ∧ l ≤ 100000)) : (∀ k, 20 < k → impl_WidthFor.f k c l = some (0, false)) ∧ ∀ k, 20 < k → spec_WidthFor.f k c l = some (0, false) := by
  refine ⟨fun k hk => ?_, fun k hk => ?_⟩
  · obtain ⟨k, rfl⟩ := succOf (show 0 < k by omega)
    unfold impl_WidthFor.f impl_limitOk.f
    rw [inI, Option.bind_some]
    by_cases h1 : 0 ≤ c ∧ c ≤ 60
    · rw [decide_eq_true h1, if_pos rfl, inI, Option.bind_some, Option.bind_some, decide_eq_false (fun h2 => h ⟨h1, h2⟩)]
      simp [impl_WidthFor.j0]
    · rw [decide_eq_false h1, if_neg (by simp)]
      simp [impl_WidthFor.j0]
  · unfold spec_WidthFor.f spec_spLimit.f
    rw [inS, Option.bind_some]
    by_cases h1 : 0 ≤ c ∧ c ≤ 60
    · rw [decide_eq_true h1, if_pos rfl, inS, Option.bind_some, Option.bind_some, decide_eq_false (fun h2 => h ⟨h1, h2⟩), if_neg (by simp)]
    · rw [decide_eq_false h1, if_neg (by simp)]

theorem rd_mid (p s : List Int) (x : Int) : rd (p ++ x :: s) (p.length : Int) = x := by
  simp [rd, List.getD_eq_getElem?_getD]
theorem rd_last (p s : List Int) (x : Int) (i : Int) (h : i = p.length) : rd (p ++ x :: s) i = x := by
  subst h; exact rd_mid p s x

/-- the bit i of a row of words -/
def bitAt (ws : List Int) (i : Nat) : Bool := decide ((ws.getD (i / 16) 0 / 2 ^ (i % 16)) % 2 = 1)
/-- what a vector of bits keeps -/
def Good (s : Int) (ws : List Int) : Prop :=
  0 ≤ s ∧ s ≤ 4096 ∧ (ws.length : Int) = (s + 15) / 16 ∧ (∀ w ∈ ws, 0 ≤ w ∧ w ≤ 65535) ∧ (s % 16 = 0 ∨ ws.getD (ws.length - 1) 0 / 2 ^ (s % 16).toNat = 0)
instance (s : Int) (ws : List Int) : Decidable (Good s ws) := by unfold Good; infer_instance
theorem i64_small (n : Int) (h0 : 0 ≤ n) (h1 : n < 2 ^ 62) : IntKind.i64.wrap n = n := by rw [IntKind.wrap_i64]; omega
theorem and1 (x : Int) (h0 : 0 ≤ x) (h1 : x < 2 ^ 62) : Go.bits .and .i64 x 1 = x % 2 := bits_mask .i64 62 (by decide) i64_small 1 (by decide) x h0 h1
theorem word_range (ws : List Int) (hw : ∀ w ∈ ws, 0 ≤ w ∧ w ≤ 65535) (j : Nat) : 0 ≤ ws.getD j 0 ∧ ws.getD j 0 ≤ 65535 := by
  by_cases h : j < ws.length
  · rw [List.getD_eq_getElem?_getD, List.getElem?_eq_getElem h]; exact hw _ (List.getElem_mem h)
  · rw [List.getD_eq_getElem?_getD, List.getElem?_eq_none (by omega)]; simp
theorem div_pow_range (x : Int) (j : Nat) (h : 0 ≤ x ∧ x ≤ 65535) : 0 ≤ x / 2 ^ j ∧ x / 2 ^ j ≤ 65535 := by
  have hp : (0 : Int) < 2 ^ j := Int.pow_pos (by omega)
  exact ⟨Int.ediv_nonneg h.1 (by omega), Int.le_trans (Int.ediv_le_self _ h.1) h.2⟩
theorem at_eq (ws : List Int) (i : Nat) (h : i / 16 < ws.length) (hw : ∀ w ∈ ws, 0 ≤ w ∧ w ≤ 65535) (hi : i < 4611686018427387904) :
    (if 0 ≤ (wrap64 (Int.tdiv (i : Int) 16)) then (if (wrap64 (Int.tdiv (i : Int) 16)) < (ws.length : Int) then (if 0 ≤ (Int.tmod (i : Int) 16) then (some ((Go.bits .and .i64 (shr .i64 (rd ws (wrap64 (Int.tdiv (i : Int) 16))) (Int.tmod (i : Int) 16)) 1) == 1)) else (none)) else (none)) else (none)) = some (bitAt ws i) := by
  have e1 : wrap64 (Int.tdiv (i : Int) 16) = ((i / 16 : Nat) : Int) := by
    rw [Int.tdiv_eq_ediv_of_nonneg (by omega), w64 (by omega) (by omega)]; omega
  have e2 : Int.tmod (i : Int) 16 = ((i % 16 : Nat) : Int) := by
    rw [Int.tmod_eq_emod_of_nonneg (by omega)]; omega
  have e3 : rd ws ((i / 16 : Nat) : Int) = ws.getD (i / 16) 0 := by unfold rd; rw [Int.toNat_natCast]
  have hr := div_pow_range _ (i % 16) (word_range ws hw (i / 16))
  rw [e1, e2, if_pos (by omega), if_pos (by omega), if_pos (by omega), e3, shr64 _ _ (by omega) (by omega), Int.toNat_natCast, and1 _ hr.1 (by omega)]
  rfl
/-- how the last word is asked -/
theorem last_eq (s : Int) (ws : List Int) (h0 : 0 ≤ s) (h1 : s ≤ 4096) (hl : (ws.length : Int) = (s + 15) / 16) :
    (if (Int.tmod s 16) = 0 then (some true) else (if 0 ≤ (wrap64 ((ws.length : Int) - 1)) then (if (wrap64 ((ws.length : Int) - 1)) < (ws.length : Int) then (if 0 ≤ (Int.tmod s 16) then (some ((shr .i64 (rd ws (wrap64 ((ws.length : Int) - 1))) (Int.tmod s 16)) == 0)) else (none)) else (none)) else (none))) =
      some (decide (s % 16 = 0 ∨ ws.getD (ws.length - 1) 0 / 2 ^ (s % 16).toNat = 0)) := by
  have e2 : Int.tmod s 16 = s % 16 := Int.tmod_eq_emod_of_nonneg h0
  rw [e2]
  by_cases c : s % 16 = 0
  · rw [if_pos c]; simp [c]
  · rw [if_neg c, w64 (by omega) (by omega), if_pos (by omega), if_pos (by omega), if_pos (by omega), shr64 _ _ (by omega) (by omega)]
    have e3 : rd ws ((ws.length : Int) - 1) = ws.getD (ws.length - 1) 0 := by
      unfold rd; rw [show ((ws.length : Int) - 1).toNat = ws.length - 1 from by omega]
    rw [e3]; simp only [c, false_or]; rfl
theorem good_words (s : Int) (ws : List Int) (h : Good s ws) : ∀ w ∈ ws, 0 ≤ w ∧ w ≤ 65535 := h.2.2.2.1
theorem good_place {s : Int} {ws : List Int} (h : Good s ws) (i : Nat) (hi : (i : Int) < s) : i / 16 < ws.length ∧ i < 4096 := by
  obtain ⟨h0, h1, h2, _⟩ := h; omega
theorem words_eq (s : Int) (h0 : 0 ≤ s) (h1 : s ≤ 4096) : wrap64 (Int.tdiv (wrap64 (s + 15)) 16) = (s + 15) / 16 := by
  rw [w64 (x := s + 15) (by omega) (by omega), Int.tdiv_eq_ediv_of_nonneg (by omega), w64 (by omega) (by omega)]
theorem words_eq2 (s : Int) (h0 : 0 ≤ s) (h1 : s ≤ 4096) : wrap64 (Int.tdiv (wrap64 (wrap64 (s + 16) - 1)) 16) = (s + 15) / 16 := by
  rw [w64 (x := s + 16) (by omega) (by omega), show s + 16 - 1 = s + 15 from by omega]; exact words_eq s h0 h1

/-- how many of n bits from i on are on -/
def ones (b : Nat → Bool) : Nat → Nat → Nat
  | _, 0 => 0
  | i, n + 1 => (if b i = true then 1 else 0) + ones b (i + 1) n
theorem ones_le (b : Nat → Bool) (n : Nat) : ∀ i, ones b i n ≤ n := by
  induction n with
  | zero => intro i; exact Nat.le_refl _
  | succ n ih => intro i; have := ih (i + 1); simp only [ones]; split <;> omega
theorem ones_snoc (b : Nat → Bool) (n : Nat) : ∀ i, ones b i (n + 1) = ones b i n + (if b (i + n) = true then 1 else 0) := by
  induction n with
  | zero => intro i; simp [ones]
  | succ n ih =>
    intro i
    rw [ones, ih (i + 1), ones, show i + 1 + n = i + (n + 1) from by omega]; omega
theorem ones_add (b : Nat → Bool) (m : Nat) : ∀ i n, ones b i (m + n) = ones b i m + ones b (i + m) n := by
  induction m with
  | zero => intro i n; simp [ones]
  | succ m ih =>
    intro i n
    rw [show m + 1 + n = (m + n) + 1 from by omega, ones, ih (i + 1) n, ones, show i + 1 + m = i + (m + 1) from by omega]; omega

/-- the counts before each 64 bits, of the first j words -/
def supN (b : Nat → Bool) : Nat → List Int
  | 0 => []
  | j + 1 => if (16 * j) % 64 = 0 then supN b j ++ [((ones b 0 (16 * j) : Nat) : Int)] else supN b j
/-- the counts from the 64 bits on, of the first j words -/
def blkN (b : Nat → Bool) : Nat → List Int
  | 0 => []
  | j + 1 => blkN b j ++ [((ones b (16 * j / 64 * 64) (16 * j % 64) : Nat) : Int)]
theorem supN_len (b : Nat → Bool) (j : Nat) : (supN b j).length ≤ j := by
  induction j with
  | zero => simp [supN]
  | succ j ih => simp only [supN]; split <;> (try simp only [List.length_append, List.length_cons, List.length_nil]) <;> omega
theorem blkN_len (b : Nat → Bool) (j : Nat) : (blkN b j).length = j := by
  induction j with
  | zero => simp [blkN]
  | succ j ih => simp [blkN, ih]
/-- how many words so many bits begin -/
def wordsN (s : Int) : Nat := ((s + 15) / 16).toNat
/-- the directories of a vector -/
def dirOf (s : Int) (ws : List Int) : Int × List Int × List Int × List Int := (s, ws, supN (bitAt ws) (wordsN s), blkN (bitAt ws) (wordsN s))
theorem good_len {s : Int} {ws : List Int} (h : Good s ws) : ws.length = wordsN s ∧ wordsN s ≤ 256 := by
  obtain ⟨h0, h1, h2, _⟩ := h; unfold wordsN; omega

/-- the value of w bits from a on -/
def fieldV (b : Nat → Bool) (a : Nat) : Nat → Int
  | 0 => 0
  | w + 1 => fieldV b a w + (if b (a + w) = true then 2 ^ w else 0)
theorem fieldV_range (b : Nat → Bool) (a w : Nat) : 0 ≤ fieldV b a w ∧ fieldV b a w < 2 ^ w := by
  induction w with
  | zero => simp [fieldV]
  | succ w ih =>
    have hp : (0 : Int) < 2 ^ w := Int.pow_pos (by omega)
    have e : (2 : Int) ^ (w + 1) = 2 ^ w * 2 := Int.pow_succ 2 w
    simp only [fieldV]
    split <;> omega
theorem fieldV_head (b : Nat → Bool) (w : Nat) : ∀ a, fieldV b a (w + 1) = (if b a = true then 1 else 0) + 2 * fieldV b (a + 1) w := by
  induction w with
  | zero => intro a; simp [fieldV]
  | succ w ih =>
    intro a
    rw [fieldV, ih a]
    have e : (2 : Int) ^ (w + 1) = 2 ^ w * 2 := Int.pow_succ 2 w
    simp only [fieldV]
    rw [show a + 1 + w = a + (w + 1) from by omega]
    split <;> split <;> omega
/-- what ReadField answers -/
def fieldAns (s : Int) (ws : List Int) (a w : Int) : Int × Bool := if Good s ws ∧ (0 ≤ w ∧ w ≤ 24) ∧ 0 ≤ a ∧ a ≤ s - w then (fieldV (bitAt ws) a.toNat w.toNat, true) else (0, false)
theorem or_pow (x : Int) (j : Nat) (h0 : 0 ≤ x) (h1 : x < 2 ^ j) (hj : j < 60) : Go.bits .or .i64 x (2 ^ j) = x + 2 ^ j := by
  obtain ⟨a, rfl⟩ := Int.eq_ofNat_of_zero_le h0
  have ha : a < 2 ^ j := by exact_mod_cast h1
  have hj2 : 2 ^ j < 2 ^ 62 := Nat.pow_lt_pow_right (by decide) (by omega)
  have hc : ((2 : Int) ^ j) = ((2 ^ j : Nat) : Int) := by simp
  rw [hc, (bits_nat .i64 62 (by decide) i64_small a (2 ^ j) (by omega) hj2).2]
  have e := Nat.two_pow_add_eq_or_of_lt ha 1
  rw [Nat.mul_one] at e
  rw [Nat.or_comm, ← e]; simp; omega
theorem shl_one (j : Nat) (hj : j < 60) : shl .i64 1 (j : Int) = 2 ^ j := by
  rw [shl64 _ _ (by omega) (by omega), Int.toNat_natCast, Int.one_mul]
  have hj2 : 2 ^ j < 2 ^ 62 := Nat.pow_lt_pow_right (by decide) (by omega)
  have hj3 : (2 : Int) ^ j < 2 ^ 62 := by exact_mod_cast hj2
  have hp : (0 : Int) < 2 ^ j := Int.pow_pos (by omega)
  rw [w64 (by omega) (by omega)]

/-- a word, as a number -/
theorem word_nat (ws : List Int) (hw : ∀ w ∈ ws, 0 ≤ w ∧ w ≤ 65535) (j : Nat) : ∃ n : Nat, ws.getD j 0 = (n : Int) ∧ n < 2 ^ 16 := by
  have h := word_range ws hw j
  exact ⟨(ws.getD j 0).toNat, by omega, by omega⟩
theorem bitAt_nat (ws : List Int) (i n : Nat) (h : ws.getD (i / 16) 0 = (n : Int)) : bitAt ws i = n.testBit (i % 16) := by
  unfold bitAt
  rw [h, Nat.testBit_eq_decide_div_mod_eq]
  have e : (n : Int) / 2 ^ (i % 16) % 2 = ((n / 2 ^ (i % 16) % 2 : Nat) : Int) := by simp
  rw [e, decide_eq_decide]; omega
/-- behind the end of a vector no bit stands -/
theorem good_end {s : Int} {ws : List Int} (h : Good s ws) (i : Nat) (hi : s ≤ (i : Int)) : bitAt ws i = false := by
  obtain ⟨h0, h1, h2, h3, h4⟩ := h
  obtain ⟨n, e, hn⟩ := word_nat ws h3 (i / 16)
  rw [bitAt_nat ws i n e]
  by_cases c : i / 16 < ws.length
  · rcases h4 with h4 | h4
    · omega
    · have e1 : i / 16 = ws.length - 1 := by omega
      rw [e1] at e
      rw [e] at h4
      have e2 : (n : Int) / 2 ^ (s % 16).toNat = ((n / 2 ^ (s % 16).toNat : Nat) : Int) := by simp
      rw [e2] at h4
      have h5 : n < 2 ^ (s % 16).toNat := by
        have hp : 0 < 2 ^ (s % 16).toNat := Nat.two_pow_pos _
        exact (Nat.div_eq_zero_iff_lt hp).mp (by omega)
      exact Nat.testBit_lt_two_pow (Nat.lt_of_lt_of_le h5 (Nat.pow_le_pow_right (by decide) (by omega)))
  · rw [List.getD_eq_getElem?_getD, List.getElem?_eq_none (by omega)] at e
    have : n = 0 := by simp at e; omega
    subst this; simp
/-- two vectors with the same bits are the same -/
theorem good_ext {s : Int} {ws ws' : List Int} (h : Good s ws) (h' : Good s ws') (hb : ∀ i : Nat, (i : Int) < s → bitAt ws i = bitAt ws' i) : ws = ws' := by
  have hl : ws.length = ws'.length := by have := h.2.2.1; have := h'.2.2.1; omega
  apply List.ext_getElem hl
  intro j c1 c2
  obtain ⟨n, e, hn⟩ := word_nat ws h.2.2.2.1 j
  obtain ⟨n', e', hn'⟩ := word_nat ws' h'.2.2.2.1 j
  have : n = n' := by
    apply Nat.eq_of_testBit_eq
    intro r
    by_cases c : r < 16
    · have a1 := bitAt_nat ws (16 * j + r) n (by rw [show (16 * j + r) / 16 = j from by omega]; exact e)
      have a2 := bitAt_nat ws' (16 * j + r) n' (by rw [show (16 * j + r) / 16 = j from by omega]; exact e')
      rw [show (16 * j + r) % 16 = r from by omega] at a1 a2
      rw [← a1, ← a2]
      by_cases c3 : ((16 * j + r : Nat) : Int) < s
      · exact hb _ c3
      · rw [good_end h _ (by omega), good_end h' _ (by omega)]
    · have hp : 2 ^ 16 ≤ 2 ^ r := Nat.pow_le_pow_right (by decide) (by omega)
      rw [Nat.testBit_lt_two_pow (by omega), Nat.testBit_lt_two_pow (by omega)]
  have g1 : ws.getD j 0 = ws[j] := by rw [List.getD_eq_getElem?_getD, List.getElem?_eq_getElem c1]; rfl
  have g2 : ws'.getD j 0 = ws'[j] := by rw [List.getD_eq_getElem?_getD, List.getElem?_eq_getElem c2]; rfl
  rw [← g1, ← g2, e, e', this]
/-- goodness by its bits -/
theorem good_of {s : Int} {ws : List Int} (h0 : 0 ≤ s) (h1 : s ≤ 4096) (h2 : (ws.length : Int) = (s + 15) / 16) (h3 : ∀ w ∈ ws, 0 ≤ w ∧ w ≤ 65535) (h4 : ∀ i : Nat, s ≤ (i : Int) → bitAt ws i = false) : Good s ws := by
  refine ⟨h0, h1, h2, h3, ?_⟩
  by_cases c : s % 16 = 0
  · exact Or.inl c
  · refine Or.inr ?_
    obtain ⟨n, e, hn⟩ := word_nat ws h3 (ws.length - 1)
    rw [e]
    have h5 : n < 2 ^ (s % 16).toNat := by
      apply Nat.lt_pow_two_of_testBit
      intro r hr
      by_cases c2 : r < 16
      · have a1 := bitAt_nat ws (16 * (ws.length - 1) + r) n (by rw [show (16 * (ws.length - 1) + r) / 16 = ws.length - 1 from by omega]; exact e)
        rw [show (16 * (ws.length - 1) + r) % 16 = r from by omega] at a1
        rw [← a1]
        exact h4 _ (by omega)
      · have hp : 2 ^ 16 ≤ 2 ^ r := Nat.pow_le_pow_right (by decide) (by omega)
        exact Nat.testBit_lt_two_pow (by omega)
    have e2 : (n : Int) / 2 ^ (s % 16).toNat = ((n / 2 ^ (s % 16).toNat : Nat) : Int) := by simp
    rw [e2, Nat.div_eq_of_lt h5]; rfl
theorem getD_set (ws : List Int) (j k : Nat) (x : Int) : (ws.set j x).getD k 0 = if j = k ∧ j < ws.length then x else ws.getD k 0 := by
  simp only [List.getD_eq_getElem?_getD, List.getElem?_set]
  by_cases c : j = k
  · subst c
    by_cases c2 : j < ws.length
    · simp [c2]
    · simp [c2, List.getElem?_eq_none (show ws.length ≤ j by omega)]
  · simp [c]
theorem or64 (a b : Nat) (ha : a < 2 ^ 16) (hb : b < 2 ^ 16) : Go.bits .or .i64 (a : Int) (b : Int) = ((a ||| b : Nat) : Int) :=
  (bits_nat .i64 62 (by decide) i64_small a b (by omega) (by omega)).2
theorem andNot64 (a b : Nat) (ha : a < 2 ^ 16) (hb : b < 2 ^ 16) : ∃ n : Nat, Go.bits .andNot .i64 (a : Int) (b : Int) = (n : Int) ∧ n < 2 ^ 16 ∧ ∀ r, n.testBit r = (a.testBit r && !b.testBit r) := by
  refine ⟨(BitVec.ofNat 64 a &&& ~~~ BitVec.ofNat 64 b).toNat, ?_, ?_, ?_⟩
  · have hb2 : (BitVec.ofNat 64 a &&& ~~~ BitVec.ofNat 64 b).toNat ≤ a := by
      rw [BitVec.toNat_and, BitVec.toNat_ofNat, Nat.mod_eq_of_lt (by omega)]; exact Nat.and_le_left
    have : Go.bits .andNot .i64 (a : Int) (b : Int) = IntKind.i64.wrap (((BitVec.ofNat 64 a &&& ~~~ BitVec.ofNat 64 b).toNat : Nat) : Int) := by
      simp only [Go.bits, BitVec.ofInt_natCast, IntKind.bits]; rfl
    rw [this, i64_small _ (by omega) (by omega)]
  · have hb2 : (BitVec.ofNat 64 a &&& ~~~ BitVec.ofNat 64 b).toNat ≤ a := by
      rw [BitVec.toNat_and, BitVec.toNat_ofNat, Nat.mod_eq_of_lt (by omega)]; exact Nat.and_le_left
    omega
  · intro r
    have hp : 2 ^ 16 ≤ 2 ^ 64 := by decide
    rw [BitVec.toNat_and, Nat.testBit_and, BitVec.toNat_ofNat, Nat.mod_eq_of_lt (by omega)]
    by_cases c : r < 64
    · congr 1
      rw [BitVec.testBit_toNat, BitVec.getLsbD_not, BitVec.getLsbD_ofNat]; simp [c]
    · have hp : 2 ^ 16 ≤ 2 ^ r := Nat.pow_le_pow_right (by decide) (by omega)
      rw [Nat.testBit_lt_two_pow (show a < 2 ^ r by omega)]; simp
theorem shl_pow (j : Nat) (hj : j < 60) : shl .i64 1 (j : Int) = ((2 ^ j : Nat) : Int) := by rw [shl_one j hj]; simp
/-- a word put in place of another -/
theorem good_put {s : Int} {ws : List Int} (h : Good s ws) (i : Nat) (hi : (i : Int) < s) (n : Nat) (hn : n < 2 ^ 16) (he : ∀ r, r < 16 → s ≤ ((16 * (i / 16) + r : Nat) : Int) → n.testBit r = false) :
    Good s (ws.set (i / 16) (n : Int)) ∧ ∀ k, bitAt (ws.set (i / 16) (n : Int)) k = if k / 16 = i / 16 then n.testBit (k % 16) else bitAt ws k := by
  obtain ⟨p1, p2⟩ := good_place h i hi
  have hb : ∀ k, bitAt (ws.set (i / 16) (n : Int)) k = if k / 16 = i / 16 then n.testBit (k % 16) else bitAt ws k := by
    intro k
    by_cases c : k / 16 = i / 16
    · rw [if_pos c]
      exact bitAt_nat _ _ _ (by rw [getD_set, if_pos ⟨c.symm, p1⟩])
    · rw [if_neg c]
      unfold bitAt
      rw [getD_set, if_neg (by omega)]
  refine ⟨good_of h.1 h.2.1 (by rw [List.length_set]; exact h.2.2.1) ?_ ?_, hb⟩
  · intro w hw
    rcases List.mem_or_eq_of_mem_set hw with hw | hw
    · exact h.2.2.2.1 w hw
    · subst hw; omega
  · intro k hk
    rw [hb]
    by_cases c : k / 16 = i / 16
    · rw [if_pos c]
      exact he (k % 16) (by omega) (by omega)
    · rw [if_neg c]; exact good_end h k hk
theorem tdiv16 (i : Nat) (hi : i < 4611686018427387904) : wrap64 (Int.tdiv (i : Int) 16) = ((i / 16 : Nat) : Int) := by
  rw [Int.tdiv_eq_ediv_of_nonneg (by omega), w64 (by omega) (by omega)]; omega
theorem tmod16 (i : Nat) : Int.tmod (i : Int) 16 = ((i % 16 : Nat) : Int) := by
  rw [Int.tmod_eq_emod_of_nonneg (by omega)]; omega
theorem rdD (ws : List Int) (j : Nat) : rd ws (j : Int) = ws.getD j 0 := by unfold rd; rw [Int.toNat_natCast]
/-- a bit set -/
theorem set_or {s : Int} {ws : List Int} (h : Good s ws) (i : Nat) (hi : (i : Int) < s) : ∃ ws', ws.set (i / 16) (Go.bits .or .i64 (ws.getD (i / 16) 0) (shl .i64 1 ((i % 16 : Nat) : Int))) = ws' ∧ Good s ws' ∧ ∀ k, bitAt ws' k = (decide (k = i) || bitAt ws k) := by
  obtain ⟨a, e, ha⟩ := word_nat ws h.2.2.2.1 (i / 16)
  have hp : 2 ^ (i % 16) < 2 ^ 16 := Nat.pow_lt_pow_right (by decide) (by omega)
  rw [e, shl_pow _ (by omega), or64 a _ ha hp]
  have ho : (a ||| 2 ^ (i % 16)) < 2 ^ 16 := Nat.or_lt_two_pow ha hp
  have tb : ∀ r, (a ||| 2 ^ (i % 16)).testBit r = (decide (r = i % 16) || a.testBit r) := by
    intro r; rw [Nat.testBit_or, Nat.testBit_two_pow, Bool.or_comm]; congr 1; rw [decide_eq_decide]; exact eq_comm
  have hw : ∀ k, k / 16 = i / 16 → a.testBit (k % 16) = bitAt ws k := fun k c => (bitAt_nat ws k a (by rw [c]; exact e)).symm
  obtain ⟨g, gb⟩ := good_put h i hi _ ho (by
    intro r hr hs
    rw [tb]
    have h1 := hw (16 * (i / 16) + r) (by omega)
    rw [show (16 * (i / 16) + r) % 16 = r from by omega, good_end h _ hs] at h1
    rw [h1, Bool.or_false, decide_eq_false_iff_not]; omega)
  refine ⟨_, rfl, g, fun k => ?_⟩
  rw [gb]
  by_cases c : k / 16 = i / 16
  · rw [if_pos c, tb, hw k c]; congr 1; rw [decide_eq_decide]; omega
  · rw [if_neg c, decide_eq_false (by intro e; exact c (by rw [e])), Bool.false_or]
/-- a bit cleared -/
theorem set_andNot {s : Int} {ws : List Int} (h : Good s ws) (i : Nat) (hi : (i : Int) < s) : ∃ ws', ws.set (i / 16) (Go.bits .andNot .i64 (ws.getD (i / 16) 0) (shl .i64 1 ((i % 16 : Nat) : Int))) = ws' ∧ Good s ws' ∧ ∀ k, bitAt ws' k = (!decide (k = i) && bitAt ws k) := by
  obtain ⟨a, e, ha⟩ := word_nat ws h.2.2.2.1 (i / 16)
  have hp : 2 ^ (i % 16) < 2 ^ 16 := Nat.pow_lt_pow_right (by decide) (by omega)
  obtain ⟨n, en, hn, tn⟩ := andNot64 a (2 ^ (i % 16)) ha hp
  rw [e, shl_pow _ (by omega), en]
  have tb : ∀ r, n.testBit r = (!decide (r = i % 16) && a.testBit r) := by
    intro r; rw [tn, Nat.testBit_two_pow, Bool.and_comm]; congr 2; rw [decide_eq_decide]; exact eq_comm
  have hw : ∀ k, k / 16 = i / 16 → a.testBit (k % 16) = bitAt ws k := fun k c => (bitAt_nat ws k a (by rw [c]; exact e)).symm
  obtain ⟨g, gb⟩ := good_put h i hi _ hn (by
    intro r hr hs
    rw [tb]
    have h1 := hw (16 * (i / 16) + r) (by omega)
    rw [show (16 * (i / 16) + r) % 16 = r from by omega, good_end h _ hs] at h1
    rw [h1, Bool.and_false])
  refine ⟨_, rfl, g, fun k => ?_⟩
  rw [gb]
  by_cases c : k / 16 = i / 16
  · rw [if_pos c, tb, hw k c]; congr 2; rw [decide_eq_decide]; omega
  · rw [if_neg c, decide_eq_false (by intro e; exact c (by rw [e]))]; simp

theorem shr_bit (x : Int) (j : Nat) (h0 : 0 ≤ x) (h1 : x < 2 ^ 62) (hj : j ≤ 63) : (Go.bits .and .i64 (shr .i64 x (j : Int)) 1 == 1) = x.toNat.testBit j := by
  obtain ⟨n, rfl⟩ := Int.eq_ofNat_of_zero_le h0
  rw [shr64 _ _ (by omega) (by omega), Int.toNat_natCast, Int.toNat_natCast]
  have e2 : (n : Int) / 2 ^ j = ((n / 2 ^ j : Nat) : Int) := by simp
  have hle : n / 2 ^ j ≤ n := Nat.div_le_self _ _
  rw [e2, Nat.testBit_eq_decide_div_mod_eq]
  generalize n / 2 ^ j = m at *
  rw [and1 _ (by omega) (by omega)]
  rw [Bool.eq_iff_iff, beq_iff_eq, decide_eq_true_eq]; omega
/-- the bits of x laid from a on, w of them -/
def laid (b : Nat → Bool) (a w x : Nat) (j : Nat) : Bool := if a ≤ j ∧ j < a + w then x.testBit (j - a) else b j

/-- a bit of numbers laid behind each other, each of a width -/
def fieldBit (L : List Int) (w q : Nat) : Bool := (L.getD (q / w) 0).toNat.testBit (q % w)
/-- a bit of a packed directory -/
def packBit (l2 l3 : List Int) (q : Nat) : Bool := if q < 13 * l2.length then fieldBit l2 13 q else fieldBit l3 6 (q - 13 * l2.length)
theorem fieldBit_at (L : List Int) (w i q : Nat) (h0 : i * w ≤ q) (h1 : q < i * w + w) : fieldBit L w q = (L.getD i 0).toNat.testBit (q - i * w) := by
  have e : q / w = i := Nat.div_eq_of_lt_le h0 (by rw [Nat.succ_mul]; exact h1)
  unfold fieldBit
  rw [Nat.mod_eq_sub_mul_div, e, Nat.mul_comm w i]
theorem supN_length (b : Nat → Bool) (j : Nat) : (supN b j).length = (j + 3) / 4 := by
  induction j with
  | zero => rfl
  | succ j ih =>
    simp only [supN]
    by_cases c : 16 * j % 64 = 0
    · rw [if_pos c, List.length_append, ih]; simp only [List.length_cons, List.length_nil]; omega
    · rw [if_neg c, ih]; omega
theorem supN_mem (b : Nat → Bool) (j : Nat) : ∀ x ∈ supN b j, 0 ≤ x ∧ x ≤ 16 * (j : Int) := by
  induction j with
  | zero => intro x hx; simp [supN] at hx
  | succ j ih =>
    intro x hx
    simp only [supN] at hx
    have o := ones_le b (16 * j) 0
    by_cases c : 16 * j % 64 = 0
    · rw [if_pos c] at hx
      rcases List.mem_append.mp hx with hx | hx
      · have := ih x hx; omega
      · simp only [List.mem_cons, List.not_mem_nil, or_false] at hx; omega
    · rw [if_neg c] at hx
      have := ih x hx; omega
theorem blkN_mem (b : Nat → Bool) (j : Nat) : ∀ x ∈ blkN b j, 0 ≤ x ∧ x ≤ 63 := by
  induction j with
  | zero => intro x hx; simp [blkN] at hx
  | succ j ih =>
    intro x hx
    simp only [blkN] at hx
    have o := ones_le b (16 * j % 64) (16 * j / 64 * 64)
    rcases List.mem_append.mp hx with hx | hx
    · exact ih x hx
    · simp only [List.mem_cons, List.not_mem_nil, or_false] at hx; omega
theorem getD_small (L : List Int) (i : Nat) (M : Int) (h0 : 0 ≤ M) (h : ∀ x ∈ L, 0 ≤ x ∧ x ≤ M) : 0 ≤ L.getD i 0 ∧ L.getD i 0 ≤ M := by
  by_cases c : i < L.length
  · rw [List.getD_eq_getElem?_getD, List.getElem?_eq_getElem c]; exact h _ (List.getElem_mem c)
  · rw [List.getD_eq_getElem?_getD, List.getElem?_eq_none (by omega)]; exact ⟨Int.le_refl _, h0⟩

theorem blankI (n : Nat) (hn : n ≤ 4096) : impl_blank.f (n : Int) = some ((n : Int), List.replicate ((n + 15) / 16) 0) := by
  unfold impl_blank.f impl_words.f
  rw [words_eq2 (n : Int) (by omega) (by omega), Option.bind_some, if_pos (by omega)]
  rw [show (((n : Int) + 15) / 16).toNat = (n + 15) / 16 from by omega, if_pos (by omega)]

theorem setI {s : Int} {ws : List Int} (h : Good s ws) (i : Nat) (hi : (i : Int) < s) (v : Bool) : ∃ ws', impl_Bits_set.f s ws i v = some ws' ∧ Good s ws' ∧ ∀ k, bitAt ws' k = if k = i then v else bitAt ws k := by
  obtain ⟨p1, p2⟩ := good_place h i hi
  obtain ⟨w1, e1, g1, b1⟩ := set_andNot h i hi
  obtain ⟨w2, e2, g2, b2⟩ := set_or g1 i hi
  unfold impl_Bits_set.f
  rw [tdiv16 i (by omega), tmod16, if_pos (by omega), if_pos (by omega), if_pos (by omega), rdD, Int.toNat_natCast, e1, Option.bind_some, rdD, e2]
  cases v
  · refine ⟨w1, by rw [if_neg (by simp)], g1, fun k => ?_⟩
    rw [b1]
    by_cases c : k = i <;> simp [c]
  · refine ⟨w2, by rw [if_pos rfl], g2, fun k => ?_⟩
    rw [b2, b1]
    by_cases c : k = i <;> simp [c]

theorem setFieldI_l {s : Int} (hs : s ≤ 4096) (a w : Nat) (x : Int) (h0 : 0 ≤ x) (h1 : x < 2 ^ 62) (hw : w ≤ 24) (ha : ((a + w : Nat) : Int) ≤ s) (d : Nat) : ∀ (k i : Nat) (ws : List Int), i + d = w → Good s ws → d < k →
    ∃ ws', impl_Bits_setField.l0 k a x w i s ws = some ws' ∧ Good s ws' ∧ ∀ j, bitAt ws' j = if a + i ≤ j ∧ j < a + w then x.toNat.testBit (j - a) else bitAt ws j := by
  induction d with
  | zero =>
    intro k i ws hi g hk
    obtain ⟨k, rfl⟩ := succOf hk
    simp only [impl_Bits_setField.l0]
    rw [if_neg (by omega)]
    exact ⟨ws, rfl, g, fun j => by rw [if_neg (by omega)]⟩
  | succ d ih =>
    intro k i ws hi g hk
    obtain ⟨k, rfl⟩ := succOf hk
    simp only [impl_Bits_setField.l0]
    have e : wrap64 ((a : Int) + i) = ((a + i : Nat) : Int) := by rw [w64 (by omega) (by omega)]; omega
    obtain ⟨w2, e2, g2, b2⟩ := setI g (a + i) (by omega) (x.toNat.testBit i)
    rw [if_pos (by omega), if_pos (by omega), e, shr_bit x i h0 h1 (by omega), w64n i (by omega), e2, Option.bind_some]
    obtain ⟨ws', e3, g3, b3⟩ := ih k (i + 1) w2 (by omega) g2 (by omega)
    refine ⟨ws', e3, g3, fun j => ?_⟩
    rw [b3]
    by_cases c : a + (i + 1) ≤ j ∧ j < a + w
    · rw [if_pos c, if_pos (by omega)]
    · rw [if_neg c, b2]
      by_cases c2 : j = a + i
      · rw [if_pos c2, if_pos (by omega), show j - a = i from by omega]
      · rw [if_neg c2, if_neg (by omega)]
theorem setFieldI {s : Int} {ws : List Int} (g : Good s ws) (a w : Nat) (x : Int) (h0 : 0 ≤ x) (h1 : x < 2 ^ 62) (hw : w ≤ 24) (ha : ((a + w : Nat) : Int) ≤ s) : ∃ ws', Good s ws' ∧ (∀ j, bitAt ws' j = laid (bitAt ws) a w x.toNat j) ∧ ∀ k, w < k → impl_Bits_setField.f k s ws a w x = some ws' := by
  obtain ⟨ws', e, g', b⟩ := setFieldI_l g.2.1 a w x h0 h1 hw ha w (w + 1) 0 ws (by omega) g (by omega)
  refine ⟨ws', g', b, fun k hk => ?_⟩
  obtain ⟨ws2, e2, g2, b2⟩ := setFieldI_l g.2.1 a w x h0 h1 hw ha w k 0 ws (by omega) g (by omega)
  have : ws' = ws2 := good_ext g' g2 (fun j _ => by rw [b, b2])
  rw [this]; exact e2

theorem good_zero (n : Nat) (hn : n ≤ 4096) : Good (n : Int) (List.replicate ((n + 15) / 16) 0) ∧ ∀ k, bitAt (List.replicate ((n + 15) / 16) 0) k = false := by
  have z : ∀ j, (List.replicate ((n + 15) / 16) (0 : Int)).getD j 0 = 0 := by
    intro j; rw [List.getD_eq_getElem?_getD, List.getElem?_replicate]; split <;> rfl
  have b : ∀ k, bitAt (List.replicate ((n + 15) / 16) 0) k = false := by
    intro k
    rw [bitAt_nat _ k 0 (by rw [z]; rfl)]; simp
  refine ⟨good_of (by omega) (by omega) (by rw [List.length_replicate]; omega) ?_ (fun i _ => b i), b⟩
  intro w hw
  have := List.eq_of_mem_replicate hw
  omega

theorem fieldsI_l (L : List Int) (w : Nat) (hl : L.length ≤ 4096) (hw : w ≤ 24) (hL : L.length * w ≤ 4096) (hx : ∀ x ∈ L, 0 ≤ x ∧ x ≤ 1000000) (d : Nat) : ∀ (k i : Nat) (ws : List Int), i + d = L.length → Good ((L.length * w : Nat) : Int) ws → (∀ j, bitAt ws j = (decide (j < i * w) && fieldBit L w j)) → d + 30 < k →
    ∃ ws', impl_fields.l0 k w L L.length i ((L.length * w : Nat) : Int) ws = some (((L.length * w : Nat) : Int), ws') ∧ Good ((L.length * w : Nat) : Int) ws' ∧ ∀ j, bitAt ws' j = (decide (j < L.length * w) && fieldBit L w j) := by
  induction d with
  | zero =>
    intro k i ws hi g hb hk
    obtain ⟨k, rfl⟩ := succOf hk
    simp only [impl_fields.l0]
    rw [if_neg (by omega)]
    exact ⟨ws, rfl, g, fun j => by rw [hb, show i = L.length by omega]⟩
  | succ d ih =>
    intro k i ws hi g hb hk
    obtain ⟨k, rfl⟩ := succOf hk
    have hm : i * w + w ≤ L.length * w := by rw [← Nat.succ_mul]; exact Nat.mul_le_mul_right w (by omega)
    have hs : (i + 1) * w = i * w + w := Nat.succ_mul i w
    have hg := getD_small L i 1000000 (by omega) hx
    obtain ⟨w2, g2, b2, e2⟩ := setFieldI g (i * w) w (L.getD i 0) hg.1 (by omega) hw (by omega)
    have ec : wrap64 ((i : Int) * (w : Int)) = ((i * w : Nat) : Int) := by rw [← Int.natCast_mul, w64 (by omega) (by omega)]
    simp only [impl_fields.l0]
    rw [if_pos (by omega), if_pos (by omega), if_pos (by omega), ec, rdD, e2 k (by omega), Option.bind_some, w64n i (by omega)]
    refine ih k (i + 1) w2 (by omega) g2 (fun j => ?_) (by omega)
    rw [b2]
    unfold laid
    by_cases c : i * w ≤ j ∧ j < i * w + w
    · rw [if_pos c, fieldBit_at L w i j c.1 c.2, decide_eq_true (by omega), Bool.true_and]
    · rw [if_neg c, hb]; congr 1; rw [decide_eq_decide]; omega
theorem fieldsI (L : List Int) (w : Nat) (hl : L.length ≤ 4096) (hw : w ≤ 24) (hL : L.length * w ≤ 4096) (hx : ∀ x ∈ L, 0 ≤ x ∧ x ≤ 1000000) : ∃ ws', Good ((L.length * w : Nat) : Int) ws' ∧ (∀ j, bitAt ws' j = (decide (j < L.length * w) && fieldBit L w j)) ∧ ∀ k, 4200 < k → impl_fields.f k L w = some (((L.length * w : Nat) : Int), ws') := by
  obtain ⟨z1, z2⟩ := good_zero (L.length * w) hL
  obtain ⟨ws', e, gd, b⟩ := fieldsI_l L w hl hw hL hx L.length (L.length + 31) 0 (List.replicate ((L.length * w + 15) / 16) 0) (by omega) z1 (by intro j; rw [z2]; simp) (by omega)
  refine ⟨ws', gd, b, fun k hk => ?_⟩
  obtain ⟨ws2, e2, g2, b2⟩ := fieldsI_l L w hl hw hL hx L.length k 0 (List.replicate ((L.length * w + 15) / 16) 0) (by omega) z1 (by intro j; rw [z2]; simp) (by omega)
  have : ws' = ws2 := good_ext gd g2 (fun i _ => by rw [b, b2])
  unfold impl_fields.f
  rw [← Int.natCast_mul, w64 (by omega) (by omega), blankI (L.length * w) hL, Option.bind_some]
  rw [this]; exact e2

theorem atI (s : Int) (ws : List Int) (i : Nat) (h : i / 16 < ws.length) (hw : ∀ w ∈ ws, 0 ≤ w ∧ w ≤ 65535) (hi : i < 4611686018427387904) : impl_Bits_at.f s ws i = some (bitAt ws i) := at_eq ws i h hw hi
theorem atI_good {s : Int} {ws : List Int} (h : Good s ws) (i : Nat) (hi : (i : Int) < s) : impl_Bits_at.f s ws i = some (bitAt ws i) :=
  atI s ws i (good_place h i hi).1 (good_words s ws h) (by have := good_place h i hi; omega)

theorem fieldI_l {s : Int} {ws : List Int} (h : Good s ws) (a w : Nat) (hw : w ≤ 24) (ha : ((a + w : Nat) : Int) ≤ s) (d : Nat) : ∀ (k j : Nat), j + d = w → d < k →
    impl_Bits_field.l0 k a (fieldV (bitAt ws) a j) w j s ws = some (fieldV (bitAt ws) a w) := by
  have hs := h.2.1
  induction d with
  | zero =>
    intro k j hj hk
    obtain ⟨k, rfl⟩ := succOf hk
    simp only [impl_Bits_field.l0]
    rw [if_neg (by omega), show j = w from by omega]
  | succ d ih =>
    intro k j hj hk
    obtain ⟨k, rfl⟩ := succOf hk
    simp only [impl_Bits_field.l0]
    have e : wrap64 ((a : Int) + j) = ((a + j : Nat) : Int) := by rw [w64 (by omega) (by omega)]; omega
    have hr := fieldV_range (bitAt ws) a j
    have h1 := ih k (j + 1) (by omega) (by omega)
    rw [if_pos (by omega), e, atI_good h (a + j) (by omega), Option.bind_some, w64n j (by omega), if_pos (by omega : 0 ≤ (j : Int)), shl_one j (by omega), or_pow _ j hr.1 hr.2 (by omega)]
    simp only [fieldV] at h1
    cases c : bitAt ws (a + j)
    · rw [c] at h1; simpa using h1
    · rw [c] at h1; simpa using h1
theorem fieldI {s : Int} {ws : List Int} (h : Good s ws) (a w k : Nat) (hw : w ≤ 24) (ha : ((a + w : Nat) : Int) ≤ s) (hk : 24 < k) : impl_Bits_field.f k s ws a w = some (fieldV (bitAt ws) a w) := by
  have := fieldI_l h a w hw ha w k 0 (by omega) (by omega)
  exact this

theorem goodI_l (s : Int) (ws : List Int) (hl : ws.length < 9223372036854775807) (h0 : 0 ≤ s) (h1 : s ≤ 4096) (h2 : (ws.length : Int) = (s + 15) / 16) : ∀ (suf pre : List Int) (k : Nat), ws = pre ++ suf → suf.length < k →
    impl_IsBits.l0 k ws ws.length pre.length s ws = some (decide ((∀ w ∈ suf, 0 ≤ w ∧ w ≤ 65535) ∧ (s % 16 = 0 ∨ ws.getD (ws.length - 1) 0 / 2 ^ (s % 16).toNat = 0))) := by
  intro suf
  induction suf with
  | nil =>
    intro pre k e hk
    obtain ⟨k, rfl⟩ := succOf hk
    simp only [impl_IsBits.l0]
    have : ws.length = pre.length := by rw [e]; simp
    rw [if_neg (by omega), last_eq s ws h0 h1 h2]; simp
  | cons x suf ih =>
    intro pre k e hk
    obtain ⟨k, rfl⟩ := succOf hk
    simp only [impl_IsBits.l0]
    have hlen : ws.length = pre.length + suf.length + 1 := by rw [e]; simp; omega
    have e1 : rd ws (pre.length : Int) = x := by rw [e]; exact rd_mid pre suf x
    have e2 : (pre ++ [x]).length = pre.length + 1 := by simp
    have h3 := ih (pre ++ [x]) k (by rw [e]; simp) (by simp only [List.length_cons] at hk; omega)
    rw [e2] at h3
    rw [if_pos (by omega), if_pos (by omega), if_pos (by omega), e1, inI, Option.bind_some, w64n _ (by omega), h3]
    by_cases c : 0 ≤ x ∧ x ≤ 65535
    · rw [decide_eq_true c, if_pos rfl]; congr 1; rw [decide_eq_decide]; simp [c]
    · rw [decide_eq_false c, if_neg (by simp)]; congr 1; symm; rw [decide_eq_false_iff_not]; intro g; exact c (g.1 x (by simp))
theorem goodI (s : Int) (ws : List Int) (k : Nat) (hl : ws.length < 9223372036854775807) (hk : ws.length + 1 < k) : impl_IsBits.f k s ws = some (decide (Good s ws)) := by
  obtain ⟨k, rfl⟩ := succOf hk
  unfold impl_IsBits.f impl_words.f
  rw [inI, Option.bind_some]
  by_cases c : 0 ≤ s ∧ s ≤ 4096
  · rw [decide_eq_true c, if_pos rfl, Option.bind_some, words_eq2 s c.1 c.2]
    simp only [impl_IsBits.j0]
    by_cases c2 : (ws.length : Int) = (s + 15) / 16
    · have h := goodI_l s ws hl c.1 c.2 c2 ws [] k rfl (by omega)
      simp only [List.length_nil, Int.natCast_zero] at h
      rw [if_neg (by simpa using c2), h]
      congr 1; rw [decide_eq_decide]; unfold Good
      exact ⟨fun h => ⟨c.1, c.2, c2, h.1, h.2⟩, fun h => h.2.2.2⟩
    · rw [if_pos (by simpa using c2)]; congr 1; symm; rw [decide_eq_false_iff_not]; exact fun h => c2 h.2.2.1
  · rw [decide_eq_false c, if_neg (by simp)]; simp only [impl_IsBits.j0, if_true]; congr 1; symm; rw [decide_eq_false_iff_not]; exact fun h => c ⟨h.1, h.2.1⟩

theorem sameE_l (a b : List Int) (hl : a.length = b.length) (ha : a.length < 9223372036854775807) (d : Nat) : ∀ (k i : Nat), i ≤ a.length → a.length - i = d → d < k →
    slices_Equal_int_int.l0 k a b a.length i = some (decide (a.drop i = b.drop i)) := by
  induction d with
  | zero =>
    intro k i h1 hd hk
    obtain ⟨k, rfl⟩ := succOf hk
    simp only [slices_Equal_int_int.l0]
    rw [if_neg (by omega), List.drop_eq_nil_of_le (by omega), List.drop_eq_nil_of_le (by omega)]; simp
  | succ d ih =>
    intro k i h1 hd hk
    obtain ⟨k, rfl⟩ := succOf hk
    simp only [slices_Equal_int_int.l0]
    have h2 := ih k (i+1) (by omega) (by omega) (by omega)
    have e1 : rd a i = a[i]'(by omega) := by simp [rd, List.getD_eq_getElem?_getD, List.getElem?_eq_getElem (show i < a.length by omega)]
    have e2 : rd b i = b[i]'(by omega) := by simp [rd, List.getD_eq_getElem?_getD, List.getElem?_eq_getElem (show i < b.length by omega)]
    have e3 := List.drop_eq_getElem_cons (show i < a.length by omega)
    have e4 := List.drop_eq_getElem_cons (show i < b.length by omega)
    rw [if_pos (by omega), if_pos (by omega), if_pos (by omega), if_pos (by omega), e1, e2, w64n i (by omega), h2, e3, e4]
    clear e3 e4 h2 ih
    split <;> simp only [List.cons.injEq, *, true_and, false_and, decide_false]
theorem sameE (a b : List Int) (k : Nat) (ha : a.length < 9223372036854775807) (hk : a.length < k) : slices_Equal_int_int.f k a b = some (decide (a = b)) := by
  unfold slices_Equal_int_int.f
  split
  · have h := sameE_l a b (by omega) ha a.length k 0 (by omega) (by omega) hk
    simpa using h
  · have : a ≠ b := by intro h; subst h; simp_all
    simp [this]

theorem rd_zeros (c : Nat) (i : Int) : rd (List.replicate c (0 : Int)) i = 0 := by
  unfold rd
  rw [List.getD_eq_getElem?_getD, List.getElem?_replicate]; split <;> rfl
/-- as many nothings are sorted -/
theorem sortedZ_l (c : Nat) (l : Int) (hc : c ≤ 60) (hl1 : 1 ≤ l) (hl : l ≤ 100000) (d : Nat) : ∀ (k i : Nat), i + d = c → d < k → impl_sortedOk.l0 k (List.replicate c 0) l (List.replicate c 0) c i = some true := by
  induction d with
  | zero =>
    intro k i hi hk
    obtain ⟨k, rfl⟩ := succOf hk
    simp only [impl_sortedOk.l0, impl_limitOk.f]
    rw [if_neg (by omega), inI, Option.bind_some, Option.bind_some, decide_eq_true (by omega), if_pos rfl, List.length_replicate, decide_eq_true (by omega)]
  | succ d ih =>
    intro k i hi hk
    obtain ⟨k, rfl⟩ := succOf hk
    simp only [impl_sortedOk.l0, rd_zeros]
    have h := ih k (i + 1) (by omega) (by omega)
    rw [if_pos (by omega), if_pos (by omega), if_pos (by rw [List.length_replicate]; omega), w64 (x := l - 1) (by omega) (by omega), inI, Option.bind_some, decide_eq_true (by omega), if_pos rfl, w64n i (by omega)]
    by_cases c0 : (i : Int) > 0
    · rw [if_pos c0, w64 (by omega) (by omega), if_pos (by omega), if_pos (by rw [List.length_replicate]; omega), if_neg (by omega)]; exact h
    · rw [if_neg c0]; exact h
theorem sortedZ (c : Nat) (l : Int) (hc : c ≤ 60) (hl1 : 1 ≤ l) (hl : l ≤ 100000) (k : Nat) (hk : 60 < k) : impl_sortedOk.f k (List.replicate c 0) l = some true := by
  unfold impl_sortedOk.f
  rw [List.length_replicate]
  exact sortedZ_l c l hc hl1 hl c k 0 (by omega) (by omega)
theorem shr_nat (x : Int) (r : Nat) (hr : r ≤ 17) (h0 : 0 ≤ x) : shr .i64 x (r : Int) = x / ((2 ^ r : Nat) : Int) := by
  rw [shr64 _ _ (by omega) (by omega), Int.toNat_natCast]; simp
theorem and0 (y : Int) (h0 : 0 ≤ y) (h1 : y < 2 ^ 62) : Go.bits .and .i64 0 y = 0 := by
  obtain ⟨n, rfl⟩ := Int.eq_ofNat_of_zero_le h0
  have := bits_nat .i64 62 (by decide) i64_small 0 n (by decide) (by omega)
  have h := this.1
  simpa using h
theorem or00 : Go.bits .or .i64 0 0 = 0 := by
  have := (bits_nat .i64 62 (by decide) i64_small 0 0 (by decide) (by decide)).2
  simpa using this
/-- the loop of sparse over nothings -/
theorem sparseZ_l (c r : Nat) (l : Int) (hs : Int) (lw : List Int) (hc : c ≤ 60) (hr : r ≤ 17) (hcs : (c : Int) ≤ hs) (d : Nat) (eF : ∀ k, 4200 < k → impl_fields.f k (List.replicate c 0) r = some (((c * r : Nat) : Int), lw)) : ∀ (k i : Nat) (hw : List Int), i + d = c → Good hs hw → (∀ j, bitAt hw j = decide (j < i)) → d + 4300 < k →
    ∃ hw', impl_sparse.l0 k (List.replicate c 0) l r (List.replicate i 0) (List.replicate c 0) c i hs hw = some ((c : Int), l, (r : Int), ((c * r : Nat) : Int), lw, hs, hw') ∧ Good hs hw' ∧ ∀ j, bitAt hw' j = decide (j < c) := by
  have hp := Nat.pow_le_pow_right (n := 2) (by decide) (show r ≤ 17 by omega)
  have h2 : 1 ≤ 2 ^ r := Nat.one_le_two_pow
  have ep : shl .i64 1 (r : Int) = ((2 ^ r : Nat) : Int) := shl_pow r (by omega)
  induction d with
  | zero =>
    intro k i hw hi g hb hk
    obtain ⟨k, rfl⟩ := succOf hk
    have : i = c := by omega
    subst this
    simp only [impl_sparse.l0]
    rw [if_neg (by omega), eF k (by omega), Option.bind_some, List.length_replicate]
    exact ⟨hw, rfl, g, hb⟩
  | succ d ih =>
    intro k i hw hi g hb hk
    obtain ⟨k, rfl⟩ := succOf hk
    simp only [impl_sparse.l0, rd_zeros]
    obtain ⟨w2, e2, g2, b2⟩ := setI g i (by omega) true
    have e0 : shr .i64 0 (r : Int) = 0 := by rw [shr_nat 0 r hr (by omega)]; simp
    have ea : Go.bits .and .i64 0 (wrap64 (shl .i64 1 (r : Int) - 1)) = 0 := by
      rw [ep, w64 (by omega) (by omega)]; exact and0 _ (by omega) (by omega)
    rw [if_pos (by omega), if_pos (by omega), if_pos (by rw [List.length_replicate]; omega), if_pos (by omega), if_pos (by rw [List.length_replicate]; omega), e0, ea, Int.zero_add, w64 (by omega) (by omega), e2, Option.bind_some, w64n i (by omega)]
    have er : (List.replicate i (0 : Int)) ++ [0] = List.replicate (i + 1) 0 := by rw [List.replicate_succ']
    rw [er]
    exact ih k (i + 1) w2 (by omega) g2 (fun j => by
      rw [b2, hb]
      by_cases cj : j = i
      · rw [if_pos cj, decide_eq_true (by omega)]
      · rw [if_neg cj, decide_eq_decide]; omega) (by omega)
/-- the Sparse of as many nothings -/
theorem sparseZ (c : Nat) (l : Int) (hc : c ≤ 60) (hl1 : 1 ≤ l) (hl : l ≤ 100000) : ∃ (N r : Nat) (lw hw : List Int), N = (if c = 0 then 1 else c) ∧ r ≤ 17 ∧ (0 < r → ((N * 2 ^ r : Nat) : Int) ≤ l) ∧ l < ((N * 2 ^ (r + 1) : Nat) : Int) ∧ (∀ k, 20 < k → impl_WidthFor.f k c l = some ((r : Int), true)) ∧ (∀ k, 20 < k → spec_WidthFor.f k c l = some ((r : Int), true)) ∧
    Good ((c * r : Nat) : Int) lw ∧ (∀ j, bitAt lw j = false) ∧ Good ((c : Int) + (l - 1) / ((2 ^ r : Nat) : Int) + 1) hw ∧ (∀ j, bitAt hw j = decide (j < c)) ∧ 0 ≤ (l - 1) / ((2 ^ r : Nat) : Int) ∧ (l - 1) / ((2 ^ r : Nat) : Int) ≤ 130 ∧ c * r ≤ 1020 ∧
    ∀ k, 4500 < k → impl_sparse.f k (List.replicate c 0) l = some ((c : Int), l, (r : Int), ((c * r : Nat) : Int), lw, (c : Int) + (l - 1) / ((2 ^ r : Nat) : Int) + 1, hw) := by
  obtain ⟨N, r, hN, h1, h2, h3, h4, h5⟩ := widthTells c l hc hl1 hl
  have hN2 : N ≤ 60 := by rw [hN]; split <;> omega
  have hcr : c * r ≤ 60 * 17 := Nat.mul_le_mul hc h1
  have hp := Nat.pow_le_pow_right (n := 2) (by decide) (show r ≤ 17 by omega)
  have hp1 : 1 ≤ 2 ^ r := Nat.one_le_two_pow
  have hd : (l - 1) / ((2 ^ r : Nat) : Int) ≤ 130 := by
    have hq : N * 2 ^ (r + 1) = (2 * N) * 2 ^ r := by rw [Nat.pow_succ]; ac_rfl
    have hb : (2 * N) * 2 ^ r ≤ 120 * 2 ^ r := Nat.mul_le_mul_right _ (by omega)
    have : l - 1 < 121 * ((2 ^ r : Nat) : Int) := by omega
    have := Int.ediv_lt_of_lt_mul (by omega : (0 : Int) < ((2 ^ r : Nat) : Int)) this
    omega
  have hd0 : 0 ≤ (l - 1) / ((2 ^ r : Nat) : Int) := Int.ediv_nonneg (by omega) (by omega)
  obtain ⟨lw, gl, bl, el⟩ := fieldsI (List.replicate c 0) r (by rw [List.length_replicate]; omega) (by omega) (by rw [List.length_replicate]; omega) (fun x hx => by rw [List.eq_of_mem_replicate hx]; omega)
  rw [List.length_replicate] at gl el bl
  obtain ⟨m, hm⟩ : ∃ m : Nat, (c : Int) + (l - 1) / ((2 ^ r : Nat) : Int) + 1 = m := ⟨((c : Int) + (l - 1) / ((2 ^ r : Nat) : Int) + 1).toNat, by omega⟩
  obtain ⟨z1, z2⟩ := good_zero m (by omega)
  obtain ⟨hw, e, g, b⟩ := sparseZ_l c r l m lw hc h1 (by omega) c el (c + 4301) 0 _ (by omega) z1 (fun j => by rw [z2]; simp) (by omega)
  refine ⟨N, r, lw, hw, hN, h1, h2, h3, h4, h5, gl, fun j => ?_, by rw [hm]; exact g, b, hd0, hd, by omega, fun k hk => ?_⟩
  · rw [bl]
    unfold fieldBit
    have := rd_zeros c ((j / r : Nat) : Int)
    unfold rd at this
    rw [Int.toNat_natCast] at this
    rw [this]; simp
  · unfold impl_sparse.f
    rw [List.length_replicate, h4 k (by omega), Option.bind_some]
    simp only
    rw [if_pos (by omega), w64 (x := l - 1) (by omega) (by omega), shr_nat (l - 1) r h1 (by omega), w64 (x := (c : Int) + _) (by omega) (by omega), w64 (by omega) (by omega), hm, blankI m (by omega), Option.bind_some]
    simp only
    obtain ⟨hw2, e2, g2, b2⟩ := sparseZ_l c r l m lw hc h1 (by omega) c el k 0 _ (by omega) z1 (fun j => by rw [z2]; simp) (by omega)
    have : hw = hw2 := good_ext g g2 (fun i _ => by rw [b, b2])
    rw [this]; exact e2

theorem fieldZ {s : Int} {ws : List Int} (h : Good s ws) (hb : ∀ j, bitAt ws j = false) (a w k : Nat) (hw : w ≤ 24) (ha : ((a + w : Nat) : Int) ≤ s) (hk : 24 < k) : impl_Bits_field.f k s ws a w = some 0 := by
  rw [fieldI h a w k hw ha hk]
  congr 1
  clear hk ha h
  induction w with
  | zero => rfl
  | succ w ih => rw [fieldV, ih (by omega), hb]; simp
theorem numbersZ_l {c r : Nat} {l hs : Int} {lw hw : List Int} (hc : c ≤ 60) (hr : r ≤ 17) (hl1 : 1 ≤ l) (hl : l ≤ 100000) (hh : hs ≤ 300) (hcs : (c : Int) ≤ hs) (gl : Good ((c * r : Nat) : Int) lw) (bl : ∀ j, bitAt lw j = false) (gh : Good hs hw) (bh : ∀ j, bitAt hw j = decide (j < c))
    (eS : ∀ k, 4500 < k → impl_sparse.f k (List.replicate c 0) l = some ((c : Int), l, (r : Int), ((c * r : Nat) : Int), lw, hs, hw)) (d : Nat) : ∀ (k i : Nat), ((i + d : Nat) : Int) = hs → d + 5000 < k →
    impl_Sparse_numbers.l0 k r (List.replicate (min i c) 0) hs i c l r ((c * r : Nat) : Int) lw hs hw = some (List.replicate c 0, true) := by
  have lh := gh.2.2.1
  have ll := gl.2.2.1
  have hcr : c * r ≤ 60 * 17 := Nat.mul_le_mul hc hr
  induction d with
  | zero =>
    intro k i hi hk
    obtain ⟨k, rfl⟩ := succOf hk
    obtain ⟨k, rfl⟩ := succOf (show 0 < k by omega)
    simp only [impl_Sparse_numbers.l0]
    rw [if_neg (by omega), show min i c = c by omega, List.length_replicate, if_pos rfl, sortedZ c l hc hl1 hl _ (by omega), Option.bind_some]
    simp only [impl_Sparse_numbers.j2]
    rw [if_neg (by simp), eS k (by omega), Option.bind_some]
    simp only
    unfold impl_sameBits.f
    rw [if_pos rfl, sameE lw lw k (by omega) (by omega), Option.bind_some, Option.bind_some, decide_eq_true rfl, if_pos rfl, if_pos rfl, sameE hw hw k (by omega) (by omega), Option.bind_some, Option.bind_some, decide_eq_true rfl]
  | succ d ih =>
    intro k i hi hk
    obtain ⟨k, rfl⟩ := succOf hk
    have h := ih k (i + 1) (by omega) (by omega)
    simp only [impl_Sparse_numbers.l0]
    rw [if_pos (by omega), atI_good gh i (by omega), Option.bind_some, bh, List.length_replicate, w64n i (by omega)]
    by_cases ci : i < c
    · rw [decide_eq_true ci, if_pos rfl, if_pos (by omega), if_pos (by omega)]
      have hm : i * r + r ≤ c * r := by rw [← Nat.succ_mul]; exact Nat.mul_le_mul_right r (by omega)
      have ef := fieldZ gl bl (i * r) r k (by omega) (by omega) (by omega)
      have em : wrap64 (((min i c : Nat) : Int) * (r : Int)) = ((i * r : Nat) : Int) := by
        rw [show min i c = i by omega, ← Int.natCast_mul, w64 (by omega) (by omega)]
      have e0 : shl .i64 (wrap64 ((i : Int) - ((min i c : Nat) : Int))) (r : Int) = 0 := by
        rw [show min i c = i by omega, Int.sub_self, show wrap64 0 = 0 from w64 (by omega) (by omega), shl64 0 _ (by omega) (by omega), Int.zero_mul, w64 (by omega) (by omega)]
      rw [em, ef, Option.bind_some, if_pos (by omega), e0, or00]
      have er : (List.replicate (min i c) (0 : Int)) ++ [0] = List.replicate (min (i + 1) c) 0 := by
        rw [show min i c = i by omega, show min (i + 1) c = i + 1 by omega, List.replicate_succ']
      rw [er]; exact h
    · rw [decide_eq_false ci, if_neg (by simp)]
      rw [show min (i + 1) c = min i c by omega] at h
      exact h
theorem mulZ (c r : Nat) (h : c * r ≤ 1020) : wrap64 ((r : Int) * (c : Int)) = ((c * r : Nat) : Int) := by rw [Int.mul_comm, ← Int.natCast_mul, w64 (by omega) (by omega)]
theorem numbersZ {c r : Nat} {l hs : Int} {lw hw : List Int} (hc : c ≤ 60) (hr : r ≤ 17) (hl1 : 1 ≤ l) (hl : l ≤ 100000) (hh : hs ≤ 300) (hcs : (c : Int) ≤ hs) (gl : Good ((c * r : Nat) : Int) lw) (bl : ∀ j, bitAt lw j = false) (gh : Good hs hw) (bh : ∀ j, bitAt hw j = decide (j < c))
    (eW : ∀ k, 20 < k → impl_WidthFor.f k c l = some ((r : Int), true)) (eS : ∀ k, 4500 < k → impl_sparse.f k (List.replicate c 0) l = some ((c : Int), l, (r : Int), ((c * r : Nat) : Int), lw, hs, hw)) (k : Nat) (hk : 6000 < k) :
    impl_Sparse_numbers.f k c l r ((c * r : Nat) : Int) lw hs hw = some (List.replicate c 0, true) := by
  have lh := gh.2.2.1
  have ll := gl.2.2.1
  have h0 := gh.1
  have hcr : c * r ≤ 1020 := Nat.mul_le_mul hc hr
  generalize hx : c * r = x at *
  have b1 : lw.length ≤ 100 := by omega
  have b2 : hw.length ≤ 100 := by omega
  obtain ⟨n, hn⟩ : ∃ n : Nat, (n : Int) = hs := ⟨hs.toNat, by omega⟩
  obtain ⟨k, rfl⟩ : ∃ m, k = m + 1 := ⟨k - 1, by omega⟩
  have L := numbersZ_l hc hr hl1 hl hh hcs (by rw [hx]; exact gl) bl gh bh (by rw [hx]; exact eS) n k 0 (by omega) (by omega)
  rw [hx] at L
  have g1 := goodI (x : Int) lw (k + 1) (by omega) (by omega)
  have g2 := goodI hs hw (k + 1) (by omega) (by omega)
  rw [decide_eq_true gl] at g1
  rw [decide_eq_true gh] at g2
  have e1 := eW (k + 1) (by omega)
  have em := mulZ c r (by rw [hx]; exact hcr)
  rw [hx] at em
  clear eW eS bl bh gl gh lh ll h0 hcr b1 b2 hn hk hh hcs hl hl1 hc hr
  unfold impl_Sparse_numbers.f
  rw [e1, Option.bind_some, if_pos rfl, if_pos rfl, g1, Option.bind_some, if_pos rfl, g2, Option.bind_some, if_pos rfl, em]
  simp only [impl_Sparse_numbers.j0]
  rw [if_neg (by simp)]
  rw [Nat.zero_min, List.replicate_zero, Int.natCast_zero] at L
  exact L

theorem and255 (a : Int) : 0 ≤ Go.bits .and .u64 a 255 ∧ Go.bits .and .u64 a 255 ≤ 255 := by
  have e : Go.bits .and .u64 a 255 = IntKind.u64.wrap (((BitVec.ofInt 64 a &&& BitVec.ofInt 64 255).toNat : Nat) : Int) := rfl
  have h : (BitVec.ofInt 64 a &&& BitVec.ofInt 64 255).toNat ≤ 255 := by
    rw [BitVec.toNat_and]; exact Nat.and_le_right
  rw [e, IntKind.wrap_u64]
  generalize (BitVec.ofInt 64 a &&& BitVec.ofInt 64 255).toNat = m at *
  omega
/-- the bytes of a code -/
def Bytes (c : List Int) : Prop := c.length ≤ 2097152 ∧ ∀ x ∈ c, 0 ≤ x ∧ x ≤ 255
theorem rd_byte (c : List Int) (h : Bytes c) (i : Int) : 0 ≤ rd c i ∧ rd c i ≤ 255 := by
  unfold rd
  rw [List.getD_eq_getElem?_getD]
  by_cases k : i.toNat < c.length
  · rw [List.getElem?_eq_getElem k]; exact h.2 _ (List.getElem_mem k)
  · rw [List.getElem?_eq_none (by omega)]; simp
theorem nextC (c : List Int) (h : Bytes c) (at_ sd : Int) (n : Nat) (h0 : 0 ≤ at_) (h1 : at_ ≤ n) (hn : n < 4611686018427387904) : ∃ x sd', spec_l1Cur_next.f c at_ sd = some (x, at_ + 1, sd') ∧ 0 ≤ x ∧ x ≤ 255 := by
  unfold spec_l1Cur_next.f
  have e : wrap64 (at_ + 1) = at_ + 1 := w64 (by omega) (by omega)
  have hb := rd_byte c h at_
  have e2 : wrap64 (rd c at_) = rd c at_ := w64 (by omega) (by omega)
  rw [e, e2]
  by_cases c1 : at_ < (c.length : Int)
  · rw [if_pos c1, if_pos h0]
    by_cases c2 : at_ + 1 ≤ (c.length : Int)
    · rw [if_pos c2]; exact ⟨_, _, rfl, hb.1, hb.2⟩
    · exact absurd c2 (by omega)
  · rw [if_neg c1, if_neg (by omega)]
    refine ⟨_, _, rfl, ?_⟩
    have := and255 (IntKind.u64.wrap (IntKind.u64.wrap (IntKind.u64.wrap (sd * 6364136223846793005)) + 1442695040888963407) / 1099511627776)
    rw [w64 (by omega) (by omega)]; exact this
/-- a place in the code, at most n steps on -/
def Pl (n : Nat) (at_ : Int) : Prop := 0 ≤ at_ ∧ at_ ≤ n
theorem pickC (c : List Int) (h : Bytes c) (at_ sd m : Int) (n : Nat) (hp : Pl n at_) (hn : n < 2305843009213693952) (hm : m ≤ 1000000) : ∃ x at' sd', spec_l1Cur_pick.f c at_ sd m = some (x, at', sd') ∧ Pl (n + 2) at' ∧ 0 ≤ x ∧ (x < m ∨ x = 0) := by
  unfold spec_l1Cur_pick.f Pl at *
  by_cases c1 : m ≤ 1
  · rw [if_pos c1]; exact ⟨_, _, _, rfl, ⟨by omega, by omega⟩, by omega, Or.inr rfl⟩
  rw [if_neg c1]
  obtain ⟨x, s1, e1, x0, x1⟩ := nextC c h at_ sd n hp.1 hp.2 (by omega)
  rw [e1, Option.bind_some]
  simp only
  by_cases c2 : m > 200
  · obtain ⟨y, s2, e2, y0, y1⟩ := nextC c h (at_ + 1) s1 (n + 1) (by omega) (by omega) (by omega)
    rw [if_pos c2, e2, Option.bind_some]
    simp only
    rw [if_neg (by omega)]
    have e3 : wrap64 (wrap64 (x * 256) + y) = x * 256 + y := by rw [w64 (x := x * 256) (by omega) (by omega), w64 (by omega) (by omega)]
    rw [e3, Int.tmod_eq_emod_of_nonneg (by omega)]
    exact ⟨_, _, _, rfl, ⟨by omega, by omega⟩, Int.emod_nonneg _ (by omega), Or.inl (Int.emod_lt_of_pos _ (by omega))⟩
  · rw [if_neg c2, if_neg (by omega), Int.tmod_eq_emod_of_nonneg (by omega)]
    exact ⟨_, _, _, rfl, ⟨by omega, by omega⟩, Int.emod_nonneg _ (by omega), Or.inl (Int.emod_lt_of_pos _ (by omega))⟩
theorem oneC (c : List Int) (h : Bytes c) (at_ sd m : Int) (n : Nat) (hp : Pl n at_) (hn : n < 2305843009213693952) (hm : m ≤ 1000000) : ∃ b at' sd', spec_l1Cur_one.f c at_ sd m = some (b, at', sd') ∧ Pl (n + 2) at' := by
  obtain ⟨x, a, s, e, p, _⟩ := pickC c h at_ sd m n hp hn hm
  unfold spec_l1Cur_one.f
  rw [e, Option.bind_some]
  exact ⟨_, _, _, rfl, p⟩

theorem amongC (c : List Int) (h : Bytes c) (at_ sd : Int) (l : List Int) (n : Nat) (hp : Pl n at_) (hn : n < 1000000000) (hl : 0 < l.length) (hl2 : l.length ≤ 1000) :
    ∃ x at' sd', spec_l1Cur_among.f c at_ sd l = some (x, at', sd') ∧ Pl (n + 2) at' := by
  obtain ⟨x, a1, s1, e1, p1, x0, x1⟩ := pickC c h at_ sd l.length n hp (by omega) (by omega)
  unfold spec_l1Cur_among.f
  rw [e1, Option.bind_some]
  simp only
  rw [if_pos x0, if_pos (by omega)]
  exact ⟨_, _, _, rfl, p1⟩

theorem limitC (c : List Int) (h : Bytes c) (at_ sd : Int) (n : Nat) (hp : Pl n at_) (hn : n < 900000000) : ∃ x at' sd', spec_l1Cur_limit.f c at_ sd = some (x, at', sd') := by
  obtain ⟨x, a1, s1, e1, p1, x0, x1⟩ := pickC c h at_ sd 8 n hp (by omega) (by omega)
  unfold spec_l1Cur_limit.f
  rw [e1, Option.bind_some]; simp only
  by_cases c0 : x = 0
  · obtain ⟨y, a2, s2, e2, p2⟩ := amongC c h a1 s1 [(-1), 0, 1, 2, 100000, 100001] _ p1 (by omega) (by simp) (by simp)
    rw [if_pos c0, e2, Option.bind_some]; exact ⟨_, _, _, rfl⟩
  by_cases c1 : x = 1
  · obtain ⟨y, a2, s2, e2, p2, y0, y1⟩ := pickC c h a1 s1 100000 _ p1 (by omega) (by omega)
    rw [if_neg c0, if_pos c1, e2, Option.bind_some]; exact ⟨_, _, _, rfl⟩
  · obtain ⟨y, a2, s2, e2, p2, y0, y1⟩ := pickC c h a1 s1 150 _ p1 (by omega) (by omega)
    rw [if_neg c0, if_neg c1, e2, Option.bind_some]; exact ⟨_, _, _, rfl⟩
theorem drawWidth (c : List Int) (h : Bytes c) : ∃ a b, spec_DrawWidthFor.f c = some (a, b) := by
  obtain ⟨x, a1, s1, e1, p1, x0, x1⟩ := pickC c h 0 0 20 0 ⟨by omega, by omega⟩ (by omega) (by omega)
  obtain ⟨b, a2, s2, e2, p2⟩ := oneC c h a1 s1 4 _ p1 (by omega) (by omega)
  unfold spec_DrawWidthFor.f
  rw [e1, Option.bind_some]; simp only
  rw [e2, Option.bind_some]; simp only
  by_cases cb : b = true
  · obtain ⟨y, a3, s3, e3, p3⟩ := amongC c h a2 s2 [(-1), 0, 60, 61] _ p2 (by omega) (by simp) (by simp)
    obtain ⟨z, a4, s4, e4⟩ := limitC c h a3 s3 _ p3 (by omega)
    rw [if_pos cb, e3, Option.bind_some]; simp only
    rw [e4, Option.bind_some]; exact ⟨_, _, rfl⟩
  · obtain ⟨z, a4, s4, e4⟩ := limitC c h a2 s2 _ p2 (by omega)
    rw [if_neg cb, e4, Option.bind_some]; exact ⟨_, _, rfl⟩

theorem wf8 {x : Int} (h : (Lit.int .u8 x).wf = true) : 0 ≤ x ∧ x ≤ 255 := by
  simp only [Lit.wf, Bool.and_eq_true, decide_eq_true_eq, IntKind.min, IntKind.max, IntKind.signed, IntKind.bits] at h
  simp at h
  omega

theorem width_div (N i : Nat) (h1 : 1 ≤ N) (h2 : N ≤ 60) (hr : i ≤ 17) : wrap64 (Int.tdiv ((N * 2 ^ i : Nat) : Int) (N : Int)) = ((2 ^ i : Nat) : Int) := by
  have hp := Nat.pow_le_pow_right (n := 2) (by decide) hr
  have e : ((N * 2 ^ i : Nat) : Int) / (N : Int) = ((2 ^ i : Nat) : Int) := by
    rw [Int.natCast_mul]; exact Int.mul_ediv_cancel_left _ (by omega)
  rw [Int.tdiv_eq_ediv_of_nonneg (Int.natCast_nonneg _), e]
  have hp1 : 1 ≤ 2 ^ i := Nat.one_le_two_pow
  clear e
  exact w64 (by omega) (by omega)
theorem widths_l (c N r : Nat) (l : Int) (lw hw : List Int) (hc : c ≤ 60) (hN : N = (if c = 0 then 1 else c)) (hr : r ≤ 17) (h2 : 0 < r → ((N * 2 ^ r : Nat) : Int) ≤ l) (h3 : l < ((N * 2 ^ (r + 1) : Nat) : Int)) (hl1 : 1 ≤ l) (hl : l ≤ 100000)
    (hd0 : 0 ≤ (l - 1) / ((2 ^ r : Nat) : Int)) (hd : (l - 1) / ((2 ^ r : Nat) : Int) ≤ 130) (hcr : c * r ≤ 1020)
    (eB : ∀ k, 4500 < k → impl_BuildSparse.f k (List.replicate c 0) l = some ((c : Int), l, (r : Int), ((c * r : Nat) : Int), lw, (c : Int) + (l - 1) / ((2 ^ r : Nat) : Int) + 1, hw, true))
    (eN : ∀ k, 6000 < k → impl_IsSparse.f k c l r ((c * r : Nat) : Int) lw ((c : Int) + (l - 1) / ((2 ^ r : Nat) : Int) + 1) hw = some true) (d : Nat) : ∀ (k i : Nat), i + d = r → d + 7000 < k →
    laws_FnWidths.l0 k c l r N ((N * 2 ^ i : Nat) : Int) i = some true := by
  have hN2 : N ≤ 60 := by rw [hN]; split <;> omega
  have hN1 : 1 ≤ N := by rw [hN]; split <;> omega
  induction d with
  | zero =>
    intro k i hi hk
    obtain ⟨k, rfl⟩ := succOf hk
    have : i = r := by omega
    subst this
    have hp := Nat.pow_le_pow_right (n := 2) (by decide) hr
    have hp1 : 1 ≤ 2 ^ i := Nat.one_le_two_pow
    have hq : N * 2 ^ i ≤ 60 * 2 ^ 17 := Nat.mul_le_mul hN2 hp
    have hq2 : N * 2 ^ (i + 1) = 2 * (N * 2 ^ i) := by rw [Nat.pow_succ]; ac_rfl
    have eb : impl_SparseBits.f k c l i ((c * i : Nat) : Int) lw ((c : Int) + (l - 1) / ((2 ^ i : Nat) : Int) + 1) hw = some (((c * i : Nat) : Int) + ((c : Int) + (l - 1) / ((2 ^ i : Nat) : Int) + 1), true) := by
      unfold impl_SparseBits.f
      rw [eN _ (by omega), Option.bind_some, if_pos rfl, w64 (by omega) (by omega)]
    have fin : (((c * i : Nat) : Int) + ((c : Int) + (l - 1) / ((2 ^ i : Nat) : Int) + 1) == wrap64 (wrap64 (wrap64 (wrap64 ((c : Int) * (i : Int)) + (c : Int)) + wrap64 (Int.tdiv (wrap64 (l - 1)) (wrap64 (Int.tdiv ((N * 2 ^ i : Nat) : Int) (N : Int))))) + 1)) = true := by
      rw [width_div N i hN1 hN2 hr, ← Int.natCast_mul, w64 (x := ((c * i : Nat) : Int)) (by omega) (by omega), w64 (x := l - 1) (by omega) (by omega), Int.tdiv_eq_ediv_of_nonneg (by omega), w64 (x := (l - 1) / _) (by omega) (by omega), w64 (x := ((c * i : Nat) : Int) + (c : Int)) (by omega) (by omega), w64 (x := ((c * i : Nat) : Int) + (c : Int) + _) (by omega) (by omega), w64 (by omega) (by omega)]
      simp only [beq_iff_eq]; omega
    simp only [laws_FnWidths.l0]
    rw [if_neg (by omega), if_pos (by omega), Int.toNat_natCast, if_pos (by omega), eB k (by omega), Option.bind_some]
    simp only
    rw [eb, Option.bind_some]
    simp only [if_true]
    rw [w64 (x := 2 * _) (by omega) (by omega), if_neg (by omega), eN k (by omega), Option.bind_some]
    simp only [if_true]
    by_cases c0 : (i : Int) > 0
    · rw [if_pos c0, if_neg (by have := h2 (by omega); omega), if_neg (by omega), if_neg (by rw [width_div N i hN1 hN2 hr]; omega), fin]
    · rw [if_neg c0, if_neg (by omega), if_neg (by rw [width_div N i hN1 hN2 hr]; omega), fin]
  | succ d ih =>
    intro k i hi hk
    obtain ⟨k, rfl⟩ := succOf hk
    have hp := Nat.pow_le_pow_right (n := 2) (by decide) (show i ≤ 17 by omega)
    have hq : N * 2 ^ i ≤ 60 * 2 ^ 17 := Nat.mul_le_mul hN2 hp
    have hq2 : N * 2 ^ (i + 1) = N * 2 ^ i * 2 := by rw [Nat.pow_succ, Nat.mul_assoc]
    have e2 : wrap64 (((N * 2 ^ i : Nat) : Int) * 2) = ((N * 2 ^ (i + 1) : Nat) : Int) := by rw [w64 (by omega) (by omega), hq2]; omega
    simp only [laws_FnWidths.l0]
    rw [if_pos (by omega), e2, w64n i (by omega)]
    exact ih k (i + 1) (by omega) (by omega)
theorem FnWidths : laws_FnWidths.Pure := by
  intro c m _ _ hc _ _ _
  obtain ⟨k, hk⟩ : ∃ k, k = 1060000 := ⟨_, rfl⟩
  refine ⟨k + 4, ?_⟩
  unfold laws_FnWidths.f laws_big.f
  by_cases hb : (c.length : Int) > 1048576
  · rw [if_pos hb, Option.bind_some, if_pos rfl]
  rw [if_neg hb, Option.bind_some]
  by_cases hb2 : decide ((m.length : Int) > wrap64 (1048576 - (c.length : Int))) = true
  · rw [if_pos hb2]
  rw [if_neg hb2]
  have hB : Bytes c := ⟨by omega, fun x hx => wf8 (hc x hx)⟩
  obtain ⟨a, l, eD⟩ := drawWidth c hB
  rw [eD, Option.bind_some]; simp only
  by_cases h : (0 ≤ a ∧ a ≤ 60) ∧ 1 ≤ l ∧ l ≤ 100000
  · obtain ⟨n, rfl⟩ := Int.eq_ofNat_of_zero_le h.1.1
    obtain ⟨N, r, lw, hw, hN, h1, h2, h3, eI, eS, gl, bl, gh, bh, hd0, hd, hcr, eP⟩ := sparseZ n l (by omega) h.2.1 h.2.2
    have eB (k : Nat) (hk : 4500 < k) : impl_BuildSparse.f k (List.replicate n 0) l = some ((n : Int), l, (r : Int), ((n * r : Nat) : Int), lw, (n : Int) + (l - 1) / ((2 ^ r : Nat) : Int) + 1, hw, true) := by
      unfold impl_BuildSparse.f
      rw [sortedZ n l (by omega) h.2.1 h.2.2 k (by omega), Option.bind_some, if_pos rfl, eP k hk, Option.bind_some]
    have eN (k : Nat) (hk : 6000 < k) : impl_IsSparse.f k n l r ((n * r : Nat) : Int) lw ((n : Int) + (l - 1) / ((2 ^ r : Nat) : Int) + 1) hw = some true := by
      unfold impl_IsSparse.f
      rw [numbersZ (by omega) h1 h.2.1 h.2.2 (by omega) (by omega) gl bl gh bh eI eP k hk, Option.bind_some]
    rw [eI _ (by omega), Option.bind_some, eS _ (by omega), Option.bind_some, if_neg (by simp)]
    simp only [bne_self_eq_false, laws_FnWidths.j0, Bool.false_eq_true, if_false, if_true, laws_FnWidths.j1]
    have L := widths_l n N r l lw hw (by omega) hN h1 h2 h3 h.2.1 h.2.2 hd0 hd hcr eB eN r (k + 2) 0 (by omega) (by omega)
    simp only [Nat.pow_zero, Nat.mul_one, Int.natCast_zero] at L
    by_cases c0 : (n : Int) = 0
    · rw [if_pos c0]
      have : N = 1 := by rw [hN, if_pos (by omega)]
      rw [this] at L
      exact L
    · rw [if_neg c0]
      have : N = n := by rw [hN, if_neg (by omega)]
      rw [this] at L
      exact L
  · obtain ⟨e1, e2⟩ := widthNone a l h
    rw [e1 _ (by omega), Option.bind_some, e2 _ (by omega), Option.bind_some]
    simp [laws_FnWidths.j0]

end Go.Proofs.Ytkmhjgejficclaa.Pure
