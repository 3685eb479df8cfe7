/- ParenthesesOf of the program and of the reference answer the same, the answers share no memory with the argument nor with each other, and the argument stays; for every list of at most 2^20 numbers (longer ones are not asked). -/
import Derived.Test.YtkmhjgejficclaaPFnExactParenthesesOfx5
namespace Go.Proofs.Ytkmhjgejficclaa.Pure
open Go.RowKit Go.Proofs.Ytkmhjgejficclaa.PFnExactParenthesesOf Go.Proofs.YtkmhjgejficclaaW.PrintWords Go.Proofs.YtkmhjgejficclaaW.PrintLast Go.Proofs.YtkmhjgejficclaaW.PrintMore
set_option linter.unusedVariables false
set_option linter.unusedSimpArgs false

theorem w64 {x : Int} (h1 : -9223372036854775808 ≤ x) (h2 : x ≤ 9223372036854775807) : wrap64 x = x := by unfold wrap64; omega
theorem w64n (i : Nat) (h : i < 9223372036854775807) : wrap64 ((i : Int) + 1) = ((i + 1 : Nat) : Int) := by rw [w64 (by omega) (by omega)]; rfl
theorem succOf {k d : Nat} (h : d < k) : ∃ m, k = m + 1 := ⟨k - 1, by omega⟩

theorem rd_mid (p s : List Int) (x : Int) : rd (p ++ x :: s) (p.length : Int) = x := by
  simp [rd, List.getD_eq_getElem?_getD]
theorem rd_last (p s : List Int) (x : Int) (i : Int) (h : i = p.length) : rd (p ++ x :: s) i = x := by
  subst h; exact rd_mid p s x

theorem shl64 (x y : Int) (h0 : 0 ≤ y) (h1 : y ≤ 63) : shl .i64 x y = wrap64 (x * 2 ^ y.toNat) := by
  unfold shl wrap64; rw [Nat.min_eq_left (by simp only [IntKind.bits]; omega), IntKind.wrap_i64]
theorem shr64 (x y : Int) (h0 : 0 ≤ y) (h1 : y ≤ 63) : shr .i64 x y = x / 2 ^ y.toNat := by
  unfold shr; rw [Nat.min_eq_left (by simp only [IntKind.bits]; omega)]

/-- the bit i of a row of words -/
def bitAt (ws : List Int) (i : Nat) : Bool := decide ((ws.getD (i / 16) 0 / 2 ^ (i % 16)) % 2 = 1)
/-- what a vector of bits keeps -/
def Good (s : Int) (ws : List Int) : Prop :=
  0 ≤ s ∧ s ≤ 4096 ∧ (ws.length : Int) = (s + 15) / 16 ∧ (∀ w ∈ ws, 0 ≤ w ∧ w ≤ 65535) ∧ (s % 16 = 0 ∨ ws.getD (ws.length - 1) 0 / 2 ^ (s % 16).toNat = 0)
instance (s : Int) (ws : List Int) : Decidable (Good s ws) := by unfold Good; infer_instance
theorem i64_small (n : Int) (h0 : 0 ≤ n) (h1 : n < 2 ^ 62) : IntKind.i64.wrap n = n := by rw [IntKind.wrap_i64]; omega
theorem and1 (x : Int) (h0 : 0 ≤ x) (h1 : x < 2 ^ 62) : Go.bits .and .i64 x 1 = x % 2 := bits_mask .i64 62 (by decide) i64_small 1 (by decide) x h0 h1
theorem word_range (ws : List Int) (hw : ∀ w ∈ ws, 0 ≤ w ∧ w ≤ 65535) (j : Nat) : 0 ≤ ws.getD j 0 ∧ ws.getD j 0 ≤ 65535 := by
  by_cases h : j < ws.length
  · rw [List.getD_eq_getElem?_getD, List.getElem?_eq_getElem h]; exact hw _ (List.getElem_mem h)
  · rw [List.getD_eq_getElem?_getD, List.getElem?_eq_none (by omega)]; simp
theorem div_pow_range (x : Int) (j : Nat) (h : 0 ≤ x ∧ x ≤ 65535) : 0 ≤ x / 2 ^ j ∧ x / 2 ^ j ≤ 65535 := by
  have hp : (0 : Int) < 2 ^ j := Int.pow_pos (by omega)
  exact ⟨Int.ediv_nonneg h.1 (by omega), Int.le_trans (Int.ediv_le_self _ h.1) h.2⟩
theorem at_eq (ws : List Int) (i : Nat) (h : i / 16 < ws.length) (hw : ∀ w ∈ ws, 0 ≤ w ∧ w ≤ 65535) (hi : i < 4611686018427387904) :
    (if 0 ≤ (wrap64 (Int.tdiv (i : Int) 16)) then (if (wrap64 (Int.tdiv (i : Int) 16)) < (ws.length : Int) then (if 0 ≤ (Int.tmod (i : Int) 16) then (some ((Go.bits .and .i64 (shr .i64 (rd ws (wrap64 (Int.tdiv (i : Int) 16))) (Int.tmod (i : Int) 16)) 1) == 1)) else (none)) else (none)) else (none)) = some (bitAt ws i) := by
  have e1 : wrap64 (Int.tdiv (i : Int) 16) = ((i / 16 : Nat) : Int) := by
    rw [Int.tdiv_eq_ediv_of_nonneg (by omega), w64 (by omega) (by omega)]; omega
  have e2 : Int.tmod (i : Int) 16 = ((i % 16 : Nat) : Int) := by
    rw [Int.tmod_eq_emod_of_nonneg (by omega)]; omega
  have e3 : rd ws ((i / 16 : Nat) : Int) = ws.getD (i / 16) 0 := by unfold rd; rw [Int.toNat_natCast]
  have hr := div_pow_range _ (i % 16) (word_range ws hw (i / 16))
  rw [e1, e2, if_pos (by omega), if_pos (by omega), if_pos (by omega), e3, shr64 _ _ (by omega) (by omega), Int.toNat_natCast, and1 _ hr.1 (by omega)]
  rfl
/-- how the last word is asked -/
theorem last_eq (s : Int) (ws : List Int) (h0 : 0 ≤ s) (h1 : s ≤ 4096) (hl : (ws.length : Int) = (s + 15) / 16) :
    (if (Int.tmod s 16) = 0 then (some true) else (if 0 ≤ (wrap64 ((ws.length : Int) - 1)) then (if (wrap64 ((ws.length : Int) - 1)) < (ws.length : Int) then (if 0 ≤ (Int.tmod s 16) then (some ((shr .i64 (rd ws (wrap64 ((ws.length : Int) - 1))) (Int.tmod s 16)) == 0)) else (none)) else (none)) else (none))) =
      some (decide (s % 16 = 0 ∨ ws.getD (ws.length - 1) 0 / 2 ^ (s % 16).toNat = 0)) := by
  have e2 : Int.tmod s 16 = s % 16 := Int.tmod_eq_emod_of_nonneg h0
  rw [e2]
  by_cases c : s % 16 = 0
  · rw [if_pos c]; simp [c]
  · rw [if_neg c, w64 (by omega) (by omega), if_pos (by omega), if_pos (by omega), if_pos (by omega), shr64 _ _ (by omega) (by omega)]
    have e3 : rd ws ((ws.length : Int) - 1) = ws.getD (ws.length - 1) 0 := by
      unfold rd; rw [show ((ws.length : Int) - 1).toNat = ws.length - 1 from by omega]
    rw [e3]; simp only [c, false_or]; rfl
theorem good_words (s : Int) (ws : List Int) (h : Good s ws) : ∀ w ∈ ws, 0 ≤ w ∧ w ≤ 65535 := h.2.2.2.1
theorem good_place {s : Int} {ws : List Int} (h : Good s ws) (i : Nat) (hi : (i : Int) < s) : i / 16 < ws.length ∧ i < 4096 := by
  obtain ⟨h0, h1, h2, _⟩ := h; omega
theorem words_eq (s : Int) (h0 : 0 ≤ s) (h1 : s ≤ 4096) : wrap64 (Int.tdiv (wrap64 (s + 15)) 16) = (s + 15) / 16 := by
  rw [w64 (x := s + 15) (by omega) (by omega), Int.tdiv_eq_ediv_of_nonneg (by omega), w64 (by omega) (by omega)]
theorem words_eq2 (s : Int) (h0 : 0 ≤ s) (h1 : s ≤ 4096) : wrap64 (Int.tdiv (wrap64 (wrap64 (s + 16) - 1)) 16) = (s + 15) / 16 := by
  rw [w64 (x := s + 16) (by omega) (by omega), show s + 16 - 1 = s + 15 from by omega]; exact words_eq s h0 h1

/-- the value of w bits from a on -/
def fieldV (b : Nat → Bool) (a : Nat) : Nat → Int
  | 0 => 0
  | w + 1 => fieldV b a w + (if b (a + w) = true then 2 ^ w else 0)
theorem fieldV_range (b : Nat → Bool) (a w : Nat) : 0 ≤ fieldV b a w ∧ fieldV b a w < 2 ^ w := by
  induction w with
  | zero => simp [fieldV]
  | succ w ih =>
    have hp : (0 : Int) < 2 ^ w := Int.pow_pos (by omega)
    have e : (2 : Int) ^ (w + 1) = 2 ^ w * 2 := Int.pow_succ 2 w
    simp only [fieldV]
    split <;> omega
theorem fieldV_head (b : Nat → Bool) (w : Nat) : ∀ a, fieldV b a (w + 1) = (if b a = true then 1 else 0) + 2 * fieldV b (a + 1) w := by
  induction w with
  | zero => intro a; simp [fieldV]
  | succ w ih =>
    intro a
    rw [fieldV, ih a]
    have e : (2 : Int) ^ (w + 1) = 2 ^ w * 2 := Int.pow_succ 2 w
    simp only [fieldV]
    rw [show a + 1 + w = a + (w + 1) from by omega]
    split <;> split <;> omega
/-- what ReadField answers -/
def fieldAns (s : Int) (ws : List Int) (a w : Int) : Int × Bool := if Good s ws ∧ (0 ≤ w ∧ w ≤ 24) ∧ 0 ≤ a ∧ a ≤ s - w then (fieldV (bitAt ws) a.toNat w.toNat, true) else (0, false)
theorem or_pow (x : Int) (j : Nat) (h0 : 0 ≤ x) (h1 : x < 2 ^ j) (hj : j < 60) : Go.bits .or .i64 x (2 ^ j) = x + 2 ^ j := by
  obtain ⟨a, rfl⟩ := Int.eq_ofNat_of_zero_le h0
  have ha : a < 2 ^ j := by exact_mod_cast h1
  have hj2 : 2 ^ j < 2 ^ 62 := Nat.pow_lt_pow_right (by decide) (by omega)
  have hc : ((2 : Int) ^ j) = ((2 ^ j : Nat) : Int) := by simp
  rw [hc, (bits_nat .i64 62 (by decide) i64_small a (2 ^ j) (by omega) hj2).2]
  have e := Nat.two_pow_add_eq_or_of_lt ha 1
  rw [Nat.mul_one] at e
  rw [Nat.or_comm, ← e]; simp; omega
theorem shl_one (j : Nat) (hj : j < 60) : shl .i64 1 (j : Int) = 2 ^ j := by
  rw [shl64 _ _ (by omega) (by omega), Int.toNat_natCast, Int.one_mul]
  have hj2 : 2 ^ j < 2 ^ 62 := Nat.pow_lt_pow_right (by decide) (by omega)
  have hj3 : (2 : Int) ^ j < 2 ^ 62 := by exact_mod_cast hj2
  have hp : (0 : Int) < 2 ^ j := Int.pow_pos (by omega)
  rw [w64 (by omega) (by omega)]

/-- a word, as a number -/
theorem word_nat (ws : List Int) (hw : ∀ w ∈ ws, 0 ≤ w ∧ w ≤ 65535) (j : Nat) : ∃ n : Nat, ws.getD j 0 = (n : Int) ∧ n < 2 ^ 16 := by
  have h := word_range ws hw j
  exact ⟨(ws.getD j 0).toNat, by omega, by omega⟩
theorem bitAt_nat (ws : List Int) (i n : Nat) (h : ws.getD (i / 16) 0 = (n : Int)) : bitAt ws i = n.testBit (i % 16) := by
  unfold bitAt
  rw [h, Nat.testBit_eq_decide_div_mod_eq]
  have e : (n : Int) / 2 ^ (i % 16) % 2 = ((n / 2 ^ (i % 16) % 2 : Nat) : Int) := by simp
  rw [e, decide_eq_decide]; omega
/-- behind the end of a vector no bit stands -/
theorem good_end {s : Int} {ws : List Int} (h : Good s ws) (i : Nat) (hi : s ≤ (i : Int)) : bitAt ws i = false := by
  obtain ⟨h0, h1, h2, h3, h4⟩ := h
  obtain ⟨n, e, hn⟩ := word_nat ws h3 (i / 16)
  rw [bitAt_nat ws i n e]
  by_cases c : i / 16 < ws.length
  · rcases h4 with h4 | h4
    · omega
    · have e1 : i / 16 = ws.length - 1 := by omega
      rw [e1] at e
      rw [e] at h4
      have e2 : (n : Int) / 2 ^ (s % 16).toNat = ((n / 2 ^ (s % 16).toNat : Nat) : Int) := by simp
      rw [e2] at h4
      have h5 : n < 2 ^ (s % 16).toNat := by
        have hp : 0 < 2 ^ (s % 16).toNat := Nat.two_pow_pos _
        exact (Nat.div_eq_zero_iff_lt hp).mp (by omega)
      exact Nat.testBit_lt_two_pow (Nat.lt_of_lt_of_le h5 (Nat.pow_le_pow_right (by decide) (by omega)))
  · rw [List.getD_eq_getElem?_getD, List.getElem?_eq_none (by omega)] at e
    have : n = 0 := by simp at e; omega
    subst this; simp
/-- two vectors with the same bits are the same -/
theorem good_ext {s : Int} {ws ws' : List Int} (h : Good s ws) (h' : Good s ws') (hb : ∀ i : Nat, (i : Int) < s → bitAt ws i = bitAt ws' i) : ws = ws' := by
  have hl : ws.length = ws'.length := by have := h.2.2.1; have := h'.2.2.1; omega
  apply List.ext_getElem hl
  intro j c1 c2
  obtain ⟨n, e, hn⟩ := word_nat ws h.2.2.2.1 j
  obtain ⟨n', e', hn'⟩ := word_nat ws' h'.2.2.2.1 j
  have : n = n' := by
    apply Nat.eq_of_testBit_eq
    intro r
    by_cases c : r < 16
    · have a1 := bitAt_nat ws (16 * j + r) n (by rw [show (16 * j + r) / 16 = j from by omega]; exact e)
      have a2 := bitAt_nat ws' (16 * j + r) n' (by rw [show (16 * j + r) / 16 = j from by omega]; exact e')
      rw [show (16 * j + r) % 16 = r from by omega] at a1 a2
      rw [← a1, ← a2]
      by_cases c3 : ((16 * j + r : Nat) : Int) < s
      · exact hb _ c3
      · rw [good_end h _ (by omega), good_end h' _ (by omega)]
    · have hp : 2 ^ 16 ≤ 2 ^ r := Nat.pow_le_pow_right (by decide) (by omega)
      rw [Nat.testBit_lt_two_pow (by omega), Nat.testBit_lt_two_pow (by omega)]
  have g1 : ws.getD j 0 = ws[j] := by rw [List.getD_eq_getElem?_getD, List.getElem?_eq_getElem c1]; rfl
  have g2 : ws'.getD j 0 = ws'[j] := by rw [List.getD_eq_getElem?_getD, List.getElem?_eq_getElem c2]; rfl
  rw [← g1, ← g2, e, e', this]
/-- goodness by its bits -/
theorem good_of {s : Int} {ws : List Int} (h0 : 0 ≤ s) (h1 : s ≤ 4096) (h2 : (ws.length : Int) = (s + 15) / 16) (h3 : ∀ w ∈ ws, 0 ≤ w ∧ w ≤ 65535) (h4 : ∀ i : Nat, s ≤ (i : Int) → bitAt ws i = false) : Good s ws := by
  refine ⟨h0, h1, h2, h3, ?_⟩
  by_cases c : s % 16 = 0
  · exact Or.inl c
  · refine Or.inr ?_
    obtain ⟨n, e, hn⟩ := word_nat ws h3 (ws.length - 1)
    rw [e]
    have h5 : n < 2 ^ (s % 16).toNat := by
      apply Nat.lt_pow_two_of_testBit
      intro r hr
      by_cases c2 : r < 16
      · have a1 := bitAt_nat ws (16 * (ws.length - 1) + r) n (by rw [show (16 * (ws.length - 1) + r) / 16 = ws.length - 1 from by omega]; exact e)
        rw [show (16 * (ws.length - 1) + r) % 16 = r from by omega] at a1
        rw [← a1]
        exact h4 _ (by omega)
      · have hp : 2 ^ 16 ≤ 2 ^ r := Nat.pow_le_pow_right (by decide) (by omega)
        exact Nat.testBit_lt_two_pow (by omega)
    have e2 : (n : Int) / 2 ^ (s % 16).toNat = ((n / 2 ^ (s % 16).toNat : Nat) : Int) := by simp
    rw [e2, Nat.div_eq_of_lt h5]; rfl
theorem getD_set (ws : List Int) (j k : Nat) (x : Int) : (ws.set j x).getD k 0 = if j = k ∧ j < ws.length then x else ws.getD k 0 := by
  simp only [List.getD_eq_getElem?_getD, List.getElem?_set]
  by_cases c : j = k
  · subst c
    by_cases c2 : j < ws.length
    · simp [c2]
    · simp [c2, List.getElem?_eq_none (show ws.length ≤ j by omega)]
  · simp [c]
theorem or64 (a b : Nat) (ha : a < 2 ^ 16) (hb : b < 2 ^ 16) : Go.bits .or .i64 (a : Int) (b : Int) = ((a ||| b : Nat) : Int) :=
  (bits_nat .i64 62 (by decide) i64_small a b (by omega) (by omega)).2
theorem andNot64 (a b : Nat) (ha : a < 2 ^ 16) (hb : b < 2 ^ 16) : ∃ n : Nat, Go.bits .andNot .i64 (a : Int) (b : Int) = (n : Int) ∧ n < 2 ^ 16 ∧ ∀ r, n.testBit r = (a.testBit r && !b.testBit r) := by
  refine ⟨(BitVec.ofNat 64 a &&& ~~~ BitVec.ofNat 64 b).toNat, ?_, ?_, ?_⟩
  · have hb2 : (BitVec.ofNat 64 a &&& ~~~ BitVec.ofNat 64 b).toNat ≤ a := by
      rw [BitVec.toNat_and, BitVec.toNat_ofNat, Nat.mod_eq_of_lt (by omega)]; exact Nat.and_le_left
    have : Go.bits .andNot .i64 (a : Int) (b : Int) = IntKind.i64.wrap (((BitVec.ofNat 64 a &&& ~~~ BitVec.ofNat 64 b).toNat : Nat) : Int) := by
      simp only [Go.bits, BitVec.ofInt_natCast, IntKind.bits]; rfl
    rw [this, i64_small _ (by omega) (by omega)]
  · have hb2 : (BitVec.ofNat 64 a &&& ~~~ BitVec.ofNat 64 b).toNat ≤ a := by
      rw [BitVec.toNat_and, BitVec.toNat_ofNat, Nat.mod_eq_of_lt (by omega)]; exact Nat.and_le_left
    omega
  · intro r
    have hp : 2 ^ 16 ≤ 2 ^ 64 := by decide
    rw [BitVec.toNat_and, Nat.testBit_and, BitVec.toNat_ofNat, Nat.mod_eq_of_lt (by omega)]
    by_cases c : r < 64
    · congr 1
      rw [BitVec.testBit_toNat, BitVec.getLsbD_not, BitVec.getLsbD_ofNat]; simp [c]
    · have hp : 2 ^ 16 ≤ 2 ^ r := Nat.pow_le_pow_right (by decide) (by omega)
      rw [Nat.testBit_lt_two_pow (show a < 2 ^ r by omega)]; simp
theorem shl_pow (j : Nat) (hj : j < 60) : shl .i64 1 (j : Int) = ((2 ^ j : Nat) : Int) := by rw [shl_one j hj]; simp
/-- a word put in place of another -/
theorem good_put {s : Int} {ws : List Int} (h : Good s ws) (i : Nat) (hi : (i : Int) < s) (n : Nat) (hn : n < 2 ^ 16) (he : ∀ r, r < 16 → s ≤ ((16 * (i / 16) + r : Nat) : Int) → n.testBit r = false) :
    Good s (ws.set (i / 16) (n : Int)) ∧ ∀ k, bitAt (ws.set (i / 16) (n : Int)) k = if k / 16 = i / 16 then n.testBit (k % 16) else bitAt ws k := by
  obtain ⟨p1, p2⟩ := good_place h i hi
  have hb : ∀ k, bitAt (ws.set (i / 16) (n : Int)) k = if k / 16 = i / 16 then n.testBit (k % 16) else bitAt ws k := by
    intro k
    by_cases c : k / 16 = i / 16
    · rw [if_pos c]
      exact bitAt_nat _ _ _ (by rw [getD_set, if_pos ⟨c.symm, p1⟩])
    · rw [if_neg c]
      unfold bitAt
      rw [getD_set, if_neg (by omega)]
  refine ⟨good_of h.1 h.2.1 (by rw [List.length_set]; exact h.2.2.1) ?_ ?_, hb⟩
  · intro w hw
    rcases List.mem_or_eq_of_mem_set hw with hw | hw
    · exact h.2.2.2.1 w hw
    · subst hw; omega
  · intro k hk
    rw [hb]
    by_cases c : k / 16 = i / 16
    · rw [if_pos c]
      exact he (k % 16) (by omega) (by omega)
    · rw [if_neg c]; exact good_end h k hk
theorem tdiv16 (i : Nat) (hi : i < 4611686018427387904) : wrap64 (Int.tdiv (i : Int) 16) = ((i / 16 : Nat) : Int) := by
  rw [Int.tdiv_eq_ediv_of_nonneg (by omega), w64 (by omega) (by omega)]; omega
theorem tmod16 (i : Nat) : Int.tmod (i : Int) 16 = ((i % 16 : Nat) : Int) := by
  rw [Int.tmod_eq_emod_of_nonneg (by omega)]; omega
theorem rdD (ws : List Int) (j : Nat) : rd ws (j : Int) = ws.getD j 0 := by unfold rd; rw [Int.toNat_natCast]
/-- a bit set -/
theorem set_or {s : Int} {ws : List Int} (h : Good s ws) (i : Nat) (hi : (i : Int) < s) : ∃ ws', ws.set (i / 16) (Go.bits .or .i64 (ws.getD (i / 16) 0) (shl .i64 1 ((i % 16 : Nat) : Int))) = ws' ∧ Good s ws' ∧ ∀ k, bitAt ws' k = (decide (k = i) || bitAt ws k) := by
  obtain ⟨a, e, ha⟩ := word_nat ws h.2.2.2.1 (i / 16)
  have hp : 2 ^ (i % 16) < 2 ^ 16 := Nat.pow_lt_pow_right (by decide) (by omega)
  rw [e, shl_pow _ (by omega), or64 a _ ha hp]
  have ho : (a ||| 2 ^ (i % 16)) < 2 ^ 16 := Nat.or_lt_two_pow ha hp
  have tb : ∀ r, (a ||| 2 ^ (i % 16)).testBit r = (decide (r = i % 16) || a.testBit r) := by
    intro r; rw [Nat.testBit_or, Nat.testBit_two_pow, Bool.or_comm]; congr 1; rw [decide_eq_decide]; exact eq_comm
  have hw : ∀ k, k / 16 = i / 16 → a.testBit (k % 16) = bitAt ws k := fun k c => (bitAt_nat ws k a (by rw [c]; exact e)).symm
  obtain ⟨g, gb⟩ := good_put h i hi _ ho (by
    intro r hr hs
    rw [tb]
    have h1 := hw (16 * (i / 16) + r) (by omega)
    rw [show (16 * (i / 16) + r) % 16 = r from by omega, good_end h _ hs] at h1
    rw [h1, Bool.or_false, decide_eq_false_iff_not]; omega)
  refine ⟨_, rfl, g, fun k => ?_⟩
  rw [gb]
  by_cases c : k / 16 = i / 16
  · rw [if_pos c, tb, hw k c]; congr 1; rw [decide_eq_decide]; omega
  · rw [if_neg c, decide_eq_false (by intro e; exact c (by rw [e])), Bool.false_or]
/-- a bit cleared -/
theorem set_andNot {s : Int} {ws : List Int} (h : Good s ws) (i : Nat) (hi : (i : Int) < s) : ∃ ws', ws.set (i / 16) (Go.bits .andNot .i64 (ws.getD (i / 16) 0) (shl .i64 1 ((i % 16 : Nat) : Int))) = ws' ∧ Good s ws' ∧ ∀ k, bitAt ws' k = (!decide (k = i) && bitAt ws k) := by
  obtain ⟨a, e, ha⟩ := word_nat ws h.2.2.2.1 (i / 16)
  have hp : 2 ^ (i % 16) < 2 ^ 16 := Nat.pow_lt_pow_right (by decide) (by omega)
  obtain ⟨n, en, hn, tn⟩ := andNot64 a (2 ^ (i % 16)) ha hp
  rw [e, shl_pow _ (by omega), en]
  have tb : ∀ r, n.testBit r = (!decide (r = i % 16) && a.testBit r) := by
    intro r; rw [tn, Nat.testBit_two_pow, Bool.and_comm]; congr 2; rw [decide_eq_decide]; exact eq_comm
  have hw : ∀ k, k / 16 = i / 16 → a.testBit (k % 16) = bitAt ws k := fun k c => (bitAt_nat ws k a (by rw [c]; exact e)).symm
  obtain ⟨g, gb⟩ := good_put h i hi _ hn (by
    intro r hr hs
    rw [tb]
    have h1 := hw (16 * (i / 16) + r) (by omega)
    rw [show (16 * (i / 16) + r) % 16 = r from by omega, good_end h _ hs] at h1
    rw [h1, Bool.and_false])
  refine ⟨_, rfl, g, fun k => ?_⟩
  rw [gb]
  by_cases c : k / 16 = i / 16
  · rw [if_pos c, tb, hw k c]; congr 2; rw [decide_eq_decide]; omega
  · rw [if_neg c, decide_eq_false (by intro e; exact c (by rw [e]))]; simp

/-- the stack down to the node p -/
def cutSt (p : Int) : List Int → List Int
  | [] => []
  | a :: st => if a = p then a :: st else cutSt p st
/-- the bits of a tree list: the stack has the open nodes, the top ahead -/
def treeRun : List Int → Nat → List Int → List Bool → Option (List Bool)
  | [], _, st, acc => some (acc ++ List.replicate st.length false)
  | p :: rest, i, st, acc => if p = -1 ∨ p ∈ st then treeRun rest (i + 1) ((i : Int) :: cutSt p st) (acc ++ List.replicate (st.length - (cutSt p st).length) false ++ [true]) else none
theorem cutSt_suffix (p : Int) : ∀ st : List Int, ∃ pre, st = pre ++ cutSt p st ∧ p ∉ pre
  | [] => ⟨[], rfl, by simp⟩
  | a :: st => by
    by_cases c : a = p
    · exact ⟨[], by simp [cutSt, c], by simp⟩
    · obtain ⟨pre, e, h⟩ := cutSt_suffix p st
      refine ⟨a :: pre, ?_, ?_⟩
      · simp only [cutSt, if_neg c, List.cons_append]; rw [← e]
      · simp only [List.mem_cons, not_or]; exact ⟨fun e => c e.symm, h⟩
theorem cutSt_in (p : Int) : ∀ st : List Int, p ∈ st → ∃ s, cutSt p st = p :: s
  | [], h => by simp at h
  | a :: st, h => by
    by_cases c : a = p
    · exact ⟨st, by simp [cutSt, c]⟩
    · have : p ∈ st := by rcases List.mem_cons.mp h with h | h; exact absurd h.symm c; exact h
      obtain ⟨s, e⟩ := cutSt_in p st this
      exact ⟨s, by simp only [cutSt, if_neg c]; exact e⟩
theorem cutSt_out (p : Int) : ∀ st : List Int, p ∉ st → cutSt p st = []
  | [], _ => rfl
  | a :: st, h => by
    simp only [List.mem_cons, not_or] at h
    have c : ¬ a = p := fun e => h.1 e.symm
    simp only [cutSt, if_neg c]
    exact cutSt_out p st h.2
theorem cutSt_le (p : Int) (st : List Int) : (cutSt p st).length ≤ st.length := by
  obtain ⟨pre, e, _⟩ := cutSt_suffix p st
  have := congrArg List.length e
  rw [List.length_append] at this; omega
theorem cutSt_sub (p : Int) (st : List Int) (x : Int) (h : x ∈ cutSt p st) : x ∈ st := by
  obtain ⟨pre, e, _⟩ := cutSt_suffix p st
  rw [e]; exact List.mem_append_right _ h
/-- what the stack keeps -/
structure StOk (st : List Int) (i : Nat) : Prop where
  nd : st.Nodup
  rng : ∀ x ∈ st, 0 ≤ x ∧ x < (i : Int)
  len : st.length ≤ i
theorem stOk_nil : StOk [] 0 := ⟨by simp, by simp, by simp⟩
theorem stOk_next {st : List Int} {i : Nat} (p : Int) (h : StOk st i) : StOk ((i : Int) :: cutSt p st) (i + 1) := by
  obtain ⟨pre, e, _⟩ := cutSt_suffix p st
  have nd : (cutSt p st).Nodup := by
    have := h.nd; rw [e] at this; exact (List.nodup_append.mp this).2.1
  refine ⟨?_, ?_, ?_⟩
  · rw [List.nodup_cons]
    exact ⟨fun hm => by have := h.rng _ (cutSt_sub p st _ hm); omega, nd⟩
  · intro x hx
    rcases List.mem_cons.mp hx with hx | hx
    · omega
    · have := h.rng _ (cutSt_sub p st _ hx); omega
  · have := cutSt_le p st; have := h.len; simp only [List.length_cons]; omega
/-- the count of bits so far -/
theorem treeRun_len : ∀ (rest : List Int) (i : Nat) (st : List Int) (acc bits : List Bool), acc.length + st.length = 2 * i → treeRun rest i st acc = some bits → bits.length = 2 * (i + rest.length)
  | [], i, st, acc, bits, h, e => by
    simp only [treeRun, Option.some.injEq] at e
    subst e; simp only [List.length_append, List.length_replicate, List.length_nil]; omega
  | p :: rest, i, st, acc, bits, h, e => by
    simp only [treeRun] at e
    split at e
    · have hc := cutSt_le p st
      have := treeRun_len rest (i + 1) _ _ bits (by simp only [List.length_append, List.length_replicate, List.length_cons, List.length_nil]; omega) e
      rw [this]; simp only [List.length_cons]; omega
    · simp at e

def topSt : List Int → Int
  | [] => -1
  | a :: _ => a
/-- each node of the stack names the one below it -/
def Chain (ps : List Int) : List Int → Prop
  | [] => True
  | a :: st => (0 ≤ a ∧ a < ps.length ∧ rd ps a = topSt st) ∧ Chain ps st
theorem chain_cut (ps : List Int) (p : Int) : ∀ st, Chain ps st → Chain ps (cutSt p st)
  | [], _ => trivial
  | a :: st, h => by
    unfold cutSt
    split
    · exact h
    · exact chain_cut ps p st h.2
theorem treeS_up (ps : List Int) (p : Int) (n : Int) (i : Nat) (k0 : Nat) (hk0 : 0 < k0) (v : Option Bool) (hv : ∀ k, k0 ≤ k → spec_raTree.l0 k ps ps n (wrap64 ((i : Int) + 1)) = v) : ∀ (st : List Int) (up : Int) (k : Nat), up = topSt st → Chain ps st → st.length + 1 + k0 ≤ k →
    spec_raTree.l1 k ps p up ps n i = if p = -1 ∨ p ∈ st then v else some false := by
  intro st
  induction st with
  | nil =>
    intro up k hu _ hk
    obtain ⟨k, rfl⟩ := succOf (show 0 < k by omega)
    simp only [List.length_nil] at hk
    replace hu : up = -1 := hu
    simp only [spec_raTree.l1, List.not_mem_nil, or_false]
    have n1 : ¬ (up ≥ 0) := by omega
    rw [if_neg n1]
    by_cases c : p < -1
    · have n2 : ¬ (p = -1) := by omega
      rw [if_pos c, if_neg n2]
    · rw [if_neg c]
      by_cases c2 : up = p
      · have n2 : p = -1 := by omega
        rw [if_pos c2, if_pos n2]; exact hv k (by omega)
      · have n2 : ¬ (p = -1) := by omega
        rw [if_neg c2, if_neg n2]
  | cons a st ih =>
    intro up k hu h hk
    obtain ⟨k, rfl⟩ := succOf (show 0 < k by omega)
    simp only [List.length_cons] at hk
    replace hu : up = a := hu
    subst hu
    simp only [spec_raTree.l1]
    obtain ⟨⟨h1, h2, h3⟩, h4⟩ := h
    have n1 : up ≥ 0 := h1
    rw [if_pos n1]
    by_cases c : up = p
    · have n2 : ¬ (p < -1) := by omega
      have n3 : p = -1 ∨ p ∈ up :: st := Or.inr (by rw [c]; exact List.mem_cons_self)
      rw [if_pos c, if_neg n2, if_pos n3]; exact hv k (by omega)
    · have := ih (rd ps up) k h3 h4 (by omega)
      rw [if_neg c, if_pos h1, if_pos h2, this]
      have e : (p = -1 ∨ p ∈ up :: st) ↔ (p = -1 ∨ p ∈ st) := by
        simp only [List.mem_cons]
        constructor
        · rintro (h | h | h)
          · exact Or.inl h
          · exact absurd h.symm c
          · exact Or.inr h
        · rintro (h | h)
          · exact Or.inl h
          · exact Or.inr (Or.inr h)
      by_cases c3 : p = -1 ∨ p ∈ st
      · rw [if_pos c3, if_pos (e.mpr c3)]
      · rw [if_neg c3, if_neg (fun h => c3 (e.mp h))]
/-- a node that is not open: false, whatever follows -/
theorem treeS_no (ps : List Int) (p : Int) (n : Int) (i : Nat) : ∀ (st : List Int) (up : Int) (k : Nat), up = topSt st → Chain ps st → ¬ (p = -1 ∨ p ∈ st) → st.length + 1 ≤ k → spec_raTree.l1 k ps p up ps n i = some false := by
  intro st
  induction st with
  | nil =>
    intro up k hu _ hc hk
    obtain ⟨k, rfl⟩ := succOf (show 0 < k by omega)
    replace hu : up = -1 := hu
    simp only [List.not_mem_nil, or_false] at hc
    simp only [spec_raTree.l1]
    have n1 : ¬ (up ≥ 0) := by omega
    have n2 : ¬ (up = p) := by omega
    rw [if_neg n1, if_neg n2]
    by_cases c : p < -1
    · rw [if_pos c]
    · rw [if_neg c]
  | cons a st ih =>
    intro up k hu h hc hk
    obtain ⟨k, rfl⟩ := succOf (show 0 < k by omega)
    simp only [List.length_cons] at hk
    replace hu : up = a := hu
    subst hu
    obtain ⟨⟨h1, h2, h3⟩, h4⟩ := h
    simp only [List.mem_cons, not_or] at hc
    simp only [spec_raTree.l1]
    have n1 : up ≥ 0 := h1
    have n2 : ¬ (up = p) := fun e => hc.2.1 e.symm
    rw [if_pos n1, if_neg n2, if_pos h1, if_pos h2]
    exact ih (rd ps up) k h3 h4 (by simp only [not_or]; exact ⟨hc.1, hc.2.2⟩) (by omega)
theorem treeS_l (ps : List Int) (hn : ps.length ≤ 64) : ∀ (rest pre : List Int) (st : List Int) (acc : List Bool) (k : Nat), ps = pre ++ rest → StOk st pre.length → Chain ps st → topSt st = (pre.length : Int) - 1 → 70 * rest.length < k →
    spec_raTree.l0 k ps ps (ps.length : Int) pre.length = some (treeRun rest pre.length st acc).isSome
  | [], pre, st, acc, k, e, ho, hc, ht, hk => by
    obtain ⟨k, rfl⟩ := succOf hk
    have : ps.length = pre.length := by rw [e]; simp
    simp only [spec_raTree.l0, treeRun]
    rw [if_neg (by omega)]; rfl
  | p :: rest, pre, st, acc, k, e, ho, hc, ht, hk => by
    have hlen : ps.length = pre.length + rest.length + 1 := by rw [e]; simp; omega
    have e1 : rd ps (pre.length : Int) = p := by rw [e]; exact rd_mid pre rest p
    have e2 : (pre ++ [p]).length = pre.length + 1 := by simp
    simp only [List.length_cons] at hk
    obtain ⟨k, rfl⟩ := succOf (show 0 < k by omega)
    simp only [spec_raTree.l0]
    have hl := ho.len
    have hu := treeS_up ps p ps.length pre.length (70 * rest.length + 1) (by omega) (spec_raTree.l0 (70 * rest.length + 1) ps ps ps.length (wrap64 ((pre.length : Int) + 1)))
    by_cases c : p = -1 ∨ p ∈ st
    · have tp : topSt (cutSt p st) = p := by
        rcases c with c | c
        · rw [cutSt_out p st (fun h => by have := (ho.rng p h).1; omega)]; exact c.symm
        · obtain ⟨s, es⟩ := cutSt_in p st c; rw [es]; rfl
      have hh (k) (hk : 70 * rest.length < k) := treeS_l ps hn rest (pre ++ [p]) ((pre.length : Int) :: cutSt p st) (acc ++ List.replicate (st.length - (cutSt p st).length) false ++ [true]) k (by rw [e]; simp)
        (by rw [e2]; exact stOk_next p ho) ⟨⟨by omega, by omega, by rw [e1, tp]⟩, chain_cut ps p st hc⟩ (by rw [e2]; simp only [topSt]; omega) hk
      rw [e2] at hh
      have hu2 := hu (by intro k hk; rw [w64n _ (by omega), hh _ (by omega), hh _ (by omega)]) st ((pre.length : Int) - 1) k ht.symm hc (by omega)
      rw [if_pos (by omega), if_pos (by omega), if_pos (by omega), e1, w64 (by omega) (by omega), hu2, if_pos c]
      simp only [treeRun]
      rw [if_pos c, w64n _ (by omega), hh _ (by omega)]
    · have := treeS_no ps p ps.length pre.length st ((pre.length : Int) - 1) k ht.symm hc c (by omega)
      rw [if_pos (by omega), if_pos (by omega), if_pos (by omega), e1, w64 (by omega) (by omega), this]
      simp only [treeRun]
      rw [if_neg c]; rfl
theorem treeS (ps : List Int) (k : Nat) (hn : ps.length ≤ 64) (hk : 70 * 64 < k) : spec_raTree.f k ps = some (treeRun ps 0 [] []).isSome := by
  unfold spec_raTree.f
  rw [if_neg (by omega)]
  exact treeS_l ps hn ps [] [] [] k rfl stOk_nil trivial rfl (by omega)

theorem biSetS {s : Int} {ws : List Int} (h : Good s ws) (i : Nat) (hi : (i : Int) < s) : ∃ ws', spec_biSet.f s ws i = some ws' ∧ Good s ws' ∧ ∀ k, bitAt ws' k = (decide (k = i) || bitAt ws k) := by
  obtain ⟨p1, p2⟩ := good_place h i hi
  obtain ⟨ws', e, g, b⟩ := set_or h i hi
  refine ⟨ws', ?_, g, b⟩
  unfold spec_biSet.f
  rw [tdiv16 i (by omega), tmod16, if_pos (by omega), if_pos (by omega), if_pos (by omega), rdD, Int.toNat_natCast, e]
theorem good_zero (n : Nat) (hn : n ≤ 4096) : Good (n : Int) (List.replicate ((n + 15) / 16) 0) ∧ ∀ k, bitAt (List.replicate ((n + 15) / 16) 0) k = false := by
  have z : ∀ j, (List.replicate ((n + 15) / 16) (0 : Int)).getD j 0 = 0 := by
    intro j; rw [List.getD_eq_getElem?_getD, List.getElem?_replicate]; split <;> rfl
  have b : ∀ k, bitAt (List.replicate ((n + 15) / 16) 0) k = false := by
    intro k
    rw [bitAt_nat _ k 0 (by rw [z]; rfl)]; simp
  refine ⟨good_of (by omega) (by omega) (by rw [List.length_replicate]; omega) ?_ (fun i _ => b i), b⟩
  intro w hw
  have := List.eq_of_mem_replicate hw
  omega
theorem biNewS (n : Nat) (hn : n ≤ 4096) : spec_biNew.f (n : Int) = some ((n : Int), List.replicate ((n + 15) / 16) 0) := by
  unfold spec_biNew.f
  rw [words_eq (n : Int) (by omega) (by omega), if_pos (by omega)]
  rw [show (((n : Int) + 15) / 16).toNat = (n + 15) / 16 from by omega, if_pos (by omega)]
theorem biSomeS_l (bs : List Bool) (hn : bs.length ≤ 4096) (d : Nat) : ∀ (k i : Nat) (ws : List Int), i + d = bs.length → Good bs.length ws → (∀ j, bitAt ws j = (decide (j < i) && bs.getD j false)) → d < k →
    ∃ ws', spec_biSome.l0 k bs bs.length i bs.length ws = some ((bs.length : Int), ws') ∧ Good bs.length ws' ∧ ∀ j, bitAt ws' j = bs.getD j false := by
  induction d with
  | zero =>
    intro k i ws hi g hb hk
    obtain ⟨k, rfl⟩ := succOf hk
    simp only [spec_biSome.l0]
    rw [if_neg (by omega)]
    refine ⟨ws, rfl, g, fun j => ?_⟩
    rw [hb]
    by_cases c : j < i
    · simp [c]
    · rw [decide_eq_false c, Bool.false_and, List.getD_eq_getElem?_getD, List.getElem?_eq_none (by omega)]; rfl
  | succ d ih =>
    intro k i ws hi g hb hk
    obtain ⟨k, rfl⟩ := succOf hk
    simp only [spec_biSome.l0]
    have er : rdOf false bs (i : Int) = bs.getD i false := by unfold rdOf; rw [Int.toNat_natCast]
    rw [if_pos (by omega), if_pos (by omega), if_pos (by omega), er, w64n i (by omega)]
    by_cases c : bs.getD i false = true
    · rw [if_pos c]
      obtain ⟨w2, e2, g2, b2⟩ := biSetS g i (by omega)
      rw [e2, Option.bind_some]
      refine ih k (i + 1) w2 (by omega) g2 (fun j => ?_) (by omega)
      rw [b2, hb]
      by_cases cj : j = i
      · subst cj; simp [c, -List.getD_eq_getElem?_getD]
      · rw [decide_eq_false cj, Bool.false_or]; congr 1; rw [decide_eq_decide]; omega
    · rw [if_neg c]
      refine ih k (i + 1) ws (by omega) g (fun j => ?_) (by omega)
      rw [hb]
      by_cases cj : j = i
      · subst cj; simp [Bool.not_eq_true _ ▸ c, -List.getD_eq_getElem?_getD]
      · congr 1; rw [decide_eq_decide]; omega
theorem biSomeS (bs : List Bool) (hn : bs.length ≤ 4096) : ∃ ws', Good bs.length ws' ∧ (∀ j, bitAt ws' j = bs.getD j false) ∧ ∀ k, bs.length < k → spec_biSome.f k bs = some ((bs.length : Int), ws') := by
  obtain ⟨z1, z2⟩ := good_zero bs.length hn
  obtain ⟨ws', e, g, b⟩ := biSomeS_l bs hn bs.length (bs.length + 1) 0 (List.replicate ((bs.length + 15) / 16) 0) (by omega) z1 (by intro j; rw [z2]; simp) (by omega)
  refine ⟨ws', g, b, fun k hk => ?_⟩
  obtain ⟨ws2, e2, g2, b2⟩ := biSomeS_l bs hn bs.length k 0 (List.replicate ((bs.length + 15) / 16) 0) (by omega) z1 (by intro j; rw [z2]; simp) (by omega)
  have : ws' = ws2 := good_ext g g2 (fun i _ => by rw [b, b2])
  unfold spec_biSome.f
  rw [biNewS bs.length hn, Option.bind_some]
  rw [this]; exact e2

theorem rd_revtop (a : Int) (st : List Int) : rd (a :: st).reverse (st.length : Int) = a := by
  rw [List.reverse_cons]
  have := rd_mid st.reverse [] a
  rwa [List.length_reverse] at this
theorem take_rev (a : Int) (st : List Int) : (a :: st).reverse.take st.length = st.reverse := by
  rw [List.reverse_cons, List.take_append_of_le_length (by simp), List.take_of_length_le (by simp)]
theorem fromS_pop (ps : List Int) (n p : Int) (i : Nat) (k0 : Nat) (v : Option (Int × List Int)) (st0 : List Int) (acc0 : List Bool) (hv : ∀ k, k0 ≤ k → spec_raFrom.l0 k acc0 ((i : Int) :: st0).reverse ps n (wrap64 ((i : Int) + 1)) = v) : ∀ (st : List Int) (acc : List Bool) (k : Nat), cutSt p st = st0 → acc ++ List.replicate (st.length - st0.length) false ++ [true] = acc0 → st.length < 1000 → acc.length + st.length < 1000 → st.length + 1 + k0 ≤ k →
    spec_raFrom.l1 k acc st.reverse i p ps n i = v
  | [], acc, k, hc, ha, hl, hl2, hk => by
    obtain ⟨k, rfl⟩ := succOf (show 0 < k by omega)
    simp only [cutSt] at hc
    subst hc
    simp only [List.length_nil, Nat.sub_self, List.replicate_zero, List.append_nil] at hk ha hl2
    have n1 : ¬ ((([] : List Int).reverse.length : Int) > 0) := by simp
    have n2 : ([] : List Int).reverse.length < 17592186044416 := by simp
    have n3 : acc.length < 140737488355328 := by omega
    simp only [spec_raFrom.l1]
    rw [if_neg n1, if_pos n2, if_pos n3]
    have := hv k (by omega)
    rw [← ha] at this
    exact this
  | a :: st, acc, k, hc, ha, hl, hl2, hk => by
    obtain ⟨k, rfl⟩ := succOf (show 0 < k by omega)
    simp only [List.length_cons] at hk ha hl hl2
    simp only [spec_raFrom.l1]
    have el : ((a :: st).reverse.length : Int) = (st.length : Int) + 1 := by simp
    have e1 : wrap64 ((st.length : Int) + 1 - 1) = (st.length : Int) := by rw [w64 (by omega) (by omega)]; omega
    rw [el, e1, if_pos (by omega), if_pos (by omega), if_pos (by omega), rd_revtop]
    by_cases c : a = p
    · rw [if_pos c, if_pos (by simp; omega), if_pos (by omega)]
      simp only [cutSt, if_pos c] at hc
      subst hc
      have := hv k (by omega)
      rw [← ha] at this
      simp only [List.length_cons, Nat.sub_self, List.replicate_zero, List.append_nil] at this
      rw [← List.reverse_cons]; exact this
    · rw [if_neg c, if_pos (by omega), if_pos (by omega), Int.toNat_natCast, take_rev]
      simp only [cutSt, if_neg c] at hc
      have hle := cutSt_le p st
      rw [hc] at hle
      refine fromS_pop ps n p i k0 v st0 acc0 hv st (acc ++ [false]) k hc ?_ (by omega) (by simp only [List.length_append, List.length_cons, List.length_nil]; omega) (by omega)
      rw [← ha, show st.length + 1 - st0.length = (st.length - st0.length) + 1 from by omega, List.replicate_succ]; simp
theorem fromS_end (v : Option (Int × List Int)) (bits : List Bool) (hb : bits.length < 1000) (hv : ∀ k, 200 ≤ k → spec_biSome.f k bits = v) (d : Nat) : ∀ (n i : Nat) (acc : List Bool) (k : Nat), i + d = n → n < 1000 → acc ++ List.replicate d false = bits → 200 + d < k →
    spec_raFrom.l2 k acc n i = v := by
  induction d with
  | zero =>
    intro n i acc k hi hn ha hk
    obtain ⟨k, rfl⟩ := succOf (show 0 < k by omega)
    simp only [spec_raFrom.l2]
    simp only [List.replicate_zero, List.append_nil] at ha
    rw [if_neg (by omega), ha, hv k (by omega)]
    cases v <;> rfl
  | succ d ih =>
    intro n i acc k hi hn ha hk
    obtain ⟨k, rfl⟩ := succOf (show 0 < k by omega)
    simp only [spec_raFrom.l2]
    have hl := congrArg List.length ha
    simp only [List.length_append, List.length_replicate] at hl
    rw [if_pos (by omega), if_pos (by omega), w64n i (by omega)]
    refine ih n (i + 1) (acc ++ [false]) k (by omega) hn ?_ (by omega)
    rw [← ha, List.replicate_succ]; simp
theorem fromS_l (ps : List Int) (hn : ps.length ≤ 64) (bits : List Bool) (v : Option (Int × List Int)) (hv : ∀ k, 200 ≤ k → spec_biSome.f k bits = v) : ∀ (rest pre : List Int) (st : List Int) (acc : List Bool) (k : Nat), ps = pre ++ rest → StOk st pre.length → acc.length + st.length = 2 * pre.length → treeRun rest pre.length st acc = some bits → 70 * rest.length + 300 < k →
    spec_raFrom.l0 k acc st.reverse ps (ps.length : Int) pre.length = v
  | [], pre, st, acc, k, e, ho, ha, hr, hk => by
    obtain ⟨k, rfl⟩ := succOf (show 0 < k by omega)
    have : ps.length = pre.length := by rw [e]; simp
    have hl := ho.len
    simp only [treeRun, Option.some.injEq] at hr
    simp only [spec_raFrom.l0]
    rw [if_neg (by omega), List.length_reverse]
    refine fromS_end v bits ?_ hv st.length st.length 0 acc k (by omega) (by omega) hr (by simp only [List.length_nil] at hk; omega)
    rw [← hr]; simp only [List.length_append, List.length_replicate]; omega
  | p :: rest, pre, st, acc, k, e, ho, ha, hr, hk => by
    have hlen : ps.length = pre.length + rest.length + 1 := by rw [e]; simp; omega
    have e1 : rd ps (pre.length : Int) = p := by rw [e]; exact rd_mid pre rest p
    have e2 : (pre ++ [p]).length = pre.length + 1 := by simp
    have hc := cutSt_le p st
    have hl := ho.len
    simp only [List.length_cons] at hk
    obtain ⟨k, rfl⟩ := succOf (show 0 < k by omega)
    simp only [treeRun] at hr
    split at hr
    · have hh (k) (hk : 70 * rest.length + 300 < k) := fromS_l ps hn bits v hv rest (pre ++ [p]) ((pre.length : Int) :: cutSt p st) (acc ++ List.replicate (st.length - (cutSt p st).length) false ++ [true]) k (by rw [e]; simp)
        (by rw [e2]; exact stOk_next p ho) (by rw [e2]; simp only [List.length_append, List.length_replicate, List.length_cons, List.length_nil]; omega) (by rw [e2]; exact hr) hk
      rw [e2] at hh
      simp only [spec_raFrom.l0]
      rw [if_pos (by omega), if_pos (by omega), if_pos (by omega), e1]
      exact fromS_pop ps _ p pre.length (70 * rest.length + 301) v (cutSt p st) _ (by intro k hk; rw [w64n _ (by omega)]; exact hh k (by omega)) st acc k rfl rfl (by omega) (by omega) (by omega)
    · simp at hr
theorem fromS (ps : List Int) (hn : ps.length ≤ 64) (bits : List Bool) (hr : treeRun ps 0 [] [] = some bits) : ∃ ws', Good bits.length ws' ∧ (∀ j, bitAt ws' j = bits.getD j false) ∧ ∀ k, 70 * 64 + 300 < k → spec_raFrom.f k ps = some ((bits.length : Int), ws') := by
  have hb := treeRun_len ps 0 [] [] bits rfl hr
  obtain ⟨ws', g, b, e⟩ := biSomeS bits (by omega)
  refine ⟨ws', g, b, fun k hk => ?_⟩
  exact fromS_l ps hn bits _ (fun k hk => e k (by omega)) ps [] [] [] k rfl stOk_nil rfl hr (by omega)

theorem setI {s : Int} {ws : List Int} (h : Good s ws) (i : Nat) (hi : (i : Int) < s) (v : Bool) : ∃ ws', impl_Bits_set.f s ws i v = some ws' ∧ Good s ws' ∧ ∀ k, bitAt ws' k = if k = i then v else bitAt ws k := by
  obtain ⟨p1, p2⟩ := good_place h i hi
  obtain ⟨w1, e1, g1, b1⟩ := set_andNot h i hi
  obtain ⟨w2, e2, g2, b2⟩ := set_or g1 i hi
  unfold impl_Bits_set.f
  rw [tdiv16 i (by omega), tmod16, if_pos (by omega), if_pos (by omega), if_pos (by omega), rdD, Int.toNat_natCast, e1, Option.bind_some, rdD, e2]
  cases v
  · refine ⟨w1, by rw [if_neg (by simp)], g1, fun k => ?_⟩
    rw [b1]
    by_cases c : k = i <;> simp [c]
  · refine ⟨w2, by rw [if_pos rfl], g2, fun k => ?_⟩
    rw [b2, b1]
    by_cases c : k = i <;> simp [c]

theorem index_l (l : List Int) (p : Int) (hl : l.length < 9223372036854775807) : ∀ (suf pre : List Int) (k : Nat), l = pre ++ suf → suf.length < k →
    (p ∉ suf → slices_Index_int_int.l0 k l p l.length pre.length = some (-1)) ∧ (∀ s1 s2, suf = s1 ++ p :: s2 → p ∉ s1 → slices_Index_int_int.l0 k l p l.length pre.length = some (((pre.length + s1.length : Nat) : Int)))
  | [], pre, k, e, hk => by
    obtain ⟨k, rfl⟩ := succOf hk
    have : l.length = pre.length := by rw [e]; simp
    simp only [slices_Index_int_int.l0]
    rw [if_neg (by omega)]
    refine ⟨fun _ => rfl, ?_⟩
    intro s1 s2 h; simp at h
  | x :: suf, pre, k, e, hk => by
    obtain ⟨k, rfl⟩ := succOf (show 0 < k by omega)
    simp only [List.length_cons] at hk
    have hlen : l.length = pre.length + suf.length + 1 := by rw [e]; simp; omega
    have e1 : rd l (pre.length : Int) = x := by rw [e]; exact rd_mid pre suf x
    have e2 : (pre ++ [x]).length = pre.length + 1 := by simp
    have h3 := index_l l p hl suf (pre ++ [x]) k (by rw [e]; simp) (by omega)
    rw [e2] at h3
    simp only [slices_Index_int_int.l0]
    rw [if_pos (by omega), if_pos (by omega), if_pos (by omega), e1, w64n _ (by omega)]
    by_cases c : p = x
    · rw [if_pos c]
      refine ⟨fun h => absurd (by rw [c]; exact List.mem_cons_self) h, ?_⟩
      intro s1 s2 h hn
      cases s1 with
      | nil => rfl
      | cons y s1 =>
        simp only [List.cons_append, List.cons.injEq] at h
        exact absurd (by rw [c, h.1]; exact List.mem_cons_self) hn
    · rw [if_neg c]
      refine ⟨fun h => h3.1 (fun g => h (List.mem_cons_of_mem _ g)), ?_⟩
      intro s1 s2 h hn
      cases s1 with
      | nil =>
        simp only [List.nil_append, List.cons.injEq] at h
        exact absurd h.1.symm c
      | cons y s1 =>
        simp only [List.cons_append, List.cons.injEq] at h
        rw [h3.2 s1 s2 h.2 (fun g => hn (List.mem_cons_of_mem _ g)), List.length_cons]
        congr 2; omega
theorem index_st (st : List Int) (i : Nat) (p : Int) (ho : StOk st i) (hi : i < 1000) (k : Nat) (hk : st.length < k) : slices_Index_int_int.f k st.reverse p = some (((cutSt p st).length : Int) - 1) := by
  have hl := ho.len
  have h := index_l st.reverse p (by simp; omega) st.reverse [] k rfl (by simp; omega)
  unfold slices_Index_int_int.f
  simp only [List.length_nil, Int.natCast_zero] at h
  by_cases c : p ∈ st
  · obtain ⟨s, es⟩ := cutSt_in p st c
    obtain ⟨pre, e, hp⟩ := cutSt_suffix p st
    have nd := ho.nd
    rw [e, es] at nd
    have hs : p ∉ s := (List.nodup_cons.mp (List.nodup_append.mp nd).2.1).1
    rw [h.2 s.reverse pre.reverse (by rw [e, es]; simp) (by simpa using hs), es]
    simp
  · rw [h.1 (by simpa using c), cutSt_out p st c]; rfl

theorem blankI (n : Nat) (hn : n ≤ 4096) : impl_blank.f (n : Int) = some ((n : Int), List.replicate ((n + 15) / 16) 0) := by
  unfold impl_blank.f impl_words.f
  rw [words_eq2 (n : Int) (by omega) (by omega), Option.bind_some, if_pos (by omega)]
  rw [show (((n : Int) + 15) / 16).toNat = (n + 15) / 16 from by omega, if_pos (by omega)]

theorem take_cut (p : Int) (st : List Int) : st.reverse.take (cutSt p st).length = (cutSt p st).reverse := by
  obtain ⟨pre, e, _⟩ := cutSt_suffix p st
  generalize cutSt p st = q at *
  subst e
  rw [List.reverse_append, List.take_append_of_le_length (by simp), List.take_of_length_le (by simp)]
theorem parI_l (ps : List Int) (hn : ps.length ≤ 64) : ∀ (rest pre : List Int) (st : List Int) (acc : List Bool) (ws : List Int) (k : Nat), ps = pre ++ rest → StOk st pre.length → acc.length + st.length = 2 * pre.length → Good ((2 * ps.length : Nat) : Int) ws → (∀ j, bitAt ws j = acc.getD j false) → rest.length + 70 < k →
    (treeRun rest pre.length st acc = none ∧ impl_ParenthesesOf.l0 k st.reverse acc.length ps (ps.length : Int) pre.length ((2 * ps.length : Nat) : Int) ws = some (0, [], false)) ∨
    ∃ bits ws', treeRun rest pre.length st acc = some bits ∧ impl_ParenthesesOf.l0 k st.reverse acc.length ps (ps.length : Int) pre.length ((2 * ps.length : Nat) : Int) ws = some (((2 * ps.length : Nat) : Int), ws', true) ∧ Good ((2 * ps.length : Nat) : Int) ws' ∧ ∀ j, bitAt ws' j = bits.getD j false
  | [], pre, st, acc, ws, k, e, ho, ha, hg, hb, hk => by
    obtain ⟨k, rfl⟩ := succOf (show 0 < k by omega)
    have : ps.length = pre.length := by rw [e]; simp
    refine Or.inr ⟨_, ws, rfl, ?_, hg, ?_⟩
    · simp only [impl_ParenthesesOf.l0]
      rw [if_neg (by omega)]
    · intro j
      rw [hb, List.getD_eq_getElem?_getD, List.getD_eq_getElem?_getD, List.getElem?_append]
      split
      · rfl
      · rw [List.getElem?_eq_none (by omega), List.getElem?_replicate]; split <;> rfl
  | p :: rest, pre, st, acc, ws, k, e, ho, ha, hg, hb, hk => by
    have hlen : ps.length = pre.length + rest.length + 1 := by rw [e]; simp; omega
    have e1 : rd ps (pre.length : Int) = p := by rw [e]; exact rd_mid pre rest p
    have e2 : (pre ++ [p]).length = pre.length + 1 := by simp
    have hc := cutSt_le p st
    have hl := ho.len
    simp only [List.length_cons] at hk
    obtain ⟨k, rfl⟩ := succOf (show 0 < k by omega)
    simp only [impl_ParenthesesOf.l0]
    rw [if_pos (by omega), if_pos (by omega), if_pos (by omega), e1, index_st st pre.length p ho (by omega) k (by omega), Option.bind_some]
    obtain ⟨d, hd⟩ : ∃ d, d = st.length - (cutSt p st).length := ⟨_, rfl⟩
    obtain ⟨q, hq⟩ : ∃ q, q = acc.length + d := ⟨_, rfl⟩
    have hq1 : q < 1000 := by omega
    obtain ⟨w1, w2, w3, w4, w5⟩ : wrap64 (((cutSt p st).length : Int) - 1 + 1) = ((cutSt p st).length : Int) ∧ wrap64 ((st.reverse.length : Int) - (cutSt p st).length) = (d : Int) ∧ wrap64 ((acc.length : Int) + (d : Int)) = (q : Int) ∧ wrap64 ((q : Int) + 1) = ((q + 1 : Nat) : Int) ∧ wrap64 ((pre.length : Int) + 1) = ((pre.length + 1 : Nat) : Int) := by
      refine ⟨?_, ?_, ?_, w64n q (by omega), w64n pre.length (by omega)⟩
      · rw [w64 (by omega) (by omega)]; omega
      · rw [List.length_reverse, w64 (by omega) (by omega)]; omega
      · rw [w64 (by omega) (by omega)]; omega
    rw [w1, w2, w3, w4, w5]
    clear w1 w2 w3 w4 w5
    by_cases c : p = -1 ∨ p ∈ st
    · obtain ⟨w', e4, g4, b4⟩ := setI hg (q) (by omega) true
      have el : (acc ++ List.replicate (d) false ++ [true]).length = q + 1 := by
        simp only [List.length_append, List.length_replicate, List.length_cons, List.length_nil]; omega
      have hb2 : ∀ j, bitAt w' j = (acc ++ List.replicate (d) false ++ [true]).getD j false := by
        intro j
        rw [b4, hb, List.getD_eq_getElem?_getD, List.getD_eq_getElem?_getD, List.getElem?_append, List.getElem?_append]
        simp only [List.length_append, List.length_replicate]
        rw [← hq]
        by_cases c1 : j = q
        · rw [if_pos c1, if_neg (by omega), show j - (q) = 0 from by omega]; rfl
        · rw [if_neg c1]
          by_cases c2 : j < acc.length
          · rw [if_pos (by omega), if_pos c2]
          · rw [List.getElem?_eq_none (by omega)]
            by_cases c3 : j < q
            · rw [if_pos c3, if_neg c2, List.getElem?_replicate, if_pos (by omega)]; rfl
            · rw [if_neg c3, List.getElem?_eq_none (by simp only [List.length_cons, List.length_nil]; omega)]
      have hh := parI_l ps hn rest (pre ++ [p]) ((pre.length : Int) :: cutSt p st) (acc ++ List.replicate (d) false ++ [true]) w' k (by rw [e]; simp)
        (by rw [e2]; exact stOk_next p ho) (by rw [e2, el]; simp only [List.length_cons]; omega) g4 hb2 (by omega)
      rw [e2, el, List.reverse_cons] at hh
      have er : treeRun (p :: rest) pre.length st acc = treeRun rest (pre.length + 1) ((pre.length : Int) :: cutSt p st) (acc ++ List.replicate (d) false ++ [true]) := by
        simp only [treeRun]; rw [if_pos c, ← hd]
      rw [er]
      have body : ((some (st.reverse.take (((cutSt p st).length : Int)).toNat : List Int)).bind fun y => (if y.length < 17592186044416 then (impl_ParenthesesOf.l0 k (y ++ [(pre.length : Int)]) ((q + 1 : Nat) : Int) ps (ps.length : Int) ((pre.length + 1 : Nat) : Int) ((2 * ps.length : Nat) : Int) w') else (none))) = impl_ParenthesesOf.l0 k ((cutSt p st).reverse ++ [(pre.length : Int)]) ((q + 1 : Nat) : Int) ps (ps.length : Int) ((pre.length + 1 : Nat) : Int) ((2 * ps.length : Nat) : Int) w' := by
        rw [Int.toNat_natCast, take_cut, Option.bind_some, if_pos (by simp; omega)]
      by_cases c5 : ((cutSt p st).length : Int) - 1 < 0
      · have cp : p = -1 := by
          rcases c with c | c
          · exact c
          · obtain ⟨s, es⟩ := cutSt_in p st c
            rw [es] at c5; simp at c5; omega
        rw [if_pos c5, if_pos cp, e4, Option.bind_some, if_pos (by omega), if_pos (by rw [List.length_reverse]; omega), body]
        exact hh
      · rw [if_neg c5, e4, Option.bind_some, if_pos (by omega), if_pos (by rw [List.length_reverse]; omega), body]
        exact hh
    · have c' : p ∉ st := fun h => c (Or.inr h)
      refine Or.inl ⟨by simp only [treeRun]; rw [if_neg c], ?_⟩
      rw [cutSt_out p st c']
      rw [if_pos (by simp), if_neg (fun h => c (Or.inl h))]

theorem toIntS_l (a : List Int) (ha : a.length < 9223372036854775807) (d : Nat) : ∀ (k i : Nat) (x : List Int), x.length = a.length → x.take i = a.take i → i ≤ a.length → a.length - i = d → d < k →
    laws_toIntS.l0 k a x i = some a := by
  induction d with
  | zero =>
    intro k i x hx hp h1 hd hk
    obtain ⟨k, rfl⟩ := succOf hk
    simp only [laws_toIntS.l0]
    rw [if_neg (by omega)]
    rw [List.take_of_length_le (by omega), List.take_of_length_le (by omega)] at hp
    rw [hp]
  | succ d ih =>
    intro k i x hx hp h1 hd hk
    obtain ⟨k, rfl⟩ := succOf hk
    simp only [laws_toIntS.l0]
    have e1 : rd a i = a[i]'(by omega) := by simp [rd, List.getD_eq_getElem?_getD, List.getElem?_eq_getElem (show i < a.length by omega)]
    have h2 := ih k (i+1) (x.set i (a[i]'(by omega))) (by simp [hx]) (by
      have e3 : List.take (i + 1) a = List.take i a ++ [a[i]'(by omega)] := List.take_succ_eq_append_getElem (by omega)
      rw [e3, List.take_succ_eq_append_getElem (by simp; omega), List.take_set_of_le (Nat.le_refl _), hp]
      simp) (by omega) (by omega) (by omega)
    rw [if_pos (by omega), if_pos (by omega), if_pos (by omega), w64n i (by omega), e1]
    simpa using h2
theorem toIntS_f (a : List Int) (k : Nat) (ha : a.length ≤ 35184372088832) (hk : a.length < k) : laws_toIntS.f k a = some a := by
  unfold laws_toIntS.f
  rw [if_pos (by omega), if_pos (by omega)]
  exact toIntS_l a (by omega) a.length k 0 _ (by simp) (by simp) (by omega) (by omega) hk

theorem eqIntS_l (a b : List Int) (hl : a.length = b.length) (ha : a.length < 9223372036854775807) (d : Nat) : ∀ (k i : Nat), i ≤ a.length → a.length - i = d → d < k →
    laws_eqIntS.l0 k a b i = some (decide (a.drop i = b.drop i)) := by
  induction d with
  | zero =>
    intro k i h1 hd hk
    obtain ⟨k, rfl⟩ := succOf hk
    simp only [laws_eqIntS.l0]
    rw [if_neg (by omega), List.drop_eq_nil_of_le (by omega), List.drop_eq_nil_of_le (by omega)]; simp
  | succ d ih =>
    intro k i h1 hd hk
    obtain ⟨k, rfl⟩ := succOf hk
    simp only [laws_eqIntS.l0]
    have h2 := ih k (i+1) (by omega) (by omega) (by omega)
    have e1 : rd a i = a[i]'(by omega) := by simp [rd, List.getD_eq_getElem?_getD, List.getElem?_eq_getElem (show i < a.length by omega)]
    have e2 : rd b i = b[i]'(by omega) := by simp [rd, List.getD_eq_getElem?_getD, List.getElem?_eq_getElem (show i < b.length by omega)]
    have e3 := List.drop_eq_getElem_cons (show i < a.length by omega)
    have e4 := List.drop_eq_getElem_cons (show i < b.length by omega)
    rw [if_pos (by omega), if_pos (by omega), if_pos (by omega), e1, e2, w64n i (by omega), h2, e3, e4]
    clear e3 e4 h2 ih
    split <;> simp only [List.cons.injEq, *, true_and, false_and, decide_false]
theorem eqIntS_f (a b : List Int) (k : Nat) (ha : a.length < 9223372036854775807) (hk : a.length < k) : laws_eqIntS.f k a b = some (decide (a = b)) := by
  unfold laws_eqIntS.f
  split
  · have h := eqIntS_l a b (by omega) ha a.length k 0 (by omega) (by omega) hk
    simpa using h
  · have : a ≠ b := by intro h; subst h; simp_all
    simp [this]
theorem eqIntS_same (a : List Int) (k : Nat) (ha : a.length < 9223372036854775807) (hk : a.length < k) : laws_eqIntS.f k a a = some true := by
  rw [eqIntS_f a a k ha hk]; simp

def marks : Nat → Nat → List Int
  | 0, _ => []
  | n + 1, m => (m : Int) :: marks n (m + 1)
theorem marks_len (n : Nat) : ∀ m, (marks n m).length = n := by
  induction n with
  | zero => intro m; rfl
  | succ n ih => intro m; simp [marks, ih]

theorem markIntS_l (n : Nat) (hn : n < 9223372036854775807) (d : Nat) : ∀ (k i m : Nat) (x : List Int), x.length = n → i ≤ n → m + (n - i) ≤ 9223372036854775807 → n - i = d → d < k →
    laws_markIntS.l0 k x m i = some (((m + (n - i) : Nat) : Int), x.take i ++ marks (n - i) m) := by
  induction d with
  | zero =>
    intro k i m x hx h1 hm hd hk
    obtain ⟨k, rfl⟩ := succOf hk
    simp only [laws_markIntS.l0]
    rw [if_neg (by omega), hd, List.take_of_length_le (by omega)]; simp [marks]
  | succ d ih =>
    intro k i m x hx h1 hm hd hk
    obtain ⟨k, rfl⟩ := succOf hk
    simp only [laws_markIntS.l0]
    have h2 := ih k (i+1) (m+1) (x.set i m) (by simp [hx]) (by omega) (by omega) (by omega) (by omega)
    have e1 : n - i = (n - (i+1)) + 1 := by omega
    rw [if_pos (by omega), if_pos (by omega), w64n i (by omega), w64n m (by omega), Int.toNat_natCast, h2]
    rw [e1, marks, List.take_succ_eq_append_getElem (by simp; omega), List.take_set_of_le (Nat.le_refl _)]
    simp only [List.getElem_set_self, List.append_assoc, List.cons_append, List.nil_append]
    congr 3
    omega
theorem markIntS_f (x : List Int) (m k : Nat) (hm : m + x.length ≤ 9223372036854775806) (hk : x.length < k) : laws_markIntS.f k x m = some (((m + x.length : Nat) : Int), marks x.length m) := by
  unfold laws_markIntS.f
  have h := markIntS_l x.length (by omega) x.length k 0 m x rfl (by omega) (by omega) (by omega) hk
  simpa using h
theorem markIntS_1 (x : List Int) (k : Nat) (hm : x.length ≤ 9223372036854775800) (hk : x.length < k) : laws_markIntS.f k x 1 = some (((1 + x.length : Nat) : Int), marks x.length 1) :=
  markIntS_f x 1 k (by omega) hk

theorem eqBits_f (s t : Int) (a b : List Int) (k : Nat) (ha : a.length < 9223372036854775807) (hk : a.length < k) : laws_eqBits.f k s a t b = some (decide (s = t ∧ a = b)) := by
  unfold laws_eqBits.f
  split
  · rw [eqIntS_f a b k ha hk, Option.bind_some]
    by_cases h : a = b <;> simp [*]
  · simp [*]
theorem eqBits_same (s : Int) (a : List Int) (k : Nat) (ha : a.length < 9223372036854775807) (hk : a.length < k) : laws_eqBits.f k s a s a = some true := by
  rw [eqBits_f s s a a k ha hk]; simp

theorem markBits_f (s : Int) (x : List Int) (m k : Nat) (hm : m + x.length ≤ 9223372036854775806) (hk : x.length < k) : laws_markBits.f k s x m = some (((m + x.length : Nat) : Int), marks x.length m) := by
  unfold laws_markBits.f; rw [markIntS_f x m k hm hk]; rfl
theorem markBits_1 (s : Int) (x : List Int) (k : Nat) (hm : x.length ≤ 9223372036854775800) (hk : x.length < k) : laws_markBits.f k s x 1 = some (((1 + x.length : Nat) : Int), marks x.length 1) :=
  markBits_f s x 1 k (by omega) hk

theorem heldIntS_l (x : List Int) (hn : x.length < 9223372036854775807) (d : Nat) : ∀ (k i m : Nat), i ≤ x.length → m + (x.length - i) ≤ 9223372036854775807 → x.drop i = marks (x.length - i) m → x.length - i = d → d < k →
    laws_heldIntS.l0 k x m i = some ((m + (x.length - i) : Nat) : Int) := by
  induction d with
  | zero =>
    intro k i m h1 hm hx hd hk
    obtain ⟨k, rfl⟩ := succOf hk
    simp only [laws_heldIntS.l0]
    rw [if_neg (by omega), hd]; simp
  | succ d ih =>
    intro k i m h1 hm hx hd hk
    obtain ⟨k, rfl⟩ := succOf hk
    simp only [laws_heldIntS.l0]
    have e1 : x.length - i = (x.length - (i+1)) + 1 := by omega
    rw [e1, marks, List.drop_eq_getElem_cons (show i < x.length by omega)] at hx
    have e3 := (List.cons.inj hx).1
    have h2 := ih k (i+1) (m+1) (by omega) (by omega) (List.cons.inj hx).2 (by omega) (by omega)
    have e2 : rd x i = m := by rw [← e3]; simp [rd, List.getD_eq_getElem?_getD, List.getElem?_eq_getElem (show i < x.length by omega)]
    rw [if_pos (by omega), if_pos (by omega), if_pos e2, w64n i (by omega), w64n m (by omega), h2]
    simp; omega
theorem heldIntS_f (n m k : Nat) (hm : m + n ≤ 9223372036854775806) (hk : n < k) : laws_heldIntS.f k (marks n m) m = some ((m + n : Nat) : Int) := by
  unfold laws_heldIntS.f
  have h := heldIntS_l (marks n m) (by rw [marks_len]; omega) n k 0 m (by omega) (by rw [marks_len]; omega) (by rw [marks_len]; simp) (by rw [marks_len]; omega) hk
  rw [marks_len] at h
  simpa using h
theorem heldIntS_1 (n k : Nat) (hm : n ≤ 9223372036854775800) (hk : n < k) : laws_heldIntS.f k (marks n 1) 1 = some ((1 + n : Nat) : Int) :=
  heldIntS_f n 1 k (by omega) hk

theorem heldBits_f (s : Int) (n m k : Nat) (hm : m + n ≤ 9223372036854775806) (hk : n < k) : laws_heldBits.f k s (marks n m) m = some ((m + n : Nat) : Int) := by
  unfold laws_heldBits.f; rw [heldIntS_f n m k hm hk, Option.bind_some, if_neg (by omega)]
theorem heldBits_1 (s : Int) (n k : Nat) (hm : n ≤ 9223372036854775800) (hk : n < k) : laws_heldBits.f k s (marks n 1) 1 = some ((1 + n : Nat) : Int) :=
  heldBits_f s n 1 k (by omega) hk

theorem parBoth (ps : List Int) : ∃ r : Int × List Int × Bool, r.2.1.length ≤ 5000 ∧ (∀ k, 6000 ≤ k → spec_ParenthesesOf.f k ps = some r) ∧ (∀ k, 6000 ≤ k → impl_ParenthesesOf.f k ps = some r) := by
  by_cases hn : ps.length ≤ 64
  · obtain ⟨z1, z2⟩ := good_zero (2 * ps.length) (by omega)
    have w0 : wrap64 (2 * (ps.length : Int)) = ((2 * ps.length : Nat) : Int) := by rw [w64 (by omega) (by omega)]; omega
    have hI (k) (hk : 6000 ≤ k) := parI_l ps hn ps [] [] [] (List.replicate ((2 * ps.length + 15) / 16) 0) k rfl stOk_nil rfl z1 (by intro j; rw [z2]; simp) (by omega)
    cases hr : treeRun ps 0 [] [] with
    | none =>
      refine ⟨(0, [], false), by simp, fun k hk => ?_, fun k hk => ?_⟩
      · unfold spec_ParenthesesOf.f
        rw [treeS ps k hn (by omega), hr, Option.bind_some, if_neg (by simp)]
      · unfold impl_ParenthesesOf.f
        rw [if_neg (by omega), w0, blankI _ (by omega), Option.bind_some]
        rcases hI k hk with ⟨_, h⟩ | ⟨bits, ws', h, _⟩
        · exact h
        · simp only [List.length_nil] at h; rw [hr] at h; simp at h
    | some bits =>
      have hb := treeRun_len ps 0 [] [] bits rfl hr
      rw [Nat.zero_add] at hb
      obtain ⟨ws', g, b, e⟩ := fromS ps hn bits hr
      rw [hb] at g e
      refine ⟨(((2 * ps.length : Nat) : Int), ws', true), ?_, fun k hk => ?_, fun k hk => ?_⟩
      · have := g.2.2.1; simp only; omega
      · unfold spec_ParenthesesOf.f
        rw [treeS ps k hn (by omega), hr, Option.bind_some, if_pos (by simp), e k (by omega), Option.bind_some]
      · unfold impl_ParenthesesOf.f
        rw [if_neg (by omega), w0, blankI _ (by omega), Option.bind_some]
        rcases hI k hk with ⟨h, _⟩ | ⟨bits', ws2, h, h2, g2, b2⟩
        · simp only [List.length_nil] at h; rw [hr] at h; simp at h
        · simp only [List.length_nil] at h; rw [hr] at h
          obtain rfl : bits = bits' := by simpa using h
          have : ws2 = ws' := good_ext g2 g (fun j _ => by rw [b2, b])
          rw [← this]; exact h2
  · refine ⟨(0, [], false), by simp, fun k hk => ?_, fun k hk => ?_⟩
    · unfold spec_ParenthesesOf.f spec_raTree.f
      rw [if_pos (by omega), Option.bind_some, if_neg (by simp)]
    · unfold impl_ParenthesesOf.f
      rw [if_pos (by omega)]
theorem FnExactParenthesesOf : laws_FnExactParenthesesOf.Pure := by
  intro l hm _ _
  have hm' : l.length ≤ 9223372036854775807 := by unfold maxLen at hm; omega
  obtain ⟨k, hk⟩ : ∃ k, k = 1060000 := ⟨_, rfl⟩
  refine ⟨k + 4, ?_⟩
  unfold laws_FnExactParenthesesOf.f
  by_cases hb : (l.length : Int) > 1048576
  · rw [if_pos hb]
  rw [if_neg hb]
  obtain ⟨r, hr, eS, eI⟩ := parBoth l
  obtain ⟨r0, r1, r2⟩ := r
  simp only at hr
  have eT (fu : Nat) (hj : 1060000 ≤ fu) : laws_toIntS.f fu l = some l := toIntS_f l fu (by omega) (by omega)
  have eE (fu : Nat) (hj : 1060000 ≤ fu) : laws_eqIntS.f fu l l = some true := by rw [eqIntS_f l l fu (by omega) (by omega)]; simp
  have eQ (fu : Nat) (hj : 1060000 ≤ fu) : laws_eqBits.f fu r0 r1 r0 r1 = some true := eqBits_same r0 r1 fu (by omega) (by omega)
  have eM (fu : Nat) (hj : 1060000 ≤ fu) := markIntS_f l 1 fu (by omega) (by omega)
  have eN (fu : Nat) (hj : 1060000 ≤ fu) := markBits_1 r0 r1 fu (by omega) (by omega)
  have eH (fu : Nat) (hj : 1060000 ≤ fu) := heldBits_1 r0 r1.length fu (by omega) (by omega)
  have n1 : ¬ (((1 + l.length : Nat) : Int) < 0) := by omega
  have n2 : ¬ (((1 + r1.length : Nat) : Int) < 0) := by omega
  rw [eT _ (by omega), Option.bind_some, eS _ (by omega), Option.bind_some, Option.bind_some, eI _ (by omega), Option.bind_some, eQ _ (by omega), Option.bind_some, if_pos rfl]
  simp only [laws_FnExactParenthesesOf.j0]
  rw [if_neg (by simp), eT _ (by omega), Option.bind_some, eE _ (by omega), Option.bind_some, if_pos rfl]
  have eM' := eM (k + 3) (by omega)
  simp only [Int.natCast_one] at eM'
  rw [eM', Option.bind_some, if_neg n1, eQ _ (by omega), Option.bind_some, if_pos rfl]
  simp only [laws_FnExactParenthesesOf.j1]
  rw [if_neg (by simp), eN _ (by omega), Option.bind_some, eH _ (by omega), Option.bind_some, if_neg n2, if_pos rfl, eT _ (by omega), Option.bind_some, eI _ (by omega), Option.bind_some, eQ _ (by omega), Option.bind_some, if_pos rfl]
  simp only [laws_FnExactParenthesesOf.j2]
  rw [if_neg (by simp), eH _ (by omega), Option.bind_some, if_neg n2, if_pos rfl]

end Go.Proofs.Ytkmhjgejficclaa.Pure
