/- JoinRanked of the program and of the reference answer the same, the answers share no memory with the arguments nor with each other, and the arguments stay; for all values of at most 2^20 words together (longer ones are not asked). -/
import Derived.Test.YtkmhjgejficclaaPFnExactJoinRankedx11
namespace Go.Proofs.Ytkmhjgejficclaa.Pure
open Go.RowKit Go.Proofs.Ytkmhjgejficclaa.PFnExactJoinRanked Go.Proofs.YtkmhjgejficclaaW.PrintWords Go.Proofs.YtkmhjgejficclaaW.PrintLast Go.Proofs.YtkmhjgejficclaaW.PrintMore
set_option linter.unusedVariables false
set_option linter.unusedSimpArgs false

theorem w64 {x : Int} (h1 : -9223372036854775808 ≤ x) (h2 : x ≤ 9223372036854775807) : wrap64 x = x := by unfold wrap64; omega
theorem w64n (i : Nat) (h : i < 9223372036854775807) : wrap64 ((i : Int) + 1) = ((i + 1 : Nat) : Int) := by rw [w64 (by omega) (by omega)]; rfl
theorem succOf {k d : Nat} (h : d < k) : ∃ m, k = m + 1 := ⟨k - 1, by omega⟩

theorem rd_mid (p s : List Int) (x : Int) : rd (p ++ x :: s) (p.length : Int) = x := by
  simp [rd, List.getD_eq_getElem?_getD]
theorem rd_last (p s : List Int) (x : Int) (i : Int) (h : i = p.length) : rd (p ++ x :: s) i = x := by
  subst h; exact rd_mid p s x

theorem shl64 (x y : Int) (h0 : 0 ≤ y) (h1 : y ≤ 63) : shl .i64 x y = wrap64 (x * 2 ^ y.toNat) := by
  unfold shl wrap64; rw [Nat.min_eq_left (by simp only [IntKind.bits]; omega), IntKind.wrap_i64]
theorem shr64 (x y : Int) (h0 : 0 ≤ y) (h1 : y ≤ 63) : shr .i64 x y = x / 2 ^ y.toNat := by
  unfold shr; rw [Nat.min_eq_left (by simp only [IntKind.bits]; omega)]

/-- the bit i of a row of words -/
def bitAt (ws : List Int) (i : Nat) : Bool := decide ((ws.getD (i / 16) 0 / 2 ^ (i % 16)) % 2 = 1)
/-- what a vector of bits keeps -/
def Good (s : Int) (ws : List Int) : Prop :=
  0 ≤ s ∧ s ≤ 4096 ∧ (ws.length : Int) = (s + 15) / 16 ∧ (∀ w ∈ ws, 0 ≤ w ∧ w ≤ 65535) ∧ (s % 16 = 0 ∨ ws.getD (ws.length - 1) 0 / 2 ^ (s % 16).toNat = 0)
instance (s : Int) (ws : List Int) : Decidable (Good s ws) := by unfold Good; infer_instance
theorem i64_small (n : Int) (h0 : 0 ≤ n) (h1 : n < 2 ^ 62) : IntKind.i64.wrap n = n := by rw [IntKind.wrap_i64]; omega
theorem and1 (x : Int) (h0 : 0 ≤ x) (h1 : x < 2 ^ 62) : Go.bits .and .i64 x 1 = x % 2 := bits_mask .i64 62 (by decide) i64_small 1 (by decide) x h0 h1
theorem word_range (ws : List Int) (hw : ∀ w ∈ ws, 0 ≤ w ∧ w ≤ 65535) (j : Nat) : 0 ≤ ws.getD j 0 ∧ ws.getD j 0 ≤ 65535 := by
  by_cases h : j < ws.length
  · rw [List.getD_eq_getElem?_getD, List.getElem?_eq_getElem h]; exact hw _ (List.getElem_mem h)
  · rw [List.getD_eq_getElem?_getD, List.getElem?_eq_none (by omega)]; simp
theorem div_pow_range (x : Int) (j : Nat) (h : 0 ≤ x ∧ x ≤ 65535) : 0 ≤ x / 2 ^ j ∧ x / 2 ^ j ≤ 65535 := by
  have hp : (0 : Int) < 2 ^ j := Int.pow_pos (by omega)
  exact ⟨Int.ediv_nonneg h.1 (by omega), Int.le_trans (Int.ediv_le_self _ h.1) h.2⟩
theorem at_eq (ws : List Int) (i : Nat) (h : i / 16 < ws.length) (hw : ∀ w ∈ ws, 0 ≤ w ∧ w ≤ 65535) (hi : i < 4611686018427387904) :
    (if 0 ≤ (wrap64 (Int.tdiv (i : Int) 16)) then (if (wrap64 (Int.tdiv (i : Int) 16)) < (ws.length : Int) then (if 0 ≤ (Int.tmod (i : Int) 16) then (some ((Go.bits .and .i64 (shr .i64 (rd ws (wrap64 (Int.tdiv (i : Int) 16))) (Int.tmod (i : Int) 16)) 1) == 1)) else (none)) else (none)) else (none)) = some (bitAt ws i) := by
  have e1 : wrap64 (Int.tdiv (i : Int) 16) = ((i / 16 : Nat) : Int) := by
    rw [Int.tdiv_eq_ediv_of_nonneg (by omega), w64 (by omega) (by omega)]; omega
  have e2 : Int.tmod (i : Int) 16 = ((i % 16 : Nat) : Int) := by
    rw [Int.tmod_eq_emod_of_nonneg (by omega)]; omega
  have e3 : rd ws ((i / 16 : Nat) : Int) = ws.getD (i / 16) 0 := by unfold rd; rw [Int.toNat_natCast]
  have hr := div_pow_range _ (i % 16) (word_range ws hw (i / 16))
  rw [e1, e2, if_pos (by omega), if_pos (by omega), if_pos (by omega), e3, shr64 _ _ (by omega) (by omega), Int.toNat_natCast, and1 _ hr.1 (by omega)]
  rfl
/-- how the last word is asked -/
theorem last_eq (s : Int) (ws : List Int) (h0 : 0 ≤ s) (h1 : s ≤ 4096) (hl : (ws.length : Int) = (s + 15) / 16) :
    (if (Int.tmod s 16) = 0 then (some true) else (if 0 ≤ (wrap64 ((ws.length : Int) - 1)) then (if (wrap64 ((ws.length : Int) - 1)) < (ws.length : Int) then (if 0 ≤ (Int.tmod s 16) then (some ((shr .i64 (rd ws (wrap64 ((ws.length : Int) - 1))) (Int.tmod s 16)) == 0)) else (none)) else (none)) else (none))) =
      some (decide (s % 16 = 0 ∨ ws.getD (ws.length - 1) 0 / 2 ^ (s % 16).toNat = 0)) := by
  have e2 : Int.tmod s 16 = s % 16 := Int.tmod_eq_emod_of_nonneg h0
  rw [e2]
  by_cases c : s % 16 = 0
  · rw [if_pos c]; simp [c]
  · rw [if_neg c, w64 (by omega) (by omega), if_pos (by omega), if_pos (by omega), if_pos (by omega), shr64 _ _ (by omega) (by omega)]
    have e3 : rd ws ((ws.length : Int) - 1) = ws.getD (ws.length - 1) 0 := by
      unfold rd; rw [show ((ws.length : Int) - 1).toNat = ws.length - 1 from by omega]
    rw [e3]; simp only [c, false_or]; rfl
theorem good_words (s : Int) (ws : List Int) (h : Good s ws) : ∀ w ∈ ws, 0 ≤ w ∧ w ≤ 65535 := h.2.2.2.1
theorem good_place {s : Int} {ws : List Int} (h : Good s ws) (i : Nat) (hi : (i : Int) < s) : i / 16 < ws.length ∧ i < 4096 := by
  obtain ⟨h0, h1, h2, _⟩ := h; omega
theorem words_eq (s : Int) (h0 : 0 ≤ s) (h1 : s ≤ 4096) : wrap64 (Int.tdiv (wrap64 (s + 15)) 16) = (s + 15) / 16 := by
  rw [w64 (x := s + 15) (by omega) (by omega), Int.tdiv_eq_ediv_of_nonneg (by omega), w64 (by omega) (by omega)]
theorem words_eq2 (s : Int) (h0 : 0 ≤ s) (h1 : s ≤ 4096) : wrap64 (Int.tdiv (wrap64 (wrap64 (s + 16) - 1)) 16) = (s + 15) / 16 := by
  rw [w64 (x := s + 16) (by omega) (by omega), show s + 16 - 1 = s + 15 from by omega]; exact words_eq s h0 h1

/-- the value of w bits from a on -/
def fieldV (b : Nat → Bool) (a : Nat) : Nat → Int
  | 0 => 0
  | w + 1 => fieldV b a w + (if b (a + w) = true then 2 ^ w else 0)
theorem fieldV_range (b : Nat → Bool) (a w : Nat) : 0 ≤ fieldV b a w ∧ fieldV b a w < 2 ^ w := by
  induction w with
  | zero => simp [fieldV]
  | succ w ih =>
    have hp : (0 : Int) < 2 ^ w := Int.pow_pos (by omega)
    have e : (2 : Int) ^ (w + 1) = 2 ^ w * 2 := Int.pow_succ 2 w
    simp only [fieldV]
    split <;> omega
theorem fieldV_head (b : Nat → Bool) (w : Nat) : ∀ a, fieldV b a (w + 1) = (if b a = true then 1 else 0) + 2 * fieldV b (a + 1) w := by
  induction w with
  | zero => intro a; simp [fieldV]
  | succ w ih =>
    intro a
    rw [fieldV, ih a]
    have e : (2 : Int) ^ (w + 1) = 2 ^ w * 2 := Int.pow_succ 2 w
    simp only [fieldV]
    rw [show a + 1 + w = a + (w + 1) from by omega]
    split <;> split <;> omega
/-- what ReadField answers -/
def fieldAns (s : Int) (ws : List Int) (a w : Int) : Int × Bool := if Good s ws ∧ (0 ≤ w ∧ w ≤ 24) ∧ 0 ≤ a ∧ a ≤ s - w then (fieldV (bitAt ws) a.toNat w.toNat, true) else (0, false)
theorem or_pow (x : Int) (j : Nat) (h0 : 0 ≤ x) (h1 : x < 2 ^ j) (hj : j < 60) : Go.bits .or .i64 x (2 ^ j) = x + 2 ^ j := by
  obtain ⟨a, rfl⟩ := Int.eq_ofNat_of_zero_le h0
  have ha : a < 2 ^ j := by exact_mod_cast h1
  have hj2 : 2 ^ j < 2 ^ 62 := Nat.pow_lt_pow_right (by decide) (by omega)
  have hc : ((2 : Int) ^ j) = ((2 ^ j : Nat) : Int) := by simp
  rw [hc, (bits_nat .i64 62 (by decide) i64_small a (2 ^ j) (by omega) hj2).2]
  have e := Nat.two_pow_add_eq_or_of_lt ha 1
  rw [Nat.mul_one] at e
  rw [Nat.or_comm, ← e]; simp; omega
theorem shl_one (j : Nat) (hj : j < 60) : shl .i64 1 (j : Int) = 2 ^ j := by
  rw [shl64 _ _ (by omega) (by omega), Int.toNat_natCast, Int.one_mul]
  have hj2 : 2 ^ j < 2 ^ 62 := Nat.pow_lt_pow_right (by decide) (by omega)
  have hj3 : (2 : Int) ^ j < 2 ^ 62 := by exact_mod_cast hj2
  have hp : (0 : Int) < 2 ^ j := Int.pow_pos (by omega)
  rw [w64 (by omega) (by omega)]

/-- a word, as a number -/
theorem word_nat (ws : List Int) (hw : ∀ w ∈ ws, 0 ≤ w ∧ w ≤ 65535) (j : Nat) : ∃ n : Nat, ws.getD j 0 = (n : Int) ∧ n < 2 ^ 16 := by
  have h := word_range ws hw j
  exact ⟨(ws.getD j 0).toNat, by omega, by omega⟩
theorem bitAt_nat (ws : List Int) (i n : Nat) (h : ws.getD (i / 16) 0 = (n : Int)) : bitAt ws i = n.testBit (i % 16) := by
  unfold bitAt
  rw [h, Nat.testBit_eq_decide_div_mod_eq]
  have e : (n : Int) / 2 ^ (i % 16) % 2 = ((n / 2 ^ (i % 16) % 2 : Nat) : Int) := by simp
  rw [e, decide_eq_decide]; omega
/-- behind the end of a vector no bit stands -/
theorem good_end {s : Int} {ws : List Int} (h : Good s ws) (i : Nat) (hi : s ≤ (i : Int)) : bitAt ws i = false := by
  obtain ⟨h0, h1, h2, h3, h4⟩ := h
  obtain ⟨n, e, hn⟩ := word_nat ws h3 (i / 16)
  rw [bitAt_nat ws i n e]
  by_cases c : i / 16 < ws.length
  · rcases h4 with h4 | h4
    · omega
    · have e1 : i / 16 = ws.length - 1 := by omega
      rw [e1] at e
      rw [e] at h4
      have e2 : (n : Int) / 2 ^ (s % 16).toNat = ((n / 2 ^ (s % 16).toNat : Nat) : Int) := by simp
      rw [e2] at h4
      have h5 : n < 2 ^ (s % 16).toNat := by
        have hp : 0 < 2 ^ (s % 16).toNat := Nat.two_pow_pos _
        exact (Nat.div_eq_zero_iff_lt hp).mp (by omega)
      exact Nat.testBit_lt_two_pow (Nat.lt_of_lt_of_le h5 (Nat.pow_le_pow_right (by decide) (by omega)))
  · rw [List.getD_eq_getElem?_getD, List.getElem?_eq_none (by omega)] at e
    have : n = 0 := by simp at e; omega
    subst this; simp
/-- two vectors with the same bits are the same -/
theorem good_ext {s : Int} {ws ws' : List Int} (h : Good s ws) (h' : Good s ws') (hb : ∀ i : Nat, (i : Int) < s → bitAt ws i = bitAt ws' i) : ws = ws' := by
  have hl : ws.length = ws'.length := by have := h.2.2.1; have := h'.2.2.1; omega
  apply List.ext_getElem hl
  intro j c1 c2
  obtain ⟨n, e, hn⟩ := word_nat ws h.2.2.2.1 j
  obtain ⟨n', e', hn'⟩ := word_nat ws' h'.2.2.2.1 j
  have : n = n' := by
    apply Nat.eq_of_testBit_eq
    intro r
    by_cases c : r < 16
    · have a1 := bitAt_nat ws (16 * j + r) n (by rw [show (16 * j + r) / 16 = j from by omega]; exact e)
      have a2 := bitAt_nat ws' (16 * j + r) n' (by rw [show (16 * j + r) / 16 = j from by omega]; exact e')
      rw [show (16 * j + r) % 16 = r from by omega] at a1 a2
      rw [← a1, ← a2]
      by_cases c3 : ((16 * j + r : Nat) : Int) < s
      · exact hb _ c3
      · rw [good_end h _ (by omega), good_end h' _ (by omega)]
    · have hp : 2 ^ 16 ≤ 2 ^ r := Nat.pow_le_pow_right (by decide) (by omega)
      rw [Nat.testBit_lt_two_pow (by omega), Nat.testBit_lt_two_pow (by omega)]
  have g1 : ws.getD j 0 = ws[j] := by rw [List.getD_eq_getElem?_getD, List.getElem?_eq_getElem c1]; rfl
  have g2 : ws'.getD j 0 = ws'[j] := by rw [List.getD_eq_getElem?_getD, List.getElem?_eq_getElem c2]; rfl
  rw [← g1, ← g2, e, e', this]
/-- goodness by its bits -/
theorem good_of {s : Int} {ws : List Int} (h0 : 0 ≤ s) (h1 : s ≤ 4096) (h2 : (ws.length : Int) = (s + 15) / 16) (h3 : ∀ w ∈ ws, 0 ≤ w ∧ w ≤ 65535) (h4 : ∀ i : Nat, s ≤ (i : Int) → bitAt ws i = false) : Good s ws := by
  refine ⟨h0, h1, h2, h3, ?_⟩
  by_cases c : s % 16 = 0
  · exact Or.inl c
  · refine Or.inr ?_
    obtain ⟨n, e, hn⟩ := word_nat ws h3 (ws.length - 1)
    rw [e]
    have h5 : n < 2 ^ (s % 16).toNat := by
      apply Nat.lt_pow_two_of_testBit
      intro r hr
      by_cases c2 : r < 16
      · have a1 := bitAt_nat ws (16 * (ws.length - 1) + r) n (by rw [show (16 * (ws.length - 1) + r) / 16 = ws.length - 1 from by omega]; exact e)
        rw [show (16 * (ws.length - 1) + r) % 16 = r from by omega] at a1
        rw [← a1]
        exact h4 _ (by omega)
      · have hp : 2 ^ 16 ≤ 2 ^ r := Nat.pow_le_pow_right (by decide) (by omega)
        exact Nat.testBit_lt_two_pow (by omega)
    have e2 : (n : Int) / 2 ^ (s % 16).toNat = ((n / 2 ^ (s % 16).toNat : Nat) : Int) := by simp
    rw [e2, Nat.div_eq_of_lt h5]; rfl
theorem getD_set (ws : List Int) (j k : Nat) (x : Int) : (ws.set j x).getD k 0 = if j = k ∧ j < ws.length then x else ws.getD k 0 := by
  simp only [List.getD_eq_getElem?_getD, List.getElem?_set]
  by_cases c : j = k
  · subst c
    by_cases c2 : j < ws.length
    · simp [c2]
    · simp [c2, List.getElem?_eq_none (show ws.length ≤ j by omega)]
  · simp [c]
theorem or64 (a b : Nat) (ha : a < 2 ^ 16) (hb : b < 2 ^ 16) : Go.bits .or .i64 (a : Int) (b : Int) = ((a ||| b : Nat) : Int) :=
  (bits_nat .i64 62 (by decide) i64_small a b (by omega) (by omega)).2
theorem andNot64 (a b : Nat) (ha : a < 2 ^ 16) (hb : b < 2 ^ 16) : ∃ n : Nat, Go.bits .andNot .i64 (a : Int) (b : Int) = (n : Int) ∧ n < 2 ^ 16 ∧ ∀ r, n.testBit r = (a.testBit r && !b.testBit r) := by
  refine ⟨(BitVec.ofNat 64 a &&& ~~~ BitVec.ofNat 64 b).toNat, ?_, ?_, ?_⟩
  · have hb2 : (BitVec.ofNat 64 a &&& ~~~ BitVec.ofNat 64 b).toNat ≤ a := by
      rw [BitVec.toNat_and, BitVec.toNat_ofNat, Nat.mod_eq_of_lt (by omega)]; exact Nat.and_le_left
    have : Go.bits .andNot .i64 (a : Int) (b : Int) = IntKind.i64.wrap (((BitVec.ofNat 64 a &&& ~~~ BitVec.ofNat 64 b).toNat : Nat) : Int) := by
      simp only [Go.bits, BitVec.ofInt_natCast, IntKind.bits]; rfl
    rw [this, i64_small _ (by omega) (by omega)]
  · have hb2 : (BitVec.ofNat 64 a &&& ~~~ BitVec.ofNat 64 b).toNat ≤ a := by
      rw [BitVec.toNat_and, BitVec.toNat_ofNat, Nat.mod_eq_of_lt (by omega)]; exact Nat.and_le_left
    omega
  · intro r
    have hp : 2 ^ 16 ≤ 2 ^ 64 := by decide
    rw [BitVec.toNat_and, Nat.testBit_and, BitVec.toNat_ofNat, Nat.mod_eq_of_lt (by omega)]
    by_cases c : r < 64
    · congr 1
      rw [BitVec.testBit_toNat, BitVec.getLsbD_not, BitVec.getLsbD_ofNat]; simp [c]
    · have hp : 2 ^ 16 ≤ 2 ^ r := Nat.pow_le_pow_right (by decide) (by omega)
      rw [Nat.testBit_lt_two_pow (show a < 2 ^ r by omega)]; simp
theorem shl_pow (j : Nat) (hj : j < 60) : shl .i64 1 (j : Int) = ((2 ^ j : Nat) : Int) := by rw [shl_one j hj]; simp
/-- a word put in place of another -/
theorem good_put {s : Int} {ws : List Int} (h : Good s ws) (i : Nat) (hi : (i : Int) < s) (n : Nat) (hn : n < 2 ^ 16) (he : ∀ r, r < 16 → s ≤ ((16 * (i / 16) + r : Nat) : Int) → n.testBit r = false) :
    Good s (ws.set (i / 16) (n : Int)) ∧ ∀ k, bitAt (ws.set (i / 16) (n : Int)) k = if k / 16 = i / 16 then n.testBit (k % 16) else bitAt ws k := by
  obtain ⟨p1, p2⟩ := good_place h i hi
  have hb : ∀ k, bitAt (ws.set (i / 16) (n : Int)) k = if k / 16 = i / 16 then n.testBit (k % 16) else bitAt ws k := by
    intro k
    by_cases c : k / 16 = i / 16
    · rw [if_pos c]
      exact bitAt_nat _ _ _ (by rw [getD_set, if_pos ⟨c.symm, p1⟩])
    · rw [if_neg c]
      unfold bitAt
      rw [getD_set, if_neg (by omega)]
  refine ⟨good_of h.1 h.2.1 (by rw [List.length_set]; exact h.2.2.1) ?_ ?_, hb⟩
  · intro w hw
    rcases List.mem_or_eq_of_mem_set hw with hw | hw
    · exact h.2.2.2.1 w hw
    · subst hw; omega
  · intro k hk
    rw [hb]
    by_cases c : k / 16 = i / 16
    · rw [if_pos c]
      exact he (k % 16) (by omega) (by omega)
    · rw [if_neg c]; exact good_end h k hk
theorem tdiv16 (i : Nat) (hi : i < 4611686018427387904) : wrap64 (Int.tdiv (i : Int) 16) = ((i / 16 : Nat) : Int) := by
  rw [Int.tdiv_eq_ediv_of_nonneg (by omega), w64 (by omega) (by omega)]; omega
theorem tmod16 (i : Nat) : Int.tmod (i : Int) 16 = ((i % 16 : Nat) : Int) := by
  rw [Int.tmod_eq_emod_of_nonneg (by omega)]; omega
theorem rdD (ws : List Int) (j : Nat) : rd ws (j : Int) = ws.getD j 0 := by unfold rd; rw [Int.toNat_natCast]
/-- a bit set -/
theorem set_or {s : Int} {ws : List Int} (h : Good s ws) (i : Nat) (hi : (i : Int) < s) : ∃ ws', ws.set (i / 16) (Go.bits .or .i64 (ws.getD (i / 16) 0) (shl .i64 1 ((i % 16 : Nat) : Int))) = ws' ∧ Good s ws' ∧ ∀ k, bitAt ws' k = (decide (k = i) || bitAt ws k) := by
  obtain ⟨a, e, ha⟩ := word_nat ws h.2.2.2.1 (i / 16)
  have hp : 2 ^ (i % 16) < 2 ^ 16 := Nat.pow_lt_pow_right (by decide) (by omega)
  rw [e, shl_pow _ (by omega), or64 a _ ha hp]
  have ho : (a ||| 2 ^ (i % 16)) < 2 ^ 16 := Nat.or_lt_two_pow ha hp
  have tb : ∀ r, (a ||| 2 ^ (i % 16)).testBit r = (decide (r = i % 16) || a.testBit r) := by
    intro r; rw [Nat.testBit_or, Nat.testBit_two_pow, Bool.or_comm]; congr 1; rw [decide_eq_decide]; exact eq_comm
  have hw : ∀ k, k / 16 = i / 16 → a.testBit (k % 16) = bitAt ws k := fun k c => (bitAt_nat ws k a (by rw [c]; exact e)).symm
  obtain ⟨g, gb⟩ := good_put h i hi _ ho (by
    intro r hr hs
    rw [tb]
    have h1 := hw (16 * (i / 16) + r) (by omega)
    rw [show (16 * (i / 16) + r) % 16 = r from by omega, good_end h _ hs] at h1
    rw [h1, Bool.or_false, decide_eq_false_iff_not]; omega)
  refine ⟨_, rfl, g, fun k => ?_⟩
  rw [gb]
  by_cases c : k / 16 = i / 16
  · rw [if_pos c, tb, hw k c]; congr 1; rw [decide_eq_decide]; omega
  · rw [if_neg c, decide_eq_false (by intro e; exact c (by rw [e])), Bool.false_or]
/-- a bit cleared -/
theorem set_andNot {s : Int} {ws : List Int} (h : Good s ws) (i : Nat) (hi : (i : Int) < s) : ∃ ws', ws.set (i / 16) (Go.bits .andNot .i64 (ws.getD (i / 16) 0) (shl .i64 1 ((i % 16 : Nat) : Int))) = ws' ∧ Good s ws' ∧ ∀ k, bitAt ws' k = (!decide (k = i) && bitAt ws k) := by
  obtain ⟨a, e, ha⟩ := word_nat ws h.2.2.2.1 (i / 16)
  have hp : 2 ^ (i % 16) < 2 ^ 16 := Nat.pow_lt_pow_right (by decide) (by omega)
  obtain ⟨n, en, hn, tn⟩ := andNot64 a (2 ^ (i % 16)) ha hp
  rw [e, shl_pow _ (by omega), en]
  have tb : ∀ r, n.testBit r = (!decide (r = i % 16) && a.testBit r) := by
    intro r; rw [tn, Nat.testBit_two_pow, Bool.and_comm]; congr 2; rw [decide_eq_decide]; exact eq_comm
  have hw : ∀ k, k / 16 = i / 16 → a.testBit (k % 16) = bitAt ws k := fun k c => (bitAt_nat ws k a (by rw [c]; exact e)).symm
  obtain ⟨g, gb⟩ := good_put h i hi _ hn (by
    intro r hr hs
    rw [tb]
    have h1 := hw (16 * (i / 16) + r) (by omega)
    rw [show (16 * (i / 16) + r) % 16 = r from by omega, good_end h _ hs] at h1
    rw [h1, Bool.and_false])
  refine ⟨_, rfl, g, fun k => ?_⟩
  rw [gb]
  by_cases c : k / 16 = i / 16
  · rw [if_pos c, tb, hw k c]; congr 2; rw [decide_eq_decide]; omega
  · rw [if_neg c, decide_eq_false (by intro e; exact c (by rw [e]))]; simp

/-- a bit of two vectors, joined -/
def joinBit (s : Int) (x y : List Int) (q : Nat) : Bool := if (q : Int) < s then bitAt x q else bitAt y (q - s.toNat)
def JoinOk (s : Int) (x : List Int) (t : Int) (y : List Int) : Prop := Good s x ∧ Good t y ∧ s + t ≤ 4096
/-- what JoinBits answers, told by its bits -/
def JoinFs (s : Int) (x : List Int) (t : Int) (y : List Int) (r : Int × List Int × Bool) : Prop :=
  (¬ JoinOk s x t y ∧ r = (0, [], false)) ∨ (JoinOk s x t y ∧ r.1 = s + t ∧ r.2.2 = true ∧ Good (s + t) r.2.1 ∧ ∀ q : Nat, (q : Int) < s + t → bitAt r.2.1 q = joinBit s x y q)
theorem joinFs_one {s : Int} {x : List Int} {t : Int} {y : List Int} {r r' : Int × List Int × Bool} (h : JoinFs s x t y r) (h' : JoinFs s x t y r') : r = r' := by
  rcases h with ⟨c, e⟩ | ⟨c, e1, e2, g, b⟩ <;> rcases h' with ⟨c', e'⟩ | ⟨c', e1', e2', g', b'⟩
  · rw [e, e']
  · exact absurd c' c
  · exact absurd c c'
  · have := good_ext g g' (fun j hj => by rw [b j hj, b' j hj])
    obtain ⟨r1, r2, r3⟩ := r
    obtain ⟨r1', r2', r3'⟩ := r'
    simp only at *
    simp [*]

theorem good_zero (n : Nat) (hn : n ≤ 4096) : Good (n : Int) (List.replicate ((n + 15) / 16) 0) ∧ ∀ k, bitAt (List.replicate ((n + 15) / 16) 0) k = false := by
  have z : ∀ j, (List.replicate ((n + 15) / 16) (0 : Int)).getD j 0 = 0 := by
    intro j; rw [List.getD_eq_getElem?_getD, List.getElem?_replicate]; split <;> rfl
  have b : ∀ k, bitAt (List.replicate ((n + 15) / 16) 0) k = false := by
    intro k
    rw [bitAt_nat _ k 0 (by rw [z]; rfl)]; simp
  refine ⟨good_of (by omega) (by omega) (by rw [List.length_replicate]; omega) ?_ (fun i _ => b i), b⟩
  intro w hw
  have := List.eq_of_mem_replicate hw
  omega

theorem biSetS {s : Int} {ws : List Int} (h : Good s ws) (i : Nat) (hi : (i : Int) < s) : ∃ ws', spec_biSet.f s ws i = some ws' ∧ Good s ws' ∧ ∀ k, bitAt ws' k = (decide (k = i) || bitAt ws k) := by
  obtain ⟨p1, p2⟩ := good_place h i hi
  obtain ⟨ws', e, g, b⟩ := set_or h i hi
  refine ⟨ws', ?_, g, b⟩
  unfold spec_biSet.f
  rw [tdiv16 i (by omega), tmod16, if_pos (by omega), if_pos (by omega), if_pos (by omega), rdD, Int.toNat_natCast, e]
theorem biNewS (n : Nat) (hn : n ≤ 4096) : spec_biNew.f (n : Int) = some ((n : Int), List.replicate ((n + 15) / 16) 0) := by
  unfold spec_biNew.f
  rw [words_eq (n : Int) (by omega) (by omega), if_pos (by omega)]
  rw [show (((n : Int) + 15) / 16).toNat = (n + 15) / 16 from by omega, if_pos (by omega)]

theorem biSomeS_l (bs : List Bool) (hn : bs.length ≤ 4096) (d : Nat) : ∀ (k i : Nat) (ws : List Int), i + d = bs.length → Good bs.length ws → (∀ j, bitAt ws j = (decide (j < i) && bs.getD j false)) → d < k →
    ∃ ws', spec_biSome.l0 k bs bs.length i bs.length ws = some ((bs.length : Int), ws') ∧ Good bs.length ws' ∧ ∀ j, bitAt ws' j = bs.getD j false := by
  induction d with
  | zero =>
    intro k i ws hi g hb hk
    obtain ⟨k, rfl⟩ := succOf hk
    simp only [spec_biSome.l0]
    rw [if_neg (by omega)]
    refine ⟨ws, rfl, g, fun j => ?_⟩
    rw [hb]
    by_cases c : j < i
    · simp [c]
    · rw [decide_eq_false c, Bool.false_and, List.getD_eq_getElem?_getD, List.getElem?_eq_none (by omega)]; rfl
  | succ d ih =>
    intro k i ws hi g hb hk
    obtain ⟨k, rfl⟩ := succOf hk
    simp only [spec_biSome.l0]
    have er : rdOf false bs (i : Int) = bs.getD i false := by unfold rdOf; rw [Int.toNat_natCast]
    rw [if_pos (by omega), if_pos (by omega), if_pos (by omega), er, w64n i (by omega)]
    by_cases c : bs.getD i false = true
    · rw [if_pos c]
      obtain ⟨w2, e2, g2, b2⟩ := biSetS g i (by omega)
      rw [e2, Option.bind_some]
      refine ih k (i + 1) w2 (by omega) g2 (fun j => ?_) (by omega)
      rw [b2, hb]
      by_cases cj : j = i
      · subst cj; simp [c, -List.getD_eq_getElem?_getD]
      · rw [decide_eq_false cj, Bool.false_or]; congr 1; rw [decide_eq_decide]; omega
    · rw [if_neg c]
      refine ih k (i + 1) ws (by omega) g (fun j => ?_) (by omega)
      rw [hb]
      by_cases cj : j = i
      · subst cj; simp [Bool.not_eq_true _ ▸ c, -List.getD_eq_getElem?_getD]
      · congr 1; rw [decide_eq_decide]; omega
theorem biSomeS (bs : List Bool) (hn : bs.length ≤ 4096) : ∃ ws', Good bs.length ws' ∧ (∀ j, bitAt ws' j = bs.getD j false) ∧ ∀ k, bs.length < k → spec_biSome.f k bs = some ((bs.length : Int), ws') := by
  obtain ⟨z1, z2⟩ := good_zero bs.length hn
  obtain ⟨ws', e, g, b⟩ := biSomeS_l bs hn bs.length (bs.length + 1) 0 (List.replicate ((bs.length + 15) / 16) 0) (by omega) z1 (by intro j; rw [z2]; simp) (by omega)
  refine ⟨ws', g, b, fun k hk => ?_⟩
  obtain ⟨ws2, e2, g2, b2⟩ := biSomeS_l bs hn bs.length k 0 (List.replicate ((bs.length + 15) / 16) 0) (by omega) z1 (by intro j; rw [z2]; simp) (by omega)
  have : ws' = ws2 := good_ext g g2 (fun i _ => by rw [b, b2])
  unfold spec_biSome.f
  rw [biNewS bs.length hn, Option.bind_some]
  rw [this]; exact e2

theorem atS (s : Int) (ws : List Int) (i : Nat) (h : i / 16 < ws.length) (hw : ∀ w ∈ ws, 0 ≤ w ∧ w ≤ 65535) (hi : i < 4611686018427387904) : spec_biAt.f s ws i = some (bitAt ws i) := at_eq ws i h hw hi
theorem atS_good {s : Int} {ws : List Int} (h : Good s ws) (i : Nat) (hi : (i : Int) < s) : spec_biAt.f s ws i = some (bitAt ws i) :=
  atS s ws i (good_place h i hi).1 (good_words s ws h) (by have := good_place h i hi; omega)

def bitsOf (ws : List Int) (n : Nat) : List Bool := (List.range n).map (bitAt ws)
theorem bitsOf_length (ws : List Int) (n : Nat) : (bitsOf ws n).length = n := by simp [bitsOf]
theorem bitsOf_getD (ws : List Int) (n j : Nat) : (bitsOf ws n).getD j false = (decide (j < n) && bitAt ws j) := by
  unfold bitsOf
  rw [List.getD_eq_getElem?_getD, List.getElem?_map]
  by_cases c : j < n
  · simp [c]
  · simp [c]
theorem biListS_l {s : Int} {ws : List Int} (h : Good s ws) (d : Nat) : ∀ (k i : Nat), ((i + d : Nat) : Int) = s → d < k → spec_biList.l0 k (bitsOf ws i) i s ws = some (bitsOf ws s.toNat) := by
  have hs := h.2.1
  induction d with
  | zero =>
    intro k i hi hk
    obtain ⟨k, rfl⟩ := succOf hk
    simp only [spec_biList.l0]
    rw [if_neg (by omega), show s.toNat = i from by omega]
  | succ d ih =>
    intro k i hi hk
    obtain ⟨k, rfl⟩ := succOf hk
    simp only [spec_biList.l0]
    rw [if_pos (by omega), atS_good h i (by omega), Option.bind_some, if_pos (by rw [bitsOf_length]; omega), w64n i (by omega)]
    have e : bitsOf ws i ++ [bitAt ws i] = bitsOf ws (i + 1) := by unfold bitsOf; rw [List.range_succ, List.map_append]; rfl
    rw [e]
    exact ih k (i + 1) (by omega) (by omega)
theorem biListS {s : Int} {ws : List Int} (h : Good s ws) (k : Nat) (hk : 4096 < k) : spec_biList.f k s ws = some (bitsOf ws s.toNat) := by
  have h0 := h.1
  have h1 := h.2.1
  exact biListS_l h s.toNat k 0 (by omega) (by omega)

theorem join_getD (x y : List Int) (a b q : Nat) (h : q < a + b) : (bitsOf x a ++ bitsOf y b).getD q false = if q < a then bitAt x q else bitAt y (q - a) := by
  by_cases c : q < a
  · rw [if_pos c, List.getD_eq_getElem?_getD, List.getElem?_append_left (by rw [bitsOf_length]; exact c), ← List.getD_eq_getElem?_getD, bitsOf_getD, decide_eq_true c, Bool.true_and]
  · rw [if_neg c, List.getD_eq_getElem?_getD, List.getElem?_append_right (by rw [bitsOf_length]; omega), ← List.getD_eq_getElem?_getD, bitsOf_length, bitsOf_getD, decide_eq_true (by omega), Bool.true_and]
/-- the reference's joined vector -/
theorem joinS {s t : Int} {x y : List Int} (h : Good s x) (h' : Good t y) (hs : s + t ≤ 4096) : ∃ ws', Good (s + t) ws' ∧ (∀ q : Nat, (q : Int) < s + t → bitAt ws' q = joinBit s x y q) ∧ ∀ k, 4096 < k → spec_biSome.f k (bitsOf x s.toNat ++ bitsOf y t.toNat) = some (s + t, ws') := by
  have h0 := h.1
  have h1 := h'.1
  have hl : (bitsOf x s.toNat ++ bitsOf y t.toNat).length = s.toNat + t.toNat := by rw [List.length_append, bitsOf_length, bitsOf_length]
  obtain ⟨ws', g, b, e⟩ := biSomeS (bitsOf x s.toNat ++ bitsOf y t.toNat) (by omega)
  have e0 : (((bitsOf x s.toNat ++ bitsOf y t.toNat).length : Nat) : Int) = s + t := by rw [hl]; omega
  rw [e0] at g e
  refine ⟨ws', g, fun q hq => ?_, fun k hk => e k (by omega)⟩
  rw [b, join_getD _ _ _ _ _ (by omega)]
  unfold joinBit
  by_cases c : q < s.toNat
  · rw [if_pos c, if_pos (by omega)]
  · rw [if_neg c, if_neg (by omega)]

/-- how many of n bits from i on are on -/
def ones (b : Nat → Bool) : Nat → Nat → Nat
  | _, 0 => 0
  | i, n + 1 => (if b i = true then 1 else 0) + ones b (i + 1) n
theorem ones_le (b : Nat → Bool) (n : Nat) : ∀ i, ones b i n ≤ n := by
  induction n with
  | zero => intro i; exact Nat.le_refl _
  | succ n ih => intro i; have := ih (i + 1); simp only [ones]; split <;> omega
theorem ones_snoc (b : Nat → Bool) (n : Nat) : ∀ i, ones b i (n + 1) = ones b i n + (if b (i + n) = true then 1 else 0) := by
  induction n with
  | zero => intro i; simp [ones]
  | succ n ih =>
    intro i
    rw [ones, ih (i + 1), ones, show i + 1 + n = i + (n + 1) from by omega]; omega
theorem ones_add (b : Nat → Bool) (m : Nat) : ∀ i n, ones b i (m + n) = ones b i m + ones b (i + m) n := by
  induction m with
  | zero => intro i n; simp [ones]
  | succ m ih =>
    intro i n
    rw [show m + 1 + n = (m + n) + 1 from by omega, ones, ih (i + 1) n, ones, show i + 1 + m = i + (m + 1) from by omega]; omega

/-- the counts before each 64 bits, of the first j words -/
def supN (b : Nat → Bool) : Nat → List Int
  | 0 => []
  | j + 1 => if (16 * j) % 64 = 0 then supN b j ++ [((ones b 0 (16 * j) : Nat) : Int)] else supN b j
/-- the counts from the 64 bits on, of the first j words -/
def blkN (b : Nat → Bool) : Nat → List Int
  | 0 => []
  | j + 1 => blkN b j ++ [((ones b (16 * j / 64 * 64) (16 * j % 64) : Nat) : Int)]
theorem supN_len (b : Nat → Bool) (j : Nat) : (supN b j).length ≤ j := by
  induction j with
  | zero => simp [supN]
  | succ j ih => simp only [supN]; split <;> (try simp only [List.length_append, List.length_cons, List.length_nil]) <;> omega
theorem blkN_len (b : Nat → Bool) (j : Nat) : (blkN b j).length = j := by
  induction j with
  | zero => simp [blkN]
  | succ j ih => simp [blkN, ih]
/-- how many words so many bits begin -/
def wordsN (s : Int) : Nat := ((s + 15) / 16).toNat
/-- the directories of a vector -/
def dirOf (s : Int) (ws : List Int) : Int × List Int × List Int × List Int := (s, ws, supN (bitAt ws) (wordsN s), blkN (bitAt ws) (wordsN s))
theorem good_len {s : Int} {ws : List Int} (h : Good s ws) : ws.length = wordsN s ∧ wordsN s ≤ 256 := by
  obtain ⟨h0, h1, h2, _⟩ := h; unfold wordsN; omega

/-- what a ranked vector keeps -/
def RGood (s : Int) (ws l2 l3 : List Int) : Prop := Good s ws ∧ l2 = supN (bitAt ws) (wordsN s) ∧ l3 = blkN (bitAt ws) (wordsN s)
instance (s : Int) (ws l2 l3 : List Int) : Decidable (RGood s ws l2 l3) := by unfold RGood; infer_instance

theorem countS_l {s : Int} {ws : List Int} (h : Good s ws) (d : Nat) : ∀ (k i n : Nat), ((i + d : Nat) : Int) ≤ s → n ≤ i → d < k →
    spec_biCount.l0 k ((i + d : Nat) : Int) n i s ws = some ((n + ones (bitAt ws) i d : Nat) : Int) := by
  have hs := h.2.1
  induction d with
  | zero =>
    intro k i n hi hn hk
    obtain ⟨k, rfl⟩ := succOf hk
    simp only [spec_biCount.l0]
    rw [if_neg (by omega)]; rfl
  | succ d ih =>
    intro k i n hi hn hk
    obtain ⟨k, rfl⟩ := succOf hk
    simp only [spec_biCount.l0]
    rw [if_pos (by omega), atS_good h i (by omega), Option.bind_some, w64n i (by omega), w64n n (by omega)]
    have e : i + (d + 1) = i + 1 + d := by omega
    rw [e]
    have h1 := ih k (i + 1) (n + 1) (by omega) (by omega) (by omega)
    have h2 := ih k (i + 1) n (by omega) (by omega) (by omega)
    cases c : bitAt ws i
    · rw [if_neg (by simp), h2]; simp only [ones, c, Bool.false_eq_true, if_false]; congr 2; omega
    · rw [if_pos rfl, h1]; simp only [ones, c, if_true]; congr 2; omega
theorem countS {s : Int} {ws : List Int} (h : Good s ws) (i j k : Nat) (hij : i ≤ j) (hj : (j : Int) ≤ s) (hk : 4096 < k) :
    spec_biCount.f k s ws i j = some ((ones (bitAt ws) i (j - i) : Nat) : Int) := by
  have hs := h.2.1
  have := countS_l h (j - i) k i 0 (by omega) (by omega) (by omega)
  rw [show i + (j - i) = j from by omega, Nat.zero_add] at this
  exact this

theorem raOfS_l {s : Int} {ws : List Int} (h : Good s ws) (d : Nat) : ∀ (k j : Nat), j + d = wordsN s → d + 4100 < k →
    spec_raOf.l0 k ((16 * j : Nat) : Int) s ws s ws (supN (bitAt ws) j) (blkN (bitAt ws) j) = some (dirOf s ws) := by
  have h0 := h.1
  have hs := h.2.1
  have hw := (good_len h).2
  induction d with
  | zero =>
    intro k j hj hk
    obtain ⟨k, rfl⟩ := succOf hk
    simp only [spec_raOf.l0]
    have : ¬ (((16 * j : Nat) : Int) < s) := by unfold wordsN at hj; omega
    rw [if_neg this]; unfold dirOf; rw [show wordsN s = j from by omega]
  | succ d ih =>
    intro k j hj hk
    obtain ⟨k, rfl⟩ := succOf hk
    have hlt : ((16 * j : Nat) : Int) < s := by unfold wordsN at hj; omega
    have h1 := ih k (j + 1) (by omega) (by omega)
    have e1 : wrap64 (((16 * j : Nat) : Int) + 16) = ((16 * (j + 1) : Nat) : Int) := by rw [w64 (by omega) (by omega)]; omega
    have e2 : Int.tmod ((16 * j : Nat) : Int) 64 = ((16 * j % 64 : Nat) : Int) := by rw [Int.tmod_eq_emod_of_nonneg (by omega)]; omega
    have e3 : wrap64 (wrap64 (Int.tdiv ((16 * j : Nat) : Int) 64) * 64) = ((16 * j / 64 * 64 : Nat) : Int) := by
      rw [Int.tdiv_eq_ediv_of_nonneg (by omega), w64 (x := _ / 64) (by omega) (by omega), w64 (by omega) (by omega)]; omega
    have c1 := countS h 0 (16 * j) k (by omega) (by omega) (by omega)
    have c2 := countS h (16 * j / 64 * 64) (16 * j) k (by omega) (by omega) (by omega)
    have l1 := supN_len (bitAt ws) j
    have l2 := blkN_len (bitAt ws) j
    rw [show 16 * j - 16 * j / 64 * 64 = 16 * j % 64 from by omega] at c2
    simp only [Int.natCast_zero, Nat.sub_zero] at c1
    simp only [spec_raOf.l0]
    rw [if_pos hlt, e2, e3, e1, c2]
    simp only [supN, blkN] at h1
    by_cases c : 16 * j % 64 = 0
    · rw [if_pos (by omega), c1, Option.bind_some, if_pos (by omega), Option.bind_some, if_pos (by omega)]
      rw [if_pos c] at h1
      exact h1
    · rw [if_neg (by omega), Option.bind_some, if_pos (by omega)]
      rw [if_neg c] at h1
      exact h1
theorem raOfS {s : Int} {ws : List Int} (h : Good s ws) (k : Nat) (hk : 4500 < k) : spec_raOf.f k s ws = some (dirOf s ws) := by
  have hw := good_len h
  have := raOfS_l h (wordsN s) k 0 (by omega) (by omega)
  unfold spec_raOf.f spec_biOwn.f spec_l1Own.f
  simp only [Option.bind_some, List.length_nil, List.nil_append]
  rw [if_pos (by omega)]
  simp only [Option.bind_some]
  exact this

theorem inS (a b c : Int) : spec_l1In.f a b c = some (decide (b ≤ a ∧ a ≤ c)) := by
  unfold spec_l1In.f; split <;> simp [*]

theorem l1All_l (l : List Int) (lo hi : Int) (hl : l.length < 9223372036854775807) : ∀ (suf pre : List Int) (k : Nat), l = pre ++ suf → suf.length < k →
    spec_l1All.l0 k lo hi l l.length pre.length = some (decide (∀ w ∈ suf, lo ≤ w ∧ w ≤ hi)) := by
  intro suf
  induction suf with
  | nil =>
    intro pre k e hk
    obtain ⟨k, rfl⟩ := succOf hk
    simp only [spec_l1All.l0]
    have : l.length = pre.length := by rw [e]; simp
    rw [if_neg (by omega)]; simp
  | cons x suf ih =>
    intro pre k e hk
    obtain ⟨k, rfl⟩ := succOf hk
    simp only [spec_l1All.l0]
    have hlen : l.length = pre.length + suf.length + 1 := by rw [e]; simp; omega
    have e1 : rd l (pre.length : Int) = x := by rw [e]; exact rd_mid pre suf x
    have e2 : (pre ++ [x]).length = pre.length + 1 := by simp
    have h3 := ih (pre ++ [x]) k (by rw [e]; simp) (by simp only [List.length_cons] at hk; omega)
    rw [e2] at h3
    rw [if_pos (by omega), if_pos (by omega), if_pos (by omega), e1, inS, Option.bind_some, w64n _ (by omega), h3]
    by_cases c : lo ≤ x ∧ x ≤ hi
    · rw [decide_eq_true c, if_pos rfl]; congr 1; rw [decide_eq_decide]; simp [c]
    · rw [decide_eq_false c, if_neg (by simp)]; congr 1; symm; rw [decide_eq_false_iff_not]; intro g; exact c (g x (by simp))
theorem l1All (l : List Int) (lo hi : Int) (k : Nat) (hl : l.length < 9223372036854775807) (hk : l.length < k) : spec_l1All.f k l lo hi = some (decide (∀ w ∈ l, lo ≤ w ∧ w ≤ hi)) := by
  unfold spec_l1All.f
  have h := l1All_l l lo hi hl l [] k rfl hk
  simpa using h

theorem goodS (s : Int) (ws : List Int) (k : Nat) (hl : ws.length < 9223372036854775807) (hk : ws.length < k) : spec_biGood.f k s ws = some (decide (Good s ws)) := by
  unfold spec_biGood.f
  rw [inS, Option.bind_some]
  by_cases c : 0 ≤ s ∧ s ≤ 4096
  · rw [decide_eq_true c, if_pos rfl, words_eq s c.1 c.2]
    by_cases c2 : (ws.length : Int) = (s + 15) / 16
    · rw [if_pos c2, l1All ws 0 65535 k hl hk, Option.bind_some]
      by_cases c3 : ∀ w ∈ ws, 0 ≤ w ∧ w ≤ 65535
      · rw [decide_eq_true c3, if_pos rfl, last_eq s ws c.1 c.2 c2]
        congr 1; rw [decide_eq_decide]; unfold Good
        exact ⟨fun h => ⟨c.1, c.2, c2, c3, h⟩, fun h => h.2.2.2.2⟩
      · rw [decide_eq_false c3, if_neg (by simp)]; congr 1; symm; rw [decide_eq_false_iff_not]; exact fun h => c3 h.2.2.2.1
    · rw [if_neg c2]; congr 1; symm; rw [decide_eq_false_iff_not]; exact fun h => c2 h.2.2.1
  · rw [decide_eq_false c, if_neg (by simp)]; congr 1; symm; rw [decide_eq_false_iff_not]; exact fun h => c ⟨h.1, h.2.1⟩

theorem sameS_l (a b : List Int) (hl : a.length = b.length) (ha : a.length < 9223372036854775807) (d : Nat) : ∀ (k i : Nat), i ≤ a.length → a.length - i = d → d < k →
    spec_l1Same.l0 k a b a.length i = some (decide (a.drop i = b.drop i)) := by
  induction d with
  | zero =>
    intro k i h1 hd hk
    obtain ⟨k, rfl⟩ := succOf hk
    simp only [spec_l1Same.l0]
    rw [if_neg (by omega), List.drop_eq_nil_of_le (by omega), List.drop_eq_nil_of_le (by omega)]; simp
  | succ d ih =>
    intro k i h1 hd hk
    obtain ⟨k, rfl⟩ := succOf hk
    simp only [spec_l1Same.l0]
    have h2 := ih k (i+1) (by omega) (by omega) (by omega)
    have e1 : rd a i = a[i]'(by omega) := by simp [rd, List.getD_eq_getElem?_getD, List.getElem?_eq_getElem (show i < a.length by omega)]
    have e2 : rd b i = b[i]'(by omega) := by simp [rd, List.getD_eq_getElem?_getD, List.getElem?_eq_getElem (show i < b.length by omega)]
    have e3 := List.drop_eq_getElem_cons (show i < a.length by omega)
    have e4 := List.drop_eq_getElem_cons (show i < b.length by omega)
    rw [if_pos (by omega), if_pos (by omega), if_pos (by omega), if_pos (by omega), e1, e2, w64n i (by omega), h2, e3, e4]
    clear e3 e4 h2 ih
    split <;> simp only [List.cons.injEq, *, true_and, false_and, decide_false]
theorem sameS (a b : List Int) (k : Nat) (ha : a.length < 9223372036854775807) (hk : a.length < k) : spec_l1Same.f k a b = some (decide (a = b)) := by
  unfold spec_l1Same.f
  split
  · have h := sameS_l a b (by omega) ha a.length k 0 (by omega) (by omega) hk
    simpa using h
  · have : a ≠ b := by intro h; subst h; simp_all
    simp [this]

theorem raGoodS (s : Int) (ws l2 l3 : List Int) (k : Nat) (hl : ws.length ≤ 1048576) (hl2 : l2.length ≤ 1048576) (hl3 : l3.length ≤ 1048576) (hk : 1060000 ≤ k) : spec_raGood.f k s ws l2 l3 = some (decide (RGood s ws l2 l3)) := by
  unfold spec_raGood.f
  rw [goodS s ws k (by omega) (by omega), Option.bind_some]
  by_cases c : Good s ws
  · rw [decide_eq_true c, if_pos rfl, raOfS c k (by omega), Option.bind_some]
    unfold dirOf
    simp only []
    rw [sameS l2 _ k (by omega) (by omega), Option.bind_some, sameS l3 _ k (by omega) (by omega), Option.bind_some]
    by_cases c2 : l2 = supN (bitAt ws) (wordsN s)
    · rw [decide_eq_true c2, if_pos rfl]; congr 1; rw [decide_eq_decide]; exact ⟨fun h => ⟨c, c2, h⟩, fun h => h.2.2⟩
    · rw [decide_eq_false c2, if_neg (by simp)]; congr 1; symm; rw [decide_eq_false_iff_not]; exact fun h => c2 h.2.1
  · rw [decide_eq_false c, if_neg (by simp)]; congr 1; symm; rw [decide_eq_false_iff_not]; exact fun h => c h.1

theorem atI (s : Int) (ws : List Int) (i : Nat) (h : i / 16 < ws.length) (hw : ∀ w ∈ ws, 0 ≤ w ∧ w ≤ 65535) (hi : i < 4611686018427387904) : impl_Bits_at.f s ws i = some (bitAt ws i) := at_eq ws i h hw hi
theorem atI_good {s : Int} {ws : List Int} (h : Good s ws) (i : Nat) (hi : (i : Int) < s) : impl_Bits_at.f s ws i = some (bitAt ws i) :=
  atI s ws i (good_place h i hi).1 (good_words s ws h) (by have := good_place h i hi; omega)

theorem countI_l {s : Int} {ws : List Int} (h : Good s ws) (d : Nat) : ∀ (k i n : Nat), ((i + d : Nat) : Int) ≤ s → n ≤ i → d < k →
    impl_Bits_count.l0 k ((i + d : Nat) : Int) n i s ws = some ((n + ones (bitAt ws) i d : Nat) : Int) := by
  have hs := h.2.1
  induction d with
  | zero =>
    intro k i n hi hn hk
    obtain ⟨k, rfl⟩ := succOf hk
    simp only [impl_Bits_count.l0]
    rw [if_neg (by omega)]; rfl
  | succ d ih =>
    intro k i n hi hn hk
    obtain ⟨k, rfl⟩ := succOf hk
    simp only [impl_Bits_count.l0]
    rw [if_pos (by omega), atI_good h i (by omega), Option.bind_some, w64n i (by omega), w64n n (by omega)]
    have e : i + (d + 1) = i + 1 + d := by omega
    rw [e]
    have h1 := ih k (i + 1) (n + 1) (by omega) (by omega) (by omega)
    have h2 := ih k (i + 1) n (by omega) (by omega) (by omega)
    cases c : bitAt ws i
    · rw [if_neg (by simp), h2]; simp only [ones, c, Bool.false_eq_true, if_false]; congr 2; omega
    · rw [if_pos rfl, h1]; simp only [ones, c, if_true]; congr 2; omega
theorem countI {s : Int} {ws : List Int} (h : Good s ws) (i j k : Nat) (hij : i ≤ j) (hj : (j : Int) ≤ s) (hk : 4096 < k) :
    impl_Bits_count.f k s ws i j = some ((ones (bitAt ws) i (j - i) : Nat) : Int) := by
  have hs := h.2.1
  have := countI_l h (j - i) k i 0 (by omega) (by omega) (by omega)
  rw [show i + (j - i) = j from by omega, Nat.zero_add] at this
  exact this

theorem rankedI_l {s : Int} {ws : List Int} (h : Good s ws) (d : Nat) : ∀ (k j : Nat) (x5 : Int), j + d = wordsN s → (16 * j % 64 ≠ 0 → x5 = ((ones (bitAt ws) 0 (16 * j / 64 * 64) : Nat) : Int)) → d + 4100 < k →
    impl_ranked.l0 k ((ones (bitAt ws) 0 (min (16 * j) s.toNat) : Nat) : Int) x5 ((16 * j : Nat) : Int) j s ws s ws (supN (bitAt ws) j) (blkN (bitAt ws) j) = some (dirOf s ws) := by
  have h0 := h.1
  have hs := h.2.1
  have hw := (good_len h).2
  induction d with
  | zero =>
    intro k j x5 hj hx hk
    obtain ⟨k, rfl⟩ := succOf hk
    simp only [impl_ranked.l0]
    have : ¬ (((16 * j : Nat) : Int) < s) := by unfold wordsN at hj; omega
    rw [if_neg this]; unfold dirOf; rw [show wordsN s = j from by omega]
  | succ d ih =>
    intro k j x5 hj hx hk
    obtain ⟨k, rfl⟩ := succOf hk
    have hlt : ((16 * j : Nat) : Int) < s := by unfold wordsN at hj; omega
    have e0 : min (16 * j) s.toNat = 16 * j := by omega
    have e1 : wrap64 (((16 * j : Nat) : Int) + 16) = ((16 * (j + 1) : Nat) : Int) := by rw [w64 (by omega) (by omega)]; omega
    have e2 : Int.tmod ((16 * j : Nat) : Int) 64 = ((16 * j % 64 : Nat) : Int) := by rw [Int.tmod_eq_emod_of_nonneg (by omega)]; omega
    have e3 : mn ((16 * (j + 1) : Nat) : Int) s = ((min (16 * (j + 1)) s.toNat : Nat) : Int) := by unfold mn; split <;> omega
    have c1 := countI h (16 * j) (min (16 * (j + 1)) s.toNat) k (by omega) (by omega) (by omega)
    have l1 := supN_len (bitAt ws) j
    have l2 := blkN_len (bitAt ws) j
    have o1 := ones_le (bitAt ws) (16 * j) 0
    have o2 := ones_le (bitAt ws) (min (16 * (j + 1)) s.toNat - 16 * j) (16 * j)
    have a1 := ones_add (bitAt ws) (16 * j) 0 (min (16 * (j + 1)) s.toNat - 16 * j)
    have a2 := ones_add (bitAt ws) (16 * j / 64 * 64) 0 (16 * j % 64)
    rw [Nat.zero_add, show 16 * j + (min (16 * (j + 1)) s.toNat - 16 * j) = min (16 * (j + 1)) s.toNat from by omega] at a1
    rw [Nat.zero_add, show 16 * j / 64 * 64 + 16 * j % 64 = 16 * j from by omega] at a2
    have e4 : wrap64 (((ones (bitAt ws) 0 (16 * j) : Nat) : Int) + ((ones (bitAt ws) (16 * j) (min (16 * (j + 1)) s.toNat - 16 * j) : Nat) : Int)) = ((ones (bitAt ws) 0 (min (16 * (j + 1)) s.toNat) : Nat) : Int) := by
      rw [w64 (by omega) (by omega)]; omega
    simp only [impl_ranked.l0]
    rw [e0, if_pos hlt, e2, e1, e3, c1]
    by_cases c : 16 * j % 64 = 0
    · have h1 := ih k (j + 1) ((ones (bitAt ws) 0 (16 * j) : Nat) : Int) (by omega) (fun _ => by rw [show 16 * (j + 1) / 64 * 64 = 16 * j from by omega]) (by omega)
      simp only [supN, blkN] at h1
      rw [if_pos c, c] at h1
      rw [if_pos (by omega), if_pos (by omega), if_pos (by omega), Option.bind_some, e4, w64n j (by omega)]
      exact h1
    · have h1 := ih k (j + 1) x5 (by omega) (fun _ => by rw [hx c, show 16 * (j + 1) / 64 * 64 = 16 * j / 64 * 64 from by omega]) (by omega)
      simp only [supN, blkN] at h1
      rw [if_neg c] at h1
      have hx5 := hx c
      have o3 := ones_le (bitAt ws) (16 * j / 64 * 64) 0
      have e5 : wrap64 (((ones (bitAt ws) 0 (16 * j) : Nat) : Int) - x5) = ((ones (bitAt ws) (16 * j / 64 * 64) (16 * j % 64) : Nat) : Int) := by
        rw [w64 (by omega) (by omega)]; omega
      rw [if_neg (by omega), if_pos (by omega), Option.bind_some, e4, w64n j (by omega), e5]
      exact h1
theorem rankedI {s : Int} {ws : List Int} (h : Good s ws) (k : Nat) (hk : 4500 < k) : impl_ranked.f k s ws = some (dirOf s ws) := by
  have hw := good_len h
  have := rankedI_l h (wordsN s) k 0 0 (by omega) (fun h => by omega) (by omega)
  unfold impl_ranked.f impl_cloneBits.f slices_Clone_int_int.f
  rw [if_pos (by omega)]
  simp only [Option.bind_some]
  exact this

theorem inI (a b c : Int) : impl_in.f a b c = some (decide (b ≤ a ∧ a ≤ c)) := by
  unfold impl_in.f; split <;> simp [*]

theorem goodI_l (s : Int) (ws : List Int) (hl : ws.length < 9223372036854775807) (h0 : 0 ≤ s) (h1 : s ≤ 4096) (h2 : (ws.length : Int) = (s + 15) / 16) : ∀ (suf pre : List Int) (k : Nat), ws = pre ++ suf → suf.length < k →
    impl_IsBits.l0 k ws ws.length pre.length s ws = some (decide ((∀ w ∈ suf, 0 ≤ w ∧ w ≤ 65535) ∧ (s % 16 = 0 ∨ ws.getD (ws.length - 1) 0 / 2 ^ (s % 16).toNat = 0))) := by
  intro suf
  induction suf with
  | nil =>
    intro pre k e hk
    obtain ⟨k, rfl⟩ := succOf hk
    simp only [impl_IsBits.l0]
    have : ws.length = pre.length := by rw [e]; simp
    rw [if_neg (by omega), last_eq s ws h0 h1 h2]; simp
  | cons x suf ih =>
    intro pre k e hk
    obtain ⟨k, rfl⟩ := succOf hk
    simp only [impl_IsBits.l0]
    have hlen : ws.length = pre.length + suf.length + 1 := by rw [e]; simp; omega
    have e1 : rd ws (pre.length : Int) = x := by rw [e]; exact rd_mid pre suf x
    have e2 : (pre ++ [x]).length = pre.length + 1 := by simp
    have h3 := ih (pre ++ [x]) k (by rw [e]; simp) (by simp only [List.length_cons] at hk; omega)
    rw [e2] at h3
    rw [if_pos (by omega), if_pos (by omega), if_pos (by omega), e1, inI, Option.bind_some, w64n _ (by omega), h3]
    by_cases c : 0 ≤ x ∧ x ≤ 65535
    · rw [decide_eq_true c, if_pos rfl]; congr 1; rw [decide_eq_decide]; simp [c]
    · rw [decide_eq_false c, if_neg (by simp)]; congr 1; symm; rw [decide_eq_false_iff_not]; intro g; exact c (g.1 x (by simp))
theorem goodI (s : Int) (ws : List Int) (k : Nat) (hl : ws.length < 9223372036854775807) (hk : ws.length + 1 < k) : impl_IsBits.f k s ws = some (decide (Good s ws)) := by
  obtain ⟨k, rfl⟩ := succOf hk
  unfold impl_IsBits.f impl_words.f
  rw [inI, Option.bind_some]
  by_cases c : 0 ≤ s ∧ s ≤ 4096
  · rw [decide_eq_true c, if_pos rfl, Option.bind_some, words_eq2 s c.1 c.2]
    simp only [impl_IsBits.j0]
    by_cases c2 : (ws.length : Int) = (s + 15) / 16
    · have h := goodI_l s ws hl c.1 c.2 c2 ws [] k rfl (by omega)
      simp only [List.length_nil, Int.natCast_zero] at h
      rw [if_neg (by simpa using c2), h]
      congr 1; rw [decide_eq_decide]; unfold Good
      exact ⟨fun h => ⟨c.1, c.2, c2, h.1, h.2⟩, fun h => h.2.2.2⟩
    · rw [if_pos (by simpa using c2)]; congr 1; symm; rw [decide_eq_false_iff_not]; exact fun h => c2 h.2.2.1
  · rw [decide_eq_false c, if_neg (by simp)]; simp only [impl_IsBits.j0, if_true]; congr 1; symm; rw [decide_eq_false_iff_not]; exact fun h => c ⟨h.1, h.2.1⟩

theorem sameE_l (a b : List Int) (hl : a.length = b.length) (ha : a.length < 9223372036854775807) (d : Nat) : ∀ (k i : Nat), i ≤ a.length → a.length - i = d → d < k →
    slices_Equal_int_int.l0 k a b a.length i = some (decide (a.drop i = b.drop i)) := by
  induction d with
  | zero =>
    intro k i h1 hd hk
    obtain ⟨k, rfl⟩ := succOf hk
    simp only [slices_Equal_int_int.l0]
    rw [if_neg (by omega), List.drop_eq_nil_of_le (by omega), List.drop_eq_nil_of_le (by omega)]; simp
  | succ d ih =>
    intro k i h1 hd hk
    obtain ⟨k, rfl⟩ := succOf hk
    simp only [slices_Equal_int_int.l0]
    have h2 := ih k (i+1) (by omega) (by omega) (by omega)
    have e1 : rd a i = a[i]'(by omega) := by simp [rd, List.getD_eq_getElem?_getD, List.getElem?_eq_getElem (show i < a.length by omega)]
    have e2 : rd b i = b[i]'(by omega) := by simp [rd, List.getD_eq_getElem?_getD, List.getElem?_eq_getElem (show i < b.length by omega)]
    have e3 := List.drop_eq_getElem_cons (show i < a.length by omega)
    have e4 := List.drop_eq_getElem_cons (show i < b.length by omega)
    rw [if_pos (by omega), if_pos (by omega), if_pos (by omega), if_pos (by omega), e1, e2, w64n i (by omega), h2, e3, e4]
    clear e3 e4 h2 ih
    split <;> simp only [List.cons.injEq, *, true_and, false_and, decide_false]
theorem sameE (a b : List Int) (k : Nat) (ha : a.length < 9223372036854775807) (hk : a.length < k) : slices_Equal_int_int.f k a b = some (decide (a = b)) := by
  unfold slices_Equal_int_int.f
  split
  · have h := sameE_l a b (by omega) ha a.length k 0 (by omega) (by omega) hk
    simpa using h
  · have : a ≠ b := by intro h; subst h; simp_all
    simp [this]

theorem isRankedI (s : Int) (ws l2 l3 : List Int) (k : Nat) (hl : ws.length ≤ 1048576) (hl2 : l2.length ≤ 1048576) (hl3 : l3.length ≤ 1048576) (hk : 1060000 ≤ k) : impl_IsRanked.f k s ws l2 l3 = some (decide (RGood s ws l2 l3)) := by
  unfold impl_IsRanked.f
  rw [goodI s ws k (by omega) (by omega), Option.bind_some]
  by_cases c : Good s ws
  · have hw := (good_len c).2
    have h1 := supN_len (bitAt ws) (wordsN s)
    have h2 := blkN_len (bitAt ws) (wordsN s)
    rw [decide_eq_true c, if_pos rfl, rankedI c k (by omega), Option.bind_some]
    unfold dirOf
    simp only []
    rw [sameE _ l2 k (by omega) (by omega), Option.bind_some, sameE _ l3 k (by omega) (by omega), Option.bind_some]
    by_cases c2 : supN (bitAt ws) (wordsN s) = l2
    · rw [decide_eq_true c2, if_pos rfl]; congr 1; rw [decide_eq_decide]; exact ⟨fun h => ⟨c, c2.symm, h.symm⟩, fun h => h.2.2.symm⟩
    · rw [decide_eq_false c2, if_neg (by simp)]; congr 1; symm; rw [decide_eq_false_iff_not]; exact fun h => c2 h.2.1.symm
  · rw [decide_eq_false c, if_neg (by simp)]; congr 1; symm; rw [decide_eq_false_iff_not]; exact fun h => c h.1

theorem blankI (n : Nat) (hn : n ≤ 4096) : impl_blank.f (n : Int) = some ((n : Int), List.replicate ((n + 15) / 16) 0) := by
  unfold impl_blank.f impl_words.f
  rw [words_eq2 (n : Int) (by omega) (by omega), Option.bind_some, if_pos (by omega)]
  rw [show (((n : Int) + 15) / 16).toNat = (n + 15) / 16 from by omega, if_pos (by omega)]

theorem setI {s : Int} {ws : List Int} (h : Good s ws) (i : Nat) (hi : (i : Int) < s) (v : Bool) : ∃ ws', impl_Bits_set.f s ws i v = some ws' ∧ Good s ws' ∧ ∀ k, bitAt ws' k = if k = i then v else bitAt ws k := by
  obtain ⟨p1, p2⟩ := good_place h i hi
  obtain ⟨w1, e1, g1, b1⟩ := set_andNot h i hi
  obtain ⟨w2, e2, g2, b2⟩ := set_or g1 i hi
  unfold impl_Bits_set.f
  rw [tdiv16 i (by omega), tmod16, if_pos (by omega), if_pos (by omega), if_pos (by omega), rdD, Int.toNat_natCast, e1, Option.bind_some, rdD, e2]
  cases v
  · refine ⟨w1, by rw [if_neg (by simp)], g1, fun k => ?_⟩
    rw [b1]
    by_cases c : k = i <;> simp [c]
  · refine ⟨w2, by rw [if_pos rfl], g2, fun k => ?_⟩
    rw [b2, b1]
    by_cases c : k = i <;> simp [c]

theorem madeI_l (g : Int → Option Bool) (p : Nat → Bool) (n : Nat) (hn : n ≤ 4096) (hg : ∀ i : Nat, i < n → g (i : Int) = some (p i)) (d : Nat) : ∀ (k i : Nat) (ws : List Int), i + d = n → Good n ws → (∀ j, bitAt ws j = (decide (j < i) && p j)) → d < k →
    ∃ ws', impl_madeBits.l0 k g n i n ws = some ((n : Int), ws') ∧ Good n ws' ∧ ∀ j, bitAt ws' j = (decide (j < n) && p j) := by
  induction d with
  | zero =>
    intro k i ws hi gd hb hk
    obtain ⟨k, rfl⟩ := succOf hk
    simp only [impl_madeBits.l0]
    rw [if_neg (by omega)]
    exact ⟨ws, rfl, gd, fun j => by rw [hb, show i = n by omega]⟩
  | succ d ih =>
    intro k i ws hi gd hb hk
    obtain ⟨k, rfl⟩ := succOf hk
    simp only [impl_madeBits.l0]
    obtain ⟨w2, e2, g2, b2⟩ := setI gd i (by omega) (p i)
    rw [if_pos (by omega), hg i (by omega), Option.bind_some, e2, Option.bind_some, w64n i (by omega)]
    refine ih k (i + 1) w2 (by omega) g2 (fun j => ?_) (by omega)
    rw [b2, hb]
    by_cases cj : j = i
    · subst cj; simp
    · rw [if_neg cj]; congr 1; rw [decide_eq_decide]; omega
/-- a vector made of what is told of its bits -/
theorem madeI (g : Int → Option Bool) (p : Nat → Bool) (n : Nat) (hn : n ≤ 4096) (hg : ∀ i : Nat, i < n → g (i : Int) = some (p i)) : ∃ ws', Good n ws' ∧ (∀ j, bitAt ws' j = (decide (j < n) && p j)) ∧ ∀ k, n < k → impl_madeBits.f k n g = some ((n : Int), ws') := by
  obtain ⟨z1, z2⟩ := good_zero n hn
  obtain ⟨ws', e, gd, b⟩ := madeI_l g p n hn hg n (n + 1) 0 (List.replicate ((n + 15) / 16) 0) (by omega) z1 (by intro j; rw [z2]; simp) (by omega)
  refine ⟨ws', gd, b, fun k hk => ?_⟩
  obtain ⟨ws2, e2, g2, b2⟩ := madeI_l g p n hn hg n k 0 (List.replicate ((n + 15) / 16) 0) (by omega) z1 (by intro j; rw [z2]; simp) (by omega)
  have : ws' = ws2 := good_ext gd g2 (fun i _ => by rw [b, b2])
  unfold impl_madeBits.f
  rw [blankI n hn, Option.bind_some]
  rw [this]; exact e2

theorem joinI {s t : Int} {x y : List Int} (h : Good s x) (h' : Good t y) (hs : s + t ≤ 4096) : ∃ ws', Good (s + t) ws' ∧ (∀ q : Nat, (q : Int) < s + t → bitAt ws' q = joinBit s x y q) ∧ ∀ k, 4096 < k → impl_joinBits.f k s x t y = some (s + t, ws') := by
  have h0 := h.1
  have h1 := h'.1
  obtain ⟨ws', g, b, e⟩ := madeI (impl_joinBits.of s x t y) (joinBit s x y) (s + t).toNat (by omega) (by
    intro i hi
    unfold impl_joinBits.of joinBit
    by_cases c : (i : Int) < s
    · rw [if_pos c, if_pos c]; exact atI_good h i c
    · rw [if_neg c, if_neg c, w64 (by omega) (by omega)]
      have := atI_good h' (i - s.toNat) (by omega)
      rw [show (((i - s.toNat : Nat) : Int)) = (i : Int) - s from by omega] at this
      exact this)
  have e0 : (((s + t).toNat : Nat) : Int) = s + t := by omega
  rw [e0] at g e
  refine ⟨ws', g, fun q hq => ?_, fun k hk => ?_⟩
  · rw [b, decide_eq_true (by omega), Bool.true_and]
  · unfold impl_joinBits.f
    rw [w64 (by omega) (by omega)]
    exact e k (by omega)

theorem joinBitsI (s : Int) (x : List Int) (t : Int) (y : List Int) (hx : x.length < 9223372036854775807) (hy : y.length < 9223372036854775807) : ∃ r, JoinFs s x t y r ∧ ∀ k, x.length + y.length + 5001 < k → impl_JoinBits.f k s x t y = some r := by
  by_cases c1 : Good s x
  · by_cases c2 : Good t y
    · have h0 := c1.1
      have h1 := c2.1
      have h2 := c1.2.1
      have h3 := c2.2.1
      have ew : wrap64 (s + t) = s + t := w64 (by omega) (by omega)
      by_cases c3 : s + t ≤ 4096
      · obtain ⟨ws', g, b, e⟩ := joinI c1 c2 c3
        refine ⟨(s + t, ws', true), Or.inr ⟨⟨c1, c2, c3⟩, rfl, rfl, g, b⟩, fun k hk => ?_⟩
        unfold impl_JoinBits.f
        rw [goodI s x k hx (by omega), decide_eq_true c1, Option.bind_some, if_pos rfl, goodI t y k hy (by omega), decide_eq_true c2, Option.bind_some, if_pos rfl, ew, if_neg (by omega), e k (by omega), Option.bind_some]
      · refine ⟨(0, [], false), Or.inl ⟨fun h => c3 h.2.2, rfl⟩, fun k hk => ?_⟩
        unfold impl_JoinBits.f
        rw [goodI s x k hx (by omega), decide_eq_true c1, Option.bind_some, if_pos rfl, goodI t y k hy (by omega), decide_eq_true c2, Option.bind_some, if_pos rfl, ew, if_pos (by omega)]
    · refine ⟨(0, [], false), Or.inl ⟨fun h => c2 h.2.1, rfl⟩, fun k hk => ?_⟩
      unfold impl_JoinBits.f
      rw [goodI s x k hx (by omega), decide_eq_true c1, Option.bind_some, if_pos rfl, goodI t y k hy (by omega), decide_eq_false c2, Option.bind_some, if_neg (by simp)]
  · refine ⟨(0, [], false), Or.inl ⟨fun h => c1 h.1, rfl⟩, fun k hk => ?_⟩
    unfold impl_JoinBits.f
    rw [goodI s x k hx (by omega), decide_eq_false c1, Option.bind_some, if_neg (by simp)]

/-- when JoinRanked answers -/
def JROk (s : Int) (x x2 x3 : List Int) (t : Int) (y y2 y3 : List Int) : Prop := RGood s x x2 x3 ∧ RGood t y y2 y3 ∧ s + t ≤ 4096
/-- what JoinRanked answers: the directory of the joined vector -/
def JRFs (s : Int) (x x2 x3 : List Int) (t : Int) (y y2 y3 : List Int) (r : Int × List Int × List Int × List Int × Bool) : Prop :=
  (¬ JROk s x x2 x3 t y y2 y3 ∧ r = (0, [], [], [], false)) ∨ (JROk s x x2 x3 t y y2 y3 ∧ r.1 = s + t ∧ r.2.2.2.2 = true ∧ RGood (s + t) r.2.1 r.2.2.1 r.2.2.2.1 ∧ ∀ q : Nat, (q : Int) < s + t → bitAt r.2.1 q = joinBit s x y q)
theorem jrBoth (s : Int) (x x2 x3 : List Int) (t : Int) (y y2 y3 : List Int) (h1 : x.length ≤ 1048576) (h2 : x2.length ≤ 1048576) (h3 : x3.length ≤ 1048576) (k1 : y.length ≤ 1048576) (k2 : y2.length ≤ 1048576) (k3 : y3.length ≤ 1048576) :
    ∃ r, JRFs s x x2 x3 t y y2 y3 r ∧ r.2.1.length ≤ 300 ∧ r.2.2.1.length ≤ 300 ∧ r.2.2.2.1.length ≤ 300 ∧ (∀ k, 2200000 ≤ k → spec_JoinRanked.f k s x x2 x3 t y y2 y3 = some r) ∧ ∀ k, 2200000 ≤ k → impl_JoinRanked.f k s x x2 x3 t y y2 y3 = some r := by
  by_cases c1 : RGood s x x2 x3
  · by_cases c2 : RGood t y y2 y3
    · have g1 := c1.1
      have g2 := c2.1
      have a0 := g1.1
      have a1 := g1.2.1
      have b0 := g2.1
      have b1 := g2.2.1
      have ew : wrap64 (s + t) = s + t := w64 (by omega) (by omega)
      obtain ⟨r, h, eI⟩ := joinBitsI s x t y (by omega) (by omega)
      by_cases c3 : s + t ≤ 4096
      · obtain ⟨pv, g, b, e⟩ := joinS g1 g2 c3
        have hw := good_len g
        have l1 := supN_len (bitAt pv) (wordsN (s + t))
        have l2 := blkN_len (bitAt pv) (wordsN (s + t))
        rcases h with ⟨n, _⟩ | ⟨_, e1, e2, gr, br⟩
        · exact absurd ⟨g1, g2, c3⟩ n
        have ep : r.2.1 = pv := good_ext gr g (fun q hq => by rw [br q hq, b q hq])
        refine ⟨(s + t, pv, supN (bitAt pv) (wordsN (s + t)), blkN (bitAt pv) (wordsN (s + t)), true), Or.inr ⟨⟨c1, c2, c3⟩, rfl, rfl, ⟨g, rfl, rfl⟩, b⟩, by simp only; omega, by simp only; omega, by simp only; omega, fun k hk => ?_, fun k hk => ?_⟩
        · obtain ⟨k, rfl⟩ := succOf (show 0 < k by omega)
          unfold spec_JoinRanked.f
          rw [raGoodS s x x2 x3 (k + 1) h1 h2 h3 (by omega), Option.bind_some, decide_eq_true c1, if_pos rfl, raGoodS t y y2 y3 (k + 1) k1 k2 k3 (by omega), Option.bind_some, decide_eq_true c2, if_pos rfl, ew, decide_eq_false (by omega)]
          simp only [spec_JoinRanked.j0]
          rw [if_neg (by simp), biListS g1 k (by omega), Option.bind_some, biListS g2 k (by omega), Option.bind_some, if_pos (by rw [bitsOf_length, bitsOf_length]; omega), e k (by omega), Option.bind_some]
          simp only
          rw [raOfS g k (by omega), Option.bind_some]; rfl
        · obtain ⟨k, rfl⟩ := succOf (show 0 < k by omega)
          unfold impl_JoinRanked.f
          rw [isRankedI s x x2 x3 (k + 1) h1 h2 h3 (by omega), Option.bind_some, decide_eq_true c1, if_pos rfl, isRankedI t y y2 y3 (k + 1) k1 k2 k3 (by omega), Option.bind_some, decide_eq_true c2]
          simp only [impl_JoinRanked.j0]
          rw [if_neg (by simp), eI k (by omega), Option.bind_some, if_pos e2, e1, ep, rankedI g k (by omega), Option.bind_some]; rfl
      · refine ⟨(0, [], [], [], false), Or.inl ⟨fun h => c3 h.2.2, rfl⟩, by simp, by simp, by simp, fun k hk => ?_, fun k hk => ?_⟩
        · obtain ⟨k, rfl⟩ := succOf (show 0 < k by omega)
          unfold spec_JoinRanked.f
          rw [raGoodS s x x2 x3 (k + 1) h1 h2 h3 (by omega), Option.bind_some, decide_eq_true c1, if_pos rfl, raGoodS t y y2 y3 (k + 1) k1 k2 k3 (by omega), Option.bind_some, decide_eq_true c2, if_pos rfl, ew, decide_eq_true (by omega)]
          simp [spec_JoinRanked.j0]
        · rcases h with ⟨_, e⟩ | ⟨n, _⟩
          · obtain ⟨k, rfl⟩ := succOf (show 0 < k by omega)
            unfold impl_JoinRanked.f
            rw [isRankedI s x x2 x3 (k + 1) h1 h2 h3 (by omega), Option.bind_some, decide_eq_true c1, if_pos rfl, isRankedI t y y2 y3 (k + 1) k1 k2 k3 (by omega), Option.bind_some, decide_eq_true c2]
            simp only [impl_JoinRanked.j0]
            rw [if_neg (by simp), eI k (by omega), Option.bind_some, e]
            simp
          · exact absurd n.2.2 c3
    · refine ⟨(0, [], [], [], false), Or.inl ⟨fun h => c2 h.2.1, rfl⟩, by simp, by simp, by simp, fun k hk => ?_, fun k hk => ?_⟩
      · obtain ⟨k, rfl⟩ := succOf (show 0 < k by omega)
        unfold spec_JoinRanked.f
        rw [raGoodS s x x2 x3 (k + 1) h1 h2 h3 (by omega), Option.bind_some, decide_eq_true c1, if_pos rfl, raGoodS t y y2 y3 (k + 1) k1 k2 k3 (by omega), Option.bind_some, decide_eq_false c2, if_neg (by simp)]
        simp [spec_JoinRanked.j0]
      · obtain ⟨k, rfl⟩ := succOf (show 0 < k by omega)
        unfold impl_JoinRanked.f
        rw [isRankedI s x x2 x3 (k + 1) h1 h2 h3 (by omega), Option.bind_some, decide_eq_true c1, if_pos rfl, isRankedI t y y2 y3 (k + 1) k1 k2 k3 (by omega), Option.bind_some, decide_eq_false c2]
        simp [impl_JoinRanked.j0]
  · refine ⟨(0, [], [], [], false), Or.inl ⟨fun h => c1 h.1, rfl⟩, by simp, by simp, by simp, fun k hk => ?_, fun k hk => ?_⟩
    · obtain ⟨k, rfl⟩ := succOf (show 0 < k by omega)
      unfold spec_JoinRanked.f
      rw [raGoodS s x x2 x3 (k + 1) h1 h2 h3 (by omega), Option.bind_some, decide_eq_false c1, if_neg (by simp)]
      simp [spec_JoinRanked.j0]
    · obtain ⟨k, rfl⟩ := succOf (show 0 < k by omega)
      unfold impl_JoinRanked.f
      rw [isRankedI s x x2 x3 (k + 1) h1 h2 h3 (by omega), Option.bind_some, decide_eq_false c1, if_neg (by simp)]
      simp [impl_JoinRanked.j0]

theorem szIntS (l : List Int) (a : Int) (h : l.length ≤ 9223372036854775807) (ha : 0 ≤ a) (ha2 : a ≤ 1048576) : laws_szIntS.f l a = some (if a - l.length < 0 then -1 else a - l.length) := by
  unfold laws_szIntS.f; rw [w64 (by omega) (by omega)]; split <;> rfl
theorem szBits (s : Int) (l : List Int) (a : Int) (h : l.length ≤ 9223372036854775807) (ha : 0 ≤ a) (ha2 : a ≤ 1048576) : laws_szBits.f s l a = some (if a - l.length < 0 then -1 else a - l.length) := by
  unfold laws_szBits.f; rw [szIntS l a h ha ha2, Option.bind_some]
  by_cases c : a - l.length < 0
  · rw [if_pos c, if_pos (by omega)]
  · rw [if_neg c, if_neg c]

theorem szRanked (s : Int) (l l2 l3 : List Int) (a : Int) (h : l.length ≤ 9223372036854775807) (h2 : l2.length ≤ 9223372036854775807) (h3 : l3.length ≤ 9223372036854775807) (ha : 0 ≤ a) (ha2 : a ≤ 1048576) :
    ∃ r : Int, laws_szRanked.f s l l2 l3 a = some r ∧ (0 ≤ r → r = a - l.length - l2.length - l3.length) := by
  unfold laws_szRanked.f
  rw [szBits s l a (by omega) ha ha2, Option.bind_some]
  by_cases c : a - l.length < 0
  · rw [if_pos c, if_pos (by omega)]; exact ⟨-1, rfl, fun h => by omega⟩
  · rw [if_neg c, if_neg c, szIntS l2 _ (by omega) (by omega) (by omega), Option.bind_some]
    by_cases c2 : a - l.length - l2.length < 0
    · rw [if_pos c2, if_pos (by omega)]; exact ⟨-1, rfl, fun h => by omega⟩
    · rw [if_neg c2, if_neg c2, szIntS l3 _ (by omega) (by omega) (by omega), Option.bind_some]
      by_cases c3 : a - l.length - l2.length - l3.length < 0
      · rw [if_pos c3, if_pos (by omega)]; exact ⟨-1, rfl, fun h => by omega⟩
      · rw [if_neg c3, if_neg c3]; exact ⟨_, rfl, fun _ => rfl⟩

theorem toIntS_l (a : List Int) (ha : a.length < 9223372036854775807) (d : Nat) : ∀ (k i : Nat) (x : List Int), x.length = a.length → x.take i = a.take i → i ≤ a.length → a.length - i = d → d < k →
    laws_toIntS.l0 k a x i = some a := by
  induction d with
  | zero =>
    intro k i x hx hp h1 hd hk
    obtain ⟨k, rfl⟩ := succOf hk
    simp only [laws_toIntS.l0]
    rw [if_neg (by omega)]
    rw [List.take_of_length_le (by omega), List.take_of_length_le (by omega)] at hp
    rw [hp]
  | succ d ih =>
    intro k i x hx hp h1 hd hk
    obtain ⟨k, rfl⟩ := succOf hk
    simp only [laws_toIntS.l0]
    have e1 : rd a i = a[i]'(by omega) := by simp [rd, List.getD_eq_getElem?_getD, List.getElem?_eq_getElem (show i < a.length by omega)]
    have h2 := ih k (i+1) (x.set i (a[i]'(by omega))) (by simp [hx]) (by
      have e3 : List.take (i + 1) a = List.take i a ++ [a[i]'(by omega)] := List.take_succ_eq_append_getElem (by omega)
      rw [e3, List.take_succ_eq_append_getElem (by simp; omega), List.take_set_of_le (Nat.le_refl _), hp]
      simp) (by omega) (by omega) (by omega)
    rw [if_pos (by omega), if_pos (by omega), if_pos (by omega), w64n i (by omega), e1]
    simpa using h2
theorem toIntS_f (a : List Int) (k : Nat) (ha : a.length ≤ 35184372088832) (hk : a.length < k) : laws_toIntS.f k a = some a := by
  unfold laws_toIntS.f
  rw [if_pos (by omega), if_pos (by omega)]
  exact toIntS_l a (by omega) a.length k 0 _ (by simp) (by simp) (by omega) (by omega) hk

theorem toBits_f (s : Int) (a : List Int) (k : Nat) (ha : a.length ≤ 35184372088832) (hk : a.length < k) : laws_toBits.f k s a = some (s, a) := by
  unfold laws_toBits.f; rw [toIntS_f a k ha hk]; rfl

theorem toRanked_f (s : Int) (l l2 l3 : List Int) (k : Nat) (h : l.length ≤ 35184372088832) (h2 : l2.length ≤ 35184372088832) (h3 : l3.length ≤ 35184372088832) (hk : l.length < k) (hk2 : l2.length < k) (hk3 : l3.length < k) :
    laws_toRanked.f k s l l2 l3 = some (s, l, l2, l3) := by
  unfold laws_toRanked.f; rw [toBits_f s l k h hk, toIntS_f l2 k h2 hk2, toIntS_f l3 k h3 hk3]; rfl

theorem eqIntS_l (a b : List Int) (hl : a.length = b.length) (ha : a.length < 9223372036854775807) (d : Nat) : ∀ (k i : Nat), i ≤ a.length → a.length - i = d → d < k →
    laws_eqIntS.l0 k a b i = some (decide (a.drop i = b.drop i)) := by
  induction d with
  | zero =>
    intro k i h1 hd hk
    obtain ⟨k, rfl⟩ := succOf hk
    simp only [laws_eqIntS.l0]
    rw [if_neg (by omega), List.drop_eq_nil_of_le (by omega), List.drop_eq_nil_of_le (by omega)]; simp
  | succ d ih =>
    intro k i h1 hd hk
    obtain ⟨k, rfl⟩ := succOf hk
    simp only [laws_eqIntS.l0]
    have h2 := ih k (i+1) (by omega) (by omega) (by omega)
    have e1 : rd a i = a[i]'(by omega) := by simp [rd, List.getD_eq_getElem?_getD, List.getElem?_eq_getElem (show i < a.length by omega)]
    have e2 : rd b i = b[i]'(by omega) := by simp [rd, List.getD_eq_getElem?_getD, List.getElem?_eq_getElem (show i < b.length by omega)]
    have e3 := List.drop_eq_getElem_cons (show i < a.length by omega)
    have e4 := List.drop_eq_getElem_cons (show i < b.length by omega)
    rw [if_pos (by omega), if_pos (by omega), if_pos (by omega), e1, e2, w64n i (by omega), h2, e3, e4]
    clear e3 e4 h2 ih
    split <;> simp only [List.cons.injEq, *, true_and, false_and, decide_false]
theorem eqIntS_f (a b : List Int) (k : Nat) (ha : a.length < 9223372036854775807) (hk : a.length < k) : laws_eqIntS.f k a b = some (decide (a = b)) := by
  unfold laws_eqIntS.f
  split
  · have h := eqIntS_l a b (by omega) ha a.length k 0 (by omega) (by omega) hk
    simpa using h
  · have : a ≠ b := by intro h; subst h; simp_all
    simp [this]
theorem eqIntS_same (a : List Int) (k : Nat) (ha : a.length < 9223372036854775807) (hk : a.length < k) : laws_eqIntS.f k a a = some true := by
  rw [eqIntS_f a a k ha hk]; simp

theorem eqBits_f (s t : Int) (a b : List Int) (k : Nat) (ha : a.length < 9223372036854775807) (hk : a.length < k) : laws_eqBits.f k s a t b = some (decide (s = t ∧ a = b)) := by
  unfold laws_eqBits.f
  split
  · rw [eqIntS_f a b k ha hk, Option.bind_some]
    by_cases h : a = b <;> simp [*]
  · simp [*]
theorem eqBits_same (s : Int) (a : List Int) (k : Nat) (ha : a.length < 9223372036854775807) (hk : a.length < k) : laws_eqBits.f k s a s a = some true := by
  rw [eqBits_f s s a a k ha hk]; simp

theorem eqRanked_same (s : Int) (l l2 l3 : List Int) (k : Nat) (h : l.length < 9223372036854775807) (h2 : l2.length < 9223372036854775807) (h3 : l3.length < 9223372036854775807) (hk : l.length < k) (hk2 : l2.length < k) (hk3 : l3.length < k) :
    laws_eqRanked.f k s l l2 l3 s l l2 l3 = some true := by
  unfold laws_eqRanked.f; rw [eqBits_same s l k h hk, Option.bind_some, if_pos rfl, eqIntS_same l2 k h2 hk2, Option.bind_some, if_pos rfl, eqIntS_same l3 k h3 hk3]; rfl

def marks : Nat → Nat → List Int
  | 0, _ => []
  | n + 1, m => (m : Int) :: marks n (m + 1)
theorem marks_len (n : Nat) : ∀ m, (marks n m).length = n := by
  induction n with
  | zero => intro m; rfl
  | succ n ih => intro m; simp [marks, ih]

theorem markIntS_l (n : Nat) (hn : n < 9223372036854775807) (d : Nat) : ∀ (k i m : Nat) (x : List Int), x.length = n → i ≤ n → m + (n - i) ≤ 9223372036854775807 → n - i = d → d < k →
    laws_markIntS.l0 k x m i = some (((m + (n - i) : Nat) : Int), x.take i ++ marks (n - i) m) := by
  induction d with
  | zero =>
    intro k i m x hx h1 hm hd hk
    obtain ⟨k, rfl⟩ := succOf hk
    simp only [laws_markIntS.l0]
    rw [if_neg (by omega), hd, List.take_of_length_le (by omega)]; simp [marks]
  | succ d ih =>
    intro k i m x hx h1 hm hd hk
    obtain ⟨k, rfl⟩ := succOf hk
    simp only [laws_markIntS.l0]
    have h2 := ih k (i+1) (m+1) (x.set i m) (by simp [hx]) (by omega) (by omega) (by omega) (by omega)
    have e1 : n - i = (n - (i+1)) + 1 := by omega
    rw [if_pos (by omega), if_pos (by omega), w64n i (by omega), w64n m (by omega), Int.toNat_natCast, h2]
    rw [e1, marks, List.take_succ_eq_append_getElem (by simp; omega), List.take_set_of_le (Nat.le_refl _)]
    simp only [List.getElem_set_self, List.append_assoc, List.cons_append, List.nil_append]
    congr 3
    omega
theorem markIntS_f (x : List Int) (m k : Nat) (hm : m + x.length ≤ 9223372036854775806) (hk : x.length < k) : laws_markIntS.f k x m = some (((m + x.length : Nat) : Int), marks x.length m) := by
  unfold laws_markIntS.f
  have h := markIntS_l x.length (by omega) x.length k 0 m x rfl (by omega) (by omega) (by omega) hk
  simpa using h
theorem markIntS_1 (x : List Int) (k : Nat) (hm : x.length ≤ 9223372036854775800) (hk : x.length < k) : laws_markIntS.f k x 1 = some (((1 + x.length : Nat) : Int), marks x.length 1) :=
  markIntS_f x 1 k (by omega) hk

theorem markBits_f (s : Int) (x : List Int) (m k : Nat) (hm : m + x.length ≤ 9223372036854775806) (hk : x.length < k) : laws_markBits.f k s x m = some (((m + x.length : Nat) : Int), marks x.length m) := by
  unfold laws_markBits.f; rw [markIntS_f x m k hm hk]; rfl
theorem markBits_1 (s : Int) (x : List Int) (k : Nat) (hm : x.length ≤ 9223372036854775800) (hk : x.length < k) : laws_markBits.f k s x 1 = some (((1 + x.length : Nat) : Int), marks x.length 1) :=
  markBits_f s x 1 k (by omega) hk

theorem markRanked_1 (s : Int) (l l2 l3 : List Int) (k : Nat) (h : l.length ≤ 1048576) (h2 : l2.length ≤ 1048576) (h3 : l3.length ≤ 1048576) (hk : 1048576 < k) :
    laws_markRanked.f k s l l2 l3 1 = some (((1 + l.length + l2.length + l3.length : Nat) : Int), marks l.length 1, marks l2.length (1 + l.length), marks l3.length (1 + l.length + l2.length)) := by
  unfold laws_markRanked.f
  rw [markBits_1 s l k (by omega) (by omega), Option.bind_some]
  simp only []
  rw [markIntS_f l2 (1 + l.length) k (by omega) (by omega), Option.bind_some]
  simp only []
  rw [markIntS_f l3 (1 + l.length + l2.length) k (by omega) (by omega), Option.bind_some]

theorem heldIntS_l (x : List Int) (hn : x.length < 9223372036854775807) (d : Nat) : ∀ (k i m : Nat), i ≤ x.length → m + (x.length - i) ≤ 9223372036854775807 → x.drop i = marks (x.length - i) m → x.length - i = d → d < k →
    laws_heldIntS.l0 k x m i = some ((m + (x.length - i) : Nat) : Int) := by
  induction d with
  | zero =>
    intro k i m h1 hm hx hd hk
    obtain ⟨k, rfl⟩ := succOf hk
    simp only [laws_heldIntS.l0]
    rw [if_neg (by omega), hd]; simp
  | succ d ih =>
    intro k i m h1 hm hx hd hk
    obtain ⟨k, rfl⟩ := succOf hk
    simp only [laws_heldIntS.l0]
    have e1 : x.length - i = (x.length - (i+1)) + 1 := by omega
    rw [e1, marks, List.drop_eq_getElem_cons (show i < x.length by omega)] at hx
    have e3 := (List.cons.inj hx).1
    have h2 := ih k (i+1) (m+1) (by omega) (by omega) (List.cons.inj hx).2 (by omega) (by omega)
    have e2 : rd x i = m := by rw [← e3]; simp [rd, List.getD_eq_getElem?_getD, List.getElem?_eq_getElem (show i < x.length by omega)]
    rw [if_pos (by omega), if_pos (by omega), if_pos e2, w64n i (by omega), w64n m (by omega), h2]
    simp; omega
theorem heldIntS_f (n m k : Nat) (hm : m + n ≤ 9223372036854775806) (hk : n < k) : laws_heldIntS.f k (marks n m) m = some ((m + n : Nat) : Int) := by
  unfold laws_heldIntS.f
  have h := heldIntS_l (marks n m) (by rw [marks_len]; omega) n k 0 m (by omega) (by rw [marks_len]; omega) (by rw [marks_len]; simp) (by rw [marks_len]; omega) hk
  rw [marks_len] at h
  simpa using h
theorem heldIntS_1 (n k : Nat) (hm : n ≤ 9223372036854775800) (hk : n < k) : laws_heldIntS.f k (marks n 1) 1 = some ((1 + n : Nat) : Int) :=
  heldIntS_f n 1 k (by omega) hk

theorem heldBits_f (s : Int) (n m k : Nat) (hm : m + n ≤ 9223372036854775806) (hk : n < k) : laws_heldBits.f k s (marks n m) m = some ((m + n : Nat) : Int) := by
  unfold laws_heldBits.f; rw [heldIntS_f n m k hm hk, Option.bind_some, if_neg (by omega)]
theorem heldBits_1 (s : Int) (n k : Nat) (hm : n ≤ 9223372036854775800) (hk : n < k) : laws_heldBits.f k s (marks n 1) 1 = some ((1 + n : Nat) : Int) :=
  heldBits_f s n 1 k (by omega) hk

theorem heldRanked_1 (s : Int) (n n2 n3 k : Nat) (h : n ≤ 1048576) (h2 : n2 ≤ 1048576) (h3 : n3 ≤ 1048576) (hk : 1048576 < k) :
    laws_heldRanked.f k s (marks n 1) (marks n2 (1 + n)) (marks n3 (1 + n + n2)) 1 = some ((1 + n + n2 + n3 : Nat) : Int) := by
  unfold laws_heldRanked.f
  rw [heldBits_1 s n k (by omega) (by omega), Option.bind_some, if_neg (by omega), heldIntS_f n2 (1 + n) k (by omega) (by omega), Option.bind_some, if_neg (by omega), heldIntS_f n3 (1 + n + n2) k (by omega) (by omega), Option.bind_some, if_neg (by omega)]

theorem markRanked_f (s : Int) (l l2 l3 : List Int) (m k : Nat) (hm : m + l.length + l2.length + l3.length ≤ 9223372036854775806) (hk : l.length < k) (hk2 : l2.length < k) (hk3 : l3.length < k) :
    laws_markRanked.f k s l l2 l3 m = some (((m + l.length + l2.length + l3.length : Nat) : Int), marks l.length m, marks l2.length (m + l.length), marks l3.length (m + l.length + l2.length)) := by
  unfold laws_markRanked.f
  rw [markBits_f s l m k (by omega) hk, Option.bind_some]
  simp only []
  rw [markIntS_f l2 (m + l.length) k (by omega) hk2, Option.bind_some]
  simp only []
  rw [markIntS_f l3 (m + l.length + l2.length) k (by omega) hk3, Option.bind_some]
theorem FnExactJoinRanked : laws_FnExactJoinRanked.Pure := by
  intro s x x2 x3 t y y2 y3 _ m1 _ m2 _ m3 _ _ n1 _ n2 _ n3 _
  have m1' : x.length ≤ 9223372036854775807 := by unfold maxLen at m1; omega
  have m2' : x2.length ≤ 9223372036854775807 := by unfold maxLen at m2; omega
  have m3' : x3.length ≤ 9223372036854775807 := by unfold maxLen at m3; omega
  have n1' : y.length ≤ 9223372036854775807 := by unfold maxLen at n1; omega
  have n2' : y2.length ≤ 9223372036854775807 := by unfold maxLen at n2; omega
  have n3' : y3.length ≤ 9223372036854775807 := by unfold maxLen at n3; omega
  clear m1 m2 m3 n1 n2 n3
  obtain ⟨k, hk⟩ : ∃ k, k = 2300000 := ⟨_, rfl⟩
  refine ⟨k + 4, ?_⟩
  unfold laws_FnExactJoinRanked.f
  obtain ⟨p, ep, hp⟩ := szRanked s x x2 x3 1048576 m1' m2' m3' (by omega) (by omega)
  rw [ep, Option.bind_some]
  by_cases hb : p < 0
  · rw [if_pos hb]
  have hp' := hp (by omega)
  rw [if_neg hb]
  obtain ⟨q, eq, hq⟩ := szRanked t y y2 y3 p n1' n2' n3' (by omega) (by omega)
  rw [eq, Option.bind_some]
  by_cases hb2 : q < 0
  · rw [if_pos hb2]
  have hq' := hq (by omega)
  rw [if_neg hb2]
  obtain ⟨⟨r0, r1, r2, r3, rb⟩, _, g1, g2, g3, eS, eI⟩ := jrBoth s x x2 x3 t y y2 y3 (by omega) (by omega) (by omega) (by omega) (by omega) (by omega)
  simp only at g1 g2 g3
  have eT (fu : Nat) (hj : 2200000 ≤ fu) : laws_toRanked.f fu s x x2 x3 = some (s, x, x2, x3) := toRanked_f s x x2 x3 fu (by omega) (by omega) (by omega) (by omega) (by omega) (by omega)
  have eT2 (fu : Nat) (hj : 2200000 ≤ fu) : laws_toRanked.f fu t y y2 y3 = some (t, y, y2, y3) := toRanked_f t y y2 y3 fu (by omega) (by omega) (by omega) (by omega) (by omega) (by omega)
  have eE (fu : Nat) (hj : 2200000 ≤ fu) : laws_eqRanked.f fu s x x2 x3 s x x2 x3 = some true := eqRanked_same s x x2 x3 fu (by omega) (by omega) (by omega) (by omega) (by omega) (by omega)
  have eE2 (fu : Nat) (hj : 2200000 ≤ fu) : laws_eqRanked.f fu t y y2 y3 t y y2 y3 = some true := eqRanked_same t y y2 y3 fu (by omega) (by omega) (by omega) (by omega) (by omega) (by omega)
  have eQ (fu : Nat) (hj : 2200000 ≤ fu) : laws_eqRanked.f fu r0 r1 r2 r3 r0 r1 r2 r3 = some true := eqRanked_same r0 r1 r2 r3 fu (by omega) (by omega) (by omega) (by omega) (by omega) (by omega)
  have eM (fu : Nat) (hj : 2200000 ≤ fu) := markRanked_1 s x x2 x3 fu (by omega) (by omega) (by omega) (by omega)
  have eM2 (fu : Nat) (hj : 2200000 ≤ fu) := markRanked_f t y y2 y3 (1 + x.length + x2.length + x3.length) fu (by omega) (by omega) (by omega) (by omega)
  have eN (fu : Nat) (hj : 2200000 ≤ fu) := markRanked_1 r0 r1 r2 r3 fu (by omega) (by omega) (by omega) (by omega)
  have eH (fu : Nat) (hj : 2200000 ≤ fu) := heldRanked_1 r0 r1.length r2.length r3.length fu (by omega) (by omega) (by omega) (by omega)
  have n1 : ¬ (((1 + x.length + x2.length + x3.length + y.length + y2.length + y3.length : Nat) : Int) < 0) := by omega
  have n2 : ¬ (((1 + r1.length + r2.length + r3.length : Nat) : Int) < 0) := by omega
  rw [eT _ (by omega), Option.bind_some, eT2 _ (by omega), Option.bind_some, eS _ (by omega), Option.bind_some, Option.bind_some, Option.bind_some, eI _ (by omega), Option.bind_some, eQ _ (by omega), Option.bind_some, if_pos rfl]
  simp only [laws_FnExactJoinRanked.j0]
  rw [if_neg (by simp), eT _ (by omega), Option.bind_some, eE _ (by omega), Option.bind_some, if_pos rfl, eT2 _ (by omega), Option.bind_some, eE2 _ (by omega), Option.bind_some, if_pos rfl, eM _ (by omega), Option.bind_some, eM2 _ (by omega), Option.bind_some, if_neg n1, eQ _ (by omega), Option.bind_some, if_pos rfl]
  simp only [laws_FnExactJoinRanked.j1]
  rw [if_neg (by simp), eN _ (by omega), Option.bind_some, eH _ (by omega), Option.bind_some, if_neg n2, if_pos rfl, eT _ (by omega), Option.bind_some, eT2 _ (by omega), Option.bind_some, eI _ (by omega), Option.bind_some, eQ _ (by omega), Option.bind_some, if_pos rfl]
  simp only [laws_FnExactJoinRanked.j2]
  rw [if_neg (by simp), eH _ (by omega), Option.bind_some, if_neg n2, if_pos rfl]

end Go.Proofs.Ytkmhjgejficclaa.Pure
