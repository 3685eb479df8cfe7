/- ParseBits of the program and of the reference answer the same, and two answers share no memory, for every text (longer ones than 2^20 bytes are not asked). -/
import Derived.Test.YtkmhjgejficclaaDoorPFnExactParseBitsx4
namespace Go.Proofs.YtkmhjgejficclaaDoor.Pure
open Go.RowKit Go.Proofs.YtkmhjgejficclaaDoor.PFnExactParseBits Go.Proofs.YtkmhjgejficclaaDoorW.PrintWords Go.Proofs.YtkmhjgejficclaaDoorW.PrintLast Go.Proofs.YtkmhjgejficclaaDoorW.PrintMore
set_option linter.unusedVariables false
set_option linter.unusedSimpArgs false

theorem w64 {x : Int} (h1 : -9223372036854775808 ≤ x) (h2 : x ≤ 9223372036854775807) : wrap64 x = x := by unfold wrap64; omega
theorem w64n (i : Nat) (h : i < 9223372036854775807) : wrap64 ((i : Int) + 1) = ((i + 1 : Nat) : Int) := by rw [w64 (by omega) (by omega)]; rfl
theorem succOf {k d : Nat} (h : d < k) : ∃ m, k = m + 1 := ⟨k - 1, by omega⟩

def Dig (s : ByteArray) (j : Nat) : Prop := bt s (j : Int) = 48 ∨ bt s (j : Int) = 49
def digs (s : ByteArray) (n : Nat) : List Bool := (List.range n).map fun j : Nat => bt s (j : Int) == 49
theorem dropW_nil (l : List UInt8) (p : UInt8 → Bool) : l.dropWhile p = [] ↔ ∀ x ∈ l, p x = true := by
  induction l with
  | nil => simp
  | cons a l ih =>
    by_cases c : p a = true
    · rw [List.dropWhile_cons_of_pos c, ih]; simp [c]
    · rw [List.dropWhile_cons_of_neg c]; simp [c]
theorem trim_nil (l : List UInt8) : Lib.trimS l [48, 49] = [] ↔ ∀ x ∈ l, x = 48 ∨ x = 49 := by
  have hp : ∀ x : UInt8, ([48, 49] : List UInt8).contains x = true ↔ x = 48 ∨ x = 49 := fun x => by simp
  unfold Lib.trimS Lib.trimLeftS Lib.trimRightS
  constructor
  · intro h
    rw [dropW_nil] at h
    by_cases e : l.reverse.dropWhile (([48, 49] : List UInt8).contains ·) = []
    · rw [dropW_nil] at e
      exact fun x hx => (hp x).mp (e x (List.mem_reverse.mpr hx))
    · have h1 := List.head_dropWhile_not (([48, 49] : List UInt8).contains ·) e
      have h2 := h ((l.reverse.dropWhile (([48, 49] : List UInt8).contains ·)).head e) (List.mem_reverse.mpr (List.head_mem e))
      rw [h1] at h2; cases h2
  · intro h
    have e : l.reverse.dropWhile (([48, 49] : List UInt8).contains ·) = [] := (dropW_nil _ _).mpr fun x hx => (hp x).mpr (h x (List.mem_reverse.mp hx))
    rw [e]; rfl
theorem dig_mem (s : ByteArray) : (∀ x ∈ s.data.toList, x = 48 ∨ x = 49) ↔ ∀ j, j < s.size → Dig s j := by
  have hb : ∀ (j : Nat) (h : j < s.size), bt s (j : Int) = ((s[j]'h).toNat : Int) := fun j h => (bt_at s (j : Int) (by rw [Int.toNat_natCast]; exact h)).symm
  constructor
  · intro h j hj
    have m : (s[j]'hj) ∈ s.data.toList := by
      rw [Array.mem_toList_iff]; exact Array.getElem_mem hj
    unfold Dig
    rw [hb j hj]
    rcases h _ m with e | e <;> rw [e] <;> simp
  · intro h x hx
    rw [Array.mem_toList_iff] at hx
    obtain ⟨j, hj, e⟩ := Array.getElem_of_mem hx
    have hj' : j < s.size := hj
    have e' : (s[j]'hj') = x := e
    have d := h j hj'
    unfold Dig at d
    rw [hb j hj', e'] at d
    rcases d with d | d
    · left; apply UInt8.toNat_inj.mp; have : x.toNat = 48 := by omega
      rw [this]; rfl
    · right; apply UInt8.toNat_inj.mp; have : x.toNat = 49 := by omega
      rw [this]; rfl

theorem rd_mid (p s : List Int) (x : Int) : rd (p ++ x :: s) (p.length : Int) = x := by
  simp [rd, List.getD_eq_getElem?_getD]
theorem rd_last (p s : List Int) (x : Int) (i : Int) (h : i = p.length) : rd (p ++ x :: s) i = x := by
  subst h; exact rd_mid p s x

theorem shl64 (x y : Int) (h0 : 0 ≤ y) (h1 : y ≤ 63) : shl .i64 x y = wrap64 (x * 2 ^ y.toNat) := by
  unfold shl wrap64; rw [Nat.min_eq_left (by simp only [IntKind.bits]; omega), IntKind.wrap_i64]
theorem shr64 (x y : Int) (h0 : 0 ≤ y) (h1 : y ≤ 63) : shr .i64 x y = x / 2 ^ y.toNat := by
  unfold shr; rw [Nat.min_eq_left (by simp only [IntKind.bits]; omega)]

/-- the bit i of a row of words -/
def bitAt (ws : List Int) (i : Nat) : Bool := decide ((ws.getD (i / 16) 0 / 2 ^ (i % 16)) % 2 = 1)
/-- what a vector of bits keeps -/
def Good (s : Int) (ws : List Int) : Prop :=
  0 ≤ s ∧ s ≤ 4096 ∧ (ws.length : Int) = (s + 15) / 16 ∧ (∀ w ∈ ws, 0 ≤ w ∧ w ≤ 65535) ∧ (s % 16 = 0 ∨ ws.getD (ws.length - 1) 0 / 2 ^ (s % 16).toNat = 0)
instance (s : Int) (ws : List Int) : Decidable (Good s ws) := by unfold Good; infer_instance
theorem i64_small (n : Int) (h0 : 0 ≤ n) (h1 : n < 2 ^ 62) : IntKind.i64.wrap n = n := by rw [IntKind.wrap_i64]; omega
theorem and1 (x : Int) (h0 : 0 ≤ x) (h1 : x < 2 ^ 62) : Go.bits .and .i64 x 1 = x % 2 := bits_mask .i64 62 (by decide) i64_small 1 (by decide) x h0 h1
theorem word_range (ws : List Int) (hw : ∀ w ∈ ws, 0 ≤ w ∧ w ≤ 65535) (j : Nat) : 0 ≤ ws.getD j 0 ∧ ws.getD j 0 ≤ 65535 := by
  by_cases h : j < ws.length
  · rw [List.getD_eq_getElem?_getD, List.getElem?_eq_getElem h]; exact hw _ (List.getElem_mem h)
  · rw [List.getD_eq_getElem?_getD, List.getElem?_eq_none (by omega)]; simp
theorem div_pow_range (x : Int) (j : Nat) (h : 0 ≤ x ∧ x ≤ 65535) : 0 ≤ x / 2 ^ j ∧ x / 2 ^ j ≤ 65535 := by
  have hp : (0 : Int) < 2 ^ j := Int.pow_pos (by omega)
  exact ⟨Int.ediv_nonneg h.1 (by omega), Int.le_trans (Int.ediv_le_self _ h.1) h.2⟩
theorem at_eq (ws : List Int) (i : Nat) (h : i / 16 < ws.length) (hw : ∀ w ∈ ws, 0 ≤ w ∧ w ≤ 65535) (hi : i < 4611686018427387904) :
    (if 0 ≤ (wrap64 (Int.tdiv (i : Int) 16)) then (if (wrap64 (Int.tdiv (i : Int) 16)) < (ws.length : Int) then (if 0 ≤ (Int.tmod (i : Int) 16) then (some ((Go.bits .and .i64 (shr .i64 (rd ws (wrap64 (Int.tdiv (i : Int) 16))) (Int.tmod (i : Int) 16)) 1) == 1)) else (none)) else (none)) else (none)) = some (bitAt ws i) := by
  have e1 : wrap64 (Int.tdiv (i : Int) 16) = ((i / 16 : Nat) : Int) := by
    rw [Int.tdiv_eq_ediv_of_nonneg (by omega), w64 (by omega) (by omega)]; omega
  have e2 : Int.tmod (i : Int) 16 = ((i % 16 : Nat) : Int) := by
    rw [Int.tmod_eq_emod_of_nonneg (by omega)]; omega
  have e3 : rd ws ((i / 16 : Nat) : Int) = ws.getD (i / 16) 0 := by unfold rd; rw [Int.toNat_natCast]
  have hr := div_pow_range _ (i % 16) (word_range ws hw (i / 16))
  rw [e1, e2, if_pos (by omega), if_pos (by omega), if_pos (by omega), e3, shr64 _ _ (by omega) (by omega), Int.toNat_natCast, and1 _ hr.1 (by omega)]
  rfl
/-- how the last word is asked -/
theorem last_eq (s : Int) (ws : List Int) (h0 : 0 ≤ s) (h1 : s ≤ 4096) (hl : (ws.length : Int) = (s + 15) / 16) :
    (if (Int.tmod s 16) = 0 then (some true) else (if 0 ≤ (wrap64 ((ws.length : Int) - 1)) then (if (wrap64 ((ws.length : Int) - 1)) < (ws.length : Int) then (if 0 ≤ (Int.tmod s 16) then (some ((shr .i64 (rd ws (wrap64 ((ws.length : Int) - 1))) (Int.tmod s 16)) == 0)) else (none)) else (none)) else (none))) =
      some (decide (s % 16 = 0 ∨ ws.getD (ws.length - 1) 0 / 2 ^ (s % 16).toNat = 0)) := by
  have e2 : Int.tmod s 16 = s % 16 := Int.tmod_eq_emod_of_nonneg h0
  rw [e2]
  by_cases c : s % 16 = 0
  · rw [if_pos c]; simp [c]
  · rw [if_neg c, w64 (by omega) (by omega), if_pos (by omega), if_pos (by omega), if_pos (by omega), shr64 _ _ (by omega) (by omega)]
    have e3 : rd ws ((ws.length : Int) - 1) = ws.getD (ws.length - 1) 0 := by
      unfold rd; rw [show ((ws.length : Int) - 1).toNat = ws.length - 1 from by omega]
    rw [e3]; simp only [c, false_or]; rfl
theorem good_words (s : Int) (ws : List Int) (h : Good s ws) : ∀ w ∈ ws, 0 ≤ w ∧ w ≤ 65535 := h.2.2.2.1
theorem good_place {s : Int} {ws : List Int} (h : Good s ws) (i : Nat) (hi : (i : Int) < s) : i / 16 < ws.length ∧ i < 4096 := by
  obtain ⟨h0, h1, h2, _⟩ := h; omega
theorem words_eq (s : Int) (h0 : 0 ≤ s) (h1 : s ≤ 4096) : wrap64 (Int.tdiv (wrap64 (s + 15)) 16) = (s + 15) / 16 := by
  rw [w64 (x := s + 15) (by omega) (by omega), Int.tdiv_eq_ediv_of_nonneg (by omega), w64 (by omega) (by omega)]
theorem words_eq2 (s : Int) (h0 : 0 ≤ s) (h1 : s ≤ 4096) : wrap64 (Int.tdiv (wrap64 (wrap64 (s + 16) - 1)) 16) = (s + 15) / 16 := by
  rw [w64 (x := s + 16) (by omega) (by omega), show s + 16 - 1 = s + 15 from by omega]; exact words_eq s h0 h1

/-- the value of w bits from a on -/
def fieldV (b : Nat → Bool) (a : Nat) : Nat → Int
  | 0 => 0
  | w + 1 => fieldV b a w + (if b (a + w) = true then 2 ^ w else 0)
theorem fieldV_range (b : Nat → Bool) (a w : Nat) : 0 ≤ fieldV b a w ∧ fieldV b a w < 2 ^ w := by
  induction w with
  | zero => simp [fieldV]
  | succ w ih =>
    have hp : (0 : Int) < 2 ^ w := Int.pow_pos (by omega)
    have e : (2 : Int) ^ (w + 1) = 2 ^ w * 2 := Int.pow_succ 2 w
    simp only [fieldV]
    split <;> omega
theorem fieldV_head (b : Nat → Bool) (w : Nat) : ∀ a, fieldV b a (w + 1) = (if b a = true then 1 else 0) + 2 * fieldV b (a + 1) w := by
  induction w with
  | zero => intro a; simp [fieldV]
  | succ w ih =>
    intro a
    rw [fieldV, ih a]
    have e : (2 : Int) ^ (w + 1) = 2 ^ w * 2 := Int.pow_succ 2 w
    simp only [fieldV]
    rw [show a + 1 + w = a + (w + 1) from by omega]
    split <;> split <;> omega
/-- what ReadField answers -/
def fieldAns (s : Int) (ws : List Int) (a w : Int) : Int × Bool := if Good s ws ∧ (0 ≤ w ∧ w ≤ 24) ∧ 0 ≤ a ∧ a ≤ s - w then (fieldV (bitAt ws) a.toNat w.toNat, true) else (0, false)
theorem or_pow (x : Int) (j : Nat) (h0 : 0 ≤ x) (h1 : x < 2 ^ j) (hj : j < 60) : Go.bits .or .i64 x (2 ^ j) = x + 2 ^ j := by
  obtain ⟨a, rfl⟩ := Int.eq_ofNat_of_zero_le h0
  have ha : a < 2 ^ j := by exact_mod_cast h1
  have hj2 : 2 ^ j < 2 ^ 62 := Nat.pow_lt_pow_right (by decide) (by omega)
  have hc : ((2 : Int) ^ j) = ((2 ^ j : Nat) : Int) := by simp
  rw [hc, (bits_nat .i64 62 (by decide) i64_small a (2 ^ j) (by omega) hj2).2]
  have e := Nat.two_pow_add_eq_or_of_lt ha 1
  rw [Nat.mul_one] at e
  rw [Nat.or_comm, ← e]; simp; omega
theorem shl_one (j : Nat) (hj : j < 60) : shl .i64 1 (j : Int) = 2 ^ j := by
  rw [shl64 _ _ (by omega) (by omega), Int.toNat_natCast, Int.one_mul]
  have hj2 : 2 ^ j < 2 ^ 62 := Nat.pow_lt_pow_right (by decide) (by omega)
  have hj3 : (2 : Int) ^ j < 2 ^ 62 := by exact_mod_cast hj2
  have hp : (0 : Int) < 2 ^ j := Int.pow_pos (by omega)
  rw [w64 (by omega) (by omega)]

/-- a word, as a number -/
theorem word_nat (ws : List Int) (hw : ∀ w ∈ ws, 0 ≤ w ∧ w ≤ 65535) (j : Nat) : ∃ n : Nat, ws.getD j 0 = (n : Int) ∧ n < 2 ^ 16 := by
  have h := word_range ws hw j
  exact ⟨(ws.getD j 0).toNat, by omega, by omega⟩
theorem bitAt_nat (ws : List Int) (i n : Nat) (h : ws.getD (i / 16) 0 = (n : Int)) : bitAt ws i = n.testBit (i % 16) := by
  unfold bitAt
  rw [h, Nat.testBit_eq_decide_div_mod_eq]
  have e : (n : Int) / 2 ^ (i % 16) % 2 = ((n / 2 ^ (i % 16) % 2 : Nat) : Int) := by simp
  rw [e, decide_eq_decide]; omega
/-- behind the end of a vector no bit stands -/
theorem good_end {s : Int} {ws : List Int} (h : Good s ws) (i : Nat) (hi : s ≤ (i : Int)) : bitAt ws i = false := by
  obtain ⟨h0, h1, h2, h3, h4⟩ := h
  obtain ⟨n, e, hn⟩ := word_nat ws h3 (i / 16)
  rw [bitAt_nat ws i n e]
  by_cases c : i / 16 < ws.length
  · rcases h4 with h4 | h4
    · omega
    · have e1 : i / 16 = ws.length - 1 := by omega
      rw [e1] at e
      rw [e] at h4
      have e2 : (n : Int) / 2 ^ (s % 16).toNat = ((n / 2 ^ (s % 16).toNat : Nat) : Int) := by simp
      rw [e2] at h4
      have h5 : n < 2 ^ (s % 16).toNat := by
        have hp : 0 < 2 ^ (s % 16).toNat := Nat.two_pow_pos _
        exact (Nat.div_eq_zero_iff_lt hp).mp (by omega)
      exact Nat.testBit_lt_two_pow (Nat.lt_of_lt_of_le h5 (Nat.pow_le_pow_right (by decide) (by omega)))
  · rw [List.getD_eq_getElem?_getD, List.getElem?_eq_none (by omega)] at e
    have : n = 0 := by simp at e; omega
    subst this; simp
/-- two vectors with the same bits are the same -/
theorem good_ext {s : Int} {ws ws' : List Int} (h : Good s ws) (h' : Good s ws') (hb : ∀ i : Nat, (i : Int) < s → bitAt ws i = bitAt ws' i) : ws = ws' := by
  have hl : ws.length = ws'.length := by have := h.2.2.1; have := h'.2.2.1; omega
  apply List.ext_getElem hl
  intro j c1 c2
  obtain ⟨n, e, hn⟩ := word_nat ws h.2.2.2.1 j
  obtain ⟨n', e', hn'⟩ := word_nat ws' h'.2.2.2.1 j
  have : n = n' := by
    apply Nat.eq_of_testBit_eq
    intro r
    by_cases c : r < 16
    · have a1 := bitAt_nat ws (16 * j + r) n (by rw [show (16 * j + r) / 16 = j from by omega]; exact e)
      have a2 := bitAt_nat ws' (16 * j + r) n' (by rw [show (16 * j + r) / 16 = j from by omega]; exact e')
      rw [show (16 * j + r) % 16 = r from by omega] at a1 a2
      rw [← a1, ← a2]
      by_cases c3 : ((16 * j + r : Nat) : Int) < s
      · exact hb _ c3
      · rw [good_end h _ (by omega), good_end h' _ (by omega)]
    · have hp : 2 ^ 16 ≤ 2 ^ r := Nat.pow_le_pow_right (by decide) (by omega)
      rw [Nat.testBit_lt_two_pow (by omega), Nat.testBit_lt_two_pow (by omega)]
  have g1 : ws.getD j 0 = ws[j] := by rw [List.getD_eq_getElem?_getD, List.getElem?_eq_getElem c1]; rfl
  have g2 : ws'.getD j 0 = ws'[j] := by rw [List.getD_eq_getElem?_getD, List.getElem?_eq_getElem c2]; rfl
  rw [← g1, ← g2, e, e', this]
/-- goodness by its bits -/
theorem good_of {s : Int} {ws : List Int} (h0 : 0 ≤ s) (h1 : s ≤ 4096) (h2 : (ws.length : Int) = (s + 15) / 16) (h3 : ∀ w ∈ ws, 0 ≤ w ∧ w ≤ 65535) (h4 : ∀ i : Nat, s ≤ (i : Int) → bitAt ws i = false) : Good s ws := by
  refine ⟨h0, h1, h2, h3, ?_⟩
  by_cases c : s % 16 = 0
  · exact Or.inl c
  · refine Or.inr ?_
    obtain ⟨n, e, hn⟩ := word_nat ws h3 (ws.length - 1)
    rw [e]
    have h5 : n < 2 ^ (s % 16).toNat := by
      apply Nat.lt_pow_two_of_testBit
      intro r hr
      by_cases c2 : r < 16
      · have a1 := bitAt_nat ws (16 * (ws.length - 1) + r) n (by rw [show (16 * (ws.length - 1) + r) / 16 = ws.length - 1 from by omega]; exact e)
        rw [show (16 * (ws.length - 1) + r) % 16 = r from by omega] at a1
        rw [← a1]
        exact h4 _ (by omega)
      · have hp : 2 ^ 16 ≤ 2 ^ r := Nat.pow_le_pow_right (by decide) (by omega)
        exact Nat.testBit_lt_two_pow (by omega)
    have e2 : (n : Int) / 2 ^ (s % 16).toNat = ((n / 2 ^ (s % 16).toNat : Nat) : Int) := by simp
    rw [e2, Nat.div_eq_of_lt h5]; rfl
theorem getD_set (ws : List Int) (j k : Nat) (x : Int) : (ws.set j x).getD k 0 = if j = k ∧ j < ws.length then x else ws.getD k 0 := by
  simp only [List.getD_eq_getElem?_getD, List.getElem?_set]
  by_cases c : j = k
  · subst c
    by_cases c2 : j < ws.length
    · simp [c2]
    · simp [c2, List.getElem?_eq_none (show ws.length ≤ j by omega)]
  · simp [c]
theorem or64 (a b : Nat) (ha : a < 2 ^ 16) (hb : b < 2 ^ 16) : Go.bits .or .i64 (a : Int) (b : Int) = ((a ||| b : Nat) : Int) :=
  (bits_nat .i64 62 (by decide) i64_small a b (by omega) (by omega)).2
theorem andNot64 (a b : Nat) (ha : a < 2 ^ 16) (hb : b < 2 ^ 16) : ∃ n : Nat, Go.bits .andNot .i64 (a : Int) (b : Int) = (n : Int) ∧ n < 2 ^ 16 ∧ ∀ r, n.testBit r = (a.testBit r && !b.testBit r) := by
  refine ⟨(BitVec.ofNat 64 a &&& ~~~ BitVec.ofNat 64 b).toNat, ?_, ?_, ?_⟩
  · have hb2 : (BitVec.ofNat 64 a &&& ~~~ BitVec.ofNat 64 b).toNat ≤ a := by
      rw [BitVec.toNat_and, BitVec.toNat_ofNat, Nat.mod_eq_of_lt (by omega)]; exact Nat.and_le_left
    have : Go.bits .andNot .i64 (a : Int) (b : Int) = IntKind.i64.wrap (((BitVec.ofNat 64 a &&& ~~~ BitVec.ofNat 64 b).toNat : Nat) : Int) := by
      simp only [Go.bits, BitVec.ofInt_natCast, IntKind.bits]; rfl
    rw [this, i64_small _ (by omega) (by omega)]
  · have hb2 : (BitVec.ofNat 64 a &&& ~~~ BitVec.ofNat 64 b).toNat ≤ a := by
      rw [BitVec.toNat_and, BitVec.toNat_ofNat, Nat.mod_eq_of_lt (by omega)]; exact Nat.and_le_left
    omega
  · intro r
    have hp : 2 ^ 16 ≤ 2 ^ 64 := by decide
    rw [BitVec.toNat_and, Nat.testBit_and, BitVec.toNat_ofNat, Nat.mod_eq_of_lt (by omega)]
    by_cases c : r < 64
    · congr 1
      rw [BitVec.testBit_toNat, BitVec.getLsbD_not, BitVec.getLsbD_ofNat]; simp [c]
    · have hp : 2 ^ 16 ≤ 2 ^ r := Nat.pow_le_pow_right (by decide) (by omega)
      rw [Nat.testBit_lt_two_pow (show a < 2 ^ r by omega)]; simp
theorem shl_pow (j : Nat) (hj : j < 60) : shl .i64 1 (j : Int) = ((2 ^ j : Nat) : Int) := by rw [shl_one j hj]; simp
/-- a word put in place of another -/
theorem good_put {s : Int} {ws : List Int} (h : Good s ws) (i : Nat) (hi : (i : Int) < s) (n : Nat) (hn : n < 2 ^ 16) (he : ∀ r, r < 16 → s ≤ ((16 * (i / 16) + r : Nat) : Int) → n.testBit r = false) :
    Good s (ws.set (i / 16) (n : Int)) ∧ ∀ k, bitAt (ws.set (i / 16) (n : Int)) k = if k / 16 = i / 16 then n.testBit (k % 16) else bitAt ws k := by
  obtain ⟨p1, p2⟩ := good_place h i hi
  have hb : ∀ k, bitAt (ws.set (i / 16) (n : Int)) k = if k / 16 = i / 16 then n.testBit (k % 16) else bitAt ws k := by
    intro k
    by_cases c : k / 16 = i / 16
    · rw [if_pos c]
      exact bitAt_nat _ _ _ (by rw [getD_set, if_pos ⟨c.symm, p1⟩])
    · rw [if_neg c]
      unfold bitAt
      rw [getD_set, if_neg (by omega)]
  refine ⟨good_of h.1 h.2.1 (by rw [List.length_set]; exact h.2.2.1) ?_ ?_, hb⟩
  · intro w hw
    rcases List.mem_or_eq_of_mem_set hw with hw | hw
    · exact h.2.2.2.1 w hw
    · subst hw; omega
  · intro k hk
    rw [hb]
    by_cases c : k / 16 = i / 16
    · rw [if_pos c]
      exact he (k % 16) (by omega) (by omega)
    · rw [if_neg c]; exact good_end h k hk
theorem tdiv16 (i : Nat) (hi : i < 4611686018427387904) : wrap64 (Int.tdiv (i : Int) 16) = ((i / 16 : Nat) : Int) := by
  rw [Int.tdiv_eq_ediv_of_nonneg (by omega), w64 (by omega) (by omega)]; omega
theorem tmod16 (i : Nat) : Int.tmod (i : Int) 16 = ((i % 16 : Nat) : Int) := by
  rw [Int.tmod_eq_emod_of_nonneg (by omega)]; omega
theorem rdD (ws : List Int) (j : Nat) : rd ws (j : Int) = ws.getD j 0 := by unfold rd; rw [Int.toNat_natCast]
/-- a bit set -/
theorem set_or {s : Int} {ws : List Int} (h : Good s ws) (i : Nat) (hi : (i : Int) < s) : ∃ ws', ws.set (i / 16) (Go.bits .or .i64 (ws.getD (i / 16) 0) (shl .i64 1 ((i % 16 : Nat) : Int))) = ws' ∧ Good s ws' ∧ ∀ k, bitAt ws' k = (decide (k = i) || bitAt ws k) := by
  obtain ⟨a, e, ha⟩ := word_nat ws h.2.2.2.1 (i / 16)
  have hp : 2 ^ (i % 16) < 2 ^ 16 := Nat.pow_lt_pow_right (by decide) (by omega)
  rw [e, shl_pow _ (by omega), or64 a _ ha hp]
  have ho : (a ||| 2 ^ (i % 16)) < 2 ^ 16 := Nat.or_lt_two_pow ha hp
  have tb : ∀ r, (a ||| 2 ^ (i % 16)).testBit r = (decide (r = i % 16) || a.testBit r) := by
    intro r; rw [Nat.testBit_or, Nat.testBit_two_pow, Bool.or_comm]; congr 1; rw [decide_eq_decide]; exact eq_comm
  have hw : ∀ k, k / 16 = i / 16 → a.testBit (k % 16) = bitAt ws k := fun k c => (bitAt_nat ws k a (by rw [c]; exact e)).symm
  obtain ⟨g, gb⟩ := good_put h i hi _ ho (by
    intro r hr hs
    rw [tb]
    have h1 := hw (16 * (i / 16) + r) (by omega)
    rw [show (16 * (i / 16) + r) % 16 = r from by omega, good_end h _ hs] at h1
    rw [h1, Bool.or_false, decide_eq_false_iff_not]; omega)
  refine ⟨_, rfl, g, fun k => ?_⟩
  rw [gb]
  by_cases c : k / 16 = i / 16
  · rw [if_pos c, tb, hw k c]; congr 1; rw [decide_eq_decide]; omega
  · rw [if_neg c, decide_eq_false (by intro e; exact c (by rw [e])), Bool.false_or]
/-- a bit cleared -/
theorem set_andNot {s : Int} {ws : List Int} (h : Good s ws) (i : Nat) (hi : (i : Int) < s) : ∃ ws', ws.set (i / 16) (Go.bits .andNot .i64 (ws.getD (i / 16) 0) (shl .i64 1 ((i % 16 : Nat) : Int))) = ws' ∧ Good s ws' ∧ ∀ k, bitAt ws' k = (!decide (k = i) && bitAt ws k) := by
  obtain ⟨a, e, ha⟩ := word_nat ws h.2.2.2.1 (i / 16)
  have hp : 2 ^ (i % 16) < 2 ^ 16 := Nat.pow_lt_pow_right (by decide) (by omega)
  obtain ⟨n, en, hn, tn⟩ := andNot64 a (2 ^ (i % 16)) ha hp
  rw [e, shl_pow _ (by omega), en]
  have tb : ∀ r, n.testBit r = (!decide (r = i % 16) && a.testBit r) := by
    intro r; rw [tn, Nat.testBit_two_pow, Bool.and_comm]; congr 2; rw [decide_eq_decide]; exact eq_comm
  have hw : ∀ k, k / 16 = i / 16 → a.testBit (k % 16) = bitAt ws k := fun k c => (bitAt_nat ws k a (by rw [c]; exact e)).symm
  obtain ⟨g, gb⟩ := good_put h i hi _ hn (by
    intro r hr hs
    rw [tb]
    have h1 := hw (16 * (i / 16) + r) (by omega)
    rw [show (16 * (i / 16) + r) % 16 = r from by omega, good_end h _ hs] at h1
    rw [h1, Bool.and_false])
  refine ⟨_, rfl, g, fun k => ?_⟩
  rw [gb]
  by_cases c : k / 16 = i / 16
  · rw [if_pos c, tb, hw k c]; congr 2; rw [decide_eq_decide]; omega
  · rw [if_neg c, decide_eq_false (by intro e; exact c (by rw [e]))]; simp

theorem blankI (n : Nat) (hn : n ≤ 4096) : impl_blank.f (n : Int) = some ((n : Int), List.replicate ((n + 15) / 16) 0) := by
  unfold impl_blank.f impl_words.f
  rw [words_eq2 (n : Int) (by omega) (by omega), Option.bind_some, if_pos (by omega)]
  rw [show (((n : Int) + 15) / 16).toNat = (n + 15) / 16 from by omega, if_pos (by omega)]

theorem setI {s : Int} {ws : List Int} (h : Good s ws) (i : Nat) (hi : (i : Int) < s) (v : Bool) : ∃ ws', impl_Bits_set.f s ws i v = some ws' ∧ Good s ws' ∧ ∀ k, bitAt ws' k = if k = i then v else bitAt ws k := by
  obtain ⟨p1, p2⟩ := good_place h i hi
  obtain ⟨w1, e1, g1, b1⟩ := set_andNot h i hi
  obtain ⟨w2, e2, g2, b2⟩ := set_or g1 i hi
  unfold impl_Bits_set.f
  rw [tdiv16 i (by omega), tmod16, if_pos (by omega), if_pos (by omega), if_pos (by omega), rdD, Int.toNat_natCast, e1, Option.bind_some, rdD, e2]
  cases v
  · refine ⟨w1, by rw [if_neg (by simp)], g1, fun k => ?_⟩
    rw [b1]
    by_cases c : k = i <;> simp [c]
  · refine ⟨w2, by rw [if_pos rfl], g2, fun k => ?_⟩
    rw [b2, b1]
    by_cases c : k = i <;> simp [c]

theorem good_zero (n : Nat) (hn : n ≤ 4096) : Good (n : Int) (List.replicate ((n + 15) / 16) 0) ∧ ∀ k, bitAt (List.replicate ((n + 15) / 16) 0) k = false := by
  have z : ∀ j, (List.replicate ((n + 15) / 16) (0 : Int)).getD j 0 = 0 := by
    intro j; rw [List.getD_eq_getElem?_getD, List.getElem?_replicate]; split <;> rfl
  have b : ∀ k, bitAt (List.replicate ((n + 15) / 16) 0) k = false := by
    intro k
    rw [bitAt_nat _ k 0 (by rw [z]; rfl)]; simp
  refine ⟨good_of (by omega) (by omega) (by rw [List.length_replicate]; omega) ?_ (fun i _ => b i), b⟩
  intro w hw
  have := List.eq_of_mem_replicate hw
  omega

theorem madeI_l (g : Int → Option Bool) (p : Nat → Bool) (n : Nat) (hn : n ≤ 4096) (hg : ∀ i : Nat, i < n → g (i : Int) = some (p i)) (d : Nat) : ∀ (k i : Nat) (ws : List Int), i + d = n → Good n ws → (∀ j, bitAt ws j = (decide (j < i) && p j)) → d < k →
    ∃ ws', impl_madeBits.l0 k g n i n ws = some ((n : Int), ws') ∧ Good n ws' ∧ ∀ j, bitAt ws' j = (decide (j < n) && p j) := by
  induction d with
  | zero =>
    intro k i ws hi gd hb hk
    obtain ⟨k, rfl⟩ := succOf hk
    simp only [impl_madeBits.l0]
    rw [if_neg (by omega)]
    exact ⟨ws, rfl, gd, fun j => by rw [hb, show i = n by omega]⟩
  | succ d ih =>
    intro k i ws hi gd hb hk
    obtain ⟨k, rfl⟩ := succOf hk
    simp only [impl_madeBits.l0]
    obtain ⟨w2, e2, g2, b2⟩ := setI gd i (by omega) (p i)
    rw [if_pos (by omega), hg i (by omega), Option.bind_some, e2, Option.bind_some, w64n i (by omega)]
    refine ih k (i + 1) w2 (by omega) g2 (fun j => ?_) (by omega)
    rw [b2, hb]
    by_cases cj : j = i
    · subst cj; simp
    · rw [if_neg cj]; congr 1; rw [decide_eq_decide]; omega
/-- a vector made of what is told of its bits -/
theorem madeI (g : Int → Option Bool) (p : Nat → Bool) (n : Nat) (hn : n ≤ 4096) (hg : ∀ i : Nat, i < n → g (i : Int) = some (p i)) : ∃ ws', Good n ws' ∧ (∀ j, bitAt ws' j = (decide (j < n) && p j)) ∧ ∀ k, n < k → impl_madeBits.f k n g = some ((n : Int), ws') := by
  obtain ⟨z1, z2⟩ := good_zero n hn
  obtain ⟨ws', e, gd, b⟩ := madeI_l g p n hn hg n (n + 1) 0 (List.replicate ((n + 15) / 16) 0) (by omega) z1 (by intro j; rw [z2]; simp) (by omega)
  refine ⟨ws', gd, b, fun k hk => ?_⟩
  obtain ⟨ws2, e2, g2, b2⟩ := madeI_l g p n hn hg n k 0 (List.replicate ((n + 15) / 16) 0) (by omega) z1 (by intro j; rw [z2]; simp) (by omega)
  have : ws' = ws2 := good_ext gd g2 (fun i _ => by rw [b, b2])
  unfold impl_madeBits.f
  rw [blankI n hn, Option.bind_some]
  rw [this]; exact e2

theorem inI (a b c : Int) : impl_in.f a b c = some (decide (b ≤ a ∧ a ≤ c)) := by
  unfold impl_in.f; split <;> simp [*]

theorem cut_nil (s : ByteArray) : (impl_ParseBits.cut s).toList = [] ↔ ∀ j, j < s.size → Dig s j := by
  unfold impl_ParseBits.cut
  rw [ByteArray.toList_mk, trim_nil, dig_mem]
/-- what ParseBits answers of a text of digits -/
theorem parseI (s : ByteArray) (hc : ¬ s.toList = ([45] : List UInt8)) (hD : ∀ j, j < s.size → Dig s j) (c2 : 1 ≤ (s.size : Int) ∧ (s.size : Int) ≤ 4096) :
    ∃ ws, Good s.size ws ∧ (∀ j : Nat, bitAt ws j = (decide (j < s.size) && (bt s (j : Int) == 49))) ∧ ∀ k, 5000 ≤ k → impl_ParseBits.f k s = some ((s.size : Int), ws, true) := by
  obtain ⟨w2, g2, b2, e2⟩ := madeI (impl_ParseBits.of s) (fun j => bt s (j : Int) == 49) s.size (by omega) (by
    intro i hi
    unfold impl_ParseBits.of
    rw [if_pos ⟨by omega, by omega⟩]; rfl)
  refine ⟨w2, g2, b2, fun k hk => ?_⟩
  unfold impl_ParseBits.f
  rw [if_neg hc, inI, Option.bind_some, decide_eq_true c2, if_pos rfl, if_pos (by omega), if_pos ((cut_nil s).mpr hD), e2 k (by omega)]; rfl

theorem biSetS {s : Int} {ws : List Int} (h : Good s ws) (i : Nat) (hi : (i : Int) < s) : ∃ ws', spec_biSet.f s ws i = some ws' ∧ Good s ws' ∧ ∀ k, bitAt ws' k = (decide (k = i) || bitAt ws k) := by
  obtain ⟨p1, p2⟩ := good_place h i hi
  obtain ⟨ws', e, g, b⟩ := set_or h i hi
  refine ⟨ws', ?_, g, b⟩
  unfold spec_biSet.f
  rw [tdiv16 i (by omega), tmod16, if_pos (by omega), if_pos (by omega), if_pos (by omega), rdD, Int.toNat_natCast, e]
theorem biNewS (n : Nat) (hn : n ≤ 4096) : spec_biNew.f (n : Int) = some ((n : Int), List.replicate ((n + 15) / 16) 0) := by
  unfold spec_biNew.f
  rw [words_eq (n : Int) (by omega) (by omega), if_pos (by omega)]
  rw [show (((n : Int) + 15) / 16).toNat = (n + 15) / 16 from by omega, if_pos (by omega)]

theorem biSomeS_l (bs : List Bool) (hn : bs.length ≤ 4096) (d : Nat) : ∀ (k i : Nat) (ws : List Int), i + d = bs.length → Good bs.length ws → (∀ j, bitAt ws j = (decide (j < i) && bs.getD j false)) → d < k →
    ∃ ws', spec_biSome.l0 k bs bs.length i bs.length ws = some ((bs.length : Int), ws') ∧ Good bs.length ws' ∧ ∀ j, bitAt ws' j = bs.getD j false := by
  induction d with
  | zero =>
    intro k i ws hi g hb hk
    obtain ⟨k, rfl⟩ := succOf hk
    simp only [spec_biSome.l0]
    rw [if_neg (by omega)]
    refine ⟨ws, rfl, g, fun j => ?_⟩
    rw [hb]
    by_cases c : j < i
    · simp [c]
    · rw [decide_eq_false c, Bool.false_and, List.getD_eq_getElem?_getD, List.getElem?_eq_none (by omega)]; rfl
  | succ d ih =>
    intro k i ws hi g hb hk
    obtain ⟨k, rfl⟩ := succOf hk
    simp only [spec_biSome.l0]
    have er : rdOf false bs (i : Int) = bs.getD i false := by unfold rdOf; rw [Int.toNat_natCast]
    rw [if_pos (by omega), if_pos (by omega), if_pos (by omega), er, w64n i (by omega)]
    by_cases c : bs.getD i false = true
    · rw [if_pos c]
      obtain ⟨w2, e2, g2, b2⟩ := biSetS g i (by omega)
      rw [e2, Option.bind_some]
      refine ih k (i + 1) w2 (by omega) g2 (fun j => ?_) (by omega)
      rw [b2, hb]
      by_cases cj : j = i
      · subst cj; simp [c, -List.getD_eq_getElem?_getD]
      · rw [decide_eq_false cj, Bool.false_or]; congr 1; rw [decide_eq_decide]; omega
    · rw [if_neg c]
      refine ih k (i + 1) ws (by omega) g (fun j => ?_) (by omega)
      rw [hb]
      by_cases cj : j = i
      · subst cj; simp [Bool.not_eq_true _ ▸ c, -List.getD_eq_getElem?_getD]
      · congr 1; rw [decide_eq_decide]; omega
theorem biSomeS (bs : List Bool) (hn : bs.length ≤ 4096) : ∃ ws', Good bs.length ws' ∧ (∀ j, bitAt ws' j = bs.getD j false) ∧ ∀ k, bs.length < k → spec_biSome.f k bs = some ((bs.length : Int), ws') := by
  obtain ⟨z1, z2⟩ := good_zero bs.length hn
  obtain ⟨ws', e, g, b⟩ := biSomeS_l bs hn bs.length (bs.length + 1) 0 (List.replicate ((bs.length + 15) / 16) 0) (by omega) z1 (by intro j; rw [z2]; simp) (by omega)
  refine ⟨ws', g, b, fun k hk => ?_⟩
  obtain ⟨ws2, e2, g2, b2⟩ := biSomeS_l bs hn bs.length k 0 (List.replicate ((bs.length + 15) / 16) 0) (by omega) z1 (by intro j; rw [z2]; simp) (by omega)
  have : ws' = ws2 := good_ext g g2 (fun i _ => by rw [b, b2])
  unfold spec_biSome.f
  rw [biNewS bs.length hn, Option.bind_some]
  rw [this]; exact e2

theorem inS (a b c : Int) : spec_l1In.f a b c = some (decide (b ≤ a ∧ a ≤ c)) := by
  unfold spec_l1In.f; split <;> simp [*]

theorem eqIntS_l (a b : List Int) (hl : a.length = b.length) (ha : a.length < 9223372036854775807) (d : Nat) : ∀ (k i : Nat), i ≤ a.length → a.length - i = d → d < k →
    laws_eqIntS.l0 k a b i = some (decide (a.drop i = b.drop i)) := by
  induction d with
  | zero =>
    intro k i h1 hd hk
    obtain ⟨k, rfl⟩ := succOf hk
    simp only [laws_eqIntS.l0]
    rw [if_neg (by omega), List.drop_eq_nil_of_le (by omega), List.drop_eq_nil_of_le (by omega)]; simp
  | succ d ih =>
    intro k i h1 hd hk
    obtain ⟨k, rfl⟩ := succOf hk
    simp only [laws_eqIntS.l0]
    have h2 := ih k (i+1) (by omega) (by omega) (by omega)
    have e1 : rd a i = a[i]'(by omega) := by simp [rd, List.getD_eq_getElem?_getD, List.getElem?_eq_getElem (show i < a.length by omega)]
    have e2 : rd b i = b[i]'(by omega) := by simp [rd, List.getD_eq_getElem?_getD, List.getElem?_eq_getElem (show i < b.length by omega)]
    have e3 := List.drop_eq_getElem_cons (show i < a.length by omega)
    have e4 := List.drop_eq_getElem_cons (show i < b.length by omega)
    rw [if_pos (by omega), if_pos (by omega), if_pos (by omega), e1, e2, w64n i (by omega), h2, e3, e4]
    clear e3 e4 h2 ih
    split <;> simp only [List.cons.injEq, *, true_and, false_and, decide_false]
theorem eqIntS_f (a b : List Int) (k : Nat) (ha : a.length < 9223372036854775807) (hk : a.length < k) : laws_eqIntS.f k a b = some (decide (a = b)) := by
  unfold laws_eqIntS.f
  split
  · have h := eqIntS_l a b (by omega) ha a.length k 0 (by omega) (by omega) hk
    simpa using h
  · have : a ≠ b := by intro h; subst h; simp_all
    simp [this]
theorem eqIntS_same (a : List Int) (k : Nat) (ha : a.length < 9223372036854775807) (hk : a.length < k) : laws_eqIntS.f k a a = some true := by
  rw [eqIntS_f a a k ha hk]; simp

theorem eqBits_f (s t : Int) (a b : List Int) (k : Nat) (ha : a.length < 9223372036854775807) (hk : a.length < k) : laws_eqBits.f k s a t b = some (decide (s = t ∧ a = b)) := by
  unfold laws_eqBits.f
  split
  · rw [eqIntS_f a b k ha hk, Option.bind_some]
    by_cases h : a = b <;> simp [*]
  · simp [*]
theorem eqBits_same (s : Int) (a : List Int) (k : Nat) (ha : a.length < 9223372036854775807) (hk : a.length < k) : laws_eqBits.f k s a s a = some true := by
  rw [eqBits_f s s a a k ha hk]; simp

def marks : Nat → Nat → List Int
  | 0, _ => []
  | n + 1, m => (m : Int) :: marks n (m + 1)
theorem marks_len (n : Nat) : ∀ m, (marks n m).length = n := by
  induction n with
  | zero => intro m; rfl
  | succ n ih => intro m; simp [marks, ih]

theorem markIntS_l (n : Nat) (hn : n < 9223372036854775807) (d : Nat) : ∀ (k i m : Nat) (x : List Int), x.length = n → i ≤ n → m + (n - i) ≤ 9223372036854775807 → n - i = d → d < k →
    laws_markIntS.l0 k x m i = some (((m + (n - i) : Nat) : Int), x.take i ++ marks (n - i) m) := by
  induction d with
  | zero =>
    intro k i m x hx h1 hm hd hk
    obtain ⟨k, rfl⟩ := succOf hk
    simp only [laws_markIntS.l0]
    rw [if_neg (by omega), hd, List.take_of_length_le (by omega)]; simp [marks]
  | succ d ih =>
    intro k i m x hx h1 hm hd hk
    obtain ⟨k, rfl⟩ := succOf hk
    simp only [laws_markIntS.l0]
    have h2 := ih k (i+1) (m+1) (x.set i m) (by simp [hx]) (by omega) (by omega) (by omega) (by omega)
    have e1 : n - i = (n - (i+1)) + 1 := by omega
    rw [if_pos (by omega), if_pos (by omega), w64n i (by omega), w64n m (by omega), Int.toNat_natCast, h2]
    rw [e1, marks, List.take_succ_eq_append_getElem (by simp; omega), List.take_set_of_le (Nat.le_refl _)]
    simp only [List.getElem_set_self, List.append_assoc, List.cons_append, List.nil_append]
    congr 3
    omega
theorem markIntS_f (x : List Int) (m k : Nat) (hm : m + x.length ≤ 9223372036854775806) (hk : x.length < k) : laws_markIntS.f k x m = some (((m + x.length : Nat) : Int), marks x.length m) := by
  unfold laws_markIntS.f
  have h := markIntS_l x.length (by omega) x.length k 0 m x rfl (by omega) (by omega) (by omega) hk
  simpa using h
theorem markIntS_1 (x : List Int) (k : Nat) (hm : x.length ≤ 9223372036854775800) (hk : x.length < k) : laws_markIntS.f k x 1 = some (((1 + x.length : Nat) : Int), marks x.length 1) :=
  markIntS_f x 1 k (by omega) hk

theorem markBits_f (s : Int) (x : List Int) (m k : Nat) (hm : m + x.length ≤ 9223372036854775806) (hk : x.length < k) : laws_markBits.f k s x m = some (((m + x.length : Nat) : Int), marks x.length m) := by
  unfold laws_markBits.f; rw [markIntS_f x m k hm hk]; rfl
theorem markBits_1 (s : Int) (x : List Int) (k : Nat) (hm : x.length ≤ 9223372036854775800) (hk : x.length < k) : laws_markBits.f k s x 1 = some (((1 + x.length : Nat) : Int), marks x.length 1) :=
  markBits_f s x 1 k (by omega) hk

theorem heldIntS_l (x : List Int) (hn : x.length < 9223372036854775807) (d : Nat) : ∀ (k i m : Nat), i ≤ x.length → m + (x.length - i) ≤ 9223372036854775807 → x.drop i = marks (x.length - i) m → x.length - i = d → d < k →
    laws_heldIntS.l0 k x m i = some ((m + (x.length - i) : Nat) : Int) := by
  induction d with
  | zero =>
    intro k i m h1 hm hx hd hk
    obtain ⟨k, rfl⟩ := succOf hk
    simp only [laws_heldIntS.l0]
    rw [if_neg (by omega), hd]; simp
  | succ d ih =>
    intro k i m h1 hm hx hd hk
    obtain ⟨k, rfl⟩ := succOf hk
    simp only [laws_heldIntS.l0]
    have e1 : x.length - i = (x.length - (i+1)) + 1 := by omega
    rw [e1, marks, List.drop_eq_getElem_cons (show i < x.length by omega)] at hx
    have e3 := (List.cons.inj hx).1
    have h2 := ih k (i+1) (m+1) (by omega) (by omega) (List.cons.inj hx).2 (by omega) (by omega)
    have e2 : rd x i = m := by rw [← e3]; simp [rd, List.getD_eq_getElem?_getD, List.getElem?_eq_getElem (show i < x.length by omega)]
    rw [if_pos (by omega), if_pos (by omega), if_pos e2, w64n i (by omega), w64n m (by omega), h2]
    simp; omega
theorem heldIntS_f (n m k : Nat) (hm : m + n ≤ 9223372036854775806) (hk : n < k) : laws_heldIntS.f k (marks n m) m = some ((m + n : Nat) : Int) := by
  unfold laws_heldIntS.f
  have h := heldIntS_l (marks n m) (by rw [marks_len]; omega) n k 0 m (by omega) (by rw [marks_len]; omega) (by rw [marks_len]; simp) (by rw [marks_len]; omega) hk
  rw [marks_len] at h
  simpa using h
theorem heldIntS_1 (n k : Nat) (hm : n ≤ 9223372036854775800) (hk : n < k) : laws_heldIntS.f k (marks n 1) 1 = some ((1 + n : Nat) : Int) :=
  heldIntS_f n 1 k (by omega) hk

theorem heldBits_f (s : Int) (n m k : Nat) (hm : m + n ≤ 9223372036854775806) (hk : n < k) : laws_heldBits.f k s (marks n m) m = some ((m + n : Nat) : Int) := by
  unfold laws_heldBits.f; rw [heldIntS_f n m k hm hk, Option.bind_some, if_neg (by omega)]
theorem heldBits_1 (s : Int) (n k : Nat) (hm : n ≤ 9223372036854775800) (hk : n < k) : laws_heldBits.f k s (marks n 1) 1 = some ((1 + n : Nat) : Int) :=
  heldBits_f s n 1 k (by omega) hk

theorem digs_len (s : ByteArray) (n : Nat) : (digs s n).length = n := by unfold digs; simp
theorem digs_succ (s : ByteArray) (n : Nat) : digs s (n + 1) = digs s n ++ [bt s (n : Int) == 49] := by unfold digs; rw [List.range_succ, List.map_append]; rfl
/-- The loop of the reference's reader, up to a byte that is no digit or to the end. -/
theorem parseS_l (s : ByteArray) (hs : s.size ≤ 1048576) (m : Nat) (hm : m ≤ s.size) (hD : ∀ j, j < m → Dig s j) (d : Nat) : ∀ (k i : Nat), i + d = m → d ≤ k →
    spec_biParse.l0 k s (digs s i) i = spec_biParse.l0 (k - d) s (digs s m) m := by
  induction d with
  | zero => intro k i hi _; rw [show i = m by omega]; rfl
  | succ d ih =>
    intro k i hi hk
    obtain ⟨k, rfl⟩ := succOf (show 0 < k by omega)
    have dg := hD i (by omega)
    have hl := digs_len s i
    rw [show k + 1 - (d + 1) = k - d by omega, ← ih k (i + 1) (by omega) (by omega)]
    simp only [spec_biParse.l0]
    rw [if_pos (by omega), if_pos (by omega), w64n i (by omega), ← digs_succ]
    rcases dg with e | e
    · rw [if_pos e, if_pos (by omega)]
    · rw [if_neg (by omega), if_pos e, if_pos (by omega)]
def PB (s : ByteArray) (r : Int × List Int × Bool) : Prop := r.2.1.length ≤ 300 ∧ (∀ k, 1060000 ≤ k → spec_ParseBits.f k s = some r) ∧ ∀ k, 1060000 ≤ k → impl_ParseBits.f k s = some r
theorem pbBoth (s : ByteArray) (hs : s.size ≤ 1048576) : ∃ r, PB s r := by
  by_cases c : s.toList = ([45] : List UInt8)
  · refine ⟨(0, [], true), by simp, fun k _ => ?_, fun k _ => ?_⟩
    · unfold spec_ParseBits.f spec_biParse.f; rw [if_pos c]; rfl
    · unfold impl_ParseBits.f; rw [if_pos c]
  · by_cases hD : ∀ j, j < s.size → Dig s j
    · have hl := digs_len s s.size
      have eS : ∀ k, 1060000 ≤ k → spec_biParse.f k s = spec_biParse.l0 (k - s.size) s (digs s s.size) s.size := fun k hk => by
        unfold spec_biParse.f; rw [if_neg c]
        exact parseS_l s hs s.size (Nat.le_refl _) hD s.size k 0 (by omega) (by omega)
      by_cases c2 : 1 ≤ (s.size : Int) ∧ (s.size : Int) ≤ 4096
      · obtain ⟨ws, g, b, e⟩ := biSomeS (digs s s.size) (by omega)
        obtain ⟨w2, g2, b2, e2⟩ := madeI (impl_ParseBits.of s) (fun j => bt s (j : Int) == 49) s.size (by omega) (by
          intro i hi
          unfold impl_ParseBits.of
          rw [if_pos ⟨by omega, by omega⟩]; rfl)
        rw [hl] at g e
        obtain rfl : ws = w2 := good_ext g g2 (fun j hj => by
          rw [b, b2]
          by_cases cj : j < s.size
          · unfold digs; simp [cj]
          · unfold digs; simp [cj])
        refine ⟨((s.size : Int), ws, true), ?_, fun k hk => ?_, fun k hk => ?_⟩
        · have := g.1; have := g.2.1; have := g.2.2.1; simp only; omega
        · unfold spec_ParseBits.f
          rw [eS k hk]
          obtain ⟨k', hk'⟩ := succOf (show 5000 < k - s.size by omega)
          rw [hk']
          simp only [spec_biParse.l0]
          rw [if_neg (by omega), inS, hl, Option.bind_some, decide_eq_true c2, if_pos rfl, e k' (by omega)]; rfl
        · unfold impl_ParseBits.f
          rw [if_neg c, inI, Option.bind_some, decide_eq_true c2, if_pos rfl, if_pos (by omega), if_pos ((cut_nil s).mpr hD), e2 k (by omega)]; rfl
      · refine ⟨(0, [], false), by simp, fun k hk => ?_, fun k hk => ?_⟩
        · unfold spec_ParseBits.f
          rw [eS k hk]
          obtain ⟨k', hk'⟩ := succOf (show 5000 < k - s.size by omega)
          rw [hk']
          simp only [spec_biParse.l0]
          rw [if_neg (by omega), inS, hl, Option.bind_some, decide_eq_false c2, if_neg (by decide)]; rfl
        · unfold impl_ParseBits.f
          rw [if_neg c, inI, Option.bind_some, decide_eq_false c2, if_neg (by decide)]
    · obtain ⟨m, hm, hN, hL⟩ : ∃ m, m < s.size ∧ ¬ Dig s m ∧ ∀ j, j < m → Dig s j := by
        have hE : ∃ m, m < s.size ∧ ¬ Dig s m := by
          apply Classical.byContradiction
          intro hn
          exact hD fun j hj => Classical.byContradiction fun hd => hn ⟨j, hj, hd⟩
        obtain ⟨m, hm⟩ := hE
        induction m using Nat.strongRecOn with
        | ind m ih =>
          by_cases cl : ∀ j, j < m → Dig s j
          · exact ⟨m, hm.1, hm.2, cl⟩
          · have : ∃ j, j < m ∧ ¬ Dig s j := by
              apply Classical.byContradiction
              intro hn
              exact cl fun j hj => Classical.byContradiction fun hd => hn ⟨j, hj, hd⟩
            obtain ⟨j, hj, hd⟩ := this
            exact ih j hj ⟨by omega, hd⟩
      refine ⟨(0, [], false), by simp, fun k hk => ?_, fun k hk => ?_⟩
      · unfold spec_ParseBits.f spec_biParse.f
        rw [if_neg c]
        have h := parseS_l s hs m (by omega) hL m k 0 (by omega) (by omega)
        have h0 : spec_biParse.l0 k s ([] : List Bool) 0 = spec_biParse.l0 (k - m) s (digs s m) m := h
        rw [h0]
        obtain ⟨k', hk'⟩ := succOf (show 0 < k - m by omega)
        rw [hk']
        simp only [spec_biParse.l0]
        unfold Dig at hN
        rw [if_pos (by omega), if_pos (by omega), if_neg (by omega), if_neg (by omega)]; rfl
      · unfold impl_ParseBits.f
        rw [if_neg c, inI, Option.bind_some]
        by_cases c2 : 1 ≤ (s.size : Int) ∧ (s.size : Int) ≤ 4096
        · rw [decide_eq_true c2, if_pos rfl, if_pos (by omega), if_neg (fun e => hD ((cut_nil s).mp e))]
        · rw [decide_eq_false c2, if_neg (by decide)]
theorem FnExactParseBits : laws_FnExactParseBits.Pure := by
  intro s _
  obtain ⟨k, hk⟩ : ∃ k, k = 1060000 := ⟨_, rfl⟩
  refine ⟨k + 4, ?_⟩
  unfold laws_FnExactParseBits.f
  by_cases hb : (s.size : Int) > 1048576
  · rw [if_pos hb]
  rw [if_neg hb]
  obtain ⟨⟨r0, r1, rb⟩, hr, eS, eI⟩ := pbBoth s (by omega)
  simp only at hr
  have eQ (fu : Nat) (hj : 1060000 ≤ fu) : laws_eqBits.f fu r0 r1 r0 r1 = some true := eqBits_same r0 r1 fu (by omega) (by omega)
  have eN (fu : Nat) (hj : 1060000 ≤ fu) := markBits_1 r0 r1 fu (by omega) (by omega)
  have eH (fu : Nat) (hj : 1060000 ≤ fu) := heldBits_1 r0 r1.length fu (by omega) (by omega)
  have n2 : ¬ (((1 + r1.length : Nat) : Int) < 0) := by omega
  rw [eS _ (by omega), Option.bind_some, eI _ (by omega), Option.bind_some, eQ _ (by omega), Option.bind_some, if_pos rfl]
  simp only [laws_FnExactParseBits.j0]
  rw [if_neg (by simp), eN _ (by omega), Option.bind_some, eH _ (by omega), Option.bind_some, if_neg n2, if_pos rfl, eI _ (by omega), Option.bind_some, eQ _ (by omega), Option.bind_some, if_pos rfl]
  simp only [laws_FnExactParseBits.j1]
  rw [if_neg (by simp), eH _ (by omega), Option.bind_some, if_neg n2, if_pos rfl]

end Go.Proofs.YtkmhjgejficclaaDoor.Pure
