/- a vector is read back from its text, and is made of one whose bits are off by turning on the bits that the text tells; for every code (longer ones than 2^20 bytes are not asked). -/
import Derived.Test.YtkmhjgejficclaaDoorPFnBitTextsx7
namespace Go.Proofs.YtkmhjgejficclaaDoor.Pure
open Go.RowKit Go.Proofs.YtkmhjgejficclaaDoor.PFnBitTexts Go.Proofs.YtkmhjgejficclaaDoorW.PrintWords Go.Proofs.YtkmhjgejficclaaDoorW.PrintLast Go.Proofs.YtkmhjgejficclaaDoorW.PrintMore
set_option linter.unusedVariables false
set_option linter.unusedSimpArgs false

theorem w64 {x : Int} (h1 : -9223372036854775808 ≤ x) (h2 : x ≤ 9223372036854775807) : wrap64 x = x := by unfold wrap64; omega
theorem w64n (i : Nat) (h : i < 9223372036854775807) : wrap64 ((i : Int) + 1) = ((i + 1 : Nat) : Int) := by rw [w64 (by omega) (by omega)]; rfl
theorem succOf {k d : Nat} (h : d < k) : ∃ m, k = m + 1 := ⟨k - 1, by omega⟩

theorem and255 (a : Int) : 0 ≤ Go.bits .and .u64 a 255 ∧ Go.bits .and .u64 a 255 ≤ 255 := by
  have e : Go.bits .and .u64 a 255 = IntKind.u64.wrap (((BitVec.ofInt 64 a &&& BitVec.ofInt 64 255).toNat : Nat) : Int) := rfl
  have h : (BitVec.ofInt 64 a &&& BitVec.ofInt 64 255).toNat ≤ 255 := by
    rw [BitVec.toNat_and]; exact Nat.and_le_right
  rw [e, IntKind.wrap_u64]
  generalize (BitVec.ofInt 64 a &&& BitVec.ofInt 64 255).toNat = m at *
  omega
/-- the bytes of a code -/
def Bytes (c : List Int) : Prop := c.length ≤ 2097152 ∧ ∀ x ∈ c, 0 ≤ x ∧ x ≤ 255
theorem rd_byte (c : List Int) (h : Bytes c) (i : Int) : 0 ≤ rd c i ∧ rd c i ≤ 255 := by
  unfold rd
  rw [List.getD_eq_getElem?_getD]
  by_cases k : i.toNat < c.length
  · rw [List.getElem?_eq_getElem k]; exact h.2 _ (List.getElem_mem k)
  · rw [List.getElem?_eq_none (by omega)]; simp
theorem nextC (c : List Int) (h : Bytes c) (at_ sd : Int) (n : Nat) (h0 : 0 ≤ at_) (h1 : at_ ≤ n) (hn : n < 4611686018427387904) : ∃ x sd', spec_l1Cur_next.f c at_ sd = some (x, at_ + 1, sd') ∧ 0 ≤ x ∧ x ≤ 255 := by
  unfold spec_l1Cur_next.f
  have e : wrap64 (at_ + 1) = at_ + 1 := w64 (by omega) (by omega)
  have hb := rd_byte c h at_
  have e2 : wrap64 (rd c at_) = rd c at_ := w64 (by omega) (by omega)
  rw [e, e2]
  by_cases c1 : at_ < (c.length : Int)
  · rw [if_pos c1, if_pos h0]
    by_cases c2 : at_ + 1 ≤ (c.length : Int)
    · rw [if_pos c2]; exact ⟨_, _, rfl, hb.1, hb.2⟩
    · exact absurd c2 (by omega)
  · rw [if_neg c1, if_neg (by omega)]
    refine ⟨_, _, rfl, ?_⟩
    have := and255 (IntKind.u64.wrap (IntKind.u64.wrap (IntKind.u64.wrap (sd * 6364136223846793005)) + 1442695040888963407) / 1099511627776)
    rw [w64 (by omega) (by omega)]; exact this
/-- a place in the code, at most n steps on -/
def Pl (n : Nat) (at_ : Int) : Prop := 0 ≤ at_ ∧ at_ ≤ n
theorem pickC (c : List Int) (h : Bytes c) (at_ sd m : Int) (n : Nat) (hp : Pl n at_) (hn : n < 2305843009213693952) (hm : m ≤ 1000000) : ∃ x at' sd', spec_l1Cur_pick.f c at_ sd m = some (x, at', sd') ∧ Pl (n + 2) at' ∧ 0 ≤ x ∧ (x < m ∨ x = 0) := by
  unfold spec_l1Cur_pick.f Pl at *
  by_cases c1 : m ≤ 1
  · rw [if_pos c1]; exact ⟨_, _, _, rfl, ⟨by omega, by omega⟩, by omega, Or.inr rfl⟩
  rw [if_neg c1]
  obtain ⟨x, s1, e1, x0, x1⟩ := nextC c h at_ sd n hp.1 hp.2 (by omega)
  rw [e1, Option.bind_some]
  simp only
  by_cases c2 : m > 200
  · obtain ⟨y, s2, e2, y0, y1⟩ := nextC c h (at_ + 1) s1 (n + 1) (by omega) (by omega) (by omega)
    rw [if_pos c2, e2, Option.bind_some]
    simp only
    rw [if_neg (by omega)]
    have e3 : wrap64 (wrap64 (x * 256) + y) = x * 256 + y := by rw [w64 (x := x * 256) (by omega) (by omega), w64 (by omega) (by omega)]
    rw [e3, Int.tmod_eq_emod_of_nonneg (by omega)]
    exact ⟨_, _, _, rfl, ⟨by omega, by omega⟩, Int.emod_nonneg _ (by omega), Or.inl (Int.emod_lt_of_pos _ (by omega))⟩
  · rw [if_neg c2, if_neg (by omega), Int.tmod_eq_emod_of_nonneg (by omega)]
    exact ⟨_, _, _, rfl, ⟨by omega, by omega⟩, Int.emod_nonneg _ (by omega), Or.inl (Int.emod_lt_of_pos _ (by omega))⟩
theorem oneC (c : List Int) (h : Bytes c) (at_ sd m : Int) (n : Nat) (hp : Pl n at_) (hn : n < 2305843009213693952) (hm : m ≤ 1000000) : ∃ b at' sd', spec_l1Cur_one.f c at_ sd m = some (b, at', sd') ∧ Pl (n + 2) at' := by
  obtain ⟨x, a, s, e, p, _⟩ := pickC c h at_ sd m n hp hn hm
  unfold spec_l1Cur_one.f
  rw [e, Option.bind_some]
  exact ⟨_, _, _, rfl, p⟩

theorem amongC (c : List Int) (h : Bytes c) (at_ sd : Int) (l : List Int) (n : Nat) (hp : Pl n at_) (hn : n < 1000000000) (hl : 0 < l.length) (hl2 : l.length ≤ 1000) :
    ∃ x at' sd', spec_l1Cur_among.f c at_ sd l = some (x, at', sd') ∧ Pl (n + 2) at' := by
  obtain ⟨x, a1, s1, e1, p1, x0, x1⟩ := pickC c h at_ sd l.length n hp (by omega) (by omega)
  unfold spec_l1Cur_among.f
  rw [e1, Option.bind_some]
  simp only
  rw [if_pos x0, if_pos (by omega)]
  exact ⟨_, _, _, rfl, p1⟩

theorem rd_mid (p s : List Int) (x : Int) : rd (p ++ x :: s) (p.length : Int) = x := by
  simp [rd, List.getD_eq_getElem?_getD]
theorem rd_last (p s : List Int) (x : Int) (i : Int) (h : i = p.length) : rd (p ++ x :: s) i = x := by
  subst h; exact rd_mid p s x

theorem shl64 (x y : Int) (h0 : 0 ≤ y) (h1 : y ≤ 63) : shl .i64 x y = wrap64 (x * 2 ^ y.toNat) := by
  unfold shl wrap64; rw [Nat.min_eq_left (by simp only [IntKind.bits]; omega), IntKind.wrap_i64]
theorem shr64 (x y : Int) (h0 : 0 ≤ y) (h1 : y ≤ 63) : shr .i64 x y = x / 2 ^ y.toNat := by
  unfold shr; rw [Nat.min_eq_left (by simp only [IntKind.bits]; omega)]

/-- the bit i of a row of words -/
def bitAt (ws : List Int) (i : Nat) : Bool := decide ((ws.getD (i / 16) 0 / 2 ^ (i % 16)) % 2 = 1)
/-- what a vector of bits keeps -/
def Good (s : Int) (ws : List Int) : Prop :=
  0 ≤ s ∧ s ≤ 4096 ∧ (ws.length : Int) = (s + 15) / 16 ∧ (∀ w ∈ ws, 0 ≤ w ∧ w ≤ 65535) ∧ (s % 16 = 0 ∨ ws.getD (ws.length - 1) 0 / 2 ^ (s % 16).toNat = 0)
instance (s : Int) (ws : List Int) : Decidable (Good s ws) := by unfold Good; infer_instance
theorem i64_small (n : Int) (h0 : 0 ≤ n) (h1 : n < 2 ^ 62) : IntKind.i64.wrap n = n := by rw [IntKind.wrap_i64]; omega
theorem and1 (x : Int) (h0 : 0 ≤ x) (h1 : x < 2 ^ 62) : Go.bits .and .i64 x 1 = x % 2 := bits_mask .i64 62 (by decide) i64_small 1 (by decide) x h0 h1
theorem word_range (ws : List Int) (hw : ∀ w ∈ ws, 0 ≤ w ∧ w ≤ 65535) (j : Nat) : 0 ≤ ws.getD j 0 ∧ ws.getD j 0 ≤ 65535 := by
  by_cases h : j < ws.length
  · rw [List.getD_eq_getElem?_getD, List.getElem?_eq_getElem h]; exact hw _ (List.getElem_mem h)
  · rw [List.getD_eq_getElem?_getD, List.getElem?_eq_none (by omega)]; simp
theorem div_pow_range (x : Int) (j : Nat) (h : 0 ≤ x ∧ x ≤ 65535) : 0 ≤ x / 2 ^ j ∧ x / 2 ^ j ≤ 65535 := by
  have hp : (0 : Int) < 2 ^ j := Int.pow_pos (by omega)
  exact ⟨Int.ediv_nonneg h.1 (by omega), Int.le_trans (Int.ediv_le_self _ h.1) h.2⟩
theorem at_eq (ws : List Int) (i : Nat) (h : i / 16 < ws.length) (hw : ∀ w ∈ ws, 0 ≤ w ∧ w ≤ 65535) (hi : i < 4611686018427387904) :
    (if 0 ≤ (wrap64 (Int.tdiv (i : Int) 16)) then (if (wrap64 (Int.tdiv (i : Int) 16)) < (ws.length : Int) then (if 0 ≤ (Int.tmod (i : Int) 16) then (some ((Go.bits .and .i64 (shr .i64 (rd ws (wrap64 (Int.tdiv (i : Int) 16))) (Int.tmod (i : Int) 16)) 1) == 1)) else (none)) else (none)) else (none)) = some (bitAt ws i) := by
  have e1 : wrap64 (Int.tdiv (i : Int) 16) = ((i / 16 : Nat) : Int) := by
    rw [Int.tdiv_eq_ediv_of_nonneg (by omega), w64 (by omega) (by omega)]; omega
  have e2 : Int.tmod (i : Int) 16 = ((i % 16 : Nat) : Int) := by
    rw [Int.tmod_eq_emod_of_nonneg (by omega)]; omega
  have e3 : rd ws ((i / 16 : Nat) : Int) = ws.getD (i / 16) 0 := by unfold rd; rw [Int.toNat_natCast]
  have hr := div_pow_range _ (i % 16) (word_range ws hw (i / 16))
  rw [e1, e2, if_pos (by omega), if_pos (by omega), if_pos (by omega), e3, shr64 _ _ (by omega) (by omega), Int.toNat_natCast, and1 _ hr.1 (by omega)]
  rfl
/-- how the last word is asked -/
theorem last_eq (s : Int) (ws : List Int) (h0 : 0 ≤ s) (h1 : s ≤ 4096) (hl : (ws.length : Int) = (s + 15) / 16) :
    (if (Int.tmod s 16) = 0 then (some true) else (if 0 ≤ (wrap64 ((ws.length : Int) - 1)) then (if (wrap64 ((ws.length : Int) - 1)) < (ws.length : Int) then (if 0 ≤ (Int.tmod s 16) then (some ((shr .i64 (rd ws (wrap64 ((ws.length : Int) - 1))) (Int.tmod s 16)) == 0)) else (none)) else (none)) else (none))) =
      some (decide (s % 16 = 0 ∨ ws.getD (ws.length - 1) 0 / 2 ^ (s % 16).toNat = 0)) := by
  have e2 : Int.tmod s 16 = s % 16 := Int.tmod_eq_emod_of_nonneg h0
  rw [e2]
  by_cases c : s % 16 = 0
  · rw [if_pos c]; simp [c]
  · rw [if_neg c, w64 (by omega) (by omega), if_pos (by omega), if_pos (by omega), if_pos (by omega), shr64 _ _ (by omega) (by omega)]
    have e3 : rd ws ((ws.length : Int) - 1) = ws.getD (ws.length - 1) 0 := by
      unfold rd; rw [show ((ws.length : Int) - 1).toNat = ws.length - 1 from by omega]
    rw [e3]; simp only [c, false_or]; rfl
theorem good_words (s : Int) (ws : List Int) (h : Good s ws) : ∀ w ∈ ws, 0 ≤ w ∧ w ≤ 65535 := h.2.2.2.1
theorem good_place {s : Int} {ws : List Int} (h : Good s ws) (i : Nat) (hi : (i : Int) < s) : i / 16 < ws.length ∧ i < 4096 := by
  obtain ⟨h0, h1, h2, _⟩ := h; omega
theorem words_eq (s : Int) (h0 : 0 ≤ s) (h1 : s ≤ 4096) : wrap64 (Int.tdiv (wrap64 (s + 15)) 16) = (s + 15) / 16 := by
  rw [w64 (x := s + 15) (by omega) (by omega), Int.tdiv_eq_ediv_of_nonneg (by omega), w64 (by omega) (by omega)]
theorem words_eq2 (s : Int) (h0 : 0 ≤ s) (h1 : s ≤ 4096) : wrap64 (Int.tdiv (wrap64 (wrap64 (s + 16) - 1)) 16) = (s + 15) / 16 := by
  rw [w64 (x := s + 16) (by omega) (by omega), show s + 16 - 1 = s + 15 from by omega]; exact words_eq s h0 h1

/-- the value of w bits from a on -/
def fieldV (b : Nat → Bool) (a : Nat) : Nat → Int
  | 0 => 0
  | w + 1 => fieldV b a w + (if b (a + w) = true then 2 ^ w else 0)
theorem fieldV_range (b : Nat → Bool) (a w : Nat) : 0 ≤ fieldV b a w ∧ fieldV b a w < 2 ^ w := by
  induction w with
  | zero => simp [fieldV]
  | succ w ih =>
    have hp : (0 : Int) < 2 ^ w := Int.pow_pos (by omega)
    have e : (2 : Int) ^ (w + 1) = 2 ^ w * 2 := Int.pow_succ 2 w
    simp only [fieldV]
    split <;> omega
theorem fieldV_head (b : Nat → Bool) (w : Nat) : ∀ a, fieldV b a (w + 1) = (if b a = true then 1 else 0) + 2 * fieldV b (a + 1) w := by
  induction w with
  | zero => intro a; simp [fieldV]
  | succ w ih =>
    intro a
    rw [fieldV, ih a]
    have e : (2 : Int) ^ (w + 1) = 2 ^ w * 2 := Int.pow_succ 2 w
    simp only [fieldV]
    rw [show a + 1 + w = a + (w + 1) from by omega]
    split <;> split <;> omega
/-- what ReadField answers -/
def fieldAns (s : Int) (ws : List Int) (a w : Int) : Int × Bool := if Good s ws ∧ (0 ≤ w ∧ w ≤ 24) ∧ 0 ≤ a ∧ a ≤ s - w then (fieldV (bitAt ws) a.toNat w.toNat, true) else (0, false)
theorem or_pow (x : Int) (j : Nat) (h0 : 0 ≤ x) (h1 : x < 2 ^ j) (hj : j < 60) : Go.bits .or .i64 x (2 ^ j) = x + 2 ^ j := by
  obtain ⟨a, rfl⟩ := Int.eq_ofNat_of_zero_le h0
  have ha : a < 2 ^ j := by exact_mod_cast h1
  have hj2 : 2 ^ j < 2 ^ 62 := Nat.pow_lt_pow_right (by decide) (by omega)
  have hc : ((2 : Int) ^ j) = ((2 ^ j : Nat) : Int) := by simp
  rw [hc, (bits_nat .i64 62 (by decide) i64_small a (2 ^ j) (by omega) hj2).2]
  have e := Nat.two_pow_add_eq_or_of_lt ha 1
  rw [Nat.mul_one] at e
  rw [Nat.or_comm, ← e]; simp; omega
theorem shl_one (j : Nat) (hj : j < 60) : shl .i64 1 (j : Int) = 2 ^ j := by
  rw [shl64 _ _ (by omega) (by omega), Int.toNat_natCast, Int.one_mul]
  have hj2 : 2 ^ j < 2 ^ 62 := Nat.pow_lt_pow_right (by decide) (by omega)
  have hj3 : (2 : Int) ^ j < 2 ^ 62 := by exact_mod_cast hj2
  have hp : (0 : Int) < 2 ^ j := Int.pow_pos (by omega)
  rw [w64 (by omega) (by omega)]

/-- a word, as a number -/
theorem word_nat (ws : List Int) (hw : ∀ w ∈ ws, 0 ≤ w ∧ w ≤ 65535) (j : Nat) : ∃ n : Nat, ws.getD j 0 = (n : Int) ∧ n < 2 ^ 16 := by
  have h := word_range ws hw j
  exact ⟨(ws.getD j 0).toNat, by omega, by omega⟩
theorem bitAt_nat (ws : List Int) (i n : Nat) (h : ws.getD (i / 16) 0 = (n : Int)) : bitAt ws i = n.testBit (i % 16) := by
  unfold bitAt
  rw [h, Nat.testBit_eq_decide_div_mod_eq]
  have e : (n : Int) / 2 ^ (i % 16) % 2 = ((n / 2 ^ (i % 16) % 2 : Nat) : Int) := by simp
  rw [e, decide_eq_decide]; omega
/-- behind the end of a vector no bit stands -/
theorem good_end {s : Int} {ws : List Int} (h : Good s ws) (i : Nat) (hi : s ≤ (i : Int)) : bitAt ws i = false := by
  obtain ⟨h0, h1, h2, h3, h4⟩ := h
  obtain ⟨n, e, hn⟩ := word_nat ws h3 (i / 16)
  rw [bitAt_nat ws i n e]
  by_cases c : i / 16 < ws.length
  · rcases h4 with h4 | h4
    · omega
    · have e1 : i / 16 = ws.length - 1 := by omega
      rw [e1] at e
      rw [e] at h4
      have e2 : (n : Int) / 2 ^ (s % 16).toNat = ((n / 2 ^ (s % 16).toNat : Nat) : Int) := by simp
      rw [e2] at h4
      have h5 : n < 2 ^ (s % 16).toNat := by
        have hp : 0 < 2 ^ (s % 16).toNat := Nat.two_pow_pos _
        exact (Nat.div_eq_zero_iff_lt hp).mp (by omega)
      exact Nat.testBit_lt_two_pow (Nat.lt_of_lt_of_le h5 (Nat.pow_le_pow_right (by decide) (by omega)))
  · rw [List.getD_eq_getElem?_getD, List.getElem?_eq_none (by omega)] at e
    have : n = 0 := by simp at e; omega
    subst this; simp
/-- two vectors with the same bits are the same -/
theorem good_ext {s : Int} {ws ws' : List Int} (h : Good s ws) (h' : Good s ws') (hb : ∀ i : Nat, (i : Int) < s → bitAt ws i = bitAt ws' i) : ws = ws' := by
  have hl : ws.length = ws'.length := by have := h.2.2.1; have := h'.2.2.1; omega
  apply List.ext_getElem hl
  intro j c1 c2
  obtain ⟨n, e, hn⟩ := word_nat ws h.2.2.2.1 j
  obtain ⟨n', e', hn'⟩ := word_nat ws' h'.2.2.2.1 j
  have : n = n' := by
    apply Nat.eq_of_testBit_eq
    intro r
    by_cases c : r < 16
    · have a1 := bitAt_nat ws (16 * j + r) n (by rw [show (16 * j + r) / 16 = j from by omega]; exact e)
      have a2 := bitAt_nat ws' (16 * j + r) n' (by rw [show (16 * j + r) / 16 = j from by omega]; exact e')
      rw [show (16 * j + r) % 16 = r from by omega] at a1 a2
      rw [← a1, ← a2]
      by_cases c3 : ((16 * j + r : Nat) : Int) < s
      · exact hb _ c3
      · rw [good_end h _ (by omega), good_end h' _ (by omega)]
    · have hp : 2 ^ 16 ≤ 2 ^ r := Nat.pow_le_pow_right (by decide) (by omega)
      rw [Nat.testBit_lt_two_pow (by omega), Nat.testBit_lt_two_pow (by omega)]
  have g1 : ws.getD j 0 = ws[j] := by rw [List.getD_eq_getElem?_getD, List.getElem?_eq_getElem c1]; rfl
  have g2 : ws'.getD j 0 = ws'[j] := by rw [List.getD_eq_getElem?_getD, List.getElem?_eq_getElem c2]; rfl
  rw [← g1, ← g2, e, e', this]
/-- goodness by its bits -/
theorem good_of {s : Int} {ws : List Int} (h0 : 0 ≤ s) (h1 : s ≤ 4096) (h2 : (ws.length : Int) = (s + 15) / 16) (h3 : ∀ w ∈ ws, 0 ≤ w ∧ w ≤ 65535) (h4 : ∀ i : Nat, s ≤ (i : Int) → bitAt ws i = false) : Good s ws := by
  refine ⟨h0, h1, h2, h3, ?_⟩
  by_cases c : s % 16 = 0
  · exact Or.inl c
  · refine Or.inr ?_
    obtain ⟨n, e, hn⟩ := word_nat ws h3 (ws.length - 1)
    rw [e]
    have h5 : n < 2 ^ (s % 16).toNat := by
      apply Nat.lt_pow_two_of_testBit
      intro r hr
      by_cases c2 : r < 16
      · have a1 := bitAt_nat ws (16 * (ws.length - 1) + r) n (by rw [show (16 * (ws.length - 1) + r) / 16 = ws.length - 1 from by omega]; exact e)
        rw [show (16 * (ws.length - 1) + r) % 16 = r from by omega] at a1
        rw [← a1]
        exact h4 _ (by omega)
      · have hp : 2 ^ 16 ≤ 2 ^ r := Nat.pow_le_pow_right (by decide) (by omega)
        exact Nat.testBit_lt_two_pow (by omega)
    have e2 : (n : Int) / 2 ^ (s % 16).toNat = ((n / 2 ^ (s % 16).toNat : Nat) : Int) := by simp
    rw [e2, Nat.div_eq_of_lt h5]; rfl
theorem getD_set (ws : List Int) (j k : Nat) (x : Int) : (ws.set j x).getD k 0 = if j = k ∧ j < ws.length then x else ws.getD k 0 := by
  simp only [List.getD_eq_getElem?_getD, List.getElem?_set]
  by_cases c : j = k
  · subst c
    by_cases c2 : j < ws.length
    · simp [c2]
    · simp [c2, List.getElem?_eq_none (show ws.length ≤ j by omega)]
  · simp [c]
theorem or64 (a b : Nat) (ha : a < 2 ^ 16) (hb : b < 2 ^ 16) : Go.bits .or .i64 (a : Int) (b : Int) = ((a ||| b : Nat) : Int) :=
  (bits_nat .i64 62 (by decide) i64_small a b (by omega) (by omega)).2
theorem andNot64 (a b : Nat) (ha : a < 2 ^ 16) (hb : b < 2 ^ 16) : ∃ n : Nat, Go.bits .andNot .i64 (a : Int) (b : Int) = (n : Int) ∧ n < 2 ^ 16 ∧ ∀ r, n.testBit r = (a.testBit r && !b.testBit r) := by
  refine ⟨(BitVec.ofNat 64 a &&& ~~~ BitVec.ofNat 64 b).toNat, ?_, ?_, ?_⟩
  · have hb2 : (BitVec.ofNat 64 a &&& ~~~ BitVec.ofNat 64 b).toNat ≤ a := by
      rw [BitVec.toNat_and, BitVec.toNat_ofNat, Nat.mod_eq_of_lt (by omega)]; exact Nat.and_le_left
    have : Go.bits .andNot .i64 (a : Int) (b : Int) = IntKind.i64.wrap (((BitVec.ofNat 64 a &&& ~~~ BitVec.ofNat 64 b).toNat : Nat) : Int) := by
      simp only [Go.bits, BitVec.ofInt_natCast, IntKind.bits]; rfl
    rw [this, i64_small _ (by omega) (by omega)]
  · have hb2 : (BitVec.ofNat 64 a &&& ~~~ BitVec.ofNat 64 b).toNat ≤ a := by
      rw [BitVec.toNat_and, BitVec.toNat_ofNat, Nat.mod_eq_of_lt (by omega)]; exact Nat.and_le_left
    omega
  · intro r
    have hp : 2 ^ 16 ≤ 2 ^ 64 := by decide
    rw [BitVec.toNat_and, Nat.testBit_and, BitVec.toNat_ofNat, Nat.mod_eq_of_lt (by omega)]
    by_cases c : r < 64
    · congr 1
      rw [BitVec.testBit_toNat, BitVec.getLsbD_not, BitVec.getLsbD_ofNat]; simp [c]
    · have hp : 2 ^ 16 ≤ 2 ^ r := Nat.pow_le_pow_right (by decide) (by omega)
      rw [Nat.testBit_lt_two_pow (show a < 2 ^ r by omega)]; simp
theorem shl_pow (j : Nat) (hj : j < 60) : shl .i64 1 (j : Int) = ((2 ^ j : Nat) : Int) := by rw [shl_one j hj]; simp
/-- a word put in place of another -/
theorem good_put {s : Int} {ws : List Int} (h : Good s ws) (i : Nat) (hi : (i : Int) < s) (n : Nat) (hn : n < 2 ^ 16) (he : ∀ r, r < 16 → s ≤ ((16 * (i / 16) + r : Nat) : Int) → n.testBit r = false) :
    Good s (ws.set (i / 16) (n : Int)) ∧ ∀ k, bitAt (ws.set (i / 16) (n : Int)) k = if k / 16 = i / 16 then n.testBit (k % 16) else bitAt ws k := by
  obtain ⟨p1, p2⟩ := good_place h i hi
  have hb : ∀ k, bitAt (ws.set (i / 16) (n : Int)) k = if k / 16 = i / 16 then n.testBit (k % 16) else bitAt ws k := by
    intro k
    by_cases c : k / 16 = i / 16
    · rw [if_pos c]
      exact bitAt_nat _ _ _ (by rw [getD_set, if_pos ⟨c.symm, p1⟩])
    · rw [if_neg c]
      unfold bitAt
      rw [getD_set, if_neg (by omega)]
  refine ⟨good_of h.1 h.2.1 (by rw [List.length_set]; exact h.2.2.1) ?_ ?_, hb⟩
  · intro w hw
    rcases List.mem_or_eq_of_mem_set hw with hw | hw
    · exact h.2.2.2.1 w hw
    · subst hw; omega
  · intro k hk
    rw [hb]
    by_cases c : k / 16 = i / 16
    · rw [if_pos c]
      exact he (k % 16) (by omega) (by omega)
    · rw [if_neg c]; exact good_end h k hk
theorem tdiv16 (i : Nat) (hi : i < 4611686018427387904) : wrap64 (Int.tdiv (i : Int) 16) = ((i / 16 : Nat) : Int) := by
  rw [Int.tdiv_eq_ediv_of_nonneg (by omega), w64 (by omega) (by omega)]; omega
theorem tmod16 (i : Nat) : Int.tmod (i : Int) 16 = ((i % 16 : Nat) : Int) := by
  rw [Int.tmod_eq_emod_of_nonneg (by omega)]; omega
theorem rdD (ws : List Int) (j : Nat) : rd ws (j : Int) = ws.getD j 0 := by unfold rd; rw [Int.toNat_natCast]
/-- a bit set -/
theorem set_or {s : Int} {ws : List Int} (h : Good s ws) (i : Nat) (hi : (i : Int) < s) : ∃ ws', ws.set (i / 16) (Go.bits .or .i64 (ws.getD (i / 16) 0) (shl .i64 1 ((i % 16 : Nat) : Int))) = ws' ∧ Good s ws' ∧ ∀ k, bitAt ws' k = (decide (k = i) || bitAt ws k) := by
  obtain ⟨a, e, ha⟩ := word_nat ws h.2.2.2.1 (i / 16)
  have hp : 2 ^ (i % 16) < 2 ^ 16 := Nat.pow_lt_pow_right (by decide) (by omega)
  rw [e, shl_pow _ (by omega), or64 a _ ha hp]
  have ho : (a ||| 2 ^ (i % 16)) < 2 ^ 16 := Nat.or_lt_two_pow ha hp
  have tb : ∀ r, (a ||| 2 ^ (i % 16)).testBit r = (decide (r = i % 16) || a.testBit r) := by
    intro r; rw [Nat.testBit_or, Nat.testBit_two_pow, Bool.or_comm]; congr 1; rw [decide_eq_decide]; exact eq_comm
  have hw : ∀ k, k / 16 = i / 16 → a.testBit (k % 16) = bitAt ws k := fun k c => (bitAt_nat ws k a (by rw [c]; exact e)).symm
  obtain ⟨g, gb⟩ := good_put h i hi _ ho (by
    intro r hr hs
    rw [tb]
    have h1 := hw (16 * (i / 16) + r) (by omega)
    rw [show (16 * (i / 16) + r) % 16 = r from by omega, good_end h _ hs] at h1
    rw [h1, Bool.or_false, decide_eq_false_iff_not]; omega)
  refine ⟨_, rfl, g, fun k => ?_⟩
  rw [gb]
  by_cases c : k / 16 = i / 16
  · rw [if_pos c, tb, hw k c]; congr 1; rw [decide_eq_decide]; omega
  · rw [if_neg c, decide_eq_false (by intro e; exact c (by rw [e])), Bool.false_or]
/-- a bit cleared -/
theorem set_andNot {s : Int} {ws : List Int} (h : Good s ws) (i : Nat) (hi : (i : Int) < s) : ∃ ws', ws.set (i / 16) (Go.bits .andNot .i64 (ws.getD (i / 16) 0) (shl .i64 1 ((i % 16 : Nat) : Int))) = ws' ∧ Good s ws' ∧ ∀ k, bitAt ws' k = (!decide (k = i) && bitAt ws k) := by
  obtain ⟨a, e, ha⟩ := word_nat ws h.2.2.2.1 (i / 16)
  have hp : 2 ^ (i % 16) < 2 ^ 16 := Nat.pow_lt_pow_right (by decide) (by omega)
  obtain ⟨n, en, hn, tn⟩ := andNot64 a (2 ^ (i % 16)) ha hp
  rw [e, shl_pow _ (by omega), en]
  have tb : ∀ r, n.testBit r = (!decide (r = i % 16) && a.testBit r) := by
    intro r; rw [tn, Nat.testBit_two_pow, Bool.and_comm]; congr 2; rw [decide_eq_decide]; exact eq_comm
  have hw : ∀ k, k / 16 = i / 16 → a.testBit (k % 16) = bitAt ws k := fun k c => (bitAt_nat ws k a (by rw [c]; exact e)).symm
  obtain ⟨g, gb⟩ := good_put h i hi _ hn (by
    intro r hr hs
    rw [tb]
    have h1 := hw (16 * (i / 16) + r) (by omega)
    rw [show (16 * (i / 16) + r) % 16 = r from by omega, good_end h _ hs] at h1
    rw [h1, Bool.and_false])
  refine ⟨_, rfl, g, fun k => ?_⟩
  rw [gb]
  by_cases c : k / 16 = i / 16
  · rw [if_pos c, tb, hw k c]; congr 2; rw [decide_eq_decide]; omega
  · rw [if_neg c, decide_eq_false (by intro e; exact c (by rw [e]))]; simp

theorem good_zero (n : Nat) (hn : n ≤ 4096) : Good (n : Int) (List.replicate ((n + 15) / 16) 0) ∧ ∀ k, bitAt (List.replicate ((n + 15) / 16) 0) k = false := by
  have z : ∀ j, (List.replicate ((n + 15) / 16) (0 : Int)).getD j 0 = 0 := by
    intro j; rw [List.getD_eq_getElem?_getD, List.getElem?_replicate]; split <;> rfl
  have b : ∀ k, bitAt (List.replicate ((n + 15) / 16) 0) k = false := by
    intro k
    rw [bitAt_nat _ k 0 (by rw [z]; rfl)]; simp
  refine ⟨good_of (by omega) (by omega) (by rw [List.length_replicate]; omega) ?_ (fun i _ => b i), b⟩
  intro w hw
  have := List.eq_of_mem_replicate hw
  omega

theorem biSetS {s : Int} {ws : List Int} (h : Good s ws) (i : Nat) (hi : (i : Int) < s) : ∃ ws', spec_biSet.f s ws i = some ws' ∧ Good s ws' ∧ ∀ k, bitAt ws' k = (decide (k = i) || bitAt ws k) := by
  obtain ⟨p1, p2⟩ := good_place h i hi
  obtain ⟨ws', e, g, b⟩ := set_or h i hi
  refine ⟨ws', ?_, g, b⟩
  unfold spec_biSet.f
  rw [tdiv16 i (by omega), tmod16, if_pos (by omega), if_pos (by omega), if_pos (by omega), rdD, Int.toNat_natCast, e]
theorem biNewS (n : Nat) (hn : n ≤ 4096) : spec_biNew.f (n : Int) = some ((n : Int), List.replicate ((n + 15) / 16) 0) := by
  unfold spec_biNew.f
  rw [words_eq (n : Int) (by omega) (by omega), if_pos (by omega)]
  rw [show (((n : Int) + 15) / 16).toNat = (n + 15) / 16 from by omega, if_pos (by omega)]

theorem biSomeS_l (bs : List Bool) (hn : bs.length ≤ 4096) (d : Nat) : ∀ (k i : Nat) (ws : List Int), i + d = bs.length → Good bs.length ws → (∀ j, bitAt ws j = (decide (j < i) && bs.getD j false)) → d < k →
    ∃ ws', spec_biSome.l0 k bs bs.length i bs.length ws = some ((bs.length : Int), ws') ∧ Good bs.length ws' ∧ ∀ j, bitAt ws' j = bs.getD j false := by
  induction d with
  | zero =>
    intro k i ws hi g hb hk
    obtain ⟨k, rfl⟩ := succOf hk
    simp only [spec_biSome.l0]
    rw [if_neg (by omega)]
    refine ⟨ws, rfl, g, fun j => ?_⟩
    rw [hb]
    by_cases c : j < i
    · simp [c]
    · rw [decide_eq_false c, Bool.false_and, List.getD_eq_getElem?_getD, List.getElem?_eq_none (by omega)]; rfl
  | succ d ih =>
    intro k i ws hi g hb hk
    obtain ⟨k, rfl⟩ := succOf hk
    simp only [spec_biSome.l0]
    have er : rdOf false bs (i : Int) = bs.getD i false := by unfold rdOf; rw [Int.toNat_natCast]
    rw [if_pos (by omega), if_pos (by omega), if_pos (by omega), er, w64n i (by omega)]
    by_cases c : bs.getD i false = true
    · rw [if_pos c]
      obtain ⟨w2, e2, g2, b2⟩ := biSetS g i (by omega)
      rw [e2, Option.bind_some]
      refine ih k (i + 1) w2 (by omega) g2 (fun j => ?_) (by omega)
      rw [b2, hb]
      by_cases cj : j = i
      · subst cj; simp [c, -List.getD_eq_getElem?_getD]
      · rw [decide_eq_false cj, Bool.false_or]; congr 1; rw [decide_eq_decide]; omega
    · rw [if_neg c]
      refine ih k (i + 1) ws (by omega) g (fun j => ?_) (by omega)
      rw [hb]
      by_cases cj : j = i
      · subst cj; simp [Bool.not_eq_true _ ▸ c, -List.getD_eq_getElem?_getD]
      · congr 1; rw [decide_eq_decide]; omega
theorem biSomeS (bs : List Bool) (hn : bs.length ≤ 4096) : ∃ ws', Good bs.length ws' ∧ (∀ j, bitAt ws' j = bs.getD j false) ∧ ∀ k, bs.length < k → spec_biSome.f k bs = some ((bs.length : Int), ws') := by
  obtain ⟨z1, z2⟩ := good_zero bs.length hn
  obtain ⟨ws', e, g, b⟩ := biSomeS_l bs hn bs.length (bs.length + 1) 0 (List.replicate ((bs.length + 15) / 16) 0) (by omega) z1 (by intro j; rw [z2]; simp) (by omega)
  refine ⟨ws', g, b, fun k hk => ?_⟩
  obtain ⟨ws2, e2, g2, b2⟩ := biSomeS_l bs hn bs.length k 0 (List.replicate ((bs.length + 15) / 16) 0) (by omega) z1 (by intro j; rw [z2]; simp) (by omega)
  have : ws' = ws2 := good_ext g g2 (fun i _ => by rw [b, b2])
  unfold spec_biSome.f
  rw [biNewS bs.length hn, Option.bind_some]
  rw [this]; exact e2

theorem bitsC_l (c : List Int) (h : Bytes c) (d : Nat) : ∀ (bs : List Bool) (at_ sd : Int) (n : Nat), Pl n at_ → n + 2 * d < 2305843009213693952 → bs.length + d ≤ 4096 →
    ∃ s ws at' sd', Good s ws ∧ s = ((bs.length + d : Nat) : Int) ∧ Pl (n + 2 * d) at' ∧ ∀ k, 5000 + d < k → spec_l1Cur_bits.l0 k bs d c at_ sd = some (s, ws, at', sd') := by
  induction d with
  | zero =>
    intro bs at_ sd n hp hn hb
    obtain ⟨ws, g, _, e⟩ := biSomeS bs (by omega)
    refine ⟨_, ws, at_, sd, g, rfl, hp, fun k hk => ?_⟩
    obtain ⟨k, rfl⟩ := succOf hk
    simp only [spec_l1Cur_bits.l0]
    rw [if_neg (by omega), e k (by omega)]; rfl
  | succ d ih =>
    intro bs at_ sd n hp hn hb
    obtain ⟨b, a1, s1, e1, p1⟩ := oneC c h at_ sd 2 n hp (by omega) (by omega)
    obtain ⟨s, ws, a2, s2, g, es, p2, e2⟩ := ih (bs ++ [b]) a1 s1 (n + 2) p1 (by omega) (by simp only [List.length_append, List.length_cons, List.length_nil]; omega)
    refine ⟨s, ws, a2, s2, g, ?_, ?_, fun k hk => ?_⟩
    · rw [es]; simp only [List.length_append, List.length_cons, List.length_nil]; omega
    · unfold Pl at *; omega
    · obtain ⟨k, rfl⟩ := succOf hk
      simp only [spec_l1Cur_bits.l0]
      rw [if_pos (by omega), e1, Option.bind_some]
      simp only
      rw [if_pos (by omega), w64 (by omega) (by omega), show ((d + 1 : Nat) : Int) - 1 = (d : Int) from by omega]
      exact e2 k (by omega)
theorem bitsC (c : List Int) (h : Bytes c) (at_ sd : Int) (m n : Nat) (hp : Pl n at_) (hn : n < 1000000000) (hm : m ≤ 4096) :
    ∃ s ws at' sd', Good s ws ∧ s ≤ m ∧ Pl (n + 2 * m + 2) at' ∧ ∀ k, 10000 ≤ k → spec_l1Cur_bits.f k c at_ sd m = some (s, ws, at', sd') := by
  obtain ⟨x, a1, s1, e1, p1, x0, x1⟩ := pickC c h at_ sd ((m + 1 : Nat) : Int) n hp (by omega) (by omega)
  obtain ⟨s, ws, a2, s2, g, es, p2, e2⟩ := bitsC_l c h x.toNat [] a1 s1 (n + 2) p1 (by omega) (by simp only [List.length_nil]; omega)
  simp only [List.length_nil] at es
  refine ⟨s, ws, a2, s2, g, by omega, ?_, fun k hk => ?_⟩
  · unfold Pl at *; omega
  · unfold spec_l1Cur_bits.f
    rw [w64n m (by omega), e1, Option.bind_some]
    simp only
    have := e2 k (by omega)
    rwa [Int.toNat_of_nonneg x0] at this

theorem anyBitsC (c : List Int) (h : Bytes c) (at_ sd : Int) (n : Nat) (hp : Pl n at_) (hn : n < 900000000) :
    ∃ s ws at' sd', -1 ≤ s ∧ s ≤ 4096 ∧ ws.length ≤ 300 ∧ Pl (n + 100) at' ∧ ∀ k, 10000 ≤ k → spec_l1Cur_anyBits.f k c at_ sd = some (s, ws, at', sd') := by
  obtain ⟨s, ws, a1, s1, g, hs, p1, e1⟩ := bitsC c h at_ sd 40 n hp (by omega) (by omega)
  have g0 := g.1
  have g2 := g.2.2.1
  obtain ⟨x, a2, s2, e2, p2, x0, x1⟩ := pickC c h a1 s1 16 (n + 2 * 40 + 2) p1 (by omega) (by omega)
  have start (k : Nat) (hk : 10000 ≤ k) : spec_l1Cur_bits.f k c at_ sd 40 = some (s, ws, a1, s1) := e1 k hk
  unfold spec_l1Cur_anyBits.f
  by_cases c0 : x = 0
  · obtain ⟨y, a3, s3, e3, p3, y0, y1⟩ := pickC c h a2 s2 2 _ p2 (by omega) (by omega)
    refine ⟨s, ws ++ [y], a3, s3, by omega, by omega, by simp only [List.length_append, List.length_cons, List.length_nil]; omega, by unfold Pl at *; omega, fun k hk => ?_⟩
    rw [start k hk, Option.bind_some]; simp only
    rw [e2, Option.bind_some]; simp only
    rw [if_pos c0, e3, Option.bind_some, if_pos (by omega)]
  by_cases c1 : x = 1
  · obtain ⟨y, a3, s3, e3, p3, y0, y1⟩ := pickC c h a2 s2 3 _ p2 (by omega) (by omega)
    refine ⟨s + (y - 1), ws, a3, s3, by omega, by omega, by omega, by unfold Pl at *; omega, fun k hk => ?_⟩
    rw [start k hk, Option.bind_some]; simp only
    rw [e2, Option.bind_some]; simp only
    rw [if_neg c0, if_pos c1, e3, Option.bind_some]; simp only
    rw [w64 (x := y - 1) (by omega) (by omega), w64 (by omega) (by omega)]
  by_cases c2 : x = 2
  · by_cases cl : (ws.length : Int) > 0
    · obtain ⟨y, a3, s3, e3, p3, y0, y1⟩ := pickC c h a2 s2 ws.length _ p2 (by omega) (by omega)
      obtain ⟨z, a4, s4, e4, p4⟩ := amongC c h a3 s3 ([(-1), 65535, 65536, 40000] : List Int) _ p3 (by omega) (by simp) (by simp)
      refine ⟨s, ws.set y.toNat z, a4, s4, by omega, by omega, by rw [List.length_set]; omega, by unfold Pl at *; omega, fun k hk => ?_⟩
      rw [start k hk, Option.bind_some]; simp only
      rw [e2, Option.bind_some]; simp only
      rw [if_neg c0, if_neg c1, if_pos c2, if_pos cl, e3, Option.bind_some]; simp only
      rw [e4, Option.bind_some]; simp only
      rw [if_pos y0, if_pos (by omega)]
    · refine ⟨s, ws, a2, s2, by omega, by omega, by omega, by unfold Pl at *; omega, fun k hk => ?_⟩
      rw [start k hk, Option.bind_some]; simp only
      rw [e2, Option.bind_some]; simp only
      rw [if_neg c0, if_neg c1, if_pos c2, if_neg cl]
  by_cases c3 : x = 3
  · obtain ⟨y, a3, s3, e3, p3, y0, y1⟩ := pickC c h a2 s2 2 _ p2 (by omega) (by omega)
    have nw := biNewS (4096 - y).toNat (by omega)
    rw [Int.toNat_of_nonneg (by omega)] at nw
    refine ⟨4096 - y, List.replicate (((4096 - y).toNat + 15) / 16) 0, a3, s3, by omega, by omega, by rw [List.length_replicate]; omega, by unfold Pl at *; omega, fun k hk => ?_⟩
    rw [start k hk, Option.bind_some]; simp only
    rw [e2, Option.bind_some]; simp only
    rw [if_neg c0, if_neg c1, if_neg c2, if_pos c3, e3, Option.bind_some]; simp only
    rw [w64 (by omega) (by omega), nw, Option.bind_some]
  by_cases c4 : x = 4
  · obtain ⟨y, a3, s3, e3, p3, y0, y1⟩ := pickC c h a2 s2 5 _ p2 (by omega) (by omega)
    have nw := biNewS (16 * y).toNat (by omega)
    rw [Int.toNat_of_nonneg (by omega)] at nw
    refine ⟨16 * y, List.replicate (((16 * y).toNat + 15) / 16) 0, a3, s3, by omega, by omega, by rw [List.length_replicate]; omega, by unfold Pl at *; omega, fun k hk => ?_⟩
    rw [start k hk, Option.bind_some]; simp only
    rw [e2, Option.bind_some]; simp only
    rw [if_neg c0, if_neg c1, if_neg c2, if_neg c3, if_pos c4, e3, Option.bind_some]; simp only
    rw [w64 (by omega) (by omega), nw, Option.bind_some]
  · refine ⟨s, ws, a2, s2, by omega, by omega, by omega, by unfold Pl at *; omega, fun k hk => ?_⟩
    rw [start k hk, Option.bind_some]; simp only
    rw [e2, Option.bind_some]; simp only
    rw [if_neg c0, if_neg c1, if_neg c2, if_neg c3, if_neg c4]

/-- the letters of n bits from i on -/
def textN (b : Nat → Bool) : Nat → Nat → List Int
  | _, 0 => []
  | i, n + 1 => (if b i = true then 49 else 48) :: textN b (i + 1) n
open Classical in
/-- what BitsText answers -/
noncomputable def textAns (s : Int) (ws : List Int) : ByteArray × Bool :=
  if Good s ws then (if s = 0 then ((⟨#[45]⟩ : ByteArray), true) else (strOfNums (textN (bitAt ws) 0 s.toNat), true)) else ((⟨#[]⟩ : ByteArray), false)

theorem atS (s : Int) (ws : List Int) (i : Nat) (h : i / 16 < ws.length) (hw : ∀ w ∈ ws, 0 ≤ w ∧ w ≤ 65535) (hi : i < 4611686018427387904) : spec_biAt.f s ws i = some (bitAt ws i) := at_eq ws i h hw hi
theorem atS_good {s : Int} {ws : List Int} (h : Good s ws) (i : Nat) (hi : (i : Int) < s) : spec_biAt.f s ws i = some (bitAt ws i) :=
  atS s ws i (good_place h i hi).1 (good_words s ws h) (by have := good_place h i hi; omega)

theorem inS (a b c : Int) : spec_l1In.f a b c = some (decide (b ≤ a ∧ a ≤ c)) := by
  unfold spec_l1In.f; split <;> simp [*]

theorem l1All_l (l : List Int) (lo hi : Int) (hl : l.length < 9223372036854775807) : ∀ (suf pre : List Int) (k : Nat), l = pre ++ suf → suf.length < k →
    spec_l1All.l0 k lo hi l l.length pre.length = some (decide (∀ w ∈ suf, lo ≤ w ∧ w ≤ hi)) := by
  intro suf
  induction suf with
  | nil =>
    intro pre k e hk
    obtain ⟨k, rfl⟩ := succOf hk
    simp only [spec_l1All.l0]
    have : l.length = pre.length := by rw [e]; simp
    rw [if_neg (by omega)]; simp
  | cons x suf ih =>
    intro pre k e hk
    obtain ⟨k, rfl⟩ := succOf hk
    simp only [spec_l1All.l0]
    have hlen : l.length = pre.length + suf.length + 1 := by rw [e]; simp; omega
    have e1 : rd l (pre.length : Int) = x := by rw [e]; exact rd_mid pre suf x
    have e2 : (pre ++ [x]).length = pre.length + 1 := by simp
    have h3 := ih (pre ++ [x]) k (by rw [e]; simp) (by simp only [List.length_cons] at hk; omega)
    rw [e2] at h3
    rw [if_pos (by omega), if_pos (by omega), if_pos (by omega), e1, inS, Option.bind_some, w64n _ (by omega), h3]
    by_cases c : lo ≤ x ∧ x ≤ hi
    · rw [decide_eq_true c, if_pos rfl]; congr 1; rw [decide_eq_decide]; simp [c]
    · rw [decide_eq_false c, if_neg (by simp)]; congr 1; symm; rw [decide_eq_false_iff_not]; intro g; exact c (g x (by simp))
theorem l1All (l : List Int) (lo hi : Int) (k : Nat) (hl : l.length < 9223372036854775807) (hk : l.length < k) : spec_l1All.f k l lo hi = some (decide (∀ w ∈ l, lo ≤ w ∧ w ≤ hi)) := by
  unfold spec_l1All.f
  have h := l1All_l l lo hi hl l [] k rfl hk
  simpa using h

theorem goodS (s : Int) (ws : List Int) (k : Nat) (hl : ws.length < 9223372036854775807) (hk : ws.length < k) : spec_biGood.f k s ws = some (decide (Good s ws)) := by
  unfold spec_biGood.f
  rw [inS, Option.bind_some]
  by_cases c : 0 ≤ s ∧ s ≤ 4096
  · rw [decide_eq_true c, if_pos rfl, words_eq s c.1 c.2]
    by_cases c2 : (ws.length : Int) = (s + 15) / 16
    · rw [if_pos c2, l1All ws 0 65535 k hl hk, Option.bind_some]
      by_cases c3 : ∀ w ∈ ws, 0 ≤ w ∧ w ≤ 65535
      · rw [decide_eq_true c3, if_pos rfl, last_eq s ws c.1 c.2 c2]
        congr 1; rw [decide_eq_decide]; unfold Good
        exact ⟨fun h => ⟨c.1, c.2, c2, c3, h⟩, fun h => h.2.2.2.2⟩
      · rw [decide_eq_false c3, if_neg (by simp)]; congr 1; symm; rw [decide_eq_false_iff_not]; exact fun h => c3 h.2.2.2.1
    · rw [if_neg c2]; congr 1; symm; rw [decide_eq_false_iff_not]; exact fun h => c2 h.2.2.1
  · rw [decide_eq_false c, if_neg (by simp)]; congr 1; symm; rw [decide_eq_false_iff_not]; exact fun h => c ⟨h.1, h.2.1⟩

theorem textS_l {s : Int} {ws : List Int} (h : Good s ws) (d : Nat) : ∀ (k i : Nat) (acc : List Int), ((i + d : Nat) : Int) = s → acc.length = i → d < k →
    spec_biText.l0 k acc i s ws = some (strOfNums (acc ++ textN (bitAt ws) i d)) := by
  have hs := h.2.1
  induction d with
  | zero =>
    intro k i acc hi ha hk
    obtain ⟨k, rfl⟩ := succOf hk
    simp only [spec_biText.l0, textN]
    rw [if_neg (by omega), List.append_nil]
  | succ d ih =>
    intro k i acc hi ha hk
    obtain ⟨k, rfl⟩ := succOf hk
    simp only [spec_biText.l0, textN]
    rw [if_pos (by omega), atS_good h i (by omega), Option.bind_some, w64n i (by omega)]
    have h1 := ih k (i + 1) (acc ++ [49]) (by omega) (by simp [ha]) (by omega)
    have h2 := ih k (i + 1) (acc ++ [48]) (by omega) (by simp [ha]) (by omega)
    cases c : bitAt ws i
    · rw [if_neg (by simp), if_pos (by omega), h2]; simp
    · rw [if_pos rfl, if_pos (by omega), h1]; simp
theorem bitsTextS (s : Int) (ws : List Int) (k : Nat) (hl : ws.length < 9223372036854775807) (hk : ws.length + 5000 < k) : spec_BitsText.f k s ws = some (textAns s ws) := by
  unfold spec_BitsText.f textAns spec_biText.f
  rw [goodS s ws k hl (by omega), Option.bind_some]
  by_cases c : Good s ws
  · rw [decide_eq_true c, if_pos rfl, if_pos c]
    by_cases c2 : s = 0
    · rw [if_pos c2, if_pos c2]; rfl
    · have h := textS_l c s.toNat k 0 [] (by have := c.1; omega) rfl (by have := c.2.1; omega)
      simp only [Int.natCast_zero, List.nil_append] at h
      rw [if_neg c2, if_neg c2, h]; rfl
  · rw [decide_eq_false c, if_neg (by simp), if_neg c]

theorem atI (s : Int) (ws : List Int) (i : Nat) (h : i / 16 < ws.length) (hw : ∀ w ∈ ws, 0 ≤ w ∧ w ≤ 65535) (hi : i < 4611686018427387904) : impl_Bits_at.f s ws i = some (bitAt ws i) := at_eq ws i h hw hi
theorem atI_good {s : Int} {ws : List Int} (h : Good s ws) (i : Nat) (hi : (i : Int) < s) : impl_Bits_at.f s ws i = some (bitAt ws i) :=
  atI s ws i (good_place h i hi).1 (good_words s ws h) (by have := good_place h i hi; omega)

theorem inI (a b c : Int) : impl_in.f a b c = some (decide (b ≤ a ∧ a ≤ c)) := by
  unfold impl_in.f; split <;> simp [*]

theorem goodI_l (s : Int) (ws : List Int) (hl : ws.length < 9223372036854775807) (h0 : 0 ≤ s) (h1 : s ≤ 4096) (h2 : (ws.length : Int) = (s + 15) / 16) : ∀ (suf pre : List Int) (k : Nat), ws = pre ++ suf → suf.length < k →
    impl_IsBits.l0 k ws ws.length pre.length s ws = some (decide ((∀ w ∈ suf, 0 ≤ w ∧ w ≤ 65535) ∧ (s % 16 = 0 ∨ ws.getD (ws.length - 1) 0 / 2 ^ (s % 16).toNat = 0))) := by
  intro suf
  induction suf with
  | nil =>
    intro pre k e hk
    obtain ⟨k, rfl⟩ := succOf hk
    simp only [impl_IsBits.l0]
    have : ws.length = pre.length := by rw [e]; simp
    rw [if_neg (by omega), last_eq s ws h0 h1 h2]; simp
  | cons x suf ih =>
    intro pre k e hk
    obtain ⟨k, rfl⟩ := succOf hk
    simp only [impl_IsBits.l0]
    have hlen : ws.length = pre.length + suf.length + 1 := by rw [e]; simp; omega
    have e1 : rd ws (pre.length : Int) = x := by rw [e]; exact rd_mid pre suf x
    have e2 : (pre ++ [x]).length = pre.length + 1 := by simp
    have h3 := ih (pre ++ [x]) k (by rw [e]; simp) (by simp only [List.length_cons] at hk; omega)
    rw [e2] at h3
    rw [if_pos (by omega), if_pos (by omega), if_pos (by omega), e1, inI, Option.bind_some, w64n _ (by omega), h3]
    by_cases c : 0 ≤ x ∧ x ≤ 65535
    · rw [decide_eq_true c, if_pos rfl]; congr 1; rw [decide_eq_decide]; simp [c]
    · rw [decide_eq_false c, if_neg (by simp)]; congr 1; symm; rw [decide_eq_false_iff_not]; intro g; exact c (g.1 x (by simp))
theorem goodI (s : Int) (ws : List Int) (k : Nat) (hl : ws.length < 9223372036854775807) (hk : ws.length + 1 < k) : impl_IsBits.f k s ws = some (decide (Good s ws)) := by
  obtain ⟨k, rfl⟩ := succOf hk
  unfold impl_IsBits.f impl_words.f
  rw [inI, Option.bind_some]
  by_cases c : 0 ≤ s ∧ s ≤ 4096
  · rw [decide_eq_true c, if_pos rfl, Option.bind_some, words_eq2 s c.1 c.2]
    simp only [impl_IsBits.j0]
    by_cases c2 : (ws.length : Int) = (s + 15) / 16
    · have h := goodI_l s ws hl c.1 c.2 c2 ws [] k rfl (by omega)
      simp only [List.length_nil, Int.natCast_zero] at h
      rw [if_neg (by simpa using c2), h]
      congr 1; rw [decide_eq_decide]; unfold Good
      exact ⟨fun h => ⟨c.1, c.2, c2, h.1, h.2⟩, fun h => h.2.2.2⟩
    · rw [if_pos (by simpa using c2)]; congr 1; symm; rw [decide_eq_false_iff_not]; exact fun h => c2 h.2.2.1
  · rw [decide_eq_false c, if_neg (by simp)]; simp only [impl_IsBits.j0, if_true]; congr 1; symm; rw [decide_eq_false_iff_not]; exact fun h => c ⟨h.1, h.2.1⟩

theorem textI_l {s : Int} {ws : List Int} (h : Good s ws) (d : Nat) : ∀ (k i : Nat) (acc : List Int), ((i + d : Nat) : Int) = s → acc.length = i → d < k →
    impl_BitsText.l0 k acc s i s ws = some (strOfNums (acc ++ textN (bitAt ws) i d), true) := by
  have hs := h.2.1
  induction d with
  | zero =>
    intro k i acc hi ha hk
    obtain ⟨k, rfl⟩ := succOf hk
    simp only [impl_BitsText.l0, textN]
    rw [if_neg (by omega), List.append_nil]
  | succ d ih =>
    intro k i acc hi ha hk
    obtain ⟨k, rfl⟩ := succOf hk
    simp only [impl_BitsText.l0, textN]
    have b0 : bt (⟨#[48, 49]⟩ : ByteArray) 0 = 48 := by decide
    have b1 : bt (⟨#[48, 49]⟩ : ByteArray) 1 = 49 := by decide
    rw [if_pos (by omega), atI_good h i (by omega), Option.bind_some, w64n i (by omega), b0, b1]
    have h1 := ih k (i + 1) (acc ++ [49]) (by omega) (by simp [ha]) (by omega)
    have h2 := ih k (i + 1) (acc ++ [48]) (by omega) (by simp [ha]) (by omega)
    cases c : bitAt ws i
    · rw [if_neg (by simp), if_pos (by omega), if_pos (by omega), h2]; simp
    · rw [if_pos rfl, if_pos (by omega), if_pos (by omega), h1]; simp
theorem bitsTextI (s : Int) (ws : List Int) (k : Nat) (hl : ws.length < 9223372036854775807) (hk : ws.length + 5000 < k) : impl_BitsText.f k s ws = some (textAns s ws) := by
  unfold impl_BitsText.f textAns
  rw [goodI s ws k hl (by omega), Option.bind_some]
  by_cases c : Good s ws
  · rw [decide_eq_true c, if_pos rfl, if_pos c]
    by_cases c2 : s = 0
    · rw [if_pos c2, if_pos c2]
    · have h := textI_l c s.toNat k 0 [] (by have := c.1; omega) rfl (by have := c.2.1; omega)
      simp only [Int.natCast_zero, List.nil_append] at h
      rw [if_neg c2, if_neg c2, h]
  · rw [decide_eq_false c, if_neg (by simp), if_neg c]

def Dig (s : ByteArray) (j : Nat) : Prop := bt s (j : Int) = 48 ∨ bt s (j : Int) = 49
def digs (s : ByteArray) (n : Nat) : List Bool := (List.range n).map fun j : Nat => bt s (j : Int) == 49
theorem dropW_nil (l : List UInt8) (p : UInt8 → Bool) : l.dropWhile p = [] ↔ ∀ x ∈ l, p x = true := by
  induction l with
  | nil => simp
  | cons a l ih =>
    by_cases c : p a = true
    · rw [List.dropWhile_cons_of_pos c, ih]; simp [c]
    · rw [List.dropWhile_cons_of_neg c]; simp [c]
theorem trim_nil (l : List UInt8) : Lib.trimS l [48, 49] = [] ↔ ∀ x ∈ l, x = 48 ∨ x = 49 := by
  have hp : ∀ x : UInt8, ([48, 49] : List UInt8).contains x = true ↔ x = 48 ∨ x = 49 := fun x => by simp
  unfold Lib.trimS Lib.trimLeftS Lib.trimRightS
  constructor
  · intro h
    rw [dropW_nil] at h
    by_cases e : l.reverse.dropWhile (([48, 49] : List UInt8).contains ·) = []
    · rw [dropW_nil] at e
      exact fun x hx => (hp x).mp (e x (List.mem_reverse.mpr hx))
    · have h1 := List.head_dropWhile_not (([48, 49] : List UInt8).contains ·) e
      have h2 := h ((l.reverse.dropWhile (([48, 49] : List UInt8).contains ·)).head e) (List.mem_reverse.mpr (List.head_mem e))
      rw [h1] at h2; cases h2
  · intro h
    have e : l.reverse.dropWhile (([48, 49] : List UInt8).contains ·) = [] := (dropW_nil _ _).mpr fun x hx => (hp x).mpr (h x (List.mem_reverse.mp hx))
    rw [e]; rfl
theorem dig_mem (s : ByteArray) : (∀ x ∈ s.data.toList, x = 48 ∨ x = 49) ↔ ∀ j, j < s.size → Dig s j := by
  have hb : ∀ (j : Nat) (h : j < s.size), bt s (j : Int) = ((s[j]'h).toNat : Int) := fun j h => (bt_at s (j : Int) (by rw [Int.toNat_natCast]; exact h)).symm
  constructor
  · intro h j hj
    have m : (s[j]'hj) ∈ s.data.toList := by
      rw [Array.mem_toList_iff]; exact Array.getElem_mem hj
    unfold Dig
    rw [hb j hj]
    rcases h _ m with e | e <;> rw [e] <;> simp
  · intro h x hx
    rw [Array.mem_toList_iff] at hx
    obtain ⟨j, hj, e⟩ := Array.getElem_of_mem hx
    have hj' : j < s.size := hj
    have e' : (s[j]'hj') = x := e
    have d := h j hj'
    unfold Dig at d
    rw [hb j hj', e'] at d
    rcases d with d | d
    · left; apply UInt8.toNat_inj.mp; have : x.toNat = 48 := by omega
      rw [this]; rfl
    · right; apply UInt8.toNat_inj.mp; have : x.toNat = 49 := by omega
      rw [this]; rfl

theorem blankI (n : Nat) (hn : n ≤ 4096) : impl_blank.f (n : Int) = some ((n : Int), List.replicate ((n + 15) / 16) 0) := by
  unfold impl_blank.f impl_words.f
  rw [words_eq2 (n : Int) (by omega) (by omega), Option.bind_some, if_pos (by omega)]
  rw [show (((n : Int) + 15) / 16).toNat = (n + 15) / 16 from by omega, if_pos (by omega)]

theorem setI {s : Int} {ws : List Int} (h : Good s ws) (i : Nat) (hi : (i : Int) < s) (v : Bool) : ∃ ws', impl_Bits_set.f s ws i v = some ws' ∧ Good s ws' ∧ ∀ k, bitAt ws' k = if k = i then v else bitAt ws k := by
  obtain ⟨p1, p2⟩ := good_place h i hi
  obtain ⟨w1, e1, g1, b1⟩ := set_andNot h i hi
  obtain ⟨w2, e2, g2, b2⟩ := set_or g1 i hi
  unfold impl_Bits_set.f
  rw [tdiv16 i (by omega), tmod16, if_pos (by omega), if_pos (by omega), if_pos (by omega), rdD, Int.toNat_natCast, e1, Option.bind_some, rdD, e2]
  cases v
  · refine ⟨w1, by rw [if_neg (by simp)], g1, fun k => ?_⟩
    rw [b1]
    by_cases c : k = i <;> simp [c]
  · refine ⟨w2, by rw [if_pos rfl], g2, fun k => ?_⟩
    rw [b2, b1]
    by_cases c : k = i <;> simp [c]

theorem madeI_l (g : Int → Option Bool) (p : Nat → Bool) (n : Nat) (hn : n ≤ 4096) (hg : ∀ i : Nat, i < n → g (i : Int) = some (p i)) (d : Nat) : ∀ (k i : Nat) (ws : List Int), i + d = n → Good n ws → (∀ j, bitAt ws j = (decide (j < i) && p j)) → d < k →
    ∃ ws', impl_madeBits.l0 k g n i n ws = some ((n : Int), ws') ∧ Good n ws' ∧ ∀ j, bitAt ws' j = (decide (j < n) && p j) := by
  induction d with
  | zero =>
    intro k i ws hi gd hb hk
    obtain ⟨k, rfl⟩ := succOf hk
    simp only [impl_madeBits.l0]
    rw [if_neg (by omega)]
    exact ⟨ws, rfl, gd, fun j => by rw [hb, show i = n by omega]⟩
  | succ d ih =>
    intro k i ws hi gd hb hk
    obtain ⟨k, rfl⟩ := succOf hk
    simp only [impl_madeBits.l0]
    obtain ⟨w2, e2, g2, b2⟩ := setI gd i (by omega) (p i)
    rw [if_pos (by omega), hg i (by omega), Option.bind_some, e2, Option.bind_some, w64n i (by omega)]
    refine ih k (i + 1) w2 (by omega) g2 (fun j => ?_) (by omega)
    rw [b2, hb]
    by_cases cj : j = i
    · subst cj; simp
    · rw [if_neg cj]; congr 1; rw [decide_eq_decide]; omega
/-- a vector made of what is told of its bits -/
theorem madeI (g : Int → Option Bool) (p : Nat → Bool) (n : Nat) (hn : n ≤ 4096) (hg : ∀ i : Nat, i < n → g (i : Int) = some (p i)) : ∃ ws', Good n ws' ∧ (∀ j, bitAt ws' j = (decide (j < n) && p j)) ∧ ∀ k, n < k → impl_madeBits.f k n g = some ((n : Int), ws') := by
  obtain ⟨z1, z2⟩ := good_zero n hn
  obtain ⟨ws', e, gd, b⟩ := madeI_l g p n hn hg n (n + 1) 0 (List.replicate ((n + 15) / 16) 0) (by omega) z1 (by intro j; rw [z2]; simp) (by omega)
  refine ⟨ws', gd, b, fun k hk => ?_⟩
  obtain ⟨ws2, e2, g2, b2⟩ := madeI_l g p n hn hg n k 0 (List.replicate ((n + 15) / 16) 0) (by omega) z1 (by intro j; rw [z2]; simp) (by omega)
  have : ws' = ws2 := good_ext gd g2 (fun i _ => by rw [b, b2])
  unfold impl_madeBits.f
  rw [blankI n hn, Option.bind_some]
  rw [this]; exact e2

theorem cut_nil (s : ByteArray) : (impl_ParseBits.cut s).toList = [] ↔ ∀ j, j < s.size → Dig s j := by
  unfold impl_ParseBits.cut
  rw [ByteArray.toList_mk, trim_nil, dig_mem]
/-- what ParseBits answers of a text of digits -/
theorem parseI (s : ByteArray) (hc : ¬ s.toList = ([45] : List UInt8)) (hD : ∀ j, j < s.size → Dig s j) (c2 : 1 ≤ (s.size : Int) ∧ (s.size : Int) ≤ 4096) :
    ∃ ws, Good s.size ws ∧ (∀ j : Nat, bitAt ws j = (decide (j < s.size) && (bt s (j : Int) == 49))) ∧ ∀ k, 5000 ≤ k → impl_ParseBits.f k s = some ((s.size : Int), ws, true) := by
  obtain ⟨w2, g2, b2, e2⟩ := madeI (impl_ParseBits.of s) (fun j => bt s (j : Int) == 49) s.size (by omega) (by
    intro i hi
    unfold impl_ParseBits.of
    rw [if_pos ⟨by omega, by omega⟩]; rfl)
  refine ⟨w2, g2, b2, fun k hk => ?_⟩
  unfold impl_ParseBits.f
  rw [if_neg hc, inI, Option.bind_some, decide_eq_true c2, if_pos rfl, if_pos (by omega), if_pos ((cut_nil s).mpr hD), e2 k (by omega)]; rfl

theorem textN_len (b : Nat → Bool) (n : Nat) : ∀ i, (textN b i n).length = n := by
  induction n with
  | zero => intro i; rfl
  | succ n ih => intro i; simp only [textN, List.length_cons, ih]
theorem textN_at (b : Nat → Bool) (n : Nat) : ∀ i j, j < n → (textN b i n)[j]? = some (if b (i + j) = true then 49 else 48) := by
  induction n with
  | zero => intro i j hj; omega
  | succ n ih =>
    intro i j hj
    simp only [textN]
    cases j with
    | zero => rfl
    | succ j => rw [List.getElem?_cons_succ, ih (i + 1) j (by omega), show i + 1 + j = i + (j + 1) by omega]
theorem strN_size (xs : List Int) : (strOfNums xs).size = xs.length := by
  unfold strOfNums
  show (List.map _ xs).toArray.size = _
  simp
theorem strN_bt (xs : List Int) (j v : Nat) (h : xs[j]? = some (v : Int)) (hv : v < 256) : bt (strOfNums xs) (j : Int) = (v : Int) := by
  have hj : j < xs.length := (List.getElem?_eq_some_iff.mp h).1
  have hs : (j : Int).toNat < (strOfNums xs).size := by rw [strN_size]; omega
  rw [← bt_at _ _ hs]
  have e : (strOfNums xs)[(j : Int).toNat]'hs = UInt8.ofNat v := by
    have e2 := (List.getElem?_eq_some_iff.mp h).2
    show ((xs.map fun n => UInt8.ofNat n.toNat).toArray)[j]'(by simpa using hj) = _
    rw [List.getElem_toArray, List.getElem_map, e2, Int.toNat_natCast]
  rw [e, UInt8.toNat_ofNat']
  omega
/-- the letters of a text of bits -/
theorem text_bt (b : Nat → Bool) (n j : Nat) (hj : j < n) : bt (strOfNums (textN b 0 n)) (j : Int) = if b j = true then 49 else 48 := by
  have h := textN_at b n 0 j hj
  rw [Nat.zero_add] at h
  by_cases c : b j = true
  · rw [if_pos c] at h ⊢; exact strN_bt _ j 49 h (by decide)
  · rw [if_neg c] at h ⊢; exact strN_bt _ j 48 h (by decide)
theorem strN_list (xs : List Int) : (strOfNums xs).toList = xs.map fun n => UInt8.ofNat n.toNat := by
  unfold strOfNums
  rw [ByteArray.toList_mk]
/-- a text of bits is not the sign of the empty vector -/
theorem text_not (b : Nat → Bool) (n : Nat) : ¬ (strOfNums (textN b 0 n)).toList = ([45] : List UInt8) := by
  rw [strN_list]
  cases n with
  | zero => simp [textN]
  | succ n =>
    simp only [textN, List.map_cons, List.cons.injEq, not_and]
    intro h
    split at h
    · exact absurd h (by decide)
    · exact absurd h (by decide)

theorem cloneI (s : Int) (ws : List Int) (h : ws.length < 17592186044416) : impl_cloneBits.f s ws = some (s, ws) := by
  unfold impl_cloneBits.f slices_Clone_int_int.f
  rw [if_pos h]; rfl

/-- what PutBit answers, told by its bits -/
def PutIs (s : Int) (ws : List Int) (i : Int) (v : Bool) (r : Int × List Int × Bool) : Prop :=
  (¬ (Good s ws ∧ 0 ≤ i ∧ i < s) ∧ r = (0, [], false)) ∨ ((Good s ws ∧ 0 ≤ i ∧ i < s) ∧ r.1 = s ∧ r.2.2 = true ∧ Good s r.2.1 ∧ ∀ j : Nat, (j : Int) < s → bitAt r.2.1 j = if (j : Int) = i then v else bitAt ws j)
theorem putIs_one {s : Int} {ws : List Int} {i : Int} {v : Bool} {r r' : Int × List Int × Bool} (h : PutIs s ws i v r) (h' : PutIs s ws i v r') : r = r' := by
  rcases h with ⟨c, e⟩ | ⟨c, e1, e2, g, b⟩ <;> rcases h' with ⟨c', e'⟩ | ⟨c', e1', e2', g', b'⟩
  · rw [e, e']
  · exact absurd c' c
  · exact absurd c c'
  · have := good_ext g g' (fun j hj => by rw [b j hj, b' j hj])
    obtain ⟨r1, r2, r3⟩ := r
    obtain ⟨r1', r2', r3'⟩ := r'
    simp only at *
    simp [*]

theorem putI (s : Int) (ws : List Int) (i : Int) (v : Bool) (hl : ws.length ≤ 1048576) : ∃ r, PutIs s ws i v r ∧ ∀ k, ws.length + 5000 < k → impl_PutBit.f k s ws i v = some r := by
  by_cases c : Good s ws ∧ 0 ≤ i ∧ i < s
  · have h0 := c.1.1
    have h1 := c.1.2.1
    obtain ⟨w2, e, g, b⟩ := setI c.1 i.toNat (by omega) v
    rw [Int.toNat_of_nonneg c.2.1] at e
    refine ⟨(s, w2, true), Or.inr ⟨c, rfl, rfl, g, fun j hj => ?_⟩, fun k hk => ?_⟩
    · simp only
      rw [b]
      by_cases cj : (j : Int) = i
      · rw [if_pos cj, if_pos (by omega)]
      · rw [if_neg cj, if_neg (by omega)]
    · unfold impl_PutBit.f
      obtain ⟨k, rfl⟩ := succOf (show 0 < k by omega)
      rw [goodI s ws (k + 1) (by omega) (by omega), decide_eq_true c.1, Option.bind_some, if_pos rfl, inI, Option.bind_some, w64 (by omega) (by omega), decide_eq_true (by omega)]
      simp only [impl_PutBit.j0]
      rw [if_neg (by simp), cloneI s ws (by omega), Option.bind_some, e]; rfl
  · refine ⟨(0, [], false), Or.inl ⟨c, rfl⟩, fun k hk => ?_⟩
    unfold impl_PutBit.f
    obtain ⟨k, rfl⟩ := succOf (show 0 < k by omega)
    rw [goodI s ws (k + 1) (by omega) (by omega), Option.bind_some]
    by_cases c1 : Good s ws
    · have h0 := c1.1
      have h1 := c1.2.1
      rw [decide_eq_true c1, if_pos rfl, inI, Option.bind_some, w64 (by omega) (by omega), decide_eq_false (by intro c2; exact c ⟨c1, c2.1, by omega⟩)]
      simp [impl_PutBit.j0]
    · rw [decide_eq_false c1, if_neg (by simp)]; simp [impl_PutBit.j0]

theorem sameP_l (a b : List Int) (hl : a.length = b.length) (ha : a.length < 9223372036854775807) (d : Nat) : ∀ (k i : Nat), i ≤ a.length → a.length - i = d → d < k →
    laws_pSameInts.l0 k a b a.length i = some (decide (a.drop i = b.drop i)) := by
  induction d with
  | zero =>
    intro k i h1 hd hk
    obtain ⟨k, rfl⟩ := succOf hk
    simp only [laws_pSameInts.l0]
    rw [if_neg (by omega), List.drop_eq_nil_of_le (by omega), List.drop_eq_nil_of_le (by omega)]; simp
  | succ d ih =>
    intro k i h1 hd hk
    obtain ⟨k, rfl⟩ := succOf hk
    simp only [laws_pSameInts.l0]
    have h2 := ih k (i+1) (by omega) (by omega) (by omega)
    have e1 : rd a i = a[i]'(by omega) := by simp [rd, List.getD_eq_getElem?_getD, List.getElem?_eq_getElem (show i < a.length by omega)]
    have e2 : rd b i = b[i]'(by omega) := by simp [rd, List.getD_eq_getElem?_getD, List.getElem?_eq_getElem (show i < b.length by omega)]
    have e3 := List.drop_eq_getElem_cons (show i < a.length by omega)
    have e4 := List.drop_eq_getElem_cons (show i < b.length by omega)
    rw [if_pos (by omega), if_pos (by omega), if_pos (by omega), if_pos (by omega), e1, e2, w64n i (by omega), h2, e3, e4]
    clear e3 e4 h2 ih
    split <;> simp only [List.cons.injEq, *, true_and, false_and, decide_false]
theorem sameP (a b : List Int) (k : Nat) (ha : a.length < 9223372036854775807) (hk : a.length < k) : laws_pSameInts.f k a b = some (decide (a = b)) := by
  unfold laws_pSameInts.f
  split
  · have h := sameP_l a b (by omega) ha a.length k 0 (by omega) (by omega) hk
    simpa using h
  · have : a ≠ b := by intro h; subst h; simp_all
    simp [this]

theorem sameB (s t : Int) (a b : List Int) (k : Nat) (ha : a.length < 9223372036854775807) (hk : a.length < k) : laws_pSameBits.f k s a t b = some (decide (s = t ∧ a = b)) := by
  unfold laws_pSameBits.f
  by_cases c : s = t
  · rw [if_pos c, sameP a b k ha hk, Option.bind_some]; simp [c]
  · rw [if_neg c]; simp [c]

theorem wf8 {x : Int} (h : (Lit.int .u8 x).wf = true) : 0 ≤ x ∧ x ≤ 255 := by
  simp only [Lit.wf, Bool.and_eq_true, decide_eq_true_eq, IntKind.min, IntKind.max, IntKind.signed, IntKind.bits] at h
  simp at h
  omega

/-- the loop that turns on the bits that the text tells -/
theorem build_l {s : Int} {ws : List Int} (g : Good s ws) (t : ByteArray) (ht : ∀ j : Nat, (j : Int) < s → (j : Int) < (t.size : Int) ∧ bt t (j : Int) = if bitAt ws j = true then 49 else 48) (d : Nat) : ∀ (k i : Nat) (out : List Int), ((i + d : Nat) : Int) = s → Good s out → (∀ j : Nat, (j : Int) < s → bitAt out j = (decide (j < i) && bitAt ws j)) → d + 10000 < k →
    laws_FnBitTexts.l0 k t i s ws s out = some true := by
  have hs := g.2.1
  have lw := g.2.2.1
  induction d with
  | zero =>
    intro k i out hi go hb hk
    obtain ⟨k, rfl⟩ := succOf hk
    simp only [laws_FnBitTexts.l0]
    obtain rfl : out = ws := good_ext go g (fun j hj => by rw [hb j hj, decide_eq_true (by omega), Bool.true_and])
    rw [if_neg (by omega), sameB _ _ _ _ _ (by omega) (by omega), Option.bind_some]; simp
  | succ d ih =>
    intro k i out hi go hb hk
    obtain ⟨k, rfl⟩ := succOf hk
    simp only [laws_FnBitTexts.l0]
    obtain ⟨h1, h2⟩ := ht i (by omega)
    have lo := go.2.2.1
    rw [if_pos (by omega), if_pos (by omega), if_pos h1, h2, w64n i (by omega)]
    by_cases c : bitAt ws i = true
    · rw [if_pos c, if_pos rfl]
      obtain ⟨r, hr, e⟩ := putI s out i true (by omega)
      rcases hr with ⟨hn, _⟩ | ⟨_, r1, r2, rg, rb⟩
      · exact absurd ⟨go, by omega, by omega⟩ hn
      rw [e k (by omega), Option.bind_some, if_pos r2, r1]
      refine ih k (i + 1) r.2.1 (by omega) rg (fun j hj => ?_) (by omega)
      rw [rb j hj, hb j hj]
      by_cases cj : j = i
      · subst cj; simp [c]
      · rw [if_neg (by omega)]; congr 1; rw [decide_eq_decide]; omega
    · rw [if_neg c, if_neg (by decide)]
      refine ih k (i + 1) out (by omega) go (fun j hj => ?_) (by omega)
      rw [hb j hj]
      by_cases cj : j = i
      · subst cj; simp [c]
      · congr 1; rw [decide_eq_decide]; omega
/-- a vector is read back from its text -/
theorem textBack {s : Int} {ws : List Int} (g : Good s ws) : ∃ t : ByteArray, textAns s ws = (t, true) ∧ (∀ j : Nat, (j : Int) < s → (j : Int) < (t.size : Int) ∧ bt t (j : Int) = if bitAt ws j = true then 49 else 48) ∧ ∀ k, 5000 ≤ k → impl_ParseBits.f k t = some (s, ws, true) := by
  have g0 := g.1
  have g1 := g.2.1
  have g2 := g.2.2.1
  by_cases c : s = 0
  · subst c
    refine ⟨⟨#[45]⟩, by unfold textAns; rw [if_pos g, if_pos rfl], fun j hj => absurd hj (by omega), fun k hk => ?_⟩
    have e : ws = [] := List.length_eq_zero_iff.mp (by omega)
    unfold impl_ParseBits.f
    rw [if_pos (by rw [ByteArray.toList_mk]), e]
  · have hz : (strOfNums (textN (bitAt ws) 0 s.toNat)).size = s.toNat := by rw [strN_size, textN_len]
    have hbt := text_bt (bitAt ws) s.toNat
    have hno := text_not (bitAt ws) s.toNat
    have et : textAns s ws = (strOfNums (textN (bitAt ws) 0 s.toNat), true) := by unfold textAns; rw [if_pos g, if_neg c]
    generalize strOfNums (textN (bitAt ws) 0 s.toNat) = t at *
    refine ⟨t, et, fun j hj => ⟨by omega, hbt j (by omega)⟩, fun k hk => ?_⟩
    obtain ⟨w2, g2, b2, e2⟩ := parseI t hno (fun j hj => by
      unfold Dig
      rw [hbt j (by omega)]
      split
      · exact Or.inr rfl
      · exact Or.inl rfl) ⟨by omega, by omega⟩
    have es : (t.size : Int) = s := by omega
    rw [es] at g2 e2
    obtain rfl : w2 = ws := good_ext g2 g (fun j hj => by
      rw [b2 j, decide_eq_true (by omega), Bool.true_and, hbt j (by omega)]
      cases bitAt ws j <;> decide)
    exact e2 k hk
theorem FnBitTexts : laws_FnBitTexts.Pure := by
  intro c m _ _ hc _ _ _
  obtain ⟨k, hk⟩ : ∃ k, k = 1060000 := ⟨_, rfl⟩
  refine ⟨k + 4, ?_⟩
  unfold laws_FnBitTexts.f laws_big.f
  by_cases hb : (c.length : Int) > 1048576
  · rw [if_pos hb, Option.bind_some, if_pos rfl]
  rw [if_neg hb, Option.bind_some]
  by_cases hb2 : decide ((m.length : Int) > wrap64 (1048576 - (c.length : Int))) = true
  · rw [if_pos hb2]
  rw [if_neg hb2]
  have hB : Bytes c := ⟨by omega, fun x hx => wf8 (hc x hx)⟩
  obtain ⟨s, ws, a1, s1, _, _, hl, _, eD⟩ := anyBitsC c hB 0 0 0 ⟨by omega, by omega⟩ (by omega)
  unfold spec_DrawBitsText.f
  rw [eD _ (by omega), Option.bind_some, Option.bind_some]; simp only
  rw [bitsTextI s ws _ (by omega) (by omega), Option.bind_some, bitsTextS s ws _ (by omega) (by omega), Option.bind_some, if_neg (by simp), if_pos rfl, goodI s ws _ (by omega) (by omega), Option.bind_some]
  by_cases g : Good s ws
  · obtain ⟨t, et, ht, eP⟩ := textBack g
    have g0 := g.1
    have g1 := g.2.1
    rw [et, decide_eq_true g]
    simp only [laws_FnBitTexts.j0]
    have eN : impl_NewBits.f s = some (s, List.replicate ((s.toNat + 15) / 16) 0, true) := by
      have := blankI s.toNat (by omega)
      rw [Int.toNat_of_nonneg g0] at this
      unfold impl_NewBits.f
      rw [inI, Option.bind_some, decide_eq_true ⟨g0, g1⟩, if_pos rfl, this, Option.bind_some]
    obtain ⟨z1, z2⟩ := good_zero s.toNat (by omega)
    rw [Int.toNat_of_nonneg g0] at z1
    rw [if_neg (by simp), if_pos trivial, eP _ (by omega), Option.bind_some, eN, Option.bind_some]
    simp only [if_true]
    rw [sameB _ _ _ _ _ (by omega) (by omega), Option.bind_some]
    simp only [and_self, decide_true, if_true, laws_FnBitTexts.j1]
    by_cases c3 : s > 300
    · rw [if_pos (decide_eq_true c3), sameB _ _ _ _ _ (by omega) (by omega), Option.bind_some]; simp
    · rw [if_neg (by simpa using c3)]
      exact build_l g t ht s.toNat (k + 2) 0 _ (by omega) z1 (fun j _ => by rw [z2 j]; simp) (by omega)
  · have et : (textAns s ws).2 = false := by unfold textAns; rw [if_neg g]
    rw [et, decide_eq_false g]
    simp [laws_FnBitTexts.j0]

end Go.Proofs.YtkmhjgejficclaaDoor.Pure
