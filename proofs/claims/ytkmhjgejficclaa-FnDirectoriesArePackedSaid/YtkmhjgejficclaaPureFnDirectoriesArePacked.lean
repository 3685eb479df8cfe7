/- a packed directory has the told size, belongs to its vector alone, and no bit of it can be another one; for every code (longer ones than 2^20 bytes are not asked). -/
import Derived.Test.YtkmhjgejficclaaPFnDirectoriesArePackedx14
namespace Go.Proofs.Ytkmhjgejficclaa.Pure
open Go.RowKit Go.Proofs.Ytkmhjgejficclaa.PFnDirectoriesArePacked Go.Proofs.YtkmhjgejficclaaW.PrintWords Go.Proofs.YtkmhjgejficclaaW.PrintLast Go.Proofs.YtkmhjgejficclaaW.PrintMore
set_option linter.unusedVariables false
set_option linter.unusedSimpArgs false

theorem w64 {x : Int} (h1 : -9223372036854775808 ≤ x) (h2 : x ≤ 9223372036854775807) : wrap64 x = x := by unfold wrap64; omega
theorem w64n (i : Nat) (h : i < 9223372036854775807) : wrap64 ((i : Int) + 1) = ((i + 1 : Nat) : Int) := by rw [w64 (by omega) (by omega)]; rfl
theorem succOf {k d : Nat} (h : d < k) : ∃ m, k = m + 1 := ⟨k - 1, by omega⟩

theorem and255 (a : Int) : 0 ≤ Go.bits .and .u64 a 255 ∧ Go.bits .and .u64 a 255 ≤ 255 := by
  have e : Go.bits .and .u64 a 255 = IntKind.u64.wrap (((BitVec.ofInt 64 a &&& BitVec.ofInt 64 255).toNat : Nat) : Int) := rfl
  have h : (BitVec.ofInt 64 a &&& BitVec.ofInt 64 255).toNat ≤ 255 := by
    rw [BitVec.toNat_and]; exact Nat.and_le_right
  rw [e, IntKind.wrap_u64]
  generalize (BitVec.ofInt 64 a &&& BitVec.ofInt 64 255).toNat = m at *
  omega
/-- the bytes of a code -/
def Bytes (c : List Int) : Prop := c.length ≤ 2097152 ∧ ∀ x ∈ c, 0 ≤ x ∧ x ≤ 255
theorem rd_byte (c : List Int) (h : Bytes c) (i : Int) : 0 ≤ rd c i ∧ rd c i ≤ 255 := by
  unfold rd
  rw [List.getD_eq_getElem?_getD]
  by_cases k : i.toNat < c.length
  · rw [List.getElem?_eq_getElem k]; exact h.2 _ (List.getElem_mem k)
  · rw [List.getElem?_eq_none (by omega)]; simp
theorem nextC (c : List Int) (h : Bytes c) (at_ sd : Int) (n : Nat) (h0 : 0 ≤ at_) (h1 : at_ ≤ n) (hn : n < 4611686018427387904) : ∃ x sd', spec_l1Cur_next.f c at_ sd = some (x, at_ + 1, sd') ∧ 0 ≤ x ∧ x ≤ 255 := by
  unfold spec_l1Cur_next.f
  have e : wrap64 (at_ + 1) = at_ + 1 := w64 (by omega) (by omega)
  have hb := rd_byte c h at_
  have e2 : wrap64 (rd c at_) = rd c at_ := w64 (by omega) (by omega)
  rw [e, e2]
  by_cases c1 : at_ < (c.length : Int)
  · rw [if_pos c1, if_pos h0]
    by_cases c2 : at_ + 1 ≤ (c.length : Int)
    · rw [if_pos c2]; exact ⟨_, _, rfl, hb.1, hb.2⟩
    · exact absurd c2 (by omega)
  · rw [if_neg c1, if_neg (by omega)]
    refine ⟨_, _, rfl, ?_⟩
    have := and255 (IntKind.u64.wrap (IntKind.u64.wrap (IntKind.u64.wrap (sd * 6364136223846793005)) + 1442695040888963407) / 1099511627776)
    rw [w64 (by omega) (by omega)]; exact this
/-- a place in the code, at most n steps on -/
def Pl (n : Nat) (at_ : Int) : Prop := 0 ≤ at_ ∧ at_ ≤ n
theorem pickC (c : List Int) (h : Bytes c) (at_ sd m : Int) (n : Nat) (hp : Pl n at_) (hn : n < 2305843009213693952) (hm : m ≤ 1000000) : ∃ x at' sd', spec_l1Cur_pick.f c at_ sd m = some (x, at', sd') ∧ Pl (n + 2) at' ∧ 0 ≤ x ∧ (x < m ∨ x = 0) := by
  unfold spec_l1Cur_pick.f Pl at *
  by_cases c1 : m ≤ 1
  · rw [if_pos c1]; exact ⟨_, _, _, rfl, ⟨by omega, by omega⟩, by omega, Or.inr rfl⟩
  rw [if_neg c1]
  obtain ⟨x, s1, e1, x0, x1⟩ := nextC c h at_ sd n hp.1 hp.2 (by omega)
  rw [e1, Option.bind_some]
  simp only
  by_cases c2 : m > 200
  · obtain ⟨y, s2, e2, y0, y1⟩ := nextC c h (at_ + 1) s1 (n + 1) (by omega) (by omega) (by omega)
    rw [if_pos c2, e2, Option.bind_some]
    simp only
    rw [if_neg (by omega)]
    have e3 : wrap64 (wrap64 (x * 256) + y) = x * 256 + y := by rw [w64 (x := x * 256) (by omega) (by omega), w64 (by omega) (by omega)]
    rw [e3, Int.tmod_eq_emod_of_nonneg (by omega)]
    exact ⟨_, _, _, rfl, ⟨by omega, by omega⟩, Int.emod_nonneg _ (by omega), Or.inl (Int.emod_lt_of_pos _ (by omega))⟩
  · rw [if_neg c2, if_neg (by omega), Int.tmod_eq_emod_of_nonneg (by omega)]
    exact ⟨_, _, _, rfl, ⟨by omega, by omega⟩, Int.emod_nonneg _ (by omega), Or.inl (Int.emod_lt_of_pos _ (by omega))⟩
theorem oneC (c : List Int) (h : Bytes c) (at_ sd m : Int) (n : Nat) (hp : Pl n at_) (hn : n < 2305843009213693952) (hm : m ≤ 1000000) : ∃ b at' sd', spec_l1Cur_one.f c at_ sd m = some (b, at', sd') ∧ Pl (n + 2) at' := by
  obtain ⟨x, a, s, e, p, _⟩ := pickC c h at_ sd m n hp hn hm
  unfold spec_l1Cur_one.f
  rw [e, Option.bind_some]
  exact ⟨_, _, _, rfl, p⟩

theorem amongC (c : List Int) (h : Bytes c) (at_ sd : Int) (l : List Int) (n : Nat) (hp : Pl n at_) (hn : n < 1000000000) (hl : 0 < l.length) (hl2 : l.length ≤ 1000) :
    ∃ x at' sd', spec_l1Cur_among.f c at_ sd l = some (x, at', sd') ∧ Pl (n + 2) at' := by
  obtain ⟨x, a1, s1, e1, p1, x0, x1⟩ := pickC c h at_ sd l.length n hp (by omega) (by omega)
  unfold spec_l1Cur_among.f
  rw [e1, Option.bind_some]
  simp only
  rw [if_pos x0, if_pos (by omega)]
  exact ⟨_, _, _, rfl, p1⟩

theorem rd_mid (p s : List Int) (x : Int) : rd (p ++ x :: s) (p.length : Int) = x := by
  simp [rd, List.getD_eq_getElem?_getD]
theorem rd_last (p s : List Int) (x : Int) (i : Int) (h : i = p.length) : rd (p ++ x :: s) i = x := by
  subst h; exact rd_mid p s x

theorem shl64 (x y : Int) (h0 : 0 ≤ y) (h1 : y ≤ 63) : shl .i64 x y = wrap64 (x * 2 ^ y.toNat) := by
  unfold shl wrap64; rw [Nat.min_eq_left (by simp only [IntKind.bits]; omega), IntKind.wrap_i64]
theorem shr64 (x y : Int) (h0 : 0 ≤ y) (h1 : y ≤ 63) : shr .i64 x y = x / 2 ^ y.toNat := by
  unfold shr; rw [Nat.min_eq_left (by simp only [IntKind.bits]; omega)]

/-- the bit i of a row of words -/
def bitAt (ws : List Int) (i : Nat) : Bool := decide ((ws.getD (i / 16) 0 / 2 ^ (i % 16)) % 2 = 1)
/-- what a vector of bits keeps -/
def Good (s : Int) (ws : List Int) : Prop :=
  0 ≤ s ∧ s ≤ 4096 ∧ (ws.length : Int) = (s + 15) / 16 ∧ (∀ w ∈ ws, 0 ≤ w ∧ w ≤ 65535) ∧ (s % 16 = 0 ∨ ws.getD (ws.length - 1) 0 / 2 ^ (s % 16).toNat = 0)
instance (s : Int) (ws : List Int) : Decidable (Good s ws) := by unfold Good; infer_instance
theorem i64_small (n : Int) (h0 : 0 ≤ n) (h1 : n < 2 ^ 62) : IntKind.i64.wrap n = n := by rw [IntKind.wrap_i64]; omega
theorem and1 (x : Int) (h0 : 0 ≤ x) (h1 : x < 2 ^ 62) : Go.bits .and .i64 x 1 = x % 2 := bits_mask .i64 62 (by decide) i64_small 1 (by decide) x h0 h1
theorem word_range (ws : List Int) (hw : ∀ w ∈ ws, 0 ≤ w ∧ w ≤ 65535) (j : Nat) : 0 ≤ ws.getD j 0 ∧ ws.getD j 0 ≤ 65535 := by
  by_cases h : j < ws.length
  · rw [List.getD_eq_getElem?_getD, List.getElem?_eq_getElem h]; exact hw _ (List.getElem_mem h)
  · rw [List.getD_eq_getElem?_getD, List.getElem?_eq_none (by omega)]; simp
theorem div_pow_range (x : Int) (j : Nat) (h : 0 ≤ x ∧ x ≤ 65535) : 0 ≤ x / 2 ^ j ∧ x / 2 ^ j ≤ 65535 := by
  have hp : (0 : Int) < 2 ^ j := Int.pow_pos (by omega)
  exact ⟨Int.ediv_nonneg h.1 (by omega), Int.le_trans (Int.ediv_le_self _ h.1) h.2⟩
theorem at_eq (ws : List Int) (i : Nat) (h : i / 16 < ws.length) (hw : ∀ w ∈ ws, 0 ≤ w ∧ w ≤ 65535) (hi : i < 4611686018427387904) :
    (if 0 ≤ (wrap64 (Int.tdiv (i : Int) 16)) then (if (wrap64 (Int.tdiv (i : Int) 16)) < (ws.length : Int) then (if 0 ≤ (Int.tmod (i : Int) 16) then (some ((Go.bits .and .i64 (shr .i64 (rd ws (wrap64 (Int.tdiv (i : Int) 16))) (Int.tmod (i : Int) 16)) 1) == 1)) else (none)) else (none)) else (none)) = some (bitAt ws i) := by
  have e1 : wrap64 (Int.tdiv (i : Int) 16) = ((i / 16 : Nat) : Int) := by
    rw [Int.tdiv_eq_ediv_of_nonneg (by omega), w64 (by omega) (by omega)]; omega
  have e2 : Int.tmod (i : Int) 16 = ((i % 16 : Nat) : Int) := by
    rw [Int.tmod_eq_emod_of_nonneg (by omega)]; omega
  have e3 : rd ws ((i / 16 : Nat) : Int) = ws.getD (i / 16) 0 := by unfold rd; rw [Int.toNat_natCast]
  have hr := div_pow_range _ (i % 16) (word_range ws hw (i / 16))
  rw [e1, e2, if_pos (by omega), if_pos (by omega), if_pos (by omega), e3, shr64 _ _ (by omega) (by omega), Int.toNat_natCast, and1 _ hr.1 (by omega)]
  rfl
/-- how the last word is asked -/
theorem last_eq (s : Int) (ws : List Int) (h0 : 0 ≤ s) (h1 : s ≤ 4096) (hl : (ws.length : Int) = (s + 15) / 16) :
    (if (Int.tmod s 16) = 0 then (some true) else (if 0 ≤ (wrap64 ((ws.length : Int) - 1)) then (if (wrap64 ((ws.length : Int) - 1)) < (ws.length : Int) then (if 0 ≤ (Int.tmod s 16) then (some ((shr .i64 (rd ws (wrap64 ((ws.length : Int) - 1))) (Int.tmod s 16)) == 0)) else (none)) else (none)) else (none))) =
      some (decide (s % 16 = 0 ∨ ws.getD (ws.length - 1) 0 / 2 ^ (s % 16).toNat = 0)) := by
  have e2 : Int.tmod s 16 = s % 16 := Int.tmod_eq_emod_of_nonneg h0
  rw [e2]
  by_cases c : s % 16 = 0
  · rw [if_pos c]; simp [c]
  · rw [if_neg c, w64 (by omega) (by omega), if_pos (by omega), if_pos (by omega), if_pos (by omega), shr64 _ _ (by omega) (by omega)]
    have e3 : rd ws ((ws.length : Int) - 1) = ws.getD (ws.length - 1) 0 := by
      unfold rd; rw [show ((ws.length : Int) - 1).toNat = ws.length - 1 from by omega]
    rw [e3]; simp only [c, false_or]; rfl
theorem good_words (s : Int) (ws : List Int) (h : Good s ws) : ∀ w ∈ ws, 0 ≤ w ∧ w ≤ 65535 := h.2.2.2.1
theorem good_place {s : Int} {ws : List Int} (h : Good s ws) (i : Nat) (hi : (i : Int) < s) : i / 16 < ws.length ∧ i < 4096 := by
  obtain ⟨h0, h1, h2, _⟩ := h; omega
theorem words_eq (s : Int) (h0 : 0 ≤ s) (h1 : s ≤ 4096) : wrap64 (Int.tdiv (wrap64 (s + 15)) 16) = (s + 15) / 16 := by
  rw [w64 (x := s + 15) (by omega) (by omega), Int.tdiv_eq_ediv_of_nonneg (by omega), w64 (by omega) (by omega)]
theorem words_eq2 (s : Int) (h0 : 0 ≤ s) (h1 : s ≤ 4096) : wrap64 (Int.tdiv (wrap64 (wrap64 (s + 16) - 1)) 16) = (s + 15) / 16 := by
  rw [w64 (x := s + 16) (by omega) (by omega), show s + 16 - 1 = s + 15 from by omega]; exact words_eq s h0 h1

/-- the value of w bits from a on -/
def fieldV (b : Nat → Bool) (a : Nat) : Nat → Int
  | 0 => 0
  | w + 1 => fieldV b a w + (if b (a + w) = true then 2 ^ w else 0)
theorem fieldV_range (b : Nat → Bool) (a w : Nat) : 0 ≤ fieldV b a w ∧ fieldV b a w < 2 ^ w := by
  induction w with
  | zero => simp [fieldV]
  | succ w ih =>
    have hp : (0 : Int) < 2 ^ w := Int.pow_pos (by omega)
    have e : (2 : Int) ^ (w + 1) = 2 ^ w * 2 := Int.pow_succ 2 w
    simp only [fieldV]
    split <;> omega
theorem fieldV_head (b : Nat → Bool) (w : Nat) : ∀ a, fieldV b a (w + 1) = (if b a = true then 1 else 0) + 2 * fieldV b (a + 1) w := by
  induction w with
  | zero => intro a; simp [fieldV]
  | succ w ih =>
    intro a
    rw [fieldV, ih a]
    have e : (2 : Int) ^ (w + 1) = 2 ^ w * 2 := Int.pow_succ 2 w
    simp only [fieldV]
    rw [show a + 1 + w = a + (w + 1) from by omega]
    split <;> split <;> omega
/-- what ReadField answers -/
def fieldAns (s : Int) (ws : List Int) (a w : Int) : Int × Bool := if Good s ws ∧ (0 ≤ w ∧ w ≤ 24) ∧ 0 ≤ a ∧ a ≤ s - w then (fieldV (bitAt ws) a.toNat w.toNat, true) else (0, false)
theorem or_pow (x : Int) (j : Nat) (h0 : 0 ≤ x) (h1 : x < 2 ^ j) (hj : j < 60) : Go.bits .or .i64 x (2 ^ j) = x + 2 ^ j := by
  obtain ⟨a, rfl⟩ := Int.eq_ofNat_of_zero_le h0
  have ha : a < 2 ^ j := by exact_mod_cast h1
  have hj2 : 2 ^ j < 2 ^ 62 := Nat.pow_lt_pow_right (by decide) (by omega)
  have hc : ((2 : Int) ^ j) = ((2 ^ j : Nat) : Int) := by simp
  rw [hc, (bits_nat .i64 62 (by decide) i64_small a (2 ^ j) (by omega) hj2).2]
  have e := Nat.two_pow_add_eq_or_of_lt ha 1
  rw [Nat.mul_one] at e
  rw [Nat.or_comm, ← e]; simp; omega
theorem shl_one (j : Nat) (hj : j < 60) : shl .i64 1 (j : Int) = 2 ^ j := by
  rw [shl64 _ _ (by omega) (by omega), Int.toNat_natCast, Int.one_mul]
  have hj2 : 2 ^ j < 2 ^ 62 := Nat.pow_lt_pow_right (by decide) (by omega)
  have hj3 : (2 : Int) ^ j < 2 ^ 62 := by exact_mod_cast hj2
  have hp : (0 : Int) < 2 ^ j := Int.pow_pos (by omega)
  rw [w64 (by omega) (by omega)]

/-- a word, as a number -/
theorem word_nat (ws : List Int) (hw : ∀ w ∈ ws, 0 ≤ w ∧ w ≤ 65535) (j : Nat) : ∃ n : Nat, ws.getD j 0 = (n : Int) ∧ n < 2 ^ 16 := by
  have h := word_range ws hw j
  exact ⟨(ws.getD j 0).toNat, by omega, by omega⟩
theorem bitAt_nat (ws : List Int) (i n : Nat) (h : ws.getD (i / 16) 0 = (n : Int)) : bitAt ws i = n.testBit (i % 16) := by
  unfold bitAt
  rw [h, Nat.testBit_eq_decide_div_mod_eq]
  have e : (n : Int) / 2 ^ (i % 16) % 2 = ((n / 2 ^ (i % 16) % 2 : Nat) : Int) := by simp
  rw [e, decide_eq_decide]; omega
/-- behind the end of a vector no bit stands -/
theorem good_end {s : Int} {ws : List Int} (h : Good s ws) (i : Nat) (hi : s ≤ (i : Int)) : bitAt ws i = false := by
  obtain ⟨h0, h1, h2, h3, h4⟩ := h
  obtain ⟨n, e, hn⟩ := word_nat ws h3 (i / 16)
  rw [bitAt_nat ws i n e]
  by_cases c : i / 16 < ws.length
  · rcases h4 with h4 | h4
    · omega
    · have e1 : i / 16 = ws.length - 1 := by omega
      rw [e1] at e
      rw [e] at h4
      have e2 : (n : Int) / 2 ^ (s % 16).toNat = ((n / 2 ^ (s % 16).toNat : Nat) : Int) := by simp
      rw [e2] at h4
      have h5 : n < 2 ^ (s % 16).toNat := by
        have hp : 0 < 2 ^ (s % 16).toNat := Nat.two_pow_pos _
        exact (Nat.div_eq_zero_iff_lt hp).mp (by omega)
      exact Nat.testBit_lt_two_pow (Nat.lt_of_lt_of_le h5 (Nat.pow_le_pow_right (by decide) (by omega)))
  · rw [List.getD_eq_getElem?_getD, List.getElem?_eq_none (by omega)] at e
    have : n = 0 := by simp at e; omega
    subst this; simp
/-- two vectors with the same bits are the same -/
theorem good_ext {s : Int} {ws ws' : List Int} (h : Good s ws) (h' : Good s ws') (hb : ∀ i : Nat, (i : Int) < s → bitAt ws i = bitAt ws' i) : ws = ws' := by
  have hl : ws.length = ws'.length := by have := h.2.2.1; have := h'.2.2.1; omega
  apply List.ext_getElem hl
  intro j c1 c2
  obtain ⟨n, e, hn⟩ := word_nat ws h.2.2.2.1 j
  obtain ⟨n', e', hn'⟩ := word_nat ws' h'.2.2.2.1 j
  have : n = n' := by
    apply Nat.eq_of_testBit_eq
    intro r
    by_cases c : r < 16
    · have a1 := bitAt_nat ws (16 * j + r) n (by rw [show (16 * j + r) / 16 = j from by omega]; exact e)
      have a2 := bitAt_nat ws' (16 * j + r) n' (by rw [show (16 * j + r) / 16 = j from by omega]; exact e')
      rw [show (16 * j + r) % 16 = r from by omega] at a1 a2
      rw [← a1, ← a2]
      by_cases c3 : ((16 * j + r : Nat) : Int) < s
      · exact hb _ c3
      · rw [good_end h _ (by omega), good_end h' _ (by omega)]
    · have hp : 2 ^ 16 ≤ 2 ^ r := Nat.pow_le_pow_right (by decide) (by omega)
      rw [Nat.testBit_lt_two_pow (by omega), Nat.testBit_lt_two_pow (by omega)]
  have g1 : ws.getD j 0 = ws[j] := by rw [List.getD_eq_getElem?_getD, List.getElem?_eq_getElem c1]; rfl
  have g2 : ws'.getD j 0 = ws'[j] := by rw [List.getD_eq_getElem?_getD, List.getElem?_eq_getElem c2]; rfl
  rw [← g1, ← g2, e, e', this]
/-- goodness by its bits -/
theorem good_of {s : Int} {ws : List Int} (h0 : 0 ≤ s) (h1 : s ≤ 4096) (h2 : (ws.length : Int) = (s + 15) / 16) (h3 : ∀ w ∈ ws, 0 ≤ w ∧ w ≤ 65535) (h4 : ∀ i : Nat, s ≤ (i : Int) → bitAt ws i = false) : Good s ws := by
  refine ⟨h0, h1, h2, h3, ?_⟩
  by_cases c : s % 16 = 0
  · exact Or.inl c
  · refine Or.inr ?_
    obtain ⟨n, e, hn⟩ := word_nat ws h3 (ws.length - 1)
    rw [e]
    have h5 : n < 2 ^ (s % 16).toNat := by
      apply Nat.lt_pow_two_of_testBit
      intro r hr
      by_cases c2 : r < 16
      · have a1 := bitAt_nat ws (16 * (ws.length - 1) + r) n (by rw [show (16 * (ws.length - 1) + r) / 16 = ws.length - 1 from by omega]; exact e)
        rw [show (16 * (ws.length - 1) + r) % 16 = r from by omega] at a1
        rw [← a1]
        exact h4 _ (by omega)
      · have hp : 2 ^ 16 ≤ 2 ^ r := Nat.pow_le_pow_right (by decide) (by omega)
        exact Nat.testBit_lt_two_pow (by omega)
    have e2 : (n : Int) / 2 ^ (s % 16).toNat = ((n / 2 ^ (s % 16).toNat : Nat) : Int) := by simp
    rw [e2, Nat.div_eq_of_lt h5]; rfl
theorem getD_set (ws : List Int) (j k : Nat) (x : Int) : (ws.set j x).getD k 0 = if j = k ∧ j < ws.length then x else ws.getD k 0 := by
  simp only [List.getD_eq_getElem?_getD, List.getElem?_set]
  by_cases c : j = k
  · subst c
    by_cases c2 : j < ws.length
    · simp [c2]
    · simp [c2, List.getElem?_eq_none (show ws.length ≤ j by omega)]
  · simp [c]
theorem or64 (a b : Nat) (ha : a < 2 ^ 16) (hb : b < 2 ^ 16) : Go.bits .or .i64 (a : Int) (b : Int) = ((a ||| b : Nat) : Int) :=
  (bits_nat .i64 62 (by decide) i64_small a b (by omega) (by omega)).2
theorem andNot64 (a b : Nat) (ha : a < 2 ^ 16) (hb : b < 2 ^ 16) : ∃ n : Nat, Go.bits .andNot .i64 (a : Int) (b : Int) = (n : Int) ∧ n < 2 ^ 16 ∧ ∀ r, n.testBit r = (a.testBit r && !b.testBit r) := by
  refine ⟨(BitVec.ofNat 64 a &&& ~~~ BitVec.ofNat 64 b).toNat, ?_, ?_, ?_⟩
  · have hb2 : (BitVec.ofNat 64 a &&& ~~~ BitVec.ofNat 64 b).toNat ≤ a := by
      rw [BitVec.toNat_and, BitVec.toNat_ofNat, Nat.mod_eq_of_lt (by omega)]; exact Nat.and_le_left
    have : Go.bits .andNot .i64 (a : Int) (b : Int) = IntKind.i64.wrap (((BitVec.ofNat 64 a &&& ~~~ BitVec.ofNat 64 b).toNat : Nat) : Int) := by
      simp only [Go.bits, BitVec.ofInt_natCast, IntKind.bits]; rfl
    rw [this, i64_small _ (by omega) (by omega)]
  · have hb2 : (BitVec.ofNat 64 a &&& ~~~ BitVec.ofNat 64 b).toNat ≤ a := by
      rw [BitVec.toNat_and, BitVec.toNat_ofNat, Nat.mod_eq_of_lt (by omega)]; exact Nat.and_le_left
    omega
  · intro r
    have hp : 2 ^ 16 ≤ 2 ^ 64 := by decide
    rw [BitVec.toNat_and, Nat.testBit_and, BitVec.toNat_ofNat, Nat.mod_eq_of_lt (by omega)]
    by_cases c : r < 64
    · congr 1
      rw [BitVec.testBit_toNat, BitVec.getLsbD_not, BitVec.getLsbD_ofNat]; simp [c]
    · have hp : 2 ^ 16 ≤ 2 ^ r := Nat.pow_le_pow_right (by decide) (by omega)
      rw [Nat.testBit_lt_two_pow (show a < 2 ^ r by omega)]; simp
theorem shl_pow (j : Nat) (hj : j < 60) : shl .i64 1 (j : Int) = ((2 ^ j : Nat) : Int) := by rw [shl_one j hj]; simp
/-- a word put in place of another -/
theorem good_put {s : Int} {ws : List Int} (h : Good s ws) (i : Nat) (hi : (i : Int) < s) (n : Nat) (hn : n < 2 ^ 16) (he : ∀ r, r < 16 → s ≤ ((16 * (i / 16) + r : Nat) : Int) → n.testBit r = false) :
    Good s (ws.set (i / 16) (n : Int)) ∧ ∀ k, bitAt (ws.set (i / 16) (n : Int)) k = if k / 16 = i / 16 then n.testBit (k % 16) else bitAt ws k := by
  obtain ⟨p1, p2⟩ := good_place h i hi
  have hb : ∀ k, bitAt (ws.set (i / 16) (n : Int)) k = if k / 16 = i / 16 then n.testBit (k % 16) else bitAt ws k := by
    intro k
    by_cases c : k / 16 = i / 16
    · rw [if_pos c]
      exact bitAt_nat _ _ _ (by rw [getD_set, if_pos ⟨c.symm, p1⟩])
    · rw [if_neg c]
      unfold bitAt
      rw [getD_set, if_neg (by omega)]
  refine ⟨good_of h.1 h.2.1 (by rw [List.length_set]; exact h.2.2.1) ?_ ?_, hb⟩
  · intro w hw
    rcases List.mem_or_eq_of_mem_set hw with hw | hw
    · exact h.2.2.2.1 w hw
    · subst hw; omega
  · intro k hk
    rw [hb]
    by_cases c : k / 16 = i / 16
    · rw [if_pos c]
      exact he (k % 16) (by omega) (by omega)
    · rw [if_neg c]; exact good_end h k hk
theorem tdiv16 (i : Nat) (hi : i < 4611686018427387904) : wrap64 (Int.tdiv (i : Int) 16) = ((i / 16 : Nat) : Int) := by
  rw [Int.tdiv_eq_ediv_of_nonneg (by omega), w64 (by omega) (by omega)]; omega
theorem tmod16 (i : Nat) : Int.tmod (i : Int) 16 = ((i % 16 : Nat) : Int) := by
  rw [Int.tmod_eq_emod_of_nonneg (by omega)]; omega
theorem rdD (ws : List Int) (j : Nat) : rd ws (j : Int) = ws.getD j 0 := by unfold rd; rw [Int.toNat_natCast]
/-- a bit set -/
theorem set_or {s : Int} {ws : List Int} (h : Good s ws) (i : Nat) (hi : (i : Int) < s) : ∃ ws', ws.set (i / 16) (Go.bits .or .i64 (ws.getD (i / 16) 0) (shl .i64 1 ((i % 16 : Nat) : Int))) = ws' ∧ Good s ws' ∧ ∀ k, bitAt ws' k = (decide (k = i) || bitAt ws k) := by
  obtain ⟨a, e, ha⟩ := word_nat ws h.2.2.2.1 (i / 16)
  have hp : 2 ^ (i % 16) < 2 ^ 16 := Nat.pow_lt_pow_right (by decide) (by omega)
  rw [e, shl_pow _ (by omega), or64 a _ ha hp]
  have ho : (a ||| 2 ^ (i % 16)) < 2 ^ 16 := Nat.or_lt_two_pow ha hp
  have tb : ∀ r, (a ||| 2 ^ (i % 16)).testBit r = (decide (r = i % 16) || a.testBit r) := by
    intro r; rw [Nat.testBit_or, Nat.testBit_two_pow, Bool.or_comm]; congr 1; rw [decide_eq_decide]; exact eq_comm
  have hw : ∀ k, k / 16 = i / 16 → a.testBit (k % 16) = bitAt ws k := fun k c => (bitAt_nat ws k a (by rw [c]; exact e)).symm
  obtain ⟨g, gb⟩ := good_put h i hi _ ho (by
    intro r hr hs
    rw [tb]
    have h1 := hw (16 * (i / 16) + r) (by omega)
    rw [show (16 * (i / 16) + r) % 16 = r from by omega, good_end h _ hs] at h1
    rw [h1, Bool.or_false, decide_eq_false_iff_not]; omega)
  refine ⟨_, rfl, g, fun k => ?_⟩
  rw [gb]
  by_cases c : k / 16 = i / 16
  · rw [if_pos c, tb, hw k c]; congr 1; rw [decide_eq_decide]; omega
  · rw [if_neg c, decide_eq_false (by intro e; exact c (by rw [e])), Bool.false_or]
/-- a bit cleared -/
theorem set_andNot {s : Int} {ws : List Int} (h : Good s ws) (i : Nat) (hi : (i : Int) < s) : ∃ ws', ws.set (i / 16) (Go.bits .andNot .i64 (ws.getD (i / 16) 0) (shl .i64 1 ((i % 16 : Nat) : Int))) = ws' ∧ Good s ws' ∧ ∀ k, bitAt ws' k = (!decide (k = i) && bitAt ws k) := by
  obtain ⟨a, e, ha⟩ := word_nat ws h.2.2.2.1 (i / 16)
  have hp : 2 ^ (i % 16) < 2 ^ 16 := Nat.pow_lt_pow_right (by decide) (by omega)
  obtain ⟨n, en, hn, tn⟩ := andNot64 a (2 ^ (i % 16)) ha hp
  rw [e, shl_pow _ (by omega), en]
  have tb : ∀ r, n.testBit r = (!decide (r = i % 16) && a.testBit r) := by
    intro r; rw [tn, Nat.testBit_two_pow, Bool.and_comm]; congr 2; rw [decide_eq_decide]; exact eq_comm
  have hw : ∀ k, k / 16 = i / 16 → a.testBit (k % 16) = bitAt ws k := fun k c => (bitAt_nat ws k a (by rw [c]; exact e)).symm
  obtain ⟨g, gb⟩ := good_put h i hi _ hn (by
    intro r hr hs
    rw [tb]
    have h1 := hw (16 * (i / 16) + r) (by omega)
    rw [show (16 * (i / 16) + r) % 16 = r from by omega, good_end h _ hs] at h1
    rw [h1, Bool.and_false])
  refine ⟨_, rfl, g, fun k => ?_⟩
  rw [gb]
  by_cases c : k / 16 = i / 16
  · rw [if_pos c, tb, hw k c]; congr 2; rw [decide_eq_decide]; omega
  · rw [if_neg c, decide_eq_false (by intro e; exact c (by rw [e]))]; simp

theorem good_zero (n : Nat) (hn : n ≤ 4096) : Good (n : Int) (List.replicate ((n + 15) / 16) 0) ∧ ∀ k, bitAt (List.replicate ((n + 15) / 16) 0) k = false := by
  have z : ∀ j, (List.replicate ((n + 15) / 16) (0 : Int)).getD j 0 = 0 := by
    intro j; rw [List.getD_eq_getElem?_getD, List.getElem?_replicate]; split <;> rfl
  have b : ∀ k, bitAt (List.replicate ((n + 15) / 16) 0) k = false := by
    intro k
    rw [bitAt_nat _ k 0 (by rw [z]; rfl)]; simp
  refine ⟨good_of (by omega) (by omega) (by rw [List.length_replicate]; omega) ?_ (fun i _ => b i), b⟩
  intro w hw
  have := List.eq_of_mem_replicate hw
  omega

theorem biSetS {s : Int} {ws : List Int} (h : Good s ws) (i : Nat) (hi : (i : Int) < s) : ∃ ws', spec_biSet.f s ws i = some ws' ∧ Good s ws' ∧ ∀ k, bitAt ws' k = (decide (k = i) || bitAt ws k) := by
  obtain ⟨p1, p2⟩ := good_place h i hi
  obtain ⟨ws', e, g, b⟩ := set_or h i hi
  refine ⟨ws', ?_, g, b⟩
  unfold spec_biSet.f
  rw [tdiv16 i (by omega), tmod16, if_pos (by omega), if_pos (by omega), if_pos (by omega), rdD, Int.toNat_natCast, e]
theorem biNewS (n : Nat) (hn : n ≤ 4096) : spec_biNew.f (n : Int) = some ((n : Int), List.replicate ((n + 15) / 16) 0) := by
  unfold spec_biNew.f
  rw [words_eq (n : Int) (by omega) (by omega), if_pos (by omega)]
  rw [show (((n : Int) + 15) / 16).toNat = (n + 15) / 16 from by omega, if_pos (by omega)]

theorem biSomeS_l (bs : List Bool) (hn : bs.length ≤ 4096) (d : Nat) : ∀ (k i : Nat) (ws : List Int), i + d = bs.length → Good bs.length ws → (∀ j, bitAt ws j = (decide (j < i) && bs.getD j false)) → d < k →
    ∃ ws', spec_biSome.l0 k bs bs.length i bs.length ws = some ((bs.length : Int), ws') ∧ Good bs.length ws' ∧ ∀ j, bitAt ws' j = bs.getD j false := by
  induction d with
  | zero =>
    intro k i ws hi g hb hk
    obtain ⟨k, rfl⟩ := succOf hk
    simp only [spec_biSome.l0]
    rw [if_neg (by omega)]
    refine ⟨ws, rfl, g, fun j => ?_⟩
    rw [hb]
    by_cases c : j < i
    · simp [c]
    · rw [decide_eq_false c, Bool.false_and, List.getD_eq_getElem?_getD, List.getElem?_eq_none (by omega)]; rfl
  | succ d ih =>
    intro k i ws hi g hb hk
    obtain ⟨k, rfl⟩ := succOf hk
    simp only [spec_biSome.l0]
    have er : rdOf false bs (i : Int) = bs.getD i false := by unfold rdOf; rw [Int.toNat_natCast]
    rw [if_pos (by omega), if_pos (by omega), if_pos (by omega), er, w64n i (by omega)]
    by_cases c : bs.getD i false = true
    · rw [if_pos c]
      obtain ⟨w2, e2, g2, b2⟩ := biSetS g i (by omega)
      rw [e2, Option.bind_some]
      refine ih k (i + 1) w2 (by omega) g2 (fun j => ?_) (by omega)
      rw [b2, hb]
      by_cases cj : j = i
      · subst cj; simp [c, -List.getD_eq_getElem?_getD]
      · rw [decide_eq_false cj, Bool.false_or]; congr 1; rw [decide_eq_decide]; omega
    · rw [if_neg c]
      refine ih k (i + 1) ws (by omega) g (fun j => ?_) (by omega)
      rw [hb]
      by_cases cj : j = i
      · subst cj; simp [Bool.not_eq_true _ ▸ c, -List.getD_eq_getElem?_getD]
      · congr 1; rw [decide_eq_decide]; omega
theorem biSomeS (bs : List Bool) (hn : bs.length ≤ 4096) : ∃ ws', Good bs.length ws' ∧ (∀ j, bitAt ws' j = bs.getD j false) ∧ ∀ k, bs.length < k → spec_biSome.f k bs = some ((bs.length : Int), ws') := by
  obtain ⟨z1, z2⟩ := good_zero bs.length hn
  obtain ⟨ws', e, g, b⟩ := biSomeS_l bs hn bs.length (bs.length + 1) 0 (List.replicate ((bs.length + 15) / 16) 0) (by omega) z1 (by intro j; rw [z2]; simp) (by omega)
  refine ⟨ws', g, b, fun k hk => ?_⟩
  obtain ⟨ws2, e2, g2, b2⟩ := biSomeS_l bs hn bs.length k 0 (List.replicate ((bs.length + 15) / 16) 0) (by omega) z1 (by intro j; rw [z2]; simp) (by omega)
  have : ws' = ws2 := good_ext g g2 (fun i _ => by rw [b, b2])
  unfold spec_biSome.f
  rw [biNewS bs.length hn, Option.bind_some]
  rw [this]; exact e2

theorem bitsC_l (c : List Int) (h : Bytes c) (d : Nat) : ∀ (bs : List Bool) (at_ sd : Int) (n : Nat), Pl n at_ → n + 2 * d < 2305843009213693952 → bs.length + d ≤ 4096 →
    ∃ s ws at' sd', Good s ws ∧ s = ((bs.length + d : Nat) : Int) ∧ Pl (n + 2 * d) at' ∧ ∀ k, 5000 + d < k → spec_l1Cur_bits.l0 k bs d c at_ sd = some (s, ws, at', sd') := by
  induction d with
  | zero =>
    intro bs at_ sd n hp hn hb
    obtain ⟨ws, g, _, e⟩ := biSomeS bs (by omega)
    refine ⟨_, ws, at_, sd, g, rfl, hp, fun k hk => ?_⟩
    obtain ⟨k, rfl⟩ := succOf hk
    simp only [spec_l1Cur_bits.l0]
    rw [if_neg (by omega), e k (by omega)]; rfl
  | succ d ih =>
    intro bs at_ sd n hp hn hb
    obtain ⟨b, a1, s1, e1, p1⟩ := oneC c h at_ sd 2 n hp (by omega) (by omega)
    obtain ⟨s, ws, a2, s2, g, es, p2, e2⟩ := ih (bs ++ [b]) a1 s1 (n + 2) p1 (by omega) (by simp only [List.length_append, List.length_cons, List.length_nil]; omega)
    refine ⟨s, ws, a2, s2, g, ?_, ?_, fun k hk => ?_⟩
    · rw [es]; simp only [List.length_append, List.length_cons, List.length_nil]; omega
    · unfold Pl at *; omega
    · obtain ⟨k, rfl⟩ := succOf hk
      simp only [spec_l1Cur_bits.l0]
      rw [if_pos (by omega), e1, Option.bind_some]
      simp only
      rw [if_pos (by omega), w64 (by omega) (by omega), show ((d + 1 : Nat) : Int) - 1 = (d : Int) from by omega]
      exact e2 k (by omega)
theorem bitsC (c : List Int) (h : Bytes c) (at_ sd : Int) (m n : Nat) (hp : Pl n at_) (hn : n < 1000000000) (hm : m ≤ 4096) :
    ∃ s ws at' sd', Good s ws ∧ s ≤ m ∧ Pl (n + 2 * m + 2) at' ∧ ∀ k, 10000 ≤ k → spec_l1Cur_bits.f k c at_ sd m = some (s, ws, at', sd') := by
  obtain ⟨x, a1, s1, e1, p1, x0, x1⟩ := pickC c h at_ sd ((m + 1 : Nat) : Int) n hp (by omega) (by omega)
  obtain ⟨s, ws, a2, s2, g, es, p2, e2⟩ := bitsC_l c h x.toNat [] a1 s1 (n + 2) p1 (by omega) (by simp only [List.length_nil]; omega)
  simp only [List.length_nil] at es
  refine ⟨s, ws, a2, s2, g, by omega, ?_, fun k hk => ?_⟩
  · unfold Pl at *; omega
  · unfold spec_l1Cur_bits.f
    rw [w64n m (by omega), e1, Option.bind_some]
    simp only
    have := e2 k (by omega)
    rwa [Int.toNat_of_nonneg x0] at this

theorem anyBitsC (c : List Int) (h : Bytes c) (at_ sd : Int) (n : Nat) (hp : Pl n at_) (hn : n < 900000000) :
    ∃ s ws at' sd', -1 ≤ s ∧ s ≤ 4096 ∧ ws.length ≤ 300 ∧ Pl (n + 100) at' ∧ ∀ k, 10000 ≤ k → spec_l1Cur_anyBits.f k c at_ sd = some (s, ws, at', sd') := by
  obtain ⟨s, ws, a1, s1, g, hs, p1, e1⟩ := bitsC c h at_ sd 40 n hp (by omega) (by omega)
  have g0 := g.1
  have g2 := g.2.2.1
  obtain ⟨x, a2, s2, e2, p2, x0, x1⟩ := pickC c h a1 s1 16 (n + 2 * 40 + 2) p1 (by omega) (by omega)
  have start (k : Nat) (hk : 10000 ≤ k) : spec_l1Cur_bits.f k c at_ sd 40 = some (s, ws, a1, s1) := e1 k hk
  unfold spec_l1Cur_anyBits.f
  by_cases c0 : x = 0
  · obtain ⟨y, a3, s3, e3, p3, y0, y1⟩ := pickC c h a2 s2 2 _ p2 (by omega) (by omega)
    refine ⟨s, ws ++ [y], a3, s3, by omega, by omega, by simp only [List.length_append, List.length_cons, List.length_nil]; omega, by unfold Pl at *; omega, fun k hk => ?_⟩
    rw [start k hk, Option.bind_some]; simp only
    rw [e2, Option.bind_some]; simp only
    rw [if_pos c0, e3, Option.bind_some, if_pos (by omega)]
  by_cases c1 : x = 1
  · obtain ⟨y, a3, s3, e3, p3, y0, y1⟩ := pickC c h a2 s2 3 _ p2 (by omega) (by omega)
    refine ⟨s + (y - 1), ws, a3, s3, by omega, by omega, by omega, by unfold Pl at *; omega, fun k hk => ?_⟩
    rw [start k hk, Option.bind_some]; simp only
    rw [e2, Option.bind_some]; simp only
    rw [if_neg c0, if_pos c1, e3, Option.bind_some]; simp only
    rw [w64 (x := y - 1) (by omega) (by omega), w64 (by omega) (by omega)]
  by_cases c2 : x = 2
  · by_cases cl : (ws.length : Int) > 0
    · obtain ⟨y, a3, s3, e3, p3, y0, y1⟩ := pickC c h a2 s2 ws.length _ p2 (by omega) (by omega)
      obtain ⟨z, a4, s4, e4, p4⟩ := amongC c h a3 s3 ([(-1), 65535, 65536, 40000] : List Int) _ p3 (by omega) (by simp) (by simp)
      refine ⟨s, ws.set y.toNat z, a4, s4, by omega, by omega, by rw [List.length_set]; omega, by unfold Pl at *; omega, fun k hk => ?_⟩
      rw [start k hk, Option.bind_some]; simp only
      rw [e2, Option.bind_some]; simp only
      rw [if_neg c0, if_neg c1, if_pos c2, if_pos cl, e3, Option.bind_some]; simp only
      rw [e4, Option.bind_some]; simp only
      rw [if_pos y0, if_pos (by omega)]
    · refine ⟨s, ws, a2, s2, by omega, by omega, by omega, by unfold Pl at *; omega, fun k hk => ?_⟩
      rw [start k hk, Option.bind_some]; simp only
      rw [e2, Option.bind_some]; simp only
      rw [if_neg c0, if_neg c1, if_pos c2, if_neg cl]
  by_cases c3 : x = 3
  · obtain ⟨y, a3, s3, e3, p3, y0, y1⟩ := pickC c h a2 s2 2 _ p2 (by omega) (by omega)
    have nw := biNewS (4096 - y).toNat (by omega)
    rw [Int.toNat_of_nonneg (by omega)] at nw
    refine ⟨4096 - y, List.replicate (((4096 - y).toNat + 15) / 16) 0, a3, s3, by omega, by omega, by rw [List.length_replicate]; omega, by unfold Pl at *; omega, fun k hk => ?_⟩
    rw [start k hk, Option.bind_some]; simp only
    rw [e2, Option.bind_some]; simp only
    rw [if_neg c0, if_neg c1, if_neg c2, if_pos c3, e3, Option.bind_some]; simp only
    rw [w64 (by omega) (by omega), nw, Option.bind_some]
  by_cases c4 : x = 4
  · obtain ⟨y, a3, s3, e3, p3, y0, y1⟩ := pickC c h a2 s2 5 _ p2 (by omega) (by omega)
    have nw := biNewS (16 * y).toNat (by omega)
    rw [Int.toNat_of_nonneg (by omega)] at nw
    refine ⟨16 * y, List.replicate (((16 * y).toNat + 15) / 16) 0, a3, s3, by omega, by omega, by rw [List.length_replicate]; omega, by unfold Pl at *; omega, fun k hk => ?_⟩
    rw [start k hk, Option.bind_some]; simp only
    rw [e2, Option.bind_some]; simp only
    rw [if_neg c0, if_neg c1, if_neg c2, if_neg c3, if_pos c4, e3, Option.bind_some]; simp only
    rw [w64 (by omega) (by omega), nw, Option.bind_some]
  · refine ⟨s, ws, a2, s2, by omega, by omega, by omega, by unfold Pl at *; omega, fun k hk => ?_⟩
    rw [start k hk, Option.bind_some]; simp only
    rw [e2, Option.bind_some]; simp only
    rw [if_neg c0, if_neg c1, if_neg c2, if_neg c3, if_neg c4]

theorem atS (s : Int) (ws : List Int) (i : Nat) (h : i / 16 < ws.length) (hw : ∀ w ∈ ws, 0 ≤ w ∧ w ≤ 65535) (hi : i < 4611686018427387904) : spec_biAt.f s ws i = some (bitAt ws i) := at_eq ws i h hw hi
theorem atS_good {s : Int} {ws : List Int} (h : Good s ws) (i : Nat) (hi : (i : Int) < s) : spec_biAt.f s ws i = some (bitAt ws i) :=
  atS s ws i (good_place h i hi).1 (good_words s ws h) (by have := good_place h i hi; omega)

def bitsOf (ws : List Int) (n : Nat) : List Bool := (List.range n).map (bitAt ws)
theorem bitsOf_length (ws : List Int) (n : Nat) : (bitsOf ws n).length = n := by simp [bitsOf]
theorem bitsOf_getD (ws : List Int) (n j : Nat) : (bitsOf ws n).getD j false = (decide (j < n) && bitAt ws j) := by
  unfold bitsOf
  rw [List.getD_eq_getElem?_getD, List.getElem?_map]
  by_cases c : j < n
  · simp [c]
  · simp [c]
theorem biListS_l {s : Int} {ws : List Int} (h : Good s ws) (d : Nat) : ∀ (k i : Nat), ((i + d : Nat) : Int) = s → d < k → spec_biList.l0 k (bitsOf ws i) i s ws = some (bitsOf ws s.toNat) := by
  have hs := h.2.1
  induction d with
  | zero =>
    intro k i hi hk
    obtain ⟨k, rfl⟩ := succOf hk
    simp only [spec_biList.l0]
    rw [if_neg (by omega), show s.toNat = i from by omega]
  | succ d ih =>
    intro k i hi hk
    obtain ⟨k, rfl⟩ := succOf hk
    simp only [spec_biList.l0]
    rw [if_pos (by omega), atS_good h i (by omega), Option.bind_some, if_pos (by rw [bitsOf_length]; omega), w64n i (by omega)]
    have e : bitsOf ws i ++ [bitAt ws i] = bitsOf ws (i + 1) := by unfold bitsOf; rw [List.range_succ, List.map_append]; rfl
    rw [e]
    exact ih k (i + 1) (by omega) (by omega)
theorem biListS {s : Int} {ws : List Int} (h : Good s ws) (k : Nat) (hk : 4096 < k) : spec_biList.f k s ws = some (bitsOf ws s.toNat) := by
  have h0 := h.1
  have h1 := h.2.1
  exact biListS_l h s.toNat k 0 (by omega) (by omega)

/-- how many of n bits from i on are on -/
def ones (b : Nat → Bool) : Nat → Nat → Nat
  | _, 0 => 0
  | i, n + 1 => (if b i = true then 1 else 0) + ones b (i + 1) n
theorem ones_le (b : Nat → Bool) (n : Nat) : ∀ i, ones b i n ≤ n := by
  induction n with
  | zero => intro i; exact Nat.le_refl _
  | succ n ih => intro i; have := ih (i + 1); simp only [ones]; split <;> omega
theorem ones_snoc (b : Nat → Bool) (n : Nat) : ∀ i, ones b i (n + 1) = ones b i n + (if b (i + n) = true then 1 else 0) := by
  induction n with
  | zero => intro i; simp [ones]
  | succ n ih =>
    intro i
    rw [ones, ih (i + 1), ones, show i + 1 + n = i + (n + 1) from by omega]; omega
theorem ones_add (b : Nat → Bool) (m : Nat) : ∀ i n, ones b i (m + n) = ones b i m + ones b (i + m) n := by
  induction m with
  | zero => intro i n; simp [ones]
  | succ m ih =>
    intro i n
    rw [show m + 1 + n = (m + n) + 1 from by omega, ones, ih (i + 1) n, ones, show i + 1 + m = i + (m + 1) from by omega]; omega

/-- the counts before each 64 bits, of the first j words -/
def supN (b : Nat → Bool) : Nat → List Int
  | 0 => []
  | j + 1 => if (16 * j) % 64 = 0 then supN b j ++ [((ones b 0 (16 * j) : Nat) : Int)] else supN b j
/-- the counts from the 64 bits on, of the first j words -/
def blkN (b : Nat → Bool) : Nat → List Int
  | 0 => []
  | j + 1 => blkN b j ++ [((ones b (16 * j / 64 * 64) (16 * j % 64) : Nat) : Int)]
theorem supN_len (b : Nat → Bool) (j : Nat) : (supN b j).length ≤ j := by
  induction j with
  | zero => simp [supN]
  | succ j ih => simp only [supN]; split <;> (try simp only [List.length_append, List.length_cons, List.length_nil]) <;> omega
theorem blkN_len (b : Nat → Bool) (j : Nat) : (blkN b j).length = j := by
  induction j with
  | zero => simp [blkN]
  | succ j ih => simp [blkN, ih]
/-- how many words so many bits begin -/
def wordsN (s : Int) : Nat := ((s + 15) / 16).toNat
/-- the directories of a vector -/
def dirOf (s : Int) (ws : List Int) : Int × List Int × List Int × List Int := (s, ws, supN (bitAt ws) (wordsN s), blkN (bitAt ws) (wordsN s))
theorem good_len {s : Int} {ws : List Int} (h : Good s ws) : ws.length = wordsN s ∧ wordsN s ≤ 256 := by
  obtain ⟨h0, h1, h2, _⟩ := h; unfold wordsN; omega

theorem countS_l {s : Int} {ws : List Int} (h : Good s ws) (d : Nat) : ∀ (k i n : Nat), ((i + d : Nat) : Int) ≤ s → n ≤ i → d < k →
    spec_biCount.l0 k ((i + d : Nat) : Int) n i s ws = some ((n + ones (bitAt ws) i d : Nat) : Int) := by
  have hs := h.2.1
  induction d with
  | zero =>
    intro k i n hi hn hk
    obtain ⟨k, rfl⟩ := succOf hk
    simp only [spec_biCount.l0]
    rw [if_neg (by omega)]; rfl
  | succ d ih =>
    intro k i n hi hn hk
    obtain ⟨k, rfl⟩ := succOf hk
    simp only [spec_biCount.l0]
    rw [if_pos (by omega), atS_good h i (by omega), Option.bind_some, w64n i (by omega), w64n n (by omega)]
    have e : i + (d + 1) = i + 1 + d := by omega
    rw [e]
    have h1 := ih k (i + 1) (n + 1) (by omega) (by omega) (by omega)
    have h2 := ih k (i + 1) n (by omega) (by omega) (by omega)
    cases c : bitAt ws i
    · rw [if_neg (by simp), h2]; simp only [ones, c, Bool.false_eq_true, if_false]; congr 2; omega
    · rw [if_pos rfl, h1]; simp only [ones, c, if_true]; congr 2; omega
theorem countS {s : Int} {ws : List Int} (h : Good s ws) (i j k : Nat) (hij : i ≤ j) (hj : (j : Int) ≤ s) (hk : 4096 < k) :
    spec_biCount.f k s ws i j = some ((ones (bitAt ws) i (j - i) : Nat) : Int) := by
  have hs := h.2.1
  have := countS_l h (j - i) k i 0 (by omega) (by omega) (by omega)
  rw [show i + (j - i) = j from by omega, Nat.zero_add] at this
  exact this

theorem raOfS_l {s : Int} {ws : List Int} (h : Good s ws) (d : Nat) : ∀ (k j : Nat), j + d = wordsN s → d + 4100 < k →
    spec_raOf.l0 k ((16 * j : Nat) : Int) s ws s ws (supN (bitAt ws) j) (blkN (bitAt ws) j) = some (dirOf s ws) := by
  have h0 := h.1
  have hs := h.2.1
  have hw := (good_len h).2
  induction d with
  | zero =>
    intro k j hj hk
    obtain ⟨k, rfl⟩ := succOf hk
    simp only [spec_raOf.l0]
    have : ¬ (((16 * j : Nat) : Int) < s) := by unfold wordsN at hj; omega
    rw [if_neg this]; unfold dirOf; rw [show wordsN s = j from by omega]
  | succ d ih =>
    intro k j hj hk
    obtain ⟨k, rfl⟩ := succOf hk
    have hlt : ((16 * j : Nat) : Int) < s := by unfold wordsN at hj; omega
    have h1 := ih k (j + 1) (by omega) (by omega)
    have e1 : wrap64 (((16 * j : Nat) : Int) + 16) = ((16 * (j + 1) : Nat) : Int) := by rw [w64 (by omega) (by omega)]; omega
    have e2 : Int.tmod ((16 * j : Nat) : Int) 64 = ((16 * j % 64 : Nat) : Int) := by rw [Int.tmod_eq_emod_of_nonneg (by omega)]; omega
    have e3 : wrap64 (wrap64 (Int.tdiv ((16 * j : Nat) : Int) 64) * 64) = ((16 * j / 64 * 64 : Nat) : Int) := by
      rw [Int.tdiv_eq_ediv_of_nonneg (by omega), w64 (x := _ / 64) (by omega) (by omega), w64 (by omega) (by omega)]; omega
    have c1 := countS h 0 (16 * j) k (by omega) (by omega) (by omega)
    have c2 := countS h (16 * j / 64 * 64) (16 * j) k (by omega) (by omega) (by omega)
    have l1 := supN_len (bitAt ws) j
    have l2 := blkN_len (bitAt ws) j
    rw [show 16 * j - 16 * j / 64 * 64 = 16 * j % 64 from by omega] at c2
    simp only [Int.natCast_zero, Nat.sub_zero] at c1
    simp only [spec_raOf.l0]
    rw [if_pos hlt, e2, e3, e1, c2]
    simp only [supN, blkN] at h1
    by_cases c : 16 * j % 64 = 0
    · rw [if_pos (by omega), c1, Option.bind_some, if_pos (by omega), Option.bind_some, if_pos (by omega)]
      rw [if_pos c] at h1
      exact h1
    · rw [if_neg (by omega), Option.bind_some, if_pos (by omega)]
      rw [if_neg c] at h1
      exact h1
theorem raOfS {s : Int} {ws : List Int} (h : Good s ws) (k : Nat) (hk : 4500 < k) : spec_raOf.f k s ws = some (dirOf s ws) := by
  have hw := good_len h
  have := raOfS_l h (wordsN s) k 0 (by omega) (by omega)
  unfold spec_raOf.f spec_biOwn.f spec_l1Own.f
  simp only [Option.bind_some, List.length_nil, List.nil_append]
  rw [if_pos (by omega)]
  simp only [Option.bind_some]
  exact this

/-- a bit of two vectors, joined -/
def joinBit (s : Int) (x y : List Int) (q : Nat) : Bool := if (q : Int) < s then bitAt x q else bitAt y (q - s.toNat)
def JoinOk (s : Int) (x : List Int) (t : Int) (y : List Int) : Prop := Good s x ∧ Good t y ∧ s + t ≤ 4096
/-- what JoinBits answers, told by its bits -/
def JoinFs (s : Int) (x : List Int) (t : Int) (y : List Int) (r : Int × List Int × Bool) : Prop :=
  (¬ JoinOk s x t y ∧ r = (0, [], false)) ∨ (JoinOk s x t y ∧ r.1 = s + t ∧ r.2.2 = true ∧ Good (s + t) r.2.1 ∧ ∀ q : Nat, (q : Int) < s + t → bitAt r.2.1 q = joinBit s x y q)
theorem joinFs_one {s : Int} {x : List Int} {t : Int} {y : List Int} {r r' : Int × List Int × Bool} (h : JoinFs s x t y r) (h' : JoinFs s x t y r') : r = r' := by
  rcases h with ⟨c, e⟩ | ⟨c, e1, e2, g, b⟩ <;> rcases h' with ⟨c', e'⟩ | ⟨c', e1', e2', g', b'⟩
  · rw [e, e']
  · exact absurd c' c
  · exact absurd c c'
  · have := good_ext g g' (fun j hj => by rw [b j hj, b' j hj])
    obtain ⟨r1, r2, r3⟩ := r
    obtain ⟨r1', r2', r3'⟩ := r'
    simp only at *
    simp [*]

theorem join_getD (x y : List Int) (a b q : Nat) (h : q < a + b) : (bitsOf x a ++ bitsOf y b).getD q false = if q < a then bitAt x q else bitAt y (q - a) := by
  by_cases c : q < a
  · rw [if_pos c, List.getD_eq_getElem?_getD, List.getElem?_append_left (by rw [bitsOf_length]; exact c), ← List.getD_eq_getElem?_getD, bitsOf_getD, decide_eq_true c, Bool.true_and]
  · rw [if_neg c, List.getD_eq_getElem?_getD, List.getElem?_append_right (by rw [bitsOf_length]; omega), ← List.getD_eq_getElem?_getD, bitsOf_length, bitsOf_getD, decide_eq_true (by omega), Bool.true_and]
/-- the reference's joined vector -/
theorem joinS {s t : Int} {x y : List Int} (h : Good s x) (h' : Good t y) (hs : s + t ≤ 4096) : ∃ ws', Good (s + t) ws' ∧ (∀ q : Nat, (q : Int) < s + t → bitAt ws' q = joinBit s x y q) ∧ ∀ k, 4096 < k → spec_biSome.f k (bitsOf x s.toNat ++ bitsOf y t.toNat) = some (s + t, ws') := by
  have h0 := h.1
  have h1 := h'.1
  have hl : (bitsOf x s.toNat ++ bitsOf y t.toNat).length = s.toNat + t.toNat := by rw [List.length_append, bitsOf_length, bitsOf_length]
  obtain ⟨ws', g, b, e⟩ := biSomeS (bitsOf x s.toNat ++ bitsOf y t.toNat) (by omega)
  have e0 : (((bitsOf x s.toNat ++ bitsOf y t.toNat).length : Nat) : Int) = s + t := by rw [hl]; omega
  rw [e0] at g e
  refine ⟨ws', g, fun q hq => ?_, fun k hk => e k (by omega)⟩
  rw [b, join_getD _ _ _ _ _ (by omega)]
  unfold joinBit
  by_cases c : q < s.toNat
  · rw [if_pos c, if_pos (by omega)]
  · rw [if_neg c, if_neg (by omega)]

theorem listC {s : Int} {ws : List Int} (h : Good s ws) (k : Nat) (hk : 4096 < k) : spec_biList.f k s ws = some (bitsOf ws s.toNat) := biListS h k hk
/-- what a drawn ranked vector is made of: the rest of the draw -/
theorem rankedC_j (c : List Int) (h : Bytes c) (at_ sd : Int) (n : Nat) (hp : Pl n at_) (hn : n < 800000000) (s : Int) (ws : List Int) (g : Good s ws) :
    ∃ s' ws' l2 l3 at' sd', ws'.length ≤ 300 ∧ l2.length ≤ 300 ∧ l3.length ≤ 300 ∧ Pl (n + 200) at' ∧ ∀ k, 10001 ≤ k → spec_l1Cur_ranked.j0 k c at_ sd s ws = some (s', ws', l2, l3, at', sd') := by
  have hw := good_len g
  have m2 := supN_len (bitAt ws) (wordsN s)
  have m3 := blkN_len (bitAt ws) (wordsN s)
  obtain ⟨y, a1, s1, e1, p1, y0, y1⟩ := pickC c h at_ sd 14 n hp (by omega) (by omega)
  have start (k : Nat) (hk : 10000 ≤ k) : spec_raOf.f k s ws = some (s, ws, supN (bitAt ws) (wordsN s), blkN (bitAt ws) (wordsN s)) := raOfS g k (by omega)
  generalize supN (bitAt ws) (wordsN s) = l2 at *
  generalize blkN (bitAt ws) (wordsN s) = l3 at *
  by_cases c0 : y = 0
  · by_cases d0 : (l2.length : Int) > 0
    · obtain ⟨z, a2, s2, e2, p2, z0, z1⟩ := pickC c h a1 s1 l2.length _ p1 (by omega) (by omega)
      obtain ⟨v, a3, s3, e3, p3, v0, v1⟩ := pickC c h a2 s2 3 _ p2 (by omega) (by omega)
      refine ⟨s, ws, l2.set z.toNat (wrap64 (rd l2 z + wrap64 (v - 1))), l3, a3, s3, by omega, by rw [List.length_set]; omega, by omega, by unfold Pl at *; omega, fun k hk => ?_⟩
      obtain ⟨k, rfl⟩ := succOf (show 0 < k by omega)
      simp only [spec_l1Cur_ranked.j0]
      rw [start k (by omega), Option.bind_some]; simp only
      rw [e1, Option.bind_some]; simp only
      rw [if_pos c0, if_pos d0, e2, Option.bind_some]; simp only
      rw [if_pos z0, if_pos (by omega), e3, Option.bind_some]
    · refine ⟨s, ws, l2, l3, a1, s1, by omega, by omega, by omega, by unfold Pl at *; omega, fun k hk => ?_⟩
      obtain ⟨k, rfl⟩ := succOf (show 0 < k by omega)
      simp only [spec_l1Cur_ranked.j0]
      rw [start k (by omega), Option.bind_some]; simp only
      rw [e1, Option.bind_some]; simp only
      rw [if_pos c0, if_neg d0]
  by_cases c1 : y = 1
  · by_cases d0 : (l3.length : Int) > 0
    · obtain ⟨z, a2, s2, e2, p2, z0, z1⟩ := pickC c h a1 s1 l3.length _ p1 (by omega) (by omega)
      obtain ⟨v, a3, s3, e3, p3, v0, v1⟩ := pickC c h a2 s2 3 _ p2 (by omega) (by omega)
      refine ⟨s, ws, l2, l3.set z.toNat (wrap64 (rd l3 z + wrap64 (v - 1))), a3, s3, by omega, by omega, by rw [List.length_set]; omega, by unfold Pl at *; omega, fun k hk => ?_⟩
      obtain ⟨k, rfl⟩ := succOf (show 0 < k by omega)
      simp only [spec_l1Cur_ranked.j0]
      rw [start k (by omega), Option.bind_some]; simp only
      rw [e1, Option.bind_some]; simp only
      rw [if_neg c0, if_pos c1, if_pos d0, e2, Option.bind_some]; simp only
      rw [if_pos z0, if_pos (by omega), e3, Option.bind_some]
    · refine ⟨s, ws, l2, l3, a1, s1, by omega, by omega, by omega, by unfold Pl at *; omega, fun k hk => ?_⟩
      obtain ⟨k, rfl⟩ := succOf (show 0 < k by omega)
      simp only [spec_l1Cur_ranked.j0]
      rw [start k (by omega), Option.bind_some]; simp only
      rw [e1, Option.bind_some]; simp only
      rw [if_neg c0, if_pos c1, if_neg d0]
  by_cases c2 : y = 2
  · refine ⟨s, ws, l2, l3 ++ [0], a1, s1, by omega, by omega, by rw [List.length_append]; simp only [List.length_cons, List.length_nil]; omega, by unfold Pl at *; omega, fun k hk => ?_⟩
    obtain ⟨k, rfl⟩ := succOf (show 0 < k by omega)
    simp only [spec_l1Cur_ranked.j0]
    rw [start k (by omega), Option.bind_some]; simp only
    rw [e1, Option.bind_some]; simp only
    rw [if_neg c0, if_neg c1, if_pos c2, if_pos (by omega)]
  by_cases c3 : y = 3
  · obtain ⟨s', ws', a2, s2, q1, q2, q3, p2, e2⟩ := anyBitsC c h a1 s1 _ p1 (by omega)
    refine ⟨s', ws', l2, l3, a2, s2, q3, by omega, by omega, by unfold Pl at *; omega, fun k hk => ?_⟩
    obtain ⟨k, rfl⟩ := succOf (show 0 < k by omega)
    simp only [spec_l1Cur_ranked.j0]
    rw [start k (by omega), Option.bind_some]; simp only
    rw [e1, Option.bind_some]; simp only
    rw [if_neg c0, if_neg c1, if_neg c2, if_pos c3, e2 k (by omega), Option.bind_some]
  · refine ⟨s, ws, l2, l3, a1, s1, by omega, by omega, by omega, by unfold Pl at *; omega, fun k hk => ?_⟩
    obtain ⟨k, rfl⟩ := succOf (show 0 < k by omega)
    simp only [spec_l1Cur_ranked.j0]
    rw [start k (by omega), Option.bind_some]; simp only
    rw [e1, Option.bind_some]; simp only
    rw [if_neg c0, if_neg c1, if_neg c2, if_neg c3]
theorem rankedC (c : List Int) (h : Bytes c) (at_ sd : Int) (n : Nat) (hp : Pl n at_) (hn : n < 700000000) :
    ∃ s ws l2 l3 at' sd', ws.length ≤ 300 ∧ l2.length ≤ 300 ∧ l3.length ≤ 300 ∧ Pl (n + 2000) at' ∧ ∀ k, 10001 ≤ k → spec_l1Cur_ranked.f k c at_ sd = some (s, ws, l2, l3, at', sd') := by
  obtain ⟨s, ws, a1, s1, g, hs, p1, e1⟩ := bitsC c h at_ sd 70 n hp (by omega) (by omega)
  simp only [Int.cast_ofNat_Int] at e1
  obtain ⟨b, a2, s2, e2, p2⟩ := oneC c h a1 s1 8 _ p1 (by omega) (by omega)
  by_cases cb : b = true
  · obtain ⟨s3, w3, a3, d3, g3, h3, p3, e3⟩ := bitsC c h a2 s2 200 _ p2 (by omega) (by omega)
    obtain ⟨s4, w4, a4, d4, g4, h4, p4, e4⟩ := bitsC c h a3 d3 200 _ p3 (by omega) (by omega)
    simp only [Int.cast_ofNat_Int] at e3 e4
    obtain ⟨pv, g5, _, e5⟩ := joinS g3 g4 (by omega)
    obtain ⟨s', ws', l2, l3, a6, s6, q1, q2, q3, p6, e6⟩ := rankedC_j c h a4 d4 _ p4 (by omega) _ pv g5
    refine ⟨s', ws', l2, l3, a6, s6, q1, q2, q3, by unfold Pl at *; omega, fun k hk => ?_⟩
    unfold spec_l1Cur_ranked.f
    rw [e1 k (by omega), Option.bind_some]; simp only
    rw [e2, Option.bind_some]; simp only
    rw [if_pos cb, e3 k (by omega), Option.bind_some]; simp only
    rw [biListS g3 k (by omega), Option.bind_some, e4 k (by omega), Option.bind_some]; simp only
    have l3' := g3.2.1
    have l4' := g4.2.1
    rw [biListS g4 k (by omega), Option.bind_some, if_pos (by rw [bitsOf_length, bitsOf_length]; omega), e5 k (by omega), Option.bind_some]; simp only
    exact e6 k hk
  · obtain ⟨s', ws', l2, l3, a6, s6, q1, q2, q3, p6, e6⟩ := rankedC_j c h a2 s2 _ p2 (by omega) s ws g
    refine ⟨s', ws', l2, l3, a6, s6, q1, q2, q3, by unfold Pl at *; omega, fun k hk => ?_⟩
    unfold spec_l1Cur_ranked.f
    rw [e1 k (by omega), Option.bind_some]; simp only
    rw [e2, Option.bind_some]; simp only
    rw [if_neg cb]
    exact e6 k hk

theorem shr_bit (x : Int) (j : Nat) (h0 : 0 ≤ x) (h1 : x < 2 ^ 62) (hj : j ≤ 63) : (Go.bits .and .i64 (shr .i64 x (j : Int)) 1 == 1) = x.toNat.testBit j := by
  obtain ⟨n, rfl⟩ := Int.eq_ofNat_of_zero_le h0
  rw [shr64 _ _ (by omega) (by omega), Int.toNat_natCast, Int.toNat_natCast]
  have e2 : (n : Int) / 2 ^ j = ((n / 2 ^ j : Nat) : Int) := by simp
  have hle : n / 2 ^ j ≤ n := Nat.div_le_self _ _
  rw [e2, Nat.testBit_eq_decide_div_mod_eq]
  generalize n / 2 ^ j = m at *
  rw [and1 _ (by omega) (by omega)]
  rw [Bool.eq_iff_iff, beq_iff_eq, decide_eq_true_eq]; omega
/-- the bits of x laid from a on, w of them -/
def laid (b : Nat → Bool) (a w x : Nat) (j : Nat) : Bool := if a ≤ j ∧ j < a + w then x.testBit (j - a) else b j

/-- a bit of numbers laid behind each other, each of a width -/
def fieldBit (L : List Int) (w q : Nat) : Bool := (L.getD (q / w) 0).toNat.testBit (q % w)
/-- a bit of a packed directory -/
def packBit (l2 l3 : List Int) (q : Nat) : Bool := if q < 13 * l2.length then fieldBit l2 13 q else fieldBit l3 6 (q - 13 * l2.length)
theorem fieldBit_at (L : List Int) (w i q : Nat) (h0 : i * w ≤ q) (h1 : q < i * w + w) : fieldBit L w q = (L.getD i 0).toNat.testBit (q - i * w) := by
  have e : q / w = i := Nat.div_eq_of_lt_le h0 (by rw [Nat.succ_mul]; exact h1)
  unfold fieldBit
  rw [Nat.mod_eq_sub_mul_div, e, Nat.mul_comm w i]
theorem supN_length (b : Nat → Bool) (j : Nat) : (supN b j).length = (j + 3) / 4 := by
  induction j with
  | zero => rfl
  | succ j ih =>
    simp only [supN]
    by_cases c : 16 * j % 64 = 0
    · rw [if_pos c, List.length_append, ih]; simp only [List.length_cons, List.length_nil]; omega
    · rw [if_neg c, ih]; omega
theorem supN_mem (b : Nat → Bool) (j : Nat) : ∀ x ∈ supN b j, 0 ≤ x ∧ x ≤ 16 * (j : Int) := by
  induction j with
  | zero => intro x hx; simp [supN] at hx
  | succ j ih =>
    intro x hx
    simp only [supN] at hx
    have o := ones_le b (16 * j) 0
    by_cases c : 16 * j % 64 = 0
    · rw [if_pos c] at hx
      rcases List.mem_append.mp hx with hx | hx
      · have := ih x hx; omega
      · simp only [List.mem_cons, List.not_mem_nil, or_false] at hx; omega
    · rw [if_neg c] at hx
      have := ih x hx; omega
theorem blkN_mem (b : Nat → Bool) (j : Nat) : ∀ x ∈ blkN b j, 0 ≤ x ∧ x ≤ 63 := by
  induction j with
  | zero => intro x hx; simp [blkN] at hx
  | succ j ih =>
    intro x hx
    simp only [blkN] at hx
    have o := ones_le b (16 * j % 64) (16 * j / 64 * 64)
    rcases List.mem_append.mp hx with hx | hx
    · exact ih x hx
    · simp only [List.mem_cons, List.not_mem_nil, or_false] at hx; omega
theorem getD_small (L : List Int) (i : Nat) (M : Int) (h0 : 0 ≤ M) (h : ∀ x ∈ L, 0 ≤ x ∧ x ≤ M) : 0 ≤ L.getD i 0 ∧ L.getD i 0 ≤ M := by
  by_cases c : i < L.length
  · rw [List.getD_eq_getElem?_getD, List.getElem?_eq_getElem c]; exact h _ (List.getElem_mem c)
  · rw [List.getD_eq_getElem?_getD, List.getElem?_eq_none (by omega)]; exact ⟨Int.le_refl _, h0⟩

theorem blankI (n : Nat) (hn : n ≤ 4096) : impl_blank.f (n : Int) = some ((n : Int), List.replicate ((n + 15) / 16) 0) := by
  unfold impl_blank.f impl_words.f
  rw [words_eq2 (n : Int) (by omega) (by omega), Option.bind_some, if_pos (by omega)]
  rw [show (((n : Int) + 15) / 16).toNat = (n + 15) / 16 from by omega, if_pos (by omega)]

theorem setI {s : Int} {ws : List Int} (h : Good s ws) (i : Nat) (hi : (i : Int) < s) (v : Bool) : ∃ ws', impl_Bits_set.f s ws i v = some ws' ∧ Good s ws' ∧ ∀ k, bitAt ws' k = if k = i then v else bitAt ws k := by
  obtain ⟨p1, p2⟩ := good_place h i hi
  obtain ⟨w1, e1, g1, b1⟩ := set_andNot h i hi
  obtain ⟨w2, e2, g2, b2⟩ := set_or g1 i hi
  unfold impl_Bits_set.f
  rw [tdiv16 i (by omega), tmod16, if_pos (by omega), if_pos (by omega), if_pos (by omega), rdD, Int.toNat_natCast, e1, Option.bind_some, rdD, e2]
  cases v
  · refine ⟨w1, by rw [if_neg (by simp)], g1, fun k => ?_⟩
    rw [b1]
    by_cases c : k = i <;> simp [c]
  · refine ⟨w2, by rw [if_pos rfl], g2, fun k => ?_⟩
    rw [b2, b1]
    by_cases c : k = i <;> simp [c]

theorem setFieldI_l {s : Int} (hs : s ≤ 4096) (a w : Nat) (x : Int) (h0 : 0 ≤ x) (h1 : x < 2 ^ 62) (hw : w ≤ 24) (ha : ((a + w : Nat) : Int) ≤ s) (d : Nat) : ∀ (k i : Nat) (ws : List Int), i + d = w → Good s ws → d < k →
    ∃ ws', impl_Bits_setField.l0 k a x w i s ws = some ws' ∧ Good s ws' ∧ ∀ j, bitAt ws' j = if a + i ≤ j ∧ j < a + w then x.toNat.testBit (j - a) else bitAt ws j := by
  induction d with
  | zero =>
    intro k i ws hi g hk
    obtain ⟨k, rfl⟩ := succOf hk
    simp only [impl_Bits_setField.l0]
    rw [if_neg (by omega)]
    exact ⟨ws, rfl, g, fun j => by rw [if_neg (by omega)]⟩
  | succ d ih =>
    intro k i ws hi g hk
    obtain ⟨k, rfl⟩ := succOf hk
    simp only [impl_Bits_setField.l0]
    have e : wrap64 ((a : Int) + i) = ((a + i : Nat) : Int) := by rw [w64 (by omega) (by omega)]; omega
    obtain ⟨w2, e2, g2, b2⟩ := setI g (a + i) (by omega) (x.toNat.testBit i)
    rw [if_pos (by omega), if_pos (by omega), e, shr_bit x i h0 h1 (by omega), w64n i (by omega), e2, Option.bind_some]
    obtain ⟨ws', e3, g3, b3⟩ := ih k (i + 1) w2 (by omega) g2 (by omega)
    refine ⟨ws', e3, g3, fun j => ?_⟩
    rw [b3]
    by_cases c : a + (i + 1) ≤ j ∧ j < a + w
    · rw [if_pos c, if_pos (by omega)]
    · rw [if_neg c, b2]
      by_cases c2 : j = a + i
      · rw [if_pos c2, if_pos (by omega), show j - a = i from by omega]
      · rw [if_neg c2, if_neg (by omega)]
theorem setFieldI {s : Int} {ws : List Int} (g : Good s ws) (a w : Nat) (x : Int) (h0 : 0 ≤ x) (h1 : x < 2 ^ 62) (hw : w ≤ 24) (ha : ((a + w : Nat) : Int) ≤ s) : ∃ ws', Good s ws' ∧ (∀ j, bitAt ws' j = laid (bitAt ws) a w x.toNat j) ∧ ∀ k, w < k → impl_Bits_setField.f k s ws a w x = some ws' := by
  obtain ⟨ws', e, g', b⟩ := setFieldI_l g.2.1 a w x h0 h1 hw ha w (w + 1) 0 ws (by omega) g (by omega)
  refine ⟨ws', g', b, fun k hk => ?_⟩
  obtain ⟨ws2, e2, g2, b2⟩ := setFieldI_l g.2.1 a w x h0 h1 hw ha w k 0 ws (by omega) g (by omega)
  have : ws' = ws2 := good_ext g' g2 (fun j _ => by rw [b, b2])
  rw [this]; exact e2

theorem fieldsI_l (L : List Int) (w : Nat) (hl : L.length ≤ 4096) (hw : w ≤ 24) (hL : L.length * w ≤ 4096) (hx : ∀ x ∈ L, 0 ≤ x ∧ x ≤ 1000000) (d : Nat) : ∀ (k i : Nat) (ws : List Int), i + d = L.length → Good ((L.length * w : Nat) : Int) ws → (∀ j, bitAt ws j = (decide (j < i * w) && fieldBit L w j)) → d + 30 < k →
    ∃ ws', impl_fields.l0 k w L L.length i ((L.length * w : Nat) : Int) ws = some (((L.length * w : Nat) : Int), ws') ∧ Good ((L.length * w : Nat) : Int) ws' ∧ ∀ j, bitAt ws' j = (decide (j < L.length * w) && fieldBit L w j) := by
  induction d with
  | zero =>
    intro k i ws hi g hb hk
    obtain ⟨k, rfl⟩ := succOf hk
    simp only [impl_fields.l0]
    rw [if_neg (by omega)]
    exact ⟨ws, rfl, g, fun j => by rw [hb, show i = L.length by omega]⟩
  | succ d ih =>
    intro k i ws hi g hb hk
    obtain ⟨k, rfl⟩ := succOf hk
    have hm : i * w + w ≤ L.length * w := by rw [← Nat.succ_mul]; exact Nat.mul_le_mul_right w (by omega)
    have hs : (i + 1) * w = i * w + w := Nat.succ_mul i w
    have hg := getD_small L i 1000000 (by omega) hx
    obtain ⟨w2, g2, b2, e2⟩ := setFieldI g (i * w) w (L.getD i 0) hg.1 (by omega) hw (by omega)
    have ec : wrap64 ((i : Int) * (w : Int)) = ((i * w : Nat) : Int) := by rw [← Int.natCast_mul, w64 (by omega) (by omega)]
    simp only [impl_fields.l0]
    rw [if_pos (by omega), if_pos (by omega), if_pos (by omega), ec, rdD, e2 k (by omega), Option.bind_some, w64n i (by omega)]
    refine ih k (i + 1) w2 (by omega) g2 (fun j => ?_) (by omega)
    rw [b2]
    unfold laid
    by_cases c : i * w ≤ j ∧ j < i * w + w
    · rw [if_pos c, fieldBit_at L w i j c.1 c.2, decide_eq_true (by omega), Bool.true_and]
    · rw [if_neg c, hb]; congr 1; rw [decide_eq_decide]; omega
theorem fieldsI (L : List Int) (w : Nat) (hl : L.length ≤ 4096) (hw : w ≤ 24) (hL : L.length * w ≤ 4096) (hx : ∀ x ∈ L, 0 ≤ x ∧ x ≤ 1000000) : ∃ ws', Good ((L.length * w : Nat) : Int) ws' ∧ (∀ j, bitAt ws' j = (decide (j < L.length * w) && fieldBit L w j)) ∧ ∀ k, 4200 < k → impl_fields.f k L w = some (((L.length * w : Nat) : Int), ws') := by
  obtain ⟨z1, z2⟩ := good_zero (L.length * w) hL
  obtain ⟨ws', e, gd, b⟩ := fieldsI_l L w hl hw hL hx L.length (L.length + 31) 0 (List.replicate ((L.length * w + 15) / 16) 0) (by omega) z1 (by intro j; rw [z2]; simp) (by omega)
  refine ⟨ws', gd, b, fun k hk => ?_⟩
  obtain ⟨ws2, e2, g2, b2⟩ := fieldsI_l L w hl hw hL hx L.length k 0 (List.replicate ((L.length * w + 15) / 16) 0) (by omega) z1 (by intro j; rw [z2]; simp) (by omega)
  have : ws' = ws2 := good_ext gd g2 (fun i _ => by rw [b, b2])
  unfold impl_fields.f
  rw [← Int.natCast_mul, w64 (by omega) (by omega), blankI (L.length * w) hL, Option.bind_some]
  rw [this]; exact e2

theorem madeI_l (g : Int → Option Bool) (p : Nat → Bool) (n : Nat) (hn : n ≤ 4096) (hg : ∀ i : Nat, i < n → g (i : Int) = some (p i)) (d : Nat) : ∀ (k i : Nat) (ws : List Int), i + d = n → Good n ws → (∀ j, bitAt ws j = (decide (j < i) && p j)) → d < k →
    ∃ ws', impl_madeBits.l0 k g n i n ws = some ((n : Int), ws') ∧ Good n ws' ∧ ∀ j, bitAt ws' j = (decide (j < n) && p j) := by
  induction d with
  | zero =>
    intro k i ws hi gd hb hk
    obtain ⟨k, rfl⟩ := succOf hk
    simp only [impl_madeBits.l0]
    rw [if_neg (by omega)]
    exact ⟨ws, rfl, gd, fun j => by rw [hb, show i = n by omega]⟩
  | succ d ih =>
    intro k i ws hi gd hb hk
    obtain ⟨k, rfl⟩ := succOf hk
    simp only [impl_madeBits.l0]
    obtain ⟨w2, e2, g2, b2⟩ := setI gd i (by omega) (p i)
    rw [if_pos (by omega), hg i (by omega), Option.bind_some, e2, Option.bind_some, w64n i (by omega)]
    refine ih k (i + 1) w2 (by omega) g2 (fun j => ?_) (by omega)
    rw [b2, hb]
    by_cases cj : j = i
    · subst cj; simp
    · rw [if_neg cj]; congr 1; rw [decide_eq_decide]; omega
/-- a vector made of what is told of its bits -/
theorem madeI (g : Int → Option Bool) (p : Nat → Bool) (n : Nat) (hn : n ≤ 4096) (hg : ∀ i : Nat, i < n → g (i : Int) = some (p i)) : ∃ ws', Good n ws' ∧ (∀ j, bitAt ws' j = (decide (j < n) && p j)) ∧ ∀ k, n < k → impl_madeBits.f k n g = some ((n : Int), ws') := by
  obtain ⟨z1, z2⟩ := good_zero n hn
  obtain ⟨ws', e, gd, b⟩ := madeI_l g p n hn hg n (n + 1) 0 (List.replicate ((n + 15) / 16) 0) (by omega) z1 (by intro j; rw [z2]; simp) (by omega)
  refine ⟨ws', gd, b, fun k hk => ?_⟩
  obtain ⟨ws2, e2, g2, b2⟩ := madeI_l g p n hn hg n k 0 (List.replicate ((n + 15) / 16) 0) (by omega) z1 (by intro j; rw [z2]; simp) (by omega)
  have : ws' = ws2 := good_ext gd g2 (fun i _ => by rw [b, b2])
  unfold impl_madeBits.f
  rw [blankI n hn, Option.bind_some]
  rw [this]; exact e2

theorem atI (s : Int) (ws : List Int) (i : Nat) (h : i / 16 < ws.length) (hw : ∀ w ∈ ws, 0 ≤ w ∧ w ≤ 65535) (hi : i < 4611686018427387904) : impl_Bits_at.f s ws i = some (bitAt ws i) := at_eq ws i h hw hi
theorem atI_good {s : Int} {ws : List Int} (h : Good s ws) (i : Nat) (hi : (i : Int) < s) : impl_Bits_at.f s ws i = some (bitAt ws i) :=
  atI s ws i (good_place h i hi).1 (good_words s ws h) (by have := good_place h i hi; omega)

theorem joinI {s t : Int} {x y : List Int} (h : Good s x) (h' : Good t y) (hs : s + t ≤ 4096) : ∃ ws', Good (s + t) ws' ∧ (∀ q : Nat, (q : Int) < s + t → bitAt ws' q = joinBit s x y q) ∧ ∀ k, 4096 < k → impl_joinBits.f k s x t y = some (s + t, ws') := by
  have h0 := h.1
  have h1 := h'.1
  obtain ⟨ws', g, b, e⟩ := madeI (impl_joinBits.of s x t y) (joinBit s x y) (s + t).toNat (by omega) (by
    intro i hi
    unfold impl_joinBits.of joinBit
    by_cases c : (i : Int) < s
    · rw [if_pos c, if_pos c]; exact atI_good h i c
    · rw [if_neg c, if_neg c, w64 (by omega) (by omega)]
      have := atI_good h' (i - s.toNat) (by omega)
      rw [show (((i - s.toNat : Nat) : Int)) = (i : Int) - s from by omega] at this
      exact this)
  have e0 : (((s + t).toNat : Nat) : Int) = s + t := by omega
  rw [e0] at g e
  refine ⟨ws', g, fun q hq => ?_, fun k hk => ?_⟩
  · rw [b, decide_eq_true (by omega), Bool.true_and]
  · unfold impl_joinBits.f
    rw [w64 (by omega) (by omega)]
    exact e k (by omega)

theorem dirI (l2 l3 : List Int) (hN : 13 * l2.length + 6 * l3.length ≤ 4096) (h2 : ∀ x ∈ l2, 0 ≤ x ∧ x ≤ 1000000) (h3 : ∀ x ∈ l3, 0 ≤ x ∧ x ≤ 1000000) : ∃ pv, Good ((13 * l2.length + 6 * l3.length : Nat) : Int) pv ∧ (∀ q, q < 13 * l2.length + 6 * l3.length → bitAt pv q = packBit l2 l3 q) ∧ ∀ k s ws, 4200 < k → impl_directory.f k s ws l2 l3 = some (((13 * l2.length + 6 * l3.length : Nat) : Int), pv) := by
  obtain ⟨x, gx, bx, ex⟩ := fieldsI l2 13 (by omega) (by omega) (by omega) h2
  obtain ⟨y, gy, bY, ey⟩ := fieldsI l3 6 (by omega) (by omega) (by omega) h3
  obtain ⟨pv, g, b, e⟩ := joinI gx gy (by omega)
  have e0 : ((l2.length * 13 : Nat) : Int) + ((l3.length * 6 : Nat) : Int) = ((13 * l2.length + 6 * l3.length : Nat) : Int) := by omega
  rw [e0] at g e
  refine ⟨pv, g, fun q hq => ?_, fun k s ws hk => ?_⟩
  · rw [b q (by omega)]
    unfold joinBit packBit
    by_cases c : q < 13 * l2.length
    · rw [if_pos (by omega), if_pos c, bx, decide_eq_true (by omega), Bool.true_and]
    · rw [if_neg (by omega), if_neg c, Int.toNat_natCast, bY, decide_eq_true (by omega), Bool.true_and, Nat.mul_comm l2.length 13]
  · unfold impl_directory.f
    have ex' := ex k hk
    have ey' := ey k hk
    simp only [Int.cast_ofNat_Int] at ex' ey'
    rw [ex', Option.bind_some, ey', Option.bind_some]; simp only
    rw [e k (by omega), Option.bind_some]

theorem biPutS_l (a w : Nat) (x : Int) (h0 : 0 ≤ x) (h1 : x < 2 ^ 62) (hw : w ≤ 24) (ha : a ≤ 4096) (d : Nat) : ∀ (k i : Nat) (bs : List Bool), i + d = w → a + w ≤ bs.length → d < k →
    ∃ bs', spec_biPut.l0 k bs a w x i = some bs' ∧ bs'.length = bs.length ∧ ∀ j, bs'.getD j false = if a + i ≤ j ∧ j < a + w then x.toNat.testBit (j - a) else bs.getD j false := by
  induction d with
  | zero =>
    intro k i bs hi hb hk
    obtain ⟨k, rfl⟩ := succOf hk
    simp only [spec_biPut.l0]
    rw [if_neg (by omega)]
    exact ⟨bs, rfl, rfl, fun j => by rw [if_neg (by omega)]⟩
  | succ d ih =>
    intro k i bs hi hb hk
    obtain ⟨k, rfl⟩ := succOf hk
    simp only [spec_biPut.l0]
    have e : wrap64 ((a : Int) + i) = ((a + i : Nat) : Int) := by rw [w64 (by omega) (by omega)]; omega
    rw [if_pos (by omega), if_pos (by omega), e, if_pos (by omega), if_pos (by omega), shr_bit x i h0 h1 (by omega), w64n i (by omega), Int.toNat_natCast]
    obtain ⟨bs', e1, e2, e3⟩ := ih k (i + 1) (bs.set (a + i) (x.toNat.testBit i)) (by omega) (by rw [List.length_set]; omega) (by omega)
    refine ⟨bs', e1, by rw [e2, List.length_set], fun j => ?_⟩
    rw [e3]
    by_cases c : a + (i + 1) ≤ j ∧ j < a + w
    · rw [if_pos c, if_pos (by omega)]
    · rw [if_neg c, List.getD_eq_getElem?_getD, List.getElem?_set]
      by_cases c2 : a + i = j
      · rw [if_pos c2, if_pos (by omega), if_pos (by omega), show j - a = i from by omega]; rfl
      · rw [if_neg c2, if_neg (by omega), List.getD_eq_getElem?_getD]
theorem biPutS (bs : List Bool) (a w : Nat) (x : Int) (h0 : 0 ≤ x) (h1 : x < 2 ^ 62) (hw : w ≤ 24) (ha : a + w ≤ bs.length) (hn : bs.length ≤ 4096) : ∃ bs', bs'.length = bs.length ∧ (∀ j, bs'.getD j false = laid (fun j => bs.getD j false) a w x.toNat j) ∧ ∀ k, w < k → spec_biPut.f k bs a w x = some bs' := by
  obtain ⟨bs', e, e2, e3⟩ := biPutS_l a w x h0 h1 hw (by omega) w (w + 1) 0 bs (by omega) ha (by omega)
  refine ⟨bs', e2, e3, fun k hk => ?_⟩
  obtain ⟨bs2, f, f2, f3⟩ := biPutS_l a w x h0 h1 hw (by omega) w k 0 bs (by omega) ha (by omega)
  have : bs' = bs2 := by
    apply List.ext_getElem (by omega)
    intro j c1 c2
    have := (e3 j).trans (f3 j).symm
    rw [List.getD_eq_getElem?_getD, List.getD_eq_getElem?_getD, List.getElem?_eq_getElem c1, List.getElem?_eq_getElem c2] at this
    exact this
  rw [this]; exact f

theorem packS_1 (l2 l3 pv : List Int) (hN : 13 * l2.length + 6 * l3.length ≤ 4096) (h3 : ∀ x ∈ l3, 0 ≤ x ∧ x ≤ 1000000) (hg : Good ((13 * l2.length + 6 * l3.length : Nat) : Int) pv) (hb : ∀ q, q < 13 * l2.length + 6 * l3.length → bitAt pv q = packBit l2 l3 q) (d : Nat) : ∀ (k i : Nat) (bs : List Bool), i + d = l3.length → bs.length = 13 * l2.length + 6 * l3.length → (∀ q, bs.getD q false = (decide (q < 13 * l2.length + 6 * i) && packBit l2 l3 q)) → d + 4200 < k →
    spec_raPack.l1 k bs ((13 * l2.length + 6 * i : Nat) : Int) l3 l3.length i = some (((13 * l2.length + 6 * l3.length : Nat) : Int), pv) := by
  induction d with
  | zero =>
    intro k i bs hi hl hq hk
    obtain ⟨k, rfl⟩ := succOf hk
    simp only [spec_raPack.l1]
    obtain ⟨ws', g, b, e⟩ := biSomeS bs (by omega)
    have : ws' = pv := good_ext (s := ((13 * l2.length + 6 * l3.length : Nat) : Int)) (by rw [← hl]; exact g) hg (fun q hq' => by
      rw [b, hq, decide_eq_true (by omega), Bool.true_and, hb q (by omega)])
    rw [if_neg (by omega), e k (by omega), Option.bind_some]; simp only
    rw [this, hl]
  | succ d ih =>
    intro k i bs hi hl hq hk
    obtain ⟨k, rfl⟩ := succOf hk
    have hs := getD_small l3 i 1000000 (by omega) h3
    obtain ⟨bs', l', b', e'⟩ := biPutS bs (13 * l2.length + 6 * i) 6 (l3.getD i 0) hs.1 (by omega) (by omega) (by omega) (by omega)
    have e'' := e' k (by omega)
    simp only [Int.cast_ofNat_Int] at e''
    simp only [spec_raPack.l1]
    rw [if_pos (by omega), if_pos (by omega), if_pos (by omega), rdD, e'', Option.bind_some, w64n i (by omega), w64 (by omega) (by omega)]
    have := ih k (i + 1) bs' (by omega) (by omega) (fun q => by
      rw [b']
      unfold laid
      by_cases c : 13 * l2.length + 6 * i ≤ q ∧ q < 13 * l2.length + 6 * i + 6
      · rw [if_pos c, decide_eq_true (by omega), Bool.true_and]
        unfold packBit
        rw [if_neg (by omega), fieldBit_at l3 6 i (q - 13 * l2.length) (by omega) (by omega)]
        congr 1; omega
      · rw [if_neg c]; show bs.getD q false = _; rw [hq]; congr 1; rw [decide_eq_decide]; omega) (by omega)
    rw [show ((13 * l2.length + 6 * (i + 1) : Nat) : Int) = ((13 * l2.length + 6 * i : Nat) : Int) + 6 from by omega] at this
    exact this
theorem packS_0 (s : Int) (ws l2 l3 pv : List Int) (hN : 13 * l2.length + 6 * l3.length ≤ 4096) (h2 : ∀ x ∈ l2, 0 ≤ x ∧ x ≤ 1000000) (h3 : ∀ x ∈ l3, 0 ≤ x ∧ x ≤ 1000000) (hg : Good ((13 * l2.length + 6 * l3.length : Nat) : Int) pv) (hb : ∀ q, q < 13 * l2.length + 6 * l3.length → bitAt pv q = packBit l2 l3 q) (d : Nat) : ∀ (k i : Nat) (bs : List Bool), i + d = l2.length → bs.length = 13 * l2.length + 6 * l3.length → (∀ q, bs.getD q false = (decide (q < 13 * i) && packBit l2 l3 q)) → d + 9000 < k →
    spec_raPack.l0 k bs ((13 * i : Nat) : Int) l2 l2.length i s ws l2 l3 = some (((13 * l2.length + 6 * l3.length : Nat) : Int), pv) := by
  induction d with
  | zero =>
    intro k i bs hi hl hq hk
    obtain ⟨k, rfl⟩ := succOf hk
    simp only [spec_raPack.l0]
    rw [if_neg (by omega)]
    have hi' : i = l2.length := by omega
    subst hi'
    exact packS_1 l2 l3 pv hN h3 hg hb l3.length k 0 bs (by omega) hl (fun q => by rw [hq]; rfl) (by omega)
  | succ d ih =>
    intro k i bs hi hl hq hk
    obtain ⟨k, rfl⟩ := succOf hk
    have hs := getD_small l2 i 1000000 (by omega) h2
    obtain ⟨bs', l', b', e'⟩ := biPutS bs (13 * i) 13 (l2.getD i 0) hs.1 (by omega) (by omega) (by omega) (by omega)
    have e'' := e' k (by omega)
    simp only [Int.cast_ofNat_Int] at e''
    simp only [spec_raPack.l0]
    rw [if_pos (by omega), if_pos (by omega), if_pos (by omega), rdD, e'', Option.bind_some, w64n i (by omega), w64 (by omega) (by omega)]
    have := ih k (i + 1) bs' (by omega) (by omega) (fun q => by
      rw [b']
      unfold laid
      by_cases c : 13 * i ≤ q ∧ q < 13 * i + 13
      · rw [if_pos c, decide_eq_true (by omega), Bool.true_and]
        unfold packBit
        rw [if_pos (by omega), fieldBit_at l2 13 i q (by omega) (by omega)]
        congr 1; omega
      · rw [if_neg c]; show bs.getD q false = _; rw [hq]; congr 1; rw [decide_eq_decide]; omega) (by omega)
    rw [show ((13 * (i + 1) : Nat) : Int) = ((13 * i : Nat) : Int) + 13 from by omega] at this
    exact this
theorem sizeS (s : Int) (h0 : 0 ≤ s) (h1 : s ≤ 4096) : spec_raSize.f s = some (13 * ((s + 63) / 64) + 6 * ((s + 15) / 16)) := by
  unfold spec_raSize.f
  rw [Int.tdiv_eq_ediv_of_nonneg (a := wrap64 (s + 63)) (by rw [w64 (by omega) (by omega)]; omega), Int.tdiv_eq_ediv_of_nonneg (a := wrap64 (s + 15)) (by rw [w64 (by omega) (by omega)]; omega)]
  rw [w64 (x := s + 63) (by omega) (by omega), w64 (x := s + 15) (by omega) (by omega), w64 (x := (s + 63) / 64) (by omega) (by omega), w64 (x := (s + 15) / 16) (by omega) (by omega)]
  rw [w64 (x := 13 * _) (by omega) (by omega), w64 (x := 6 * _) (by omega) (by omega), w64 (by omega) (by omega)]
theorem packS (s : Int) (ws l2 l3 pv : List Int) (h0 : 0 ≤ s) (h1 : s ≤ 4096) (hn2 : (l2.length : Int) = (s + 63) / 64) (hn3 : (l3.length : Int) = (s + 15) / 16) (hN : 13 * l2.length + 6 * l3.length ≤ 4096) (h2 : ∀ x ∈ l2, 0 ≤ x ∧ x ≤ 1000000) (h3 : ∀ x ∈ l3, 0 ≤ x ∧ x ≤ 1000000) (hg : Good ((13 * l2.length + 6 * l3.length : Nat) : Int) pv) (hb : ∀ q, q < 13 * l2.length + 6 * l3.length → bitAt pv q = packBit l2 l3 q) (k : Nat) (hk : 20000 < k) : spec_raPack.f k s ws l2 l3 = some (((13 * l2.length + 6 * l3.length : Nat) : Int), pv) := by
  unfold spec_raPack.f
  have e1 : 13 * ((s + 63) / 64) + 6 * ((s + 15) / 16) = ((13 * l2.length + 6 * l3.length : Nat) : Int) := by omega
  rw [sizeS s h0 h1, Option.bind_some, e1, if_pos (by omega), Int.toNat_natCast, if_pos (by omega)]
  exact packS_0 s ws l2 l3 pv hN h2 h3 hg hb l2.length k 0 _ (by omega) (by rw [List.length_replicate]) (fun q => by
    rw [List.getD_eq_getElem?_getD, List.getElem?_replicate]; simp only [Nat.mul_zero, Nat.not_lt_zero, decide_false, Bool.false_and]; split <;> rfl) (by omega)

/-- what a ranked vector keeps -/
def RGood (s : Int) (ws l2 l3 : List Int) : Prop := Good s ws ∧ l2 = supN (bitAt ws) (wordsN s) ∧ l3 = blkN (bitAt ws) (wordsN s)
instance (s : Int) (ws l2 l3 : List Int) : Decidable (RGood s ws l2 l3) := by unfold RGood; infer_instance

/-- the sizes of the directories of a ranked vector -/
theorem dir_sizes {s : Int} {ws l2 l3 : List Int} (h : RGood s ws l2 l3) : (l2.length : Int) = (s + 63) / 64 ∧ (l3.length : Int) = (s + 15) / 16 ∧ 13 * l2.length + 6 * l3.length ≤ 4096 ∧ (∀ x ∈ l2, 0 ≤ x ∧ x ≤ 1000000) ∧ (∀ x ∈ l3, 0 ≤ x ∧ x ≤ 1000000) := by
  obtain ⟨g, e2, e3⟩ := h
  have h0 := g.1
  have h1 := g.2.1
  have n2 := supN_length (bitAt ws) (wordsN s)
  have n3 := blkN_len (bitAt ws) (wordsN s)
  rw [← e2] at n2
  rw [← e3] at n3
  have hw : (wordsN s : Int) = (s + 15) / 16 := by unfold wordsN; omega
  refine ⟨by omega, by omega, by omega, fun x hx => ?_, fun x hx => ?_⟩
  · rw [e2] at hx; have := supN_mem _ _ x hx; omega
  · rw [e3] at hx; have := blkN_mem _ _ x hx; omega

/-- the packed directory of a ranked vector, the same on both sides -/
theorem packBoth {s : Int} {ws l2 l3 : List Int} (h : RGood s ws l2 l3) : ∃ (n : Nat) (pv : List Int), n = 13 * l2.length + 6 * l3.length ∧ n ≤ 4096 ∧ Good (n : Int) pv ∧ (∀ q, q < n → bitAt pv q = packBit l2 l3 q) ∧ (∀ k, 4200 < k → impl_directory.f k s ws l2 l3 = some ((n : Int), pv)) ∧ ∀ k, 20000 < k → spec_raPack.f k s ws l2 l3 = some ((n : Int), pv) := by
  obtain ⟨n2, n3, hN, h2, h3⟩ := dir_sizes h
  obtain ⟨pv, g, b, e⟩ := dirI l2 l3 hN h2 h3
  exact ⟨_, pv, rfl, hN, g, b, fun k hk => e k s ws hk, fun k hk => packS s ws l2 l3 pv h.1.1 h.1.2.1 n2 n3 hN h2 h3 g b k hk⟩

theorem inS (a b c : Int) : spec_l1In.f a b c = some (decide (b ≤ a ∧ a ≤ c)) := by
  unfold spec_l1In.f; split <;> simp [*]

theorem l1All_l (l : List Int) (lo hi : Int) (hl : l.length < 9223372036854775807) : ∀ (suf pre : List Int) (k : Nat), l = pre ++ suf → suf.length < k →
    spec_l1All.l0 k lo hi l l.length pre.length = some (decide (∀ w ∈ suf, lo ≤ w ∧ w ≤ hi)) := by
  intro suf
  induction suf with
  | nil =>
    intro pre k e hk
    obtain ⟨k, rfl⟩ := succOf hk
    simp only [spec_l1All.l0]
    have : l.length = pre.length := by rw [e]; simp
    rw [if_neg (by omega)]; simp
  | cons x suf ih =>
    intro pre k e hk
    obtain ⟨k, rfl⟩ := succOf hk
    simp only [spec_l1All.l0]
    have hlen : l.length = pre.length + suf.length + 1 := by rw [e]; simp; omega
    have e1 : rd l (pre.length : Int) = x := by rw [e]; exact rd_mid pre suf x
    have e2 : (pre ++ [x]).length = pre.length + 1 := by simp
    have h3 := ih (pre ++ [x]) k (by rw [e]; simp) (by simp only [List.length_cons] at hk; omega)
    rw [e2] at h3
    rw [if_pos (by omega), if_pos (by omega), if_pos (by omega), e1, inS, Option.bind_some, w64n _ (by omega), h3]
    by_cases c : lo ≤ x ∧ x ≤ hi
    · rw [decide_eq_true c, if_pos rfl]; congr 1; rw [decide_eq_decide]; simp [c]
    · rw [decide_eq_false c, if_neg (by simp)]; congr 1; symm; rw [decide_eq_false_iff_not]; intro g; exact c (g x (by simp))
theorem l1All (l : List Int) (lo hi : Int) (k : Nat) (hl : l.length < 9223372036854775807) (hk : l.length < k) : spec_l1All.f k l lo hi = some (decide (∀ w ∈ l, lo ≤ w ∧ w ≤ hi)) := by
  unfold spec_l1All.f
  have h := l1All_l l lo hi hl l [] k rfl hk
  simpa using h

theorem goodS (s : Int) (ws : List Int) (k : Nat) (hl : ws.length < 9223372036854775807) (hk : ws.length < k) : spec_biGood.f k s ws = some (decide (Good s ws)) := by
  unfold spec_biGood.f
  rw [inS, Option.bind_some]
  by_cases c : 0 ≤ s ∧ s ≤ 4096
  · rw [decide_eq_true c, if_pos rfl, words_eq s c.1 c.2]
    by_cases c2 : (ws.length : Int) = (s + 15) / 16
    · rw [if_pos c2, l1All ws 0 65535 k hl hk, Option.bind_some]
      by_cases c3 : ∀ w ∈ ws, 0 ≤ w ∧ w ≤ 65535
      · rw [decide_eq_true c3, if_pos rfl, last_eq s ws c.1 c.2 c2]
        congr 1; rw [decide_eq_decide]; unfold Good
        exact ⟨fun h => ⟨c.1, c.2, c2, c3, h⟩, fun h => h.2.2.2.2⟩
      · rw [decide_eq_false c3, if_neg (by simp)]; congr 1; symm; rw [decide_eq_false_iff_not]; exact fun h => c3 h.2.2.2.1
    · rw [if_neg c2]; congr 1; symm; rw [decide_eq_false_iff_not]; exact fun h => c2 h.2.2.1
  · rw [decide_eq_false c, if_neg (by simp)]; congr 1; symm; rw [decide_eq_false_iff_not]; exact fun h => c ⟨h.1, h.2.1⟩

theorem sameS_l (a b : List Int) (hl : a.length = b.length) (ha : a.length < 9223372036854775807) (d : Nat) : ∀ (k i : Nat), i ≤ a.length → a.length - i = d → d < k →
    spec_l1Same.l0 k a b a.length i = some (decide (a.drop i = b.drop i)) := by
  induction d with
  | zero =>
    intro k i h1 hd hk
    obtain ⟨k, rfl⟩ := succOf hk
    simp only [spec_l1Same.l0]
    rw [if_neg (by omega), List.drop_eq_nil_of_le (by omega), List.drop_eq_nil_of_le (by omega)]; simp
  | succ d ih =>
    intro k i h1 hd hk
    obtain ⟨k, rfl⟩ := succOf hk
    simp only [spec_l1Same.l0]
    have h2 := ih k (i+1) (by omega) (by omega) (by omega)
    have e1 : rd a i = a[i]'(by omega) := by simp [rd, List.getD_eq_getElem?_getD, List.getElem?_eq_getElem (show i < a.length by omega)]
    have e2 : rd b i = b[i]'(by omega) := by simp [rd, List.getD_eq_getElem?_getD, List.getElem?_eq_getElem (show i < b.length by omega)]
    have e3 := List.drop_eq_getElem_cons (show i < a.length by omega)
    have e4 := List.drop_eq_getElem_cons (show i < b.length by omega)
    rw [if_pos (by omega), if_pos (by omega), if_pos (by omega), if_pos (by omega), e1, e2, w64n i (by omega), h2, e3, e4]
    clear e3 e4 h2 ih
    split <;> simp only [List.cons.injEq, *, true_and, false_and, decide_false]
theorem sameS (a b : List Int) (k : Nat) (ha : a.length < 9223372036854775807) (hk : a.length < k) : spec_l1Same.f k a b = some (decide (a = b)) := by
  unfold spec_l1Same.f
  split
  · have h := sameS_l a b (by omega) ha a.length k 0 (by omega) (by omega) hk
    simpa using h
  · have : a ≠ b := by intro h; subst h; simp_all
    simp [this]

theorem raGoodS (s : Int) (ws l2 l3 : List Int) (k : Nat) (hl : ws.length ≤ 1048576) (hl2 : l2.length ≤ 1048576) (hl3 : l3.length ≤ 1048576) (hk : 1060000 ≤ k) : spec_raGood.f k s ws l2 l3 = some (decide (RGood s ws l2 l3)) := by
  unfold spec_raGood.f
  rw [goodS s ws k (by omega) (by omega), Option.bind_some]
  by_cases c : Good s ws
  · rw [decide_eq_true c, if_pos rfl, raOfS c k (by omega), Option.bind_some]
    unfold dirOf
    simp only []
    rw [sameS l2 _ k (by omega) (by omega), Option.bind_some, sameS l3 _ k (by omega) (by omega), Option.bind_some]
    by_cases c2 : l2 = supN (bitAt ws) (wordsN s)
    · rw [decide_eq_true c2, if_pos rfl]; congr 1; rw [decide_eq_decide]; exact ⟨fun h => ⟨c, c2, h⟩, fun h => h.2.2⟩
    · rw [decide_eq_false c2, if_neg (by simp)]; congr 1; symm; rw [decide_eq_false_iff_not]; exact fun h => c2 h.2.1
  · rw [decide_eq_false c, if_neg (by simp)]; congr 1; symm; rw [decide_eq_false_iff_not]; exact fun h => c h.1

theorem countI_l {s : Int} {ws : List Int} (h : Good s ws) (d : Nat) : ∀ (k i n : Nat), ((i + d : Nat) : Int) ≤ s → n ≤ i → d < k →
    impl_Bits_count.l0 k ((i + d : Nat) : Int) n i s ws = some ((n + ones (bitAt ws) i d : Nat) : Int) := by
  have hs := h.2.1
  induction d with
  | zero =>
    intro k i n hi hn hk
    obtain ⟨k, rfl⟩ := succOf hk
    simp only [impl_Bits_count.l0]
    rw [if_neg (by omega)]; rfl
  | succ d ih =>
    intro k i n hi hn hk
    obtain ⟨k, rfl⟩ := succOf hk
    simp only [impl_Bits_count.l0]
    rw [if_pos (by omega), atI_good h i (by omega), Option.bind_some, w64n i (by omega), w64n n (by omega)]
    have e : i + (d + 1) = i + 1 + d := by omega
    rw [e]
    have h1 := ih k (i + 1) (n + 1) (by omega) (by omega) (by omega)
    have h2 := ih k (i + 1) n (by omega) (by omega) (by omega)
    cases c : bitAt ws i
    · rw [if_neg (by simp), h2]; simp only [ones, c, Bool.false_eq_true, if_false]; congr 2; omega
    · rw [if_pos rfl, h1]; simp only [ones, c, if_true]; congr 2; omega
theorem countI {s : Int} {ws : List Int} (h : Good s ws) (i j k : Nat) (hij : i ≤ j) (hj : (j : Int) ≤ s) (hk : 4096 < k) :
    impl_Bits_count.f k s ws i j = some ((ones (bitAt ws) i (j - i) : Nat) : Int) := by
  have hs := h.2.1
  have := countI_l h (j - i) k i 0 (by omega) (by omega) (by omega)
  rw [show i + (j - i) = j from by omega, Nat.zero_add] at this
  exact this

theorem rankedI_l {s : Int} {ws : List Int} (h : Good s ws) (d : Nat) : ∀ (k j : Nat) (x5 : Int), j + d = wordsN s → (16 * j % 64 ≠ 0 → x5 = ((ones (bitAt ws) 0 (16 * j / 64 * 64) : Nat) : Int)) → d + 4100 < k →
    impl_ranked.l0 k ((ones (bitAt ws) 0 (min (16 * j) s.toNat) : Nat) : Int) x5 ((16 * j : Nat) : Int) j s ws s ws (supN (bitAt ws) j) (blkN (bitAt ws) j) = some (dirOf s ws) := by
  have h0 := h.1
  have hs := h.2.1
  have hw := (good_len h).2
  induction d with
  | zero =>
    intro k j x5 hj hx hk
    obtain ⟨k, rfl⟩ := succOf hk
    simp only [impl_ranked.l0]
    have : ¬ (((16 * j : Nat) : Int) < s) := by unfold wordsN at hj; omega
    rw [if_neg this]; unfold dirOf; rw [show wordsN s = j from by omega]
  | succ d ih =>
    intro k j x5 hj hx hk
    obtain ⟨k, rfl⟩ := succOf hk
    have hlt : ((16 * j : Nat) : Int) < s := by unfold wordsN at hj; omega
    have e0 : min (16 * j) s.toNat = 16 * j := by omega
    have e1 : wrap64 (((16 * j : Nat) : Int) + 16) = ((16 * (j + 1) : Nat) : Int) := by rw [w64 (by omega) (by omega)]; omega
    have e2 : Int.tmod ((16 * j : Nat) : Int) 64 = ((16 * j % 64 : Nat) : Int) := by rw [Int.tmod_eq_emod_of_nonneg (by omega)]; omega
    have e3 : mn ((16 * (j + 1) : Nat) : Int) s = ((min (16 * (j + 1)) s.toNat : Nat) : Int) := by unfold mn; split <;> omega
    have c1 := countI h (16 * j) (min (16 * (j + 1)) s.toNat) k (by omega) (by omega) (by omega)
    have l1 := supN_len (bitAt ws) j
    have l2 := blkN_len (bitAt ws) j
    have o1 := ones_le (bitAt ws) (16 * j) 0
    have o2 := ones_le (bitAt ws) (min (16 * (j + 1)) s.toNat - 16 * j) (16 * j)
    have a1 := ones_add (bitAt ws) (16 * j) 0 (min (16 * (j + 1)) s.toNat - 16 * j)
    have a2 := ones_add (bitAt ws) (16 * j / 64 * 64) 0 (16 * j % 64)
    rw [Nat.zero_add, show 16 * j + (min (16 * (j + 1)) s.toNat - 16 * j) = min (16 * (j + 1)) s.toNat from by omega] at a1
    rw [Nat.zero_add, show 16 * j / 64 * 64 + 16 * j % 64 = 16 * j from by omega] at a2
    have e4 : wrap64 (((ones (bitAt ws) 0 (16 * j) : Nat) : Int) + ((ones (bitAt ws) (16 * j) (min (16 * (j + 1)) s.toNat - 16 * j) : Nat) : Int)) = ((ones (bitAt ws) 0 (min (16 * (j + 1)) s.toNat) : Nat) : Int) := by
      rw [w64 (by omega) (by omega)]; omega
    simp only [impl_ranked.l0]
    rw [e0, if_pos hlt, e2, e1, e3, c1]
    by_cases c : 16 * j % 64 = 0
    · have h1 := ih k (j + 1) ((ones (bitAt ws) 0 (16 * j) : Nat) : Int) (by omega) (fun _ => by rw [show 16 * (j + 1) / 64 * 64 = 16 * j from by omega]) (by omega)
      simp only [supN, blkN] at h1
      rw [if_pos c, c] at h1
      rw [if_pos (by omega), if_pos (by omega), if_pos (by omega), Option.bind_some, e4, w64n j (by omega)]
      exact h1
    · have h1 := ih k (j + 1) x5 (by omega) (fun _ => by rw [hx c, show 16 * (j + 1) / 64 * 64 = 16 * j / 64 * 64 from by omega]) (by omega)
      simp only [supN, blkN] at h1
      rw [if_neg c] at h1
      have hx5 := hx c
      have o3 := ones_le (bitAt ws) (16 * j / 64 * 64) 0
      have e5 : wrap64 (((ones (bitAt ws) 0 (16 * j) : Nat) : Int) - x5) = ((ones (bitAt ws) (16 * j / 64 * 64) (16 * j % 64) : Nat) : Int) := by
        rw [w64 (by omega) (by omega)]; omega
      rw [if_neg (by omega), if_pos (by omega), Option.bind_some, e4, w64n j (by omega), e5]
      exact h1
theorem rankedI {s : Int} {ws : List Int} (h : Good s ws) (k : Nat) (hk : 4500 < k) : impl_ranked.f k s ws = some (dirOf s ws) := by
  have hw := good_len h
  have := rankedI_l h (wordsN s) k 0 0 (by omega) (fun h => by omega) (by omega)
  unfold impl_ranked.f impl_cloneBits.f slices_Clone_int_int.f
  rw [if_pos (by omega)]
  simp only [Option.bind_some]
  exact this

theorem inI (a b c : Int) : impl_in.f a b c = some (decide (b ≤ a ∧ a ≤ c)) := by
  unfold impl_in.f; split <;> simp [*]

theorem goodI_l (s : Int) (ws : List Int) (hl : ws.length < 9223372036854775807) (h0 : 0 ≤ s) (h1 : s ≤ 4096) (h2 : (ws.length : Int) = (s + 15) / 16) : ∀ (suf pre : List Int) (k : Nat), ws = pre ++ suf → suf.length < k →
    impl_IsBits.l0 k ws ws.length pre.length s ws = some (decide ((∀ w ∈ suf, 0 ≤ w ∧ w ≤ 65535) ∧ (s % 16 = 0 ∨ ws.getD (ws.length - 1) 0 / 2 ^ (s % 16).toNat = 0))) := by
  intro suf
  induction suf with
  | nil =>
    intro pre k e hk
    obtain ⟨k, rfl⟩ := succOf hk
    simp only [impl_IsBits.l0]
    have : ws.length = pre.length := by rw [e]; simp
    rw [if_neg (by omega), last_eq s ws h0 h1 h2]; simp
  | cons x suf ih =>
    intro pre k e hk
    obtain ⟨k, rfl⟩ := succOf hk
    simp only [impl_IsBits.l0]
    have hlen : ws.length = pre.length + suf.length + 1 := by rw [e]; simp; omega
    have e1 : rd ws (pre.length : Int) = x := by rw [e]; exact rd_mid pre suf x
    have e2 : (pre ++ [x]).length = pre.length + 1 := by simp
    have h3 := ih (pre ++ [x]) k (by rw [e]; simp) (by simp only [List.length_cons] at hk; omega)
    rw [e2] at h3
    rw [if_pos (by omega), if_pos (by omega), if_pos (by omega), e1, inI, Option.bind_some, w64n _ (by omega), h3]
    by_cases c : 0 ≤ x ∧ x ≤ 65535
    · rw [decide_eq_true c, if_pos rfl]; congr 1; rw [decide_eq_decide]; simp [c]
    · rw [decide_eq_false c, if_neg (by simp)]; congr 1; symm; rw [decide_eq_false_iff_not]; intro g; exact c (g.1 x (by simp))
theorem goodI (s : Int) (ws : List Int) (k : Nat) (hl : ws.length < 9223372036854775807) (hk : ws.length + 1 < k) : impl_IsBits.f k s ws = some (decide (Good s ws)) := by
  obtain ⟨k, rfl⟩ := succOf hk
  unfold impl_IsBits.f impl_words.f
  rw [inI, Option.bind_some]
  by_cases c : 0 ≤ s ∧ s ≤ 4096
  · rw [decide_eq_true c, if_pos rfl, Option.bind_some, words_eq2 s c.1 c.2]
    simp only [impl_IsBits.j0]
    by_cases c2 : (ws.length : Int) = (s + 15) / 16
    · have h := goodI_l s ws hl c.1 c.2 c2 ws [] k rfl (by omega)
      simp only [List.length_nil, Int.natCast_zero] at h
      rw [if_neg (by simpa using c2), h]
      congr 1; rw [decide_eq_decide]; unfold Good
      exact ⟨fun h => ⟨c.1, c.2, c2, h.1, h.2⟩, fun h => h.2.2.2⟩
    · rw [if_pos (by simpa using c2)]; congr 1; symm; rw [decide_eq_false_iff_not]; exact fun h => c2 h.2.2.1
  · rw [decide_eq_false c, if_neg (by simp)]; simp only [impl_IsBits.j0, if_true]; congr 1; symm; rw [decide_eq_false_iff_not]; exact fun h => c ⟨h.1, h.2.1⟩

theorem sameE_l (a b : List Int) (hl : a.length = b.length) (ha : a.length < 9223372036854775807) (d : Nat) : ∀ (k i : Nat), i ≤ a.length → a.length - i = d → d < k →
    slices_Equal_int_int.l0 k a b a.length i = some (decide (a.drop i = b.drop i)) := by
  induction d with
  | zero =>
    intro k i h1 hd hk
    obtain ⟨k, rfl⟩ := succOf hk
    simp only [slices_Equal_int_int.l0]
    rw [if_neg (by omega), List.drop_eq_nil_of_le (by omega), List.drop_eq_nil_of_le (by omega)]; simp
  | succ d ih =>
    intro k i h1 hd hk
    obtain ⟨k, rfl⟩ := succOf hk
    simp only [slices_Equal_int_int.l0]
    have h2 := ih k (i+1) (by omega) (by omega) (by omega)
    have e1 : rd a i = a[i]'(by omega) := by simp [rd, List.getD_eq_getElem?_getD, List.getElem?_eq_getElem (show i < a.length by omega)]
    have e2 : rd b i = b[i]'(by omega) := by simp [rd, List.getD_eq_getElem?_getD, List.getElem?_eq_getElem (show i < b.length by omega)]
    have e3 := List.drop_eq_getElem_cons (show i < a.length by omega)
    have e4 := List.drop_eq_getElem_cons (show i < b.length by omega)
    rw [if_pos (by omega), if_pos (by omega), if_pos (by omega), if_pos (by omega), e1, e2, w64n i (by omega), h2, e3, e4]
    clear e3 e4 h2 ih
    split <;> simp only [List.cons.injEq, *, true_and, false_and, decide_false]
theorem sameE (a b : List Int) (k : Nat) (ha : a.length < 9223372036854775807) (hk : a.length < k) : slices_Equal_int_int.f k a b = some (decide (a = b)) := by
  unfold slices_Equal_int_int.f
  split
  · have h := sameE_l a b (by omega) ha a.length k 0 (by omega) (by omega) hk
    simpa using h
  · have : a ≠ b := by intro h; subst h; simp_all
    simp [this]

theorem isRankedI (s : Int) (ws l2 l3 : List Int) (k : Nat) (hl : ws.length ≤ 1048576) (hl2 : l2.length ≤ 1048576) (hl3 : l3.length ≤ 1048576) (hk : 1060000 ≤ k) : impl_IsRanked.f k s ws l2 l3 = some (decide (RGood s ws l2 l3)) := by
  unfold impl_IsRanked.f
  rw [goodI s ws k (by omega) (by omega), Option.bind_some]
  by_cases c : Good s ws
  · have hw := (good_len c).2
    have h1 := supN_len (bitAt ws) (wordsN s)
    have h2 := blkN_len (bitAt ws) (wordsN s)
    rw [decide_eq_true c, if_pos rfl, rankedI c k (by omega), Option.bind_some]
    unfold dirOf
    simp only []
    rw [sameE _ l2 k (by omega) (by omega), Option.bind_some, sameE _ l3 k (by omega) (by omega), Option.bind_some]
    by_cases c2 : supN (bitAt ws) (wordsN s) = l2
    · rw [decide_eq_true c2, if_pos rfl]; congr 1; rw [decide_eq_decide]; exact ⟨fun h => ⟨c, c2.symm, h.symm⟩, fun h => h.2.2.symm⟩
    · rw [decide_eq_false c2, if_neg (by simp)]; congr 1; symm; rw [decide_eq_false_iff_not]; exact fun h => c2 h.2.1.symm
  · rw [decide_eq_false c, if_neg (by simp)]; congr 1; symm; rw [decide_eq_false_iff_not]; exact fun h => c h.1

theorem packDirBoth (s : Int) (ws l2 l3 : List Int) (hl : ws.length ≤ 1048576) (hl2 : l2.length ≤ 1048576) (hl3 : l3.length ≤ 1048576) : ∃ (r0 : Int) (r1 : List Int) (rb : Bool), r1.length ≤ 300 ∧ (∀ fu, 1060000 ≤ fu → spec_PackDirectory.f fu s ws l2 l3 = some (r0, r1, rb)) ∧ ∀ fu, 1060000 ≤ fu → impl_PackDirectory.f fu s ws l2 l3 = some (r0, r1, rb) := by
  by_cases c : RGood s ws l2 l3
  · obtain ⟨n, pv, hn, hN, g, b, eI, eS⟩ := packBoth c
    have hw := g.2.2.1
    refine ⟨n, pv, true, by omega, fun fu hf => ?_, fun fu hf => ?_⟩
    · unfold spec_PackDirectory.f
      rw [raGoodS s ws l2 l3 fu hl hl2 hl3 hf, Option.bind_some, decide_eq_true c, if_pos rfl, eS fu (by omega), Option.bind_some]
    · unfold impl_PackDirectory.f
      rw [isRankedI s ws l2 l3 fu hl hl2 hl3 hf, Option.bind_some, decide_eq_true c, if_pos rfl, eI fu (by omega), Option.bind_some]
  · refine ⟨0, [], false, by simp, fun fu hf => ?_, fun fu hf => ?_⟩
    · unfold spec_PackDirectory.f
      rw [raGoodS s ws l2 l3 fu hl hl2 hl3 hf, Option.bind_some, decide_eq_false c, if_neg (by simp)]
    · unfold impl_PackDirectory.f
      rw [isRankedI s ws l2 l3 fu hl hl2 hl3 hf, Option.bind_some, decide_eq_false c, if_neg (by simp)]

theorem unI {s : Int} {x l2 l3 : List Int} {n : Nat} {pv : List Int} (h : RGood s x l2 l3) (eD : ∀ k, 4200 < k → impl_directory.f k s x l2 l3 = some ((n : Int), pv)) (hp : pv.length ≤ 300) {t : Int} {y : List Int} (h' : Good t y) (k : Nat) (hk : 1060000 ≤ k) :
    impl_UnpackDirectory.f k s x t y = some (if (n : Int) = t ∧ pv = y then (s, x, l2, l3, true) else (0, [], [], [], false)) := by
  have hx := h.1.2.2.1
  have h0 := h.1.1
  have h1 := h.1.2.1
  have hy := h'.2.2.1
  have y0 := h'.1
  have y1 := h'.2.1
  obtain ⟨g, e2, e3⟩ := h
  obtain ⟨k, rfl⟩ := succOf (show 0 < k by omega)
  have er : impl_ranked.f k s x = some (s, x, l2, l3) := by rw [rankedI g k (by omega)]; unfold dirOf; rw [← e2, ← e3]
  unfold impl_UnpackDirectory.f
  rw [goodI s x (k + 1) (by omega) (by omega), decide_eq_true g, Option.bind_some, if_pos rfl, goodI t y (k + 1) (by omega) (by omega), decide_eq_true h', Option.bind_some]
  simp only [impl_UnpackDirectory.j0]
  rw [if_neg (by simp), er, Option.bind_some]; simp only
  rw [eD k (by omega), Option.bind_some]; simp only
  unfold impl_sameBits.f
  by_cases c1 : (n : Int) = t
  · rw [if_pos c1, sameE pv y k (by omega) (by omega), Option.bind_some, Option.bind_some]
    by_cases c2 : pv = y
    · rw [decide_eq_true c2, if_pos rfl, if_pos ⟨c1, c2⟩]
    · rw [decide_eq_false c2, if_neg (by simp), if_neg (fun h => c2 h.2)]
  · rw [if_neg c1, Option.bind_some, if_neg (by simp), if_neg (fun h => c1 h.1)]
theorem unI_no (s : Int) (x : List Int) (t : Int) (y : List Int) (hx : x.length ≤ 1048576) (hy : y.length ≤ 1048576) (h : ¬ (Good s x ∧ Good t y)) (k : Nat) (hk : 1060000 ≤ k) : impl_UnpackDirectory.f k s x t y = some (0, [], [], [], false) := by
  obtain ⟨k, rfl⟩ := succOf (show 0 < k by omega)
  unfold impl_UnpackDirectory.f
  by_cases c1 : Good s x
  · rw [goodI s x (k + 1) (by omega) (by omega), decide_eq_true c1, Option.bind_some, if_pos rfl, goodI t y (k + 1) (by omega) (by omega), decide_eq_false (fun c2 => h ⟨c1, c2⟩), Option.bind_some]
    simp [impl_UnpackDirectory.j0]
  · rw [goodI s x (k + 1) (by omega) (by omega), decide_eq_false c1, Option.bind_some, if_neg (by simp)]
    simp [impl_UnpackDirectory.j0]

theorem dirBitsI (s : Int) (h0 : 0 ≤ s) (h1 : s ≤ 4096) : impl_DirectoryBits.f s = some (13 * ((s + 63) / 64) + 6 * ((s + 15) / 16), true) := by
  unfold impl_DirectoryBits.f
  have e : wrap64 (wrap64 (s + 64) - 1) = s + 63 := by rw [w64 (x := s + 64) (by omega) (by omega), w64 (by omega) (by omega)]; omega
  have e2 : wrap64 (wrap64 (s + 16) - 1) = s + 15 := by rw [w64 (x := s + 16) (by omega) (by omega), w64 (by omega) (by omega)]; omega
  rw [inI, Option.bind_some, if_pos (by simp [h0, h1])]
  simp only [impl_words.f, Option.bind_some, e, e2]
  rw [Int.tdiv_eq_ediv_of_nonneg (a := s + 63) (by omega), Int.tdiv_eq_ediv_of_nonneg (a := s + 15) (by omega)]
  rw [w64 (x := (s + 63) / 64) (by omega) (by omega), w64 (x := (s + 15) / 16) (by omega) (by omega)]
  rw [w64 (x := 13 * _) (by omega) (by omega), w64 (x := 6 * _) (by omega) (by omega), w64 (by omega) (by omega)]

open Classical in
/-- what BitAt answers -/
noncomputable def bitAns (s : Int) (ws : List Int) (i : Int) : Bool × Bool := if Good s ws ∧ 0 ≤ i ∧ i < s then (bitAt ws i.toNat, true) else (false, false)

theorem bitAtI (s : Int) (ws : List Int) (i : Int) (k : Nat) (hl : ws.length < 9223372036854775807) (hk : ws.length + 1 < k) : impl_BitAt.f k s ws i = some (bitAns s ws i) := by
  unfold impl_BitAt.f bitAns
  rw [goodI s ws k hl hk, Option.bind_some]
  by_cases c : Good s ws
  · have := c.1
    have := c.2.1
    rw [decide_eq_true c, if_pos rfl, inI, Option.bind_some, w64 (by omega) (by omega)]
    by_cases c2 : 0 ≤ i ∧ i ≤ s - 1
    · rw [decide_eq_true c2, if_pos rfl, if_pos ⟨c, c2.1, by omega⟩]
      have h := atI_good c i.toNat (by omega)
      rw [Int.toNat_of_nonneg c2.1] at h
      rw [h]; rfl
    · rw [decide_eq_false c2, if_neg (by simp), if_neg (by omega)]
  · rw [decide_eq_false c, if_neg (by simp), if_neg (by simp [c])]

theorem cloneI (s : Int) (ws : List Int) (h : ws.length < 17592186044416) : impl_cloneBits.f s ws = some (s, ws) := by
  unfold impl_cloneBits.f slices_Clone_int_int.f
  rw [if_pos h]; rfl

/-- what PutBit answers, told by its bits -/
def PutIs (s : Int) (ws : List Int) (i : Int) (v : Bool) (r : Int × List Int × Bool) : Prop :=
  (¬ (Good s ws ∧ 0 ≤ i ∧ i < s) ∧ r = (0, [], false)) ∨ ((Good s ws ∧ 0 ≤ i ∧ i < s) ∧ r.1 = s ∧ r.2.2 = true ∧ Good s r.2.1 ∧ ∀ j : Nat, (j : Int) < s → bitAt r.2.1 j = if (j : Int) = i then v else bitAt ws j)
theorem putIs_one {s : Int} {ws : List Int} {i : Int} {v : Bool} {r r' : Int × List Int × Bool} (h : PutIs s ws i v r) (h' : PutIs s ws i v r') : r = r' := by
  rcases h with ⟨c, e⟩ | ⟨c, e1, e2, g, b⟩ <;> rcases h' with ⟨c', e'⟩ | ⟨c', e1', e2', g', b'⟩
  · rw [e, e']
  · exact absurd c' c
  · exact absurd c c'
  · have := good_ext g g' (fun j hj => by rw [b j hj, b' j hj])
    obtain ⟨r1, r2, r3⟩ := r
    obtain ⟨r1', r2', r3'⟩ := r'
    simp only at *
    simp [*]

theorem putI (s : Int) (ws : List Int) (i : Int) (v : Bool) (hl : ws.length ≤ 1048576) : ∃ r, PutIs s ws i v r ∧ ∀ k, ws.length + 5000 < k → impl_PutBit.f k s ws i v = some r := by
  by_cases c : Good s ws ∧ 0 ≤ i ∧ i < s
  · have h0 := c.1.1
    have h1 := c.1.2.1
    obtain ⟨w2, e, g, b⟩ := setI c.1 i.toNat (by omega) v
    rw [Int.toNat_of_nonneg c.2.1] at e
    refine ⟨(s, w2, true), Or.inr ⟨c, rfl, rfl, g, fun j hj => ?_⟩, fun k hk => ?_⟩
    · simp only
      rw [b]
      by_cases cj : (j : Int) = i
      · rw [if_pos cj, if_pos (by omega)]
      · rw [if_neg cj, if_neg (by omega)]
    · unfold impl_PutBit.f
      obtain ⟨k, rfl⟩ := succOf (show 0 < k by omega)
      rw [goodI s ws (k + 1) (by omega) (by omega), decide_eq_true c.1, Option.bind_some, if_pos rfl, inI, Option.bind_some, w64 (by omega) (by omega), decide_eq_true (by omega)]
      simp only [impl_PutBit.j0]
      rw [if_neg (by simp), cloneI s ws (by omega), Option.bind_some, e]; rfl
  · refine ⟨(0, [], false), Or.inl ⟨c, rfl⟩, fun k hk => ?_⟩
    unfold impl_PutBit.f
    obtain ⟨k, rfl⟩ := succOf (show 0 < k by omega)
    rw [goodI s ws (k + 1) (by omega) (by omega), Option.bind_some]
    by_cases c1 : Good s ws
    · have h0 := c1.1
      have h1 := c1.2.1
      rw [decide_eq_true c1, if_pos rfl, inI, Option.bind_some, w64 (by omega) (by omega), decide_eq_false (by intro c2; exact c ⟨c1, c2.1, by omega⟩)]
      simp [impl_PutBit.j0]
    · rw [decide_eq_false c1, if_neg (by simp)]; simp [impl_PutBit.j0]

theorem sameP_l (a b : List Int) (hl : a.length = b.length) (ha : a.length < 9223372036854775807) (d : Nat) : ∀ (k i : Nat), i ≤ a.length → a.length - i = d → d < k →
    laws_pSameInts.l0 k a b a.length i = some (decide (a.drop i = b.drop i)) := by
  induction d with
  | zero =>
    intro k i h1 hd hk
    obtain ⟨k, rfl⟩ := succOf hk
    simp only [laws_pSameInts.l0]
    rw [if_neg (by omega), List.drop_eq_nil_of_le (by omega), List.drop_eq_nil_of_le (by omega)]; simp
  | succ d ih =>
    intro k i h1 hd hk
    obtain ⟨k, rfl⟩ := succOf hk
    simp only [laws_pSameInts.l0]
    have h2 := ih k (i+1) (by omega) (by omega) (by omega)
    have e1 : rd a i = a[i]'(by omega) := by simp [rd, List.getD_eq_getElem?_getD, List.getElem?_eq_getElem (show i < a.length by omega)]
    have e2 : rd b i = b[i]'(by omega) := by simp [rd, List.getD_eq_getElem?_getD, List.getElem?_eq_getElem (show i < b.length by omega)]
    have e3 := List.drop_eq_getElem_cons (show i < a.length by omega)
    have e4 := List.drop_eq_getElem_cons (show i < b.length by omega)
    rw [if_pos (by omega), if_pos (by omega), if_pos (by omega), if_pos (by omega), e1, e2, w64n i (by omega), h2, e3, e4]
    clear e3 e4 h2 ih
    split <;> simp only [List.cons.injEq, *, true_and, false_and, decide_false]
theorem sameP (a b : List Int) (k : Nat) (ha : a.length < 9223372036854775807) (hk : a.length < k) : laws_pSameInts.f k a b = some (decide (a = b)) := by
  unfold laws_pSameInts.f
  split
  · have h := sameP_l a b (by omega) ha a.length k 0 (by omega) (by omega) hk
    simpa using h
  · have : a ≠ b := by intro h; subst h; simp_all
    simp [this]

theorem sameR (s : Int) (a b c : List Int) (k : Nat) (ha : a.length < 1000000) (hb : b.length < 1000000) (hc : c.length < 1000000) (hk : 1000000 < k) : laws_pSameRanked.f k s a b c s a b c = some true := by
  unfold laws_pSameRanked.f laws_pSameBits.f
  rw [if_pos rfl, sameP a a k (by omega) (by omega), Option.bind_some, Option.bind_some, if_pos (by simp), sameP b b k (by omega) (by omega), Option.bind_some, if_pos (by simp), sameP c c k (by omega) (by omega), Option.bind_some]; simp

theorem sameB (s t : Int) (a b : List Int) (k : Nat) (ha : a.length < 9223372036854775807) (hk : a.length < k) : laws_pSameBits.f k s a t b = some (decide (s = t ∧ a = b)) := by
  unfold laws_pSameBits.f
  by_cases c : s = t
  · rw [if_pos c, sameP a b k ha hk, Option.bind_some]; simp [c]
  · rw [if_neg c]; simp [c]

theorem wf8 {x : Int} (h : (Lit.int .u8 x).wf = true) : 0 ≤ x ∧ x ≤ 255 := by
  simp only [Lit.wf, Bool.and_eq_true, decide_eq_true_eq, IntKind.min, IntKind.max, IntKind.signed, IntKind.bits] at h
  simp at h
  omega

theorem FnDirectoriesArePacked : laws_FnDirectoriesArePacked.Pure := by
  intro c m _ _ hc _ _ _
  obtain ⟨k, hk⟩ : ∃ k, k = 1060000 := ⟨_, rfl⟩
  refine ⟨k + 4, ?_⟩
  unfold laws_FnDirectoriesArePacked.f laws_big.f
  by_cases hb : (c.length : Int) > 1048576
  · rw [if_pos hb, Option.bind_some, if_pos rfl]
  rw [if_neg hb, Option.bind_some]
  by_cases hb2 : decide ((m.length : Int) > wrap64 (1048576 - (c.length : Int))) = true
  · rw [if_pos hb2]
  rw [if_neg hb2]
  have hm : (m.length : Int) ≤ 1048576 := by
    simp only [decide_eq_true_eq] at hb2
    rw [w64 (by omega) (by omega)] at hb2
    omega
  have hB : Bytes c := ⟨by omega, fun x hx => wf8 (hc x hx)⟩
  obtain ⟨s, x, x2, x3, a1, s1, q1, q2, q3, p1, e1⟩ := rankedC c hB 0 0 0 ⟨by omega, by omega⟩ (by omega)
  have eD : spec_DrawPackDirectory.f (k + 4) c = some (s, x, x2, x3) := by
    unfold spec_DrawPackDirectory.f
    rw [e1 _ (by omega), Option.bind_some]
  rw [eD, Option.bind_some]; simp only
  by_cases g : RGood s x x2 x3
  · obtain ⟨n, pv, hn, hN, gp, bp, eI, eS⟩ := packBoth g
    have hpl := gp.2.2.1
    have eP : impl_PackDirectory.f (k + 4) s x x2 x3 = some ((n : Int), pv, true) := by
      unfold impl_PackDirectory.f
      rw [isRankedI s x x2 x3 _ (by omega) (by omega) (by omega) (by omega), Option.bind_some, decide_eq_true g, if_pos rfl, eI _ (by omega), Option.bind_some]
    have eQ : spec_PackDirectory.f (k + 4) s x x2 x3 = some ((n : Int), pv, true) := by
      unfold spec_PackDirectory.f
      rw [raGoodS s x x2 x3 _ (by omega) (by omega) (by omega) (by omega), Option.bind_some, decide_eq_true g, if_pos rfl, eS _ (by omega), Option.bind_some]
    obtain ⟨d2, d3, dN, _, _⟩ := dir_sizes g
    have h0 := g.1.1
    have h1 := g.1.2.1
    have eB : impl_DirectoryBits.f s = some ((n : Int), true) := by
      rw [dirBitsI s h0 h1]; congr 2; omega
    rw [eP, Option.bind_some, eQ, Option.bind_some, if_neg (by simp)]; simp only
    rw [sameB (n : Int) n pv pv _ (by omega) (by omega), Option.bind_some]
    simp only [and_self, decide_true, Bool.not_true, laws_FnDirectoriesArePacked.j0, Bool.false_eq_true, if_false, if_true]
    rw [eB, Option.bind_some, unI g eI (by omega) gp _ (by omega), if_pos ⟨rfl, rfl⟩, Option.bind_some]
    simp only [if_true]
    rw [sameR _ _ _ _ _ (by omega) (by omega) (by omega) (by omega), Option.bind_some]
    simp only [Bool.not_true, laws_FnDirectoriesArePacked.j1, Bool.false_eq_true, if_false]
    by_cases cn : (n : Int) = 0
    · rw [if_pos cn]
    · rw [if_neg cn]
      obtain ⟨i, hi⟩ : ∃ i : Nat, (m.length : Int) % (n : Int) = i := ⟨((m.length : Int) % (n : Int)).toNat, by have := Int.emod_nonneg (m.length : Int) cn; omega⟩
      have hlt : (i : Int) < n := by rw [← hi]; exact Int.emod_lt_of_pos _ (by omega)
      rw [hi, bitAtI (n : Int) pv i _ (by omega) (by omega), Option.bind_some]
      have ea : bitAns (n : Int) pv i = (bitAt pv i, true) := by unfold bitAns; rw [if_pos ⟨gp, by omega, by omega⟩, Int.toNat_natCast]
      rw [ea]
      obtain ⟨r, hr, eR⟩ := putI (n : Int) pv i (!bitAt pv i) (by omega)
      rcases hr with ⟨no, _⟩ | ⟨_, r1, r2, rg, rb⟩
      · exact absurd ⟨gp, by omega, by omega⟩ no
      rw [eR _ (by omega), Option.bind_some, r1]
      have hne : ¬ ((n : Int) = n ∧ pv = r.2.1) := fun h => by
        have h2 := rb i (by omega)
        rw [← h.2] at h2
        simp at h2
      rw [unI g eI (by omega) rg _ (by omega), if_neg hne, Option.bind_some]
      simp only [if_true, r2]
      rfl
  · have eP : impl_PackDirectory.f (k + 4) s x x2 x3 = some (0, [], false) := by
      unfold impl_PackDirectory.f
      rw [isRankedI s x x2 x3 _ (by omega) (by omega) (by omega) (by omega), Option.bind_some, decide_eq_false g, if_neg (by simp)]
    have eQ : spec_PackDirectory.f (k + 4) s x x2 x3 = some (0, [], false) := by
      unfold spec_PackDirectory.f
      rw [raGoodS s x x2 x3 _ (by omega) (by omega) (by omega) (by omega), Option.bind_some, decide_eq_false g, if_neg (by simp)]
    rw [eP, Option.bind_some, eQ, Option.bind_some, if_neg (by simp), sameB _ _ _ _ _ (by simp) (by simp), Option.bind_some]
    simp [laws_FnDirectoriesArePacked.j0]

end Go.Proofs.Ytkmhjgejficclaa.Pure
