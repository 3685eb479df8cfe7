/- BitsText of the program and of the reference answer the same, and the argument stays; for every value of at most 2^20 words (longer ones are not asked). -/
import Derived.Test.YtcbikbghbnccoaaPFnExactBitsTextx3
namespace Go.Proofs.Ytcbikbghbnccoaa.Pure
open Go.RowKit Go.Proofs.Ytcbikbghbnccoaa.PFnExactBitsText Go.Proofs.YtcbikbghbnccoaaW.PrintWords Go.Proofs.YtcbikbghbnccoaaW.PrintLast Go.Proofs.YtcbikbghbnccoaaW.PrintMore
set_option linter.unusedVariables false
set_option linter.unusedSimpArgs false

theorem w64 {x : Int} (h1 : -9223372036854775808 ≤ x) (h2 : x ≤ 9223372036854775807) : wrap64 x = x := by unfold wrap64; omega
theorem w64n (i : Nat) (h : i < 9223372036854775807) : wrap64 ((i : Int) + 1) = ((i + 1 : Nat) : Int) := by rw [w64 (by omega) (by omega)]; rfl
theorem succOf {k d : Nat} (h : d < k) : ∃ m, k = m + 1 := ⟨k - 1, by omega⟩

theorem rd_mid (p s : List Int) (x : Int) : rd (p ++ x :: s) (p.length : Int) = x := by
  simp [rd, List.getD_eq_getElem?_getD]
theorem rd_last (p s : List Int) (x : Int) (i : Int) (h : i = p.length) : rd (p ++ x :: s) i = x := by
  subst h; exact rd_mid p s x

theorem shl64 (x y : Int) (h0 : 0 ≤ y) (h1 : y ≤ 63) : shl .i64 x y = wrap64 (x * 2 ^ y.toNat) := by
  unfold shl wrap64; rw [Nat.min_eq_left (by simp only [IntKind.bits]; omega), IntKind.wrap_i64]
theorem shr64 (x y : Int) (h0 : 0 ≤ y) (h1 : y ≤ 63) : shr .i64 x y = x / 2 ^ y.toNat := by
  unfold shr; rw [Nat.min_eq_left (by simp only [IntKind.bits]; omega)]

/-- the bit i of a row of words -/
def bitAt (ws : List Int) (i : Nat) : Bool := decide ((ws.getD (i / 16) 0 / 2 ^ (i % 16)) % 2 = 1)
/-- what a vector of bits keeps -/
def Good (s : Int) (ws : List Int) : Prop :=
  0 ≤ s ∧ s ≤ 4096 ∧ (ws.length : Int) = (s + 15) / 16 ∧ (∀ w ∈ ws, 0 ≤ w ∧ w ≤ 65535) ∧ (s % 16 = 0 ∨ ws.getD (ws.length - 1) 0 / 2 ^ (s % 16).toNat = 0)
instance (s : Int) (ws : List Int) : Decidable (Good s ws) := by unfold Good; infer_instance
theorem i64_small (n : Int) (h0 : 0 ≤ n) (h1 : n < 2 ^ 62) : IntKind.i64.wrap n = n := by rw [IntKind.wrap_i64]; omega
theorem and1 (x : Int) (h0 : 0 ≤ x) (h1 : x < 2 ^ 62) : Go.bits .and .i64 x 1 = x % 2 := bits_mask .i64 62 (by decide) i64_small 1 (by decide) x h0 h1
theorem word_range (ws : List Int) (hw : ∀ w ∈ ws, 0 ≤ w ∧ w ≤ 65535) (j : Nat) : 0 ≤ ws.getD j 0 ∧ ws.getD j 0 ≤ 65535 := by
  by_cases h : j < ws.length
  · rw [List.getD_eq_getElem?_getD, List.getElem?_eq_getElem h]; exact hw _ (List.getElem_mem h)
  · rw [List.getD_eq_getElem?_getD, List.getElem?_eq_none (by omega)]; simp
theorem div_pow_range (x : Int) (j : Nat) (h : 0 ≤ x ∧ x ≤ 65535) : 0 ≤ x / 2 ^ j ∧ x / 2 ^ j ≤ 65535 := by
  have hp : (0 : Int) < 2 ^ j := Int.pow_pos (by omega)
  exact ⟨Int.ediv_nonneg h.1 (by omega), Int.le_trans (Int.ediv_le_self _ h.1) h.2⟩
theorem at_eq (ws : List Int) (i : Nat) (h : i / 16 < ws.length) (hw : ∀ w ∈ ws, 0 ≤ w ∧ w ≤ 65535) (hi : i < 4611686018427387904) :
    (if 0 ≤ (wrap64 (Int.tdiv (i : Int) 16)) then (if (wrap64 (Int.tdiv (i : Int) 16)) < (ws.length : Int) then (if 0 ≤ (Int.tmod (i : Int) 16) then (some ((Go.bits .and .i64 (shr .i64 (rd ws (wrap64 (Int.tdiv (i : Int) 16))) (Int.tmod (i : Int) 16)) 1) == 1)) else (none)) else (none)) else (none)) = some (bitAt ws i) := by
  have e1 : wrap64 (Int.tdiv (i : Int) 16) = ((i / 16 : Nat) : Int) := by
    rw [Int.tdiv_eq_ediv_of_nonneg (by omega), w64 (by omega) (by omega)]; omega
  have e2 : Int.tmod (i : Int) 16 = ((i % 16 : Nat) : Int) := by
    rw [Int.tmod_eq_emod_of_nonneg (by omega)]; omega
  have e3 : rd ws ((i / 16 : Nat) : Int) = ws.getD (i / 16) 0 := by unfold rd; rw [Int.toNat_natCast]
  have hr := div_pow_range _ (i % 16) (word_range ws hw (i / 16))
  rw [e1, e2, if_pos (by omega), if_pos (by omega), if_pos (by omega), e3, shr64 _ _ (by omega) (by omega), Int.toNat_natCast, and1 _ hr.1 (by omega)]
  rfl
/-- how the last word is asked -/
theorem last_eq (s : Int) (ws : List Int) (h0 : 0 ≤ s) (h1 : s ≤ 4096) (hl : (ws.length : Int) = (s + 15) / 16) :
    (if (Int.tmod s 16) = 0 then (some true) else (if 0 ≤ (wrap64 ((ws.length : Int) - 1)) then (if (wrap64 ((ws.length : Int) - 1)) < (ws.length : Int) then (if 0 ≤ (Int.tmod s 16) then (some ((shr .i64 (rd ws (wrap64 ((ws.length : Int) - 1))) (Int.tmod s 16)) == 0)) else (none)) else (none)) else (none))) =
      some (decide (s % 16 = 0 ∨ ws.getD (ws.length - 1) 0 / 2 ^ (s % 16).toNat = 0)) := by
  have e2 : Int.tmod s 16 = s % 16 := Int.tmod_eq_emod_of_nonneg h0
  rw [e2]
  by_cases c : s % 16 = 0
  · rw [if_pos c]; simp [c]
  · rw [if_neg c, w64 (by omega) (by omega), if_pos (by omega), if_pos (by omega), if_pos (by omega), shr64 _ _ (by omega) (by omega)]
    have e3 : rd ws ((ws.length : Int) - 1) = ws.getD (ws.length - 1) 0 := by
      unfold rd; rw [show ((ws.length : Int) - 1).toNat = ws.length - 1 from by omega]
    rw [e3]; simp only [c, false_or]; rfl
theorem good_words (s : Int) (ws : List Int) (h : Good s ws) : ∀ w ∈ ws, 0 ≤ w ∧ w ≤ 65535 := h.2.2.2.1
theorem good_place {s : Int} {ws : List Int} (h : Good s ws) (i : Nat) (hi : (i : Int) < s) : i / 16 < ws.length ∧ i < 4096 := by
  obtain ⟨h0, h1, h2, _⟩ := h; omega
theorem words_eq (s : Int) (h0 : 0 ≤ s) (h1 : s ≤ 4096) : wrap64 (Int.tdiv (wrap64 (s + 15)) 16) = (s + 15) / 16 := by
  rw [w64 (x := s + 15) (by omega) (by omega), Int.tdiv_eq_ediv_of_nonneg (by omega), w64 (by omega) (by omega)]
theorem words_eq2 (s : Int) (h0 : 0 ≤ s) (h1 : s ≤ 4096) : wrap64 (Int.tdiv (wrap64 (wrap64 (s + 16) - 1)) 16) = (s + 15) / 16 := by
  rw [w64 (x := s + 16) (by omega) (by omega), show s + 16 - 1 = s + 15 from by omega]; exact words_eq s h0 h1

/-- the letters of n bits from i on -/
def textN (b : Nat → Bool) : Nat → Nat → List Int
  | _, 0 => []
  | i, n + 1 => (if b i = true then 49 else 48) :: textN b (i + 1) n
open Classical in
/-- what BitsText answers -/
noncomputable def textAns (s : Int) (ws : List Int) : ByteArray × Bool :=
  if Good s ws then (if s = 0 then ((⟨#[45]⟩ : ByteArray), true) else (strOfNums (textN (bitAt ws) 0 s.toNat), true)) else ((⟨#[]⟩ : ByteArray), false)

theorem atS (s : Int) (ws : List Int) (i : Nat) (h : i / 16 < ws.length) (hw : ∀ w ∈ ws, 0 ≤ w ∧ w ≤ 65535) (hi : i < 4611686018427387904) : spec_biAt.f s ws i = some (bitAt ws i) := at_eq ws i h hw hi
theorem atS_good {s : Int} {ws : List Int} (h : Good s ws) (i : Nat) (hi : (i : Int) < s) : spec_biAt.f s ws i = some (bitAt ws i) :=
  atS s ws i (good_place h i hi).1 (good_words s ws h) (by have := good_place h i hi; omega)

theorem inS (a b c : Int) : spec_l1In.f a b c = some (decide (b ≤ a ∧ a ≤ c)) := by
  unfold spec_l1In.f; split <;> simp [*]

theorem l1All_l (l : List Int) (lo hi : Int) (hl : l.length < 9223372036854775807) : ∀ (suf pre : List Int) (k : Nat), l = pre ++ suf → suf.length < k →
    spec_l1All.l0 k lo hi l l.length pre.length = some (decide (∀ w ∈ suf, lo ≤ w ∧ w ≤ hi)) := by
  intro suf
  induction suf with
  | nil =>
    intro pre k e hk
    obtain ⟨k, rfl⟩ := succOf hk
    simp only [spec_l1All.l0]
    have : l.length = pre.length := by rw [e]; simp
    rw [if_neg (by omega)]; simp
  | cons x suf ih =>
    intro pre k e hk
    obtain ⟨k, rfl⟩ := succOf hk
    simp only [spec_l1All.l0]
    have hlen : l.length = pre.length + suf.length + 1 := by rw [e]; simp; omega
    have e1 : rd l (pre.length : Int) = x := by rw [e]; exact rd_mid pre suf x
    have e2 : (pre ++ [x]).length = pre.length + 1 := by simp
    have h3 := ih (pre ++ [x]) k (by rw [e]; simp) (by simp only [List.length_cons] at hk; omega)
    rw [e2] at h3
    rw [if_pos (by omega), if_pos (by omega), if_pos (by omega), e1, inS, Option.bind_some, w64n _ (by omega), h3]
    by_cases c : lo ≤ x ∧ x ≤ hi
    · rw [decide_eq_true c, if_pos rfl]; congr 1; rw [decide_eq_decide]; simp [c]
    · rw [decide_eq_false c, if_neg (by simp)]; congr 1; symm; rw [decide_eq_false_iff_not]; intro g; exact c (g x (by simp))
theorem l1All (l : List Int) (lo hi : Int) (k : Nat) (hl : l.length < 9223372036854775807) (hk : l.length < k) : spec_l1All.f k l lo hi = some (decide (∀ w ∈ l, lo ≤ w ∧ w ≤ hi)) := by
  unfold spec_l1All.f
  have h := l1All_l l lo hi hl l [] k rfl hk
  simpa using h

theorem goodS (s : Int) (ws : List Int) (k : Nat) (hl : ws.length < 9223372036854775807) (hk : ws.length < k) : spec_biGood.f k s ws = some (decide (Good s ws)) := by
  unfold spec_biGood.f
  rw [inS, Option.bind_some]
  by_cases c : 0 ≤ s ∧ s ≤ 4096
  · rw [decide_eq_true c, if_pos rfl, words_eq s c.1 c.2]
    by_cases c2 : (ws.length : Int) = (s + 15) / 16
    · rw [if_pos c2, l1All ws 0 65535 k hl hk, Option.bind_some]
      by_cases c3 : ∀ w ∈ ws, 0 ≤ w ∧ w ≤ 65535
      · rw [decide_eq_true c3, if_pos rfl, last_eq s ws c.1 c.2 c2]
        congr 1; rw [decide_eq_decide]; unfold Good
        exact ⟨fun h => ⟨c.1, c.2, c2, c3, h⟩, fun h => h.2.2.2.2⟩
      · rw [decide_eq_false c3, if_neg (by simp)]; congr 1; symm; rw [decide_eq_false_iff_not]; exact fun h => c3 h.2.2.2.1
    · rw [if_neg c2]; congr 1; symm; rw [decide_eq_false_iff_not]; exact fun h => c2 h.2.2.1
  · rw [decide_eq_false c, if_neg (by simp)]; congr 1; symm; rw [decide_eq_false_iff_not]; exact fun h => c ⟨h.1, h.2.1⟩

theorem textS_l {s : Int} {ws : List Int} (h : Good s ws) (d : Nat) : ∀ (k i : Nat) (acc : List Int), ((i + d : Nat) : Int) = s → acc.length = i → d < k →
    spec_biText.l0 k acc i s ws = some (strOfNums (acc ++ textN (bitAt ws) i d)) := by
  have hs := h.2.1
  induction d with
  | zero =>
    intro k i acc hi ha hk
    obtain ⟨k, rfl⟩ := succOf hk
    simp only [spec_biText.l0, textN]
    rw [if_neg (by omega), List.append_nil]
  | succ d ih =>
    intro k i acc hi ha hk
    obtain ⟨k, rfl⟩ := succOf hk
    simp only [spec_biText.l0, textN]
    rw [if_pos (by omega), atS_good h i (by omega), Option.bind_some, w64n i (by omega)]
    have h1 := ih k (i + 1) (acc ++ [49]) (by omega) (by simp [ha]) (by omega)
    have h2 := ih k (i + 1) (acc ++ [48]) (by omega) (by simp [ha]) (by omega)
    cases c : bitAt ws i
    · rw [if_neg (by simp), if_pos (by omega), h2]; simp
    · rw [if_pos rfl, if_pos (by omega), h1]; simp
theorem bitsTextS (s : Int) (ws : List Int) (k : Nat) (hl : ws.length < 9223372036854775807) (hk : ws.length + 5000 < k) : spec_BitsText.f k s ws = some (textAns s ws) := by
  unfold spec_BitsText.f textAns spec_biText.f
  rw [goodS s ws k hl (by omega), Option.bind_some]
  by_cases c : Good s ws
  · rw [decide_eq_true c, if_pos rfl, if_pos c]
    by_cases c2 : s = 0
    · rw [if_pos c2, if_pos c2]; rfl
    · have h := textS_l c s.toNat k 0 [] (by have := c.1; omega) rfl (by have := c.2.1; omega)
      simp only [Int.natCast_zero, List.nil_append] at h
      rw [if_neg c2, if_neg c2, h]; rfl
  · rw [decide_eq_false c, if_neg (by simp), if_neg c]

theorem atI (s : Int) (ws : List Int) (i : Nat) (h : i / 16 < ws.length) (hw : ∀ w ∈ ws, 0 ≤ w ∧ w ≤ 65535) (hi : i < 4611686018427387904) : impl_Bits_at.f s ws i = some (bitAt ws i) := at_eq ws i h hw hi
theorem atI_good {s : Int} {ws : List Int} (h : Good s ws) (i : Nat) (hi : (i : Int) < s) : impl_Bits_at.f s ws i = some (bitAt ws i) :=
  atI s ws i (good_place h i hi).1 (good_words s ws h) (by have := good_place h i hi; omega)

theorem inI (a b c : Int) : impl_in.f a b c = some (decide (b ≤ a ∧ a ≤ c)) := by
  unfold impl_in.f; split <;> simp [*]

theorem goodI_l (s : Int) (ws : List Int) (hl : ws.length < 9223372036854775807) (h0 : 0 ≤ s) (h1 : s ≤ 4096) (h2 : (ws.length : Int) = (s + 15) / 16) : ∀ (suf pre : List Int) (k : Nat), ws = pre ++ suf → suf.length < k →
    impl_IsBits.l0 k ws ws.length pre.length s ws = some (decide ((∀ w ∈ suf, 0 ≤ w ∧ w ≤ 65535) ∧ (s % 16 = 0 ∨ ws.getD (ws.length - 1) 0 / 2 ^ (s % 16).toNat = 0))) := by
  intro suf
  induction suf with
  | nil =>
    intro pre k e hk
    obtain ⟨k, rfl⟩ := succOf hk
    simp only [impl_IsBits.l0]
    have : ws.length = pre.length := by rw [e]; simp
    rw [if_neg (by omega), last_eq s ws h0 h1 h2]; simp
  | cons x suf ih =>
    intro pre k e hk
    obtain ⟨k, rfl⟩ := succOf hk
    simp only [impl_IsBits.l0]
    have hlen : ws.length = pre.length + suf.length + 1 := by rw [e]; simp; omega
    have e1 : rd ws (pre.length : Int) = x := by rw [e]; exact rd_mid pre suf x
    have e2 : (pre ++ [x]).length = pre.length + 1 := by simp
    have h3 := ih (pre ++ [x]) k (by rw [e]; simp) (by simp only [List.length_cons] at hk; omega)
    rw [e2] at h3
    rw [if_pos (by omega), if_pos (by omega), if_pos (by omega), e1, inI, Option.bind_some, w64n _ (by omega), h3]
    by_cases c : 0 ≤ x ∧ x ≤ 65535
    · rw [decide_eq_true c, if_pos rfl]; congr 1; rw [decide_eq_decide]; simp [c]
    · rw [decide_eq_false c, if_neg (by simp)]; congr 1; symm; rw [decide_eq_false_iff_not]; intro g; exact c (g.1 x (by simp))
theorem goodI (s : Int) (ws : List Int) (k : Nat) (hl : ws.length < 9223372036854775807) (hk : ws.length + 1 < k) : impl_IsBits.f k s ws = some (decide (Good s ws)) := by
  obtain ⟨k, rfl⟩ := succOf hk
  unfold impl_IsBits.f impl_words.f
  rw [inI, Option.bind_some]
  by_cases c : 0 ≤ s ∧ s ≤ 4096
  · rw [decide_eq_true c, if_pos rfl, Option.bind_some, words_eq2 s c.1 c.2]
    simp only [impl_IsBits.j0]
    by_cases c2 : (ws.length : Int) = (s + 15) / 16
    · have h := goodI_l s ws hl c.1 c.2 c2 ws [] k rfl (by omega)
      simp only [List.length_nil, Int.natCast_zero] at h
      rw [if_neg (by simpa using c2), h]
      congr 1; rw [decide_eq_decide]; unfold Good
      exact ⟨fun h => ⟨c.1, c.2, c2, h.1, h.2⟩, fun h => h.2.2.2⟩
    · rw [if_pos (by simpa using c2)]; congr 1; symm; rw [decide_eq_false_iff_not]; exact fun h => c2 h.2.2.1
  · rw [decide_eq_false c, if_neg (by simp)]; simp only [impl_IsBits.j0, if_true]; congr 1; symm; rw [decide_eq_false_iff_not]; exact fun h => c ⟨h.1, h.2.1⟩

theorem textI_l {s : Int} {ws : List Int} (h : Good s ws) (d : Nat) : ∀ (k i : Nat) (acc : List Int), ((i + d : Nat) : Int) = s → acc.length = i → d < k →
    impl_BitsText.l0 k acc s i s ws = some (strOfNums (acc ++ textN (bitAt ws) i d), true) := by
  have hs := h.2.1
  induction d with
  | zero =>
    intro k i acc hi ha hk
    obtain ⟨k, rfl⟩ := succOf hk
    simp only [impl_BitsText.l0, textN]
    rw [if_neg (by omega), List.append_nil]
  | succ d ih =>
    intro k i acc hi ha hk
    obtain ⟨k, rfl⟩ := succOf hk
    simp only [impl_BitsText.l0, textN]
    have b0 : bt (⟨#[48, 49]⟩ : ByteArray) 0 = 48 := by decide
    have b1 : bt (⟨#[48, 49]⟩ : ByteArray) 1 = 49 := by decide
    rw [if_pos (by omega), atI_good h i (by omega), Option.bind_some, w64n i (by omega), b0, b1]
    have h1 := ih k (i + 1) (acc ++ [49]) (by omega) (by simp [ha]) (by omega)
    have h2 := ih k (i + 1) (acc ++ [48]) (by omega) (by simp [ha]) (by omega)
    cases c : bitAt ws i
    · rw [if_neg (by simp), if_pos (by omega), if_pos (by omega), h2]; simp
    · rw [if_pos rfl, if_pos (by omega), if_pos (by omega), h1]; simp
theorem bitsTextI (s : Int) (ws : List Int) (k : Nat) (hl : ws.length < 9223372036854775807) (hk : ws.length + 5000 < k) : impl_BitsText.f k s ws = some (textAns s ws) := by
  unfold impl_BitsText.f textAns
  rw [goodI s ws k hl (by omega), Option.bind_some]
  by_cases c : Good s ws
  · rw [decide_eq_true c, if_pos rfl, if_pos c]
    by_cases c2 : s = 0
    · rw [if_pos c2, if_pos c2]
    · have h := textI_l c s.toNat k 0 [] (by have := c.1; omega) rfl (by have := c.2.1; omega)
      simp only [Int.natCast_zero, List.nil_append] at h
      rw [if_neg c2, if_neg c2, h]
  · rw [decide_eq_false c, if_neg (by simp), if_neg c]

theorem szIntS (l : List Int) (a : Int) (h : l.length ≤ 9223372036854775807) (ha : 0 ≤ a) (ha2 : a ≤ 1048576) : laws_szIntS.f l a = some (if a - l.length < 0 then -1 else a - l.length) := by
  unfold laws_szIntS.f; rw [w64 (by omega) (by omega)]; split <;> rfl
theorem szBits (s : Int) (l : List Int) (a : Int) (h : l.length ≤ 9223372036854775807) (ha : 0 ≤ a) (ha2 : a ≤ 1048576) : laws_szBits.f s l a = some (if a - l.length < 0 then -1 else a - l.length) := by
  unfold laws_szBits.f; rw [szIntS l a h ha ha2, Option.bind_some]
  by_cases c : a - l.length < 0
  · rw [if_pos c, if_pos (by omega)]
  · rw [if_neg c, if_neg c]

theorem toIntS_l (a : List Int) (ha : a.length < 9223372036854775807) (d : Nat) : ∀ (k i : Nat) (x : List Int), x.length = a.length → x.take i = a.take i → i ≤ a.length → a.length - i = d → d < k →
    laws_toIntS.l0 k a x i = some a := by
  induction d with
  | zero =>
    intro k i x hx hp h1 hd hk
    obtain ⟨k, rfl⟩ := succOf hk
    simp only [laws_toIntS.l0]
    rw [if_neg (by omega)]
    rw [List.take_of_length_le (by omega), List.take_of_length_le (by omega)] at hp
    rw [hp]
  | succ d ih =>
    intro k i x hx hp h1 hd hk
    obtain ⟨k, rfl⟩ := succOf hk
    simp only [laws_toIntS.l0]
    have e1 : rd a i = a[i]'(by omega) := by simp [rd, List.getD_eq_getElem?_getD, List.getElem?_eq_getElem (show i < a.length by omega)]
    have h2 := ih k (i+1) (x.set i (a[i]'(by omega))) (by simp [hx]) (by
      have e3 : List.take (i + 1) a = List.take i a ++ [a[i]'(by omega)] := List.take_succ_eq_append_getElem (by omega)
      rw [e3, List.take_succ_eq_append_getElem (by simp; omega), List.take_set_of_le (Nat.le_refl _), hp]
      simp) (by omega) (by omega) (by omega)
    rw [if_pos (by omega), if_pos (by omega), if_pos (by omega), w64n i (by omega), e1]
    simpa using h2
theorem toIntS_f (a : List Int) (k : Nat) (ha : a.length ≤ 35184372088832) (hk : a.length < k) : laws_toIntS.f k a = some a := by
  unfold laws_toIntS.f
  rw [if_pos (by omega), if_pos (by omega)]
  exact toIntS_l a (by omega) a.length k 0 _ (by simp) (by simp) (by omega) (by omega) hk

theorem toBits_f (s : Int) (a : List Int) (k : Nat) (ha : a.length ≤ 35184372088832) (hk : a.length < k) : laws_toBits.f k s a = some (s, a) := by
  unfold laws_toBits.f; rw [toIntS_f a k ha hk]; rfl

theorem eqIntS_l (a b : List Int) (hl : a.length = b.length) (ha : a.length < 9223372036854775807) (d : Nat) : ∀ (k i : Nat), i ≤ a.length → a.length - i = d → d < k →
    laws_eqIntS.l0 k a b i = some (decide (a.drop i = b.drop i)) := by
  induction d with
  | zero =>
    intro k i h1 hd hk
    obtain ⟨k, rfl⟩ := succOf hk
    simp only [laws_eqIntS.l0]
    rw [if_neg (by omega), List.drop_eq_nil_of_le (by omega), List.drop_eq_nil_of_le (by omega)]; simp
  | succ d ih =>
    intro k i h1 hd hk
    obtain ⟨k, rfl⟩ := succOf hk
    simp only [laws_eqIntS.l0]
    have h2 := ih k (i+1) (by omega) (by omega) (by omega)
    have e1 : rd a i = a[i]'(by omega) := by simp [rd, List.getD_eq_getElem?_getD, List.getElem?_eq_getElem (show i < a.length by omega)]
    have e2 : rd b i = b[i]'(by omega) := by simp [rd, List.getD_eq_getElem?_getD, List.getElem?_eq_getElem (show i < b.length by omega)]
    have e3 := List.drop_eq_getElem_cons (show i < a.length by omega)
    have e4 := List.drop_eq_getElem_cons (show i < b.length by omega)
    rw [if_pos (by omega), if_pos (by omega), if_pos (by omega), e1, e2, w64n i (by omega), h2, e3, e4]
    clear e3 e4 h2 ih
    split <;> simp only [List.cons.injEq, *, true_and, false_and, decide_false]
theorem eqIntS_f (a b : List Int) (k : Nat) (ha : a.length < 9223372036854775807) (hk : a.length < k) : laws_eqIntS.f k a b = some (decide (a = b)) := by
  unfold laws_eqIntS.f
  split
  · have h := eqIntS_l a b (by omega) ha a.length k 0 (by omega) (by omega) hk
    simpa using h
  · have : a ≠ b := by intro h; subst h; simp_all
    simp [this]
theorem eqIntS_same (a : List Int) (k : Nat) (ha : a.length < 9223372036854775807) (hk : a.length < k) : laws_eqIntS.f k a a = some true := by
  rw [eqIntS_f a a k ha hk]; simp

theorem eqBits_f (s t : Int) (a b : List Int) (k : Nat) (ha : a.length < 9223372036854775807) (hk : a.length < k) : laws_eqBits.f k s a t b = some (decide (s = t ∧ a = b)) := by
  unfold laws_eqBits.f
  split
  · rw [eqIntS_f a b k ha hk, Option.bind_some]
    by_cases h : a = b <;> simp [*]
  · simp [*]
theorem eqBits_same (s : Int) (a : List Int) (k : Nat) (ha : a.length < 9223372036854775807) (hk : a.length < k) : laws_eqBits.f k s a s a = some true := by
  rw [eqBits_f s s a a k ha hk]; simp

theorem FnExactBitsText : laws_FnExactBitsText.Pure := by
  intro s l  _ hm _ 
  have hm' : l.length ≤ 9223372036854775807 := by unfold maxLen at hm; omega
  obtain ⟨k, hk⟩ : ∃ k, k = 1060000 := ⟨_, rfl⟩
  refine ⟨k + 1, ?_⟩
  unfold laws_FnExactBitsText.f
  rw [szBits s l 1048576 hm' (by omega) (by omega), Option.bind_some]
  by_cases hb : (1048576 : Int) - l.length < 0
  · rw [if_pos hb, if_pos (by omega)]
  rw [if_neg hb, if_neg hb]
  have eT (fu : Nat) (hj : 1060000 ≤ fu) : laws_toBits.f fu s l = some (s, l) := toBits_f s l fu (by omega) (by omega)
  have eE (fu : Nat) (hj : 1060000 ≤ fu) : laws_eqBits.f fu s l s l = some true := eqBits_same s l fu (by omega) (by omega)
  have eS (fu : Nat) (hj : 1060000 ≤ fu) : spec_BitsText.f fu s l  = some (textAns s l ) := bitsTextS s l  fu (by omega) (by omega)
  have eI (fu : Nat) (hj : 1060000 ≤ fu) : impl_BitsText.f fu s l  = some (textAns s l ) := bitsTextI s l  fu (by omega) (by omega)
  simp (disch := omega) only [eT, eE, eS, eI, Option.bind_some, laws_FnExactBitsText.j0, bne_self_eq_false, if_true, if_false, Bool.false_eq_true]

end Go.Proofs.Ytcbikbghbnccoaa.Pure
