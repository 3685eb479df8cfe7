/- BuildRanked of the program and of the reference answer the same, the answers share no memory with the argument nor with each other, and the argument stays; for every value of at most 2^20 words (longer ones are not asked). -/
import Derived.Test.YtpidlhpjcjaojaaPFnExactBuildRankedx6
namespace Go.Proofs.Ytpidlhpjcjaojaa.Pure
open Go.RowKit Go.Proofs.Ytpidlhpjcjaojaa.PFnExactBuildRanked Go.Proofs.YtpidlhpjcjaojaaW.PrintWords Go.Proofs.YtpidlhpjcjaojaaW.PrintLast Go.Proofs.YtpidlhpjcjaojaaW.PrintMore
set_option linter.unusedVariables false
set_option linter.unusedSimpArgs false

theorem w64 {x : Int} (h1 : -9223372036854775808 ≤ x) (h2 : x ≤ 9223372036854775807) : wrap64 x = x := by unfold wrap64; omega
theorem w64n (i : Nat) (h : i < 9223372036854775807) : wrap64 ((i : Int) + 1) = ((i + 1 : Nat) : Int) := by rw [w64 (by omega) (by omega)]; rfl
theorem succOf {k d : Nat} (h : d < k) : ∃ m, k = m + 1 := ⟨k - 1, by omega⟩

theorem rd_mid (p s : List Int) (x : Int) : rd (p ++ x :: s) (p.length : Int) = x := by
  simp [rd, List.getD_eq_getElem?_getD]
theorem rd_last (p s : List Int) (x : Int) (i : Int) (h : i = p.length) : rd (p ++ x :: s) i = x := by
  subst h; exact rd_mid p s x

theorem shl64 (x y : Int) (h0 : 0 ≤ y) (h1 : y ≤ 63) : shl .i64 x y = wrap64 (x * 2 ^ y.toNat) := by
  unfold shl wrap64; rw [Nat.min_eq_left (by simp only [IntKind.bits]; omega), IntKind.wrap_i64]
theorem shr64 (x y : Int) (h0 : 0 ≤ y) (h1 : y ≤ 63) : shr .i64 x y = x / 2 ^ y.toNat := by
  unfold shr; rw [Nat.min_eq_left (by simp only [IntKind.bits]; omega)]

/-- the bit i of a row of words -/
def bitAt (ws : List Int) (i : Nat) : Bool := decide ((ws.getD (i / 16) 0 / 2 ^ (i % 16)) % 2 = 1)
/-- what a vector of bits keeps -/
def Good (s : Int) (ws : List Int) : Prop :=
  0 ≤ s ∧ s ≤ 4096 ∧ (ws.length : Int) = (s + 15) / 16 ∧ (∀ w ∈ ws, 0 ≤ w ∧ w ≤ 65535) ∧ (s % 16 = 0 ∨ ws.getD (ws.length - 1) 0 / 2 ^ (s % 16).toNat = 0)
instance (s : Int) (ws : List Int) : Decidable (Good s ws) := by unfold Good; infer_instance
theorem i64_small (n : Int) (h0 : 0 ≤ n) (h1 : n < 2 ^ 62) : IntKind.i64.wrap n = n := by rw [IntKind.wrap_i64]; omega
theorem and1 (x : Int) (h0 : 0 ≤ x) (h1 : x < 2 ^ 62) : Go.bits .and .i64 x 1 = x % 2 := bits_mask .i64 62 (by decide) i64_small 1 (by decide) x h0 h1
theorem word_range (ws : List Int) (hw : ∀ w ∈ ws, 0 ≤ w ∧ w ≤ 65535) (j : Nat) : 0 ≤ ws.getD j 0 ∧ ws.getD j 0 ≤ 65535 := by
  by_cases h : j < ws.length
  · rw [List.getD_eq_getElem?_getD, List.getElem?_eq_getElem h]; exact hw _ (List.getElem_mem h)
  · rw [List.getD_eq_getElem?_getD, List.getElem?_eq_none (by omega)]; simp
theorem div_pow_range (x : Int) (j : Nat) (h : 0 ≤ x ∧ x ≤ 65535) : 0 ≤ x / 2 ^ j ∧ x / 2 ^ j ≤ 65535 := by
  have hp : (0 : Int) < 2 ^ j := Int.pow_pos (by omega)
  exact ⟨Int.ediv_nonneg h.1 (by omega), Int.le_trans (Int.ediv_le_self _ h.1) h.2⟩
theorem at_eq (ws : List Int) (i : Nat) (h : i / 16 < ws.length) (hw : ∀ w ∈ ws, 0 ≤ w ∧ w ≤ 65535) (hi : i < 4611686018427387904) :
    (if 0 ≤ (wrap64 (Int.tdiv (i : Int) 16)) then (if (wrap64 (Int.tdiv (i : Int) 16)) < (ws.length : Int) then (if 0 ≤ (Int.tmod (i : Int) 16) then (some ((Go.bits .and .i64 (shr .i64 (rd ws (wrap64 (Int.tdiv (i : Int) 16))) (Int.tmod (i : Int) 16)) 1) == 1)) else (none)) else (none)) else (none)) = some (bitAt ws i) := by
  have e1 : wrap64 (Int.tdiv (i : Int) 16) = ((i / 16 : Nat) : Int) := by
    rw [Int.tdiv_eq_ediv_of_nonneg (by omega), w64 (by omega) (by omega)]; omega
  have e2 : Int.tmod (i : Int) 16 = ((i % 16 : Nat) : Int) := by
    rw [Int.tmod_eq_emod_of_nonneg (by omega)]; omega
  have e3 : rd ws ((i / 16 : Nat) : Int) = ws.getD (i / 16) 0 := by unfold rd; rw [Int.toNat_natCast]
  have hr := div_pow_range _ (i % 16) (word_range ws hw (i / 16))
  rw [e1, e2, if_pos (by omega), if_pos (by omega), if_pos (by omega), e3, shr64 _ _ (by omega) (by omega), Int.toNat_natCast, and1 _ hr.1 (by omega)]
  rfl
/-- how the last word is asked -/
theorem last_eq (s : Int) (ws : List Int) (h0 : 0 ≤ s) (h1 : s ≤ 4096) (hl : (ws.length : Int) = (s + 15) / 16) :
    (if (Int.tmod s 16) = 0 then (some true) else (if 0 ≤ (wrap64 ((ws.length : Int) - 1)) then (if (wrap64 ((ws.length : Int) - 1)) < (ws.length : Int) then (if 0 ≤ (Int.tmod s 16) then (some ((shr .i64 (rd ws (wrap64 ((ws.length : Int) - 1))) (Int.tmod s 16)) == 0)) else (none)) else (none)) else (none))) =
      some (decide (s % 16 = 0 ∨ ws.getD (ws.length - 1) 0 / 2 ^ (s % 16).toNat = 0)) := by
  have e2 : Int.tmod s 16 = s % 16 := Int.tmod_eq_emod_of_nonneg h0
  rw [e2]
  by_cases c : s % 16 = 0
  · rw [if_pos c]; simp [c]
  · rw [if_neg c, w64 (by omega) (by omega), if_pos (by omega), if_pos (by omega), if_pos (by omega), shr64 _ _ (by omega) (by omega)]
    have e3 : rd ws ((ws.length : Int) - 1) = ws.getD (ws.length - 1) 0 := by
      unfold rd; rw [show ((ws.length : Int) - 1).toNat = ws.length - 1 from by omega]
    rw [e3]; simp only [c, false_or]; rfl
theorem good_words (s : Int) (ws : List Int) (h : Good s ws) : ∀ w ∈ ws, 0 ≤ w ∧ w ≤ 65535 := h.2.2.2.1
theorem good_place {s : Int} {ws : List Int} (h : Good s ws) (i : Nat) (hi : (i : Int) < s) : i / 16 < ws.length ∧ i < 4096 := by
  obtain ⟨h0, h1, h2, _⟩ := h; omega
theorem words_eq (s : Int) (h0 : 0 ≤ s) (h1 : s ≤ 4096) : wrap64 (Int.tdiv (wrap64 (s + 15)) 16) = (s + 15) / 16 := by
  rw [w64 (x := s + 15) (by omega) (by omega), Int.tdiv_eq_ediv_of_nonneg (by omega), w64 (by omega) (by omega)]
theorem words_eq2 (s : Int) (h0 : 0 ≤ s) (h1 : s ≤ 4096) : wrap64 (Int.tdiv (wrap64 (wrap64 (s + 16) - 1)) 16) = (s + 15) / 16 := by
  rw [w64 (x := s + 16) (by omega) (by omega), show s + 16 - 1 = s + 15 from by omega]; exact words_eq s h0 h1

/-- how many of n bits from i on are on -/
def ones (b : Nat → Bool) : Nat → Nat → Nat
  | _, 0 => 0
  | i, n + 1 => (if b i = true then 1 else 0) + ones b (i + 1) n
theorem ones_le (b : Nat → Bool) (n : Nat) : ∀ i, ones b i n ≤ n := by
  induction n with
  | zero => intro i; exact Nat.le_refl _
  | succ n ih => intro i; have := ih (i + 1); simp only [ones]; split <;> omega
theorem ones_snoc (b : Nat → Bool) (n : Nat) : ∀ i, ones b i (n + 1) = ones b i n + (if b (i + n) = true then 1 else 0) := by
  induction n with
  | zero => intro i; simp [ones]
  | succ n ih =>
    intro i
    rw [ones, ih (i + 1), ones, show i + 1 + n = i + (n + 1) from by omega]; omega
theorem ones_add (b : Nat → Bool) (m : Nat) : ∀ i n, ones b i (m + n) = ones b i m + ones b (i + m) n := by
  induction m with
  | zero => intro i n; simp [ones]
  | succ m ih =>
    intro i n
    rw [show m + 1 + n = (m + n) + 1 from by omega, ones, ih (i + 1) n, ones, show i + 1 + m = i + (m + 1) from by omega]; omega

/-- the counts before each 64 bits, of the first j words -/
def supN (b : Nat → Bool) : Nat → List Int
  | 0 => []
  | j + 1 => if (16 * j) % 64 = 0 then supN b j ++ [((ones b 0 (16 * j) : Nat) : Int)] else supN b j
/-- the counts from the 64 bits on, of the first j words -/
def blkN (b : Nat → Bool) : Nat → List Int
  | 0 => []
  | j + 1 => blkN b j ++ [((ones b (16 * j / 64 * 64) (16 * j % 64) : Nat) : Int)]
theorem supN_len (b : Nat → Bool) (j : Nat) : (supN b j).length ≤ j := by
  induction j with
  | zero => simp [supN]
  | succ j ih => simp only [supN]; split <;> (try simp only [List.length_append, List.length_cons, List.length_nil]) <;> omega
theorem blkN_len (b : Nat → Bool) (j : Nat) : (blkN b j).length = j := by
  induction j with
  | zero => simp [blkN]
  | succ j ih => simp [blkN, ih]
/-- how many words so many bits begin -/
def wordsN (s : Int) : Nat := ((s + 15) / 16).toNat
/-- the directories of a vector -/
def dirOf (s : Int) (ws : List Int) : Int × List Int × List Int × List Int := (s, ws, supN (bitAt ws) (wordsN s), blkN (bitAt ws) (wordsN s))
theorem good_len {s : Int} {ws : List Int} (h : Good s ws) : ws.length = wordsN s ∧ wordsN s ≤ 256 := by
  obtain ⟨h0, h1, h2, _⟩ := h; unfold wordsN; omega

theorem atI (s : Int) (ws : List Int) (i : Nat) (h : i / 16 < ws.length) (hw : ∀ w ∈ ws, 0 ≤ w ∧ w ≤ 65535) (hi : i < 4611686018427387904) : impl_Bits_at.f s ws i = some (bitAt ws i) := at_eq ws i h hw hi
theorem atI_good {s : Int} {ws : List Int} (h : Good s ws) (i : Nat) (hi : (i : Int) < s) : impl_Bits_at.f s ws i = some (bitAt ws i) :=
  atI s ws i (good_place h i hi).1 (good_words s ws h) (by have := good_place h i hi; omega)

theorem countI_l {s : Int} {ws : List Int} (h : Good s ws) (d : Nat) : ∀ (k i n : Nat), ((i + d : Nat) : Int) ≤ s → n ≤ i → d < k →
    impl_Bits_count.l0 k ((i + d : Nat) : Int) n i s ws = some ((n + ones (bitAt ws) i d : Nat) : Int) := by
  have hs := h.2.1
  induction d with
  | zero =>
    intro k i n hi hn hk
    obtain ⟨k, rfl⟩ := succOf hk
    simp only [impl_Bits_count.l0]
    rw [if_neg (by omega)]; rfl
  | succ d ih =>
    intro k i n hi hn hk
    obtain ⟨k, rfl⟩ := succOf hk
    simp only [impl_Bits_count.l0]
    rw [if_pos (by omega), atI_good h i (by omega), Option.bind_some, w64n i (by omega), w64n n (by omega)]
    have e : i + (d + 1) = i + 1 + d := by omega
    rw [e]
    have h1 := ih k (i + 1) (n + 1) (by omega) (by omega) (by omega)
    have h2 := ih k (i + 1) n (by omega) (by omega) (by omega)
    cases c : bitAt ws i
    · rw [if_neg (by simp), h2]; simp only [ones, c, Bool.false_eq_true, if_false]; congr 2; omega
    · rw [if_pos rfl, h1]; simp only [ones, c, if_true]; congr 2; omega
theorem countI {s : Int} {ws : List Int} (h : Good s ws) (i j k : Nat) (hij : i ≤ j) (hj : (j : Int) ≤ s) (hk : 4096 < k) :
    impl_Bits_count.f k s ws i j = some ((ones (bitAt ws) i (j - i) : Nat) : Int) := by
  have hs := h.2.1
  have := countI_l h (j - i) k i 0 (by omega) (by omega) (by omega)
  rw [show i + (j - i) = j from by omega, Nat.zero_add] at this
  exact this

theorem rankedI_l {s : Int} {ws : List Int} (h : Good s ws) (d : Nat) : ∀ (k j : Nat) (x5 : Int), j + d = wordsN s → (16 * j % 64 ≠ 0 → x5 = ((ones (bitAt ws) 0 (16 * j / 64 * 64) : Nat) : Int)) → d + 4100 < k →
    impl_ranked.l0 k ((ones (bitAt ws) 0 (min (16 * j) s.toNat) : Nat) : Int) x5 ((16 * j : Nat) : Int) j s ws s ws (supN (bitAt ws) j) (blkN (bitAt ws) j) = some (dirOf s ws) := by
  have h0 := h.1
  have hs := h.2.1
  have hw := (good_len h).2
  induction d with
  | zero =>
    intro k j x5 hj hx hk
    obtain ⟨k, rfl⟩ := succOf hk
    simp only [impl_ranked.l0]
    have : ¬ (((16 * j : Nat) : Int) < s) := by unfold wordsN at hj; omega
    rw [if_neg this]; unfold dirOf; rw [show wordsN s = j from by omega]
  | succ d ih =>
    intro k j x5 hj hx hk
    obtain ⟨k, rfl⟩ := succOf hk
    have hlt : ((16 * j : Nat) : Int) < s := by unfold wordsN at hj; omega
    have e0 : min (16 * j) s.toNat = 16 * j := by omega
    have e1 : wrap64 (((16 * j : Nat) : Int) + 16) = ((16 * (j + 1) : Nat) : Int) := by rw [w64 (by omega) (by omega)]; omega
    have e2 : Int.tmod ((16 * j : Nat) : Int) 64 = ((16 * j % 64 : Nat) : Int) := by rw [Int.tmod_eq_emod_of_nonneg (by omega)]; omega
    have e3 : mn ((16 * (j + 1) : Nat) : Int) s = ((min (16 * (j + 1)) s.toNat : Nat) : Int) := by unfold mn; split <;> omega
    have c1 := countI h (16 * j) (min (16 * (j + 1)) s.toNat) k (by omega) (by omega) (by omega)
    have l1 := supN_len (bitAt ws) j
    have l2 := blkN_len (bitAt ws) j
    have o1 := ones_le (bitAt ws) (16 * j) 0
    have o2 := ones_le (bitAt ws) (min (16 * (j + 1)) s.toNat - 16 * j) (16 * j)
    have a1 := ones_add (bitAt ws) (16 * j) 0 (min (16 * (j + 1)) s.toNat - 16 * j)
    have a2 := ones_add (bitAt ws) (16 * j / 64 * 64) 0 (16 * j % 64)
    rw [Nat.zero_add, show 16 * j + (min (16 * (j + 1)) s.toNat - 16 * j) = min (16 * (j + 1)) s.toNat from by omega] at a1
    rw [Nat.zero_add, show 16 * j / 64 * 64 + 16 * j % 64 = 16 * j from by omega] at a2
    have e4 : wrap64 (((ones (bitAt ws) 0 (16 * j) : Nat) : Int) + ((ones (bitAt ws) (16 * j) (min (16 * (j + 1)) s.toNat - 16 * j) : Nat) : Int)) = ((ones (bitAt ws) 0 (min (16 * (j + 1)) s.toNat) : Nat) : Int) := by
      rw [w64 (by omega) (by omega)]; omega
    simp only [impl_ranked.l0]
    rw [e0, if_pos hlt, e2, e1, e3, c1]
    by_cases c : 16 * j % 64 = 0
    · have h1 := ih k (j + 1) ((ones (bitAt ws) 0 (16 * j) : Nat) : Int) (by omega) (fun _ => by rw [show 16 * (j + 1) / 64 * 64 = 16 * j from by omega]) (by omega)
      simp only [supN, blkN] at h1
      rw [if_pos c, c] at h1
      rw [if_pos (by omega), if_pos (by omega), if_pos (by omega), Option.bind_some, e4, w64n j (by omega)]
      exact h1
    · have h1 := ih k (j + 1) x5 (by omega) (fun _ => by rw [hx c, show 16 * (j + 1) / 64 * 64 = 16 * j / 64 * 64 from by omega]) (by omega)
      simp only [supN, blkN] at h1
      rw [if_neg c] at h1
      have hx5 := hx c
      have o3 := ones_le (bitAt ws) (16 * j / 64 * 64) 0
      have e5 : wrap64 (((ones (bitAt ws) 0 (16 * j) : Nat) : Int) - x5) = ((ones (bitAt ws) (16 * j / 64 * 64) (16 * j % 64) : Nat) : Int) := by
        rw [w64 (by omega) (by omega)]; omega
      rw [if_neg (by omega), if_pos (by omega), Option.bind_some, e4, w64n j (by omega), e5]
      exact h1
theorem rankedI {s : Int} {ws : List Int} (h : Good s ws) (k : Nat) (hk : 4500 < k) : impl_ranked.f k s ws = some (dirOf s ws) := by
  have hw := good_len h
  have := rankedI_l h (wordsN s) k 0 0 (by omega) (fun h => by omega) (by omega)
  unfold impl_ranked.f impl_cloneBits.f slices_Clone_int_int.f
  rw [if_pos (by omega)]
  simp only [Option.bind_some]
  exact this

theorem atS (s : Int) (ws : List Int) (i : Nat) (h : i / 16 < ws.length) (hw : ∀ w ∈ ws, 0 ≤ w ∧ w ≤ 65535) (hi : i < 4611686018427387904) : spec_biAt.f s ws i = some (bitAt ws i) := at_eq ws i h hw hi
theorem atS_good {s : Int} {ws : List Int} (h : Good s ws) (i : Nat) (hi : (i : Int) < s) : spec_biAt.f s ws i = some (bitAt ws i) :=
  atS s ws i (good_place h i hi).1 (good_words s ws h) (by have := good_place h i hi; omega)

theorem countS_l {s : Int} {ws : List Int} (h : Good s ws) (d : Nat) : ∀ (k i n : Nat), ((i + d : Nat) : Int) ≤ s → n ≤ i → d < k →
    spec_biCount.l0 k ((i + d : Nat) : Int) n i s ws = some ((n + ones (bitAt ws) i d : Nat) : Int) := by
  have hs := h.2.1
  induction d with
  | zero =>
    intro k i n hi hn hk
    obtain ⟨k, rfl⟩ := succOf hk
    simp only [spec_biCount.l0]
    rw [if_neg (by omega)]; rfl
  | succ d ih =>
    intro k i n hi hn hk
    obtain ⟨k, rfl⟩ := succOf hk
    simp only [spec_biCount.l0]
    rw [if_pos (by omega), atS_good h i (by omega), Option.bind_some, w64n i (by omega), w64n n (by omega)]
    have e : i + (d + 1) = i + 1 + d := by omega
    rw [e]
    have h1 := ih k (i + 1) (n + 1) (by omega) (by omega) (by omega)
    have h2 := ih k (i + 1) n (by omega) (by omega) (by omega)
    cases c : bitAt ws i
    · rw [if_neg (by simp), h2]; simp only [ones, c, Bool.false_eq_true, if_false]; congr 2; omega
    · rw [if_pos rfl, h1]; simp only [ones, c, if_true]; congr 2; omega
theorem countS {s : Int} {ws : List Int} (h : Good s ws) (i j k : Nat) (hij : i ≤ j) (hj : (j : Int) ≤ s) (hk : 4096 < k) :
    spec_biCount.f k s ws i j = some ((ones (bitAt ws) i (j - i) : Nat) : Int) := by
  have hs := h.2.1
  have := countS_l h (j - i) k i 0 (by omega) (by omega) (by omega)
  rw [show i + (j - i) = j from by omega, Nat.zero_add] at this
  exact this

theorem raOfS_l {s : Int} {ws : List Int} (h : Good s ws) (d : Nat) : ∀ (k j : Nat), j + d = wordsN s → d + 4100 < k →
    spec_raOf.l0 k ((16 * j : Nat) : Int) s ws s ws (supN (bitAt ws) j) (blkN (bitAt ws) j) = some (dirOf s ws) := by
  have h0 := h.1
  have hs := h.2.1
  have hw := (good_len h).2
  induction d with
  | zero =>
    intro k j hj hk
    obtain ⟨k, rfl⟩ := succOf hk
    simp only [spec_raOf.l0]
    have : ¬ (((16 * j : Nat) : Int) < s) := by unfold wordsN at hj; omega
    rw [if_neg this]; unfold dirOf; rw [show wordsN s = j from by omega]
  | succ d ih =>
    intro k j hj hk
    obtain ⟨k, rfl⟩ := succOf hk
    have hlt : ((16 * j : Nat) : Int) < s := by unfold wordsN at hj; omega
    have h1 := ih k (j + 1) (by omega) (by omega)
    have e1 : wrap64 (((16 * j : Nat) : Int) + 16) = ((16 * (j + 1) : Nat) : Int) := by rw [w64 (by omega) (by omega)]; omega
    have e2 : Int.tmod ((16 * j : Nat) : Int) 64 = ((16 * j % 64 : Nat) : Int) := by rw [Int.tmod_eq_emod_of_nonneg (by omega)]; omega
    have e3 : wrap64 (wrap64 (Int.tdiv ((16 * j : Nat) : Int) 64) * 64) = ((16 * j / 64 * 64 : Nat) : Int) := by
      rw [Int.tdiv_eq_ediv_of_nonneg (by omega), w64 (x := _ / 64) (by omega) (by omega), w64 (by omega) (by omega)]; omega
    have c1 := countS h 0 (16 * j) k (by omega) (by omega) (by omega)
    have c2 := countS h (16 * j / 64 * 64) (16 * j) k (by omega) (by omega) (by omega)
    have l1 := supN_len (bitAt ws) j
    have l2 := blkN_len (bitAt ws) j
    rw [show 16 * j - 16 * j / 64 * 64 = 16 * j % 64 from by omega] at c2
    simp only [Int.natCast_zero, Nat.sub_zero] at c1
    simp only [spec_raOf.l0]
    rw [if_pos hlt, e2, e3, e1, c2]
    simp only [supN, blkN] at h1
    by_cases c : 16 * j % 64 = 0
    · rw [if_pos (by omega), c1, Option.bind_some, if_pos (by omega), Option.bind_some, if_pos (by omega)]
      rw [if_pos c] at h1
      exact h1
    · rw [if_neg (by omega), Option.bind_some, if_pos (by omega)]
      rw [if_neg c] at h1
      exact h1
theorem raOfS {s : Int} {ws : List Int} (h : Good s ws) (k : Nat) (hk : 4500 < k) : spec_raOf.f k s ws = some (dirOf s ws) := by
  have hw := good_len h
  have := raOfS_l h (wordsN s) k 0 (by omega) (by omega)
  unfold spec_raOf.f spec_biOwn.f spec_l1Own.f
  simp only [Option.bind_some, List.length_nil, List.nil_append]
  rw [if_pos (by omega)]
  simp only [Option.bind_some]
  exact this

theorem inI (a b c : Int) : impl_in.f a b c = some (decide (b ≤ a ∧ a ≤ c)) := by
  unfold impl_in.f; split <;> simp [*]

theorem goodI_l (s : Int) (ws : List Int) (hl : ws.length < 9223372036854775807) (h0 : 0 ≤ s) (h1 : s ≤ 4096) (h2 : (ws.length : Int) = (s + 15) / 16) : ∀ (suf pre : List Int) (k : Nat), ws = pre ++ suf → suf.length < k →
    impl_IsBits.l0 k ws ws.length pre.length s ws = some (decide ((∀ w ∈ suf, 0 ≤ w ∧ w ≤ 65535) ∧ (s % 16 = 0 ∨ ws.getD (ws.length - 1) 0 / 2 ^ (s % 16).toNat = 0))) := by
  intro suf
  induction suf with
  | nil =>
    intro pre k e hk
    obtain ⟨k, rfl⟩ := succOf hk
    simp only [impl_IsBits.l0]
    have : ws.length = pre.length := by rw [e]; simp
    rw [if_neg (by omega), last_eq s ws h0 h1 h2]; simp
  | cons x suf ih =>
    intro pre k e hk
    obtain ⟨k, rfl⟩ := succOf hk
    simp only [impl_IsBits.l0]
    have hlen : ws.length = pre.length + suf.length + 1 := by rw [e]; simp; omega
    have e1 : rd ws (pre.length : Int) = x := by rw [e]; exact rd_mid pre suf x
    have e2 : (pre ++ [x]).length = pre.length + 1 := by simp
    have h3 := ih (pre ++ [x]) k (by rw [e]; simp) (by simp only [List.length_cons] at hk; omega)
    rw [e2] at h3
    rw [if_pos (by omega), if_pos (by omega), if_pos (by omega), e1, inI, Option.bind_some, w64n _ (by omega), h3]
    by_cases c : 0 ≤ x ∧ x ≤ 65535
    · rw [decide_eq_true c, if_pos rfl]; congr 1; rw [decide_eq_decide]; simp [c]
    · rw [decide_eq_false c, if_neg (by simp)]; congr 1; symm; rw [decide_eq_false_iff_not]; intro g; exact c (g.1 x (by simp))
theorem goodI (s : Int) (ws : List Int) (k : Nat) (hl : ws.length < 9223372036854775807) (hk : ws.length + 1 < k) : impl_IsBits.f k s ws = some (decide (Good s ws)) := by
  obtain ⟨k, rfl⟩ := succOf hk
  unfold impl_IsBits.f impl_words.f
  rw [inI, Option.bind_some]
  by_cases c : 0 ≤ s ∧ s ≤ 4096
  · rw [decide_eq_true c, if_pos rfl, Option.bind_some, words_eq2 s c.1 c.2]
    simp only [impl_IsBits.j0]
    by_cases c2 : (ws.length : Int) = (s + 15) / 16
    · have h := goodI_l s ws hl c.1 c.2 c2 ws [] k rfl (by omega)
      simp only [List.length_nil, Int.natCast_zero] at h
      rw [if_neg (by simpa using c2), h]
      congr 1; rw [decide_eq_decide]; unfold Good
      exact ⟨fun h => ⟨c.1, c.2, c2, h.1, h.2⟩, fun h => h.2.2.2⟩
    · rw [if_pos (by simpa using c2)]; congr 1; symm; rw [decide_eq_false_iff_not]; exact fun h => c2 h.2.2.1
  · rw [decide_eq_false c, if_neg (by simp)]; simp only [impl_IsBits.j0, if_true]; congr 1; symm; rw [decide_eq_false_iff_not]; exact fun h => c ⟨h.1, h.2.1⟩

theorem inS (a b c : Int) : spec_l1In.f a b c = some (decide (b ≤ a ∧ a ≤ c)) := by
  unfold spec_l1In.f; split <;> simp [*]

theorem l1All_l (l : List Int) (lo hi : Int) (hl : l.length < 9223372036854775807) : ∀ (suf pre : List Int) (k : Nat), l = pre ++ suf → suf.length < k →
    spec_l1All.l0 k lo hi l l.length pre.length = some (decide (∀ w ∈ suf, lo ≤ w ∧ w ≤ hi)) := by
  intro suf
  induction suf with
  | nil =>
    intro pre k e hk
    obtain ⟨k, rfl⟩ := succOf hk
    simp only [spec_l1All.l0]
    have : l.length = pre.length := by rw [e]; simp
    rw [if_neg (by omega)]; simp
  | cons x suf ih =>
    intro pre k e hk
    obtain ⟨k, rfl⟩ := succOf hk
    simp only [spec_l1All.l0]
    have hlen : l.length = pre.length + suf.length + 1 := by rw [e]; simp; omega
    have e1 : rd l (pre.length : Int) = x := by rw [e]; exact rd_mid pre suf x
    have e2 : (pre ++ [x]).length = pre.length + 1 := by simp
    have h3 := ih (pre ++ [x]) k (by rw [e]; simp) (by simp only [List.length_cons] at hk; omega)
    rw [e2] at h3
    rw [if_pos (by omega), if_pos (by omega), if_pos (by omega), e1, inS, Option.bind_some, w64n _ (by omega), h3]
    by_cases c : lo ≤ x ∧ x ≤ hi
    · rw [decide_eq_true c, if_pos rfl]; congr 1; rw [decide_eq_decide]; simp [c]
    · rw [decide_eq_false c, if_neg (by simp)]; congr 1; symm; rw [decide_eq_false_iff_not]; intro g; exact c (g x (by simp))
theorem l1All (l : List Int) (lo hi : Int) (k : Nat) (hl : l.length < 9223372036854775807) (hk : l.length < k) : spec_l1All.f k l lo hi = some (decide (∀ w ∈ l, lo ≤ w ∧ w ≤ hi)) := by
  unfold spec_l1All.f
  have h := l1All_l l lo hi hl l [] k rfl hk
  simpa using h

theorem goodS (s : Int) (ws : List Int) (k : Nat) (hl : ws.length < 9223372036854775807) (hk : ws.length < k) : spec_biGood.f k s ws = some (decide (Good s ws)) := by
  unfold spec_biGood.f
  rw [inS, Option.bind_some]
  by_cases c : 0 ≤ s ∧ s ≤ 4096
  · rw [decide_eq_true c, if_pos rfl, words_eq s c.1 c.2]
    by_cases c2 : (ws.length : Int) = (s + 15) / 16
    · rw [if_pos c2, l1All ws 0 65535 k hl hk, Option.bind_some]
      by_cases c3 : ∀ w ∈ ws, 0 ≤ w ∧ w ≤ 65535
      · rw [decide_eq_true c3, if_pos rfl, last_eq s ws c.1 c.2 c2]
        congr 1; rw [decide_eq_decide]; unfold Good
        exact ⟨fun h => ⟨c.1, c.2, c2, c3, h⟩, fun h => h.2.2.2.2⟩
      · rw [decide_eq_false c3, if_neg (by simp)]; congr 1; symm; rw [decide_eq_false_iff_not]; exact fun h => c3 h.2.2.2.1
    · rw [if_neg c2]; congr 1; symm; rw [decide_eq_false_iff_not]; exact fun h => c2 h.2.2.1
  · rw [decide_eq_false c, if_neg (by simp)]; congr 1; symm; rw [decide_eq_false_iff_not]; exact fun h => c ⟨h.1, h.2.1⟩

theorem buildBoth (s : Int) (ws : List Int) (hl : ws.length ≤ 1048576) : ∃ (r0 : Int) (r1 r2 r3 : List Int) (rb : Bool), r1.length ≤ 300 ∧ r2.length ≤ 300 ∧ r3.length ≤ 300 ∧
    (∀ fu, 1060000 ≤ fu → spec_BuildRanked.f fu s ws = some (r0, r1, r2, r3, rb)) ∧ (∀ fu, 1060000 ≤ fu → impl_BuildRanked.f fu s ws = some (r0, r1, r2, r3, rb)) := by
  by_cases c : Good s ws
  · have hw := good_len c
    have h1 := supN_len (bitAt ws) (wordsN s)
    have h2 := blkN_len (bitAt ws) (wordsN s)
    refine ⟨s, ws, supN (bitAt ws) (wordsN s), blkN (bitAt ws) (wordsN s), true, by omega, by omega, by omega, fun fu hf => ?_, fun fu hf => ?_⟩
    · unfold spec_BuildRanked.f
      rw [goodS s ws fu (by omega) (by omega), Option.bind_some, decide_eq_true c, if_pos rfl, raOfS c fu (by omega)]; rfl
    · unfold impl_BuildRanked.f
      rw [goodI s ws fu (by omega) (by omega), Option.bind_some, decide_eq_true c, if_pos rfl, rankedI c fu (by omega)]; rfl
  · refine ⟨0, [], [], [], false, by simp, by simp, by simp, fun fu hf => ?_, fun fu hf => ?_⟩
    · unfold spec_BuildRanked.f
      rw [goodS s ws fu (by omega) (by omega), Option.bind_some, decide_eq_false c, if_neg (by simp)]
    · unfold impl_BuildRanked.f
      rw [goodI s ws fu (by omega) (by omega), Option.bind_some, decide_eq_false c, if_neg (by simp)]

theorem szIntS (l : List Int) (a : Int) (h : l.length ≤ 9223372036854775807) (ha : 0 ≤ a) (ha2 : a ≤ 1048576) : laws_szIntS.f l a = some (if a - l.length < 0 then -1 else a - l.length) := by
  unfold laws_szIntS.f; rw [w64 (by omega) (by omega)]; split <;> rfl
theorem szBits (s : Int) (l : List Int) (a : Int) (h : l.length ≤ 9223372036854775807) (ha : 0 ≤ a) (ha2 : a ≤ 1048576) : laws_szBits.f s l a = some (if a - l.length < 0 then -1 else a - l.length) := by
  unfold laws_szBits.f; rw [szIntS l a h ha ha2, Option.bind_some]
  by_cases c : a - l.length < 0
  · rw [if_pos c, if_pos (by omega)]
  · rw [if_neg c, if_neg c]

theorem toIntS_l (a : List Int) (ha : a.length < 9223372036854775807) (d : Nat) : ∀ (k i : Nat) (x : List Int), x.length = a.length → x.take i = a.take i → i ≤ a.length → a.length - i = d → d < k →
    laws_toIntS.l0 k a x i = some a := by
  induction d with
  | zero =>
    intro k i x hx hp h1 hd hk
    obtain ⟨k, rfl⟩ := succOf hk
    simp only [laws_toIntS.l0]
    rw [if_neg (by omega)]
    rw [List.take_of_length_le (by omega), List.take_of_length_le (by omega)] at hp
    rw [hp]
  | succ d ih =>
    intro k i x hx hp h1 hd hk
    obtain ⟨k, rfl⟩ := succOf hk
    simp only [laws_toIntS.l0]
    have e1 : rd a i = a[i]'(by omega) := by simp [rd, List.getD_eq_getElem?_getD, List.getElem?_eq_getElem (show i < a.length by omega)]
    have h2 := ih k (i+1) (x.set i (a[i]'(by omega))) (by simp [hx]) (by
      have e3 : List.take (i + 1) a = List.take i a ++ [a[i]'(by omega)] := List.take_succ_eq_append_getElem (by omega)
      rw [e3, List.take_succ_eq_append_getElem (by simp; omega), List.take_set_of_le (Nat.le_refl _), hp]
      simp) (by omega) (by omega) (by omega)
    rw [if_pos (by omega), if_pos (by omega), if_pos (by omega), w64n i (by omega), e1]
    simpa using h2
theorem toIntS_f (a : List Int) (k : Nat) (ha : a.length ≤ 35184372088832) (hk : a.length < k) : laws_toIntS.f k a = some a := by
  unfold laws_toIntS.f
  rw [if_pos (by omega), if_pos (by omega)]
  exact toIntS_l a (by omega) a.length k 0 _ (by simp) (by simp) (by omega) (by omega) hk

theorem toBits_f (s : Int) (a : List Int) (k : Nat) (ha : a.length ≤ 35184372088832) (hk : a.length < k) : laws_toBits.f k s a = some (s, a) := by
  unfold laws_toBits.f; rw [toIntS_f a k ha hk]; rfl

theorem eqIntS_l (a b : List Int) (hl : a.length = b.length) (ha : a.length < 9223372036854775807) (d : Nat) : ∀ (k i : Nat), i ≤ a.length → a.length - i = d → d < k →
    laws_eqIntS.l0 k a b i = some (decide (a.drop i = b.drop i)) := by
  induction d with
  | zero =>
    intro k i h1 hd hk
    obtain ⟨k, rfl⟩ := succOf hk
    simp only [laws_eqIntS.l0]
    rw [if_neg (by omega), List.drop_eq_nil_of_le (by omega), List.drop_eq_nil_of_le (by omega)]; simp
  | succ d ih =>
    intro k i h1 hd hk
    obtain ⟨k, rfl⟩ := succOf hk
    simp only [laws_eqIntS.l0]
    have h2 := ih k (i+1) (by omega) (by omega) (by omega)
    have e1 : rd a i = a[i]'(by omega) := by simp [rd, List.getD_eq_getElem?_getD, List.getElem?_eq_getElem (show i < a.length by omega)]
    have e2 : rd b i = b[i]'(by omega) := by simp [rd, List.getD_eq_getElem?_getD, List.getElem?_eq_getElem (show i < b.length by omega)]
    have e3 := List.drop_eq_getElem_cons (show i < a.length by omega)
    have e4 := List.drop_eq_getElem_cons (show i < b.length by omega)
    rw [if_pos (by omega), if_pos (by omega), if_pos (by omega), e1, e2, w64n i (by omega), h2, e3, e4]
    clear e3 e4 h2 ih
    split <;> simp only [List.cons.injEq, *, true_and, false_and, decide_false]
theorem eqIntS_f (a b : List Int) (k : Nat) (ha : a.length < 9223372036854775807) (hk : a.length < k) : laws_eqIntS.f k a b = some (decide (a = b)) := by
  unfold laws_eqIntS.f
  split
  · have h := eqIntS_l a b (by omega) ha a.length k 0 (by omega) (by omega) hk
    simpa using h
  · have : a ≠ b := by intro h; subst h; simp_all
    simp [this]
theorem eqIntS_same (a : List Int) (k : Nat) (ha : a.length < 9223372036854775807) (hk : a.length < k) : laws_eqIntS.f k a a = some true := by
  rw [eqIntS_f a a k ha hk]; simp

theorem eqBits_f (s t : Int) (a b : List Int) (k : Nat) (ha : a.length < 9223372036854775807) (hk : a.length < k) : laws_eqBits.f k s a t b = some (decide (s = t ∧ a = b)) := by
  unfold laws_eqBits.f
  split
  · rw [eqIntS_f a b k ha hk, Option.bind_some]
    by_cases h : a = b <;> simp [*]
  · simp [*]
theorem eqBits_same (s : Int) (a : List Int) (k : Nat) (ha : a.length < 9223372036854775807) (hk : a.length < k) : laws_eqBits.f k s a s a = some true := by
  rw [eqBits_f s s a a k ha hk]; simp

theorem eqRanked_same (s : Int) (l l2 l3 : List Int) (k : Nat) (h : l.length < 9223372036854775807) (h2 : l2.length < 9223372036854775807) (h3 : l3.length < 9223372036854775807) (hk : l.length < k) (hk2 : l2.length < k) (hk3 : l3.length < k) :
    laws_eqRanked.f k s l l2 l3 s l l2 l3 = some true := by
  unfold laws_eqRanked.f; rw [eqBits_same s l k h hk, Option.bind_some, if_pos rfl, eqIntS_same l2 k h2 hk2, Option.bind_some, if_pos rfl, eqIntS_same l3 k h3 hk3]; rfl

def marks : Nat → Nat → List Int
  | 0, _ => []
  | n + 1, m => (m : Int) :: marks n (m + 1)
theorem marks_len (n : Nat) : ∀ m, (marks n m).length = n := by
  induction n with
  | zero => intro m; rfl
  | succ n ih => intro m; simp [marks, ih]

theorem markIntS_l (n : Nat) (hn : n < 9223372036854775807) (d : Nat) : ∀ (k i m : Nat) (x : List Int), x.length = n → i ≤ n → m + (n - i) ≤ 9223372036854775807 → n - i = d → d < k →
    laws_markIntS.l0 k x m i = some (((m + (n - i) : Nat) : Int), x.take i ++ marks (n - i) m) := by
  induction d with
  | zero =>
    intro k i m x hx h1 hm hd hk
    obtain ⟨k, rfl⟩ := succOf hk
    simp only [laws_markIntS.l0]
    rw [if_neg (by omega), hd, List.take_of_length_le (by omega)]; simp [marks]
  | succ d ih =>
    intro k i m x hx h1 hm hd hk
    obtain ⟨k, rfl⟩ := succOf hk
    simp only [laws_markIntS.l0]
    have h2 := ih k (i+1) (m+1) (x.set i m) (by simp [hx]) (by omega) (by omega) (by omega) (by omega)
    have e1 : n - i = (n - (i+1)) + 1 := by omega
    rw [if_pos (by omega), if_pos (by omega), w64n i (by omega), w64n m (by omega), Int.toNat_natCast, h2]
    rw [e1, marks, List.take_succ_eq_append_getElem (by simp; omega), List.take_set_of_le (Nat.le_refl _)]
    simp only [List.getElem_set_self, List.append_assoc, List.cons_append, List.nil_append]
    congr 3
    omega
theorem markIntS_f (x : List Int) (m k : Nat) (hm : m + x.length ≤ 9223372036854775806) (hk : x.length < k) : laws_markIntS.f k x m = some (((m + x.length : Nat) : Int), marks x.length m) := by
  unfold laws_markIntS.f
  have h := markIntS_l x.length (by omega) x.length k 0 m x rfl (by omega) (by omega) (by omega) hk
  simpa using h
theorem markIntS_1 (x : List Int) (k : Nat) (hm : x.length ≤ 9223372036854775800) (hk : x.length < k) : laws_markIntS.f k x 1 = some (((1 + x.length : Nat) : Int), marks x.length 1) :=
  markIntS_f x 1 k (by omega) hk

theorem markBits_f (s : Int) (x : List Int) (m k : Nat) (hm : m + x.length ≤ 9223372036854775806) (hk : x.length < k) : laws_markBits.f k s x m = some (((m + x.length : Nat) : Int), marks x.length m) := by
  unfold laws_markBits.f; rw [markIntS_f x m k hm hk]; rfl
theorem markBits_1 (s : Int) (x : List Int) (k : Nat) (hm : x.length ≤ 9223372036854775800) (hk : x.length < k) : laws_markBits.f k s x 1 = some (((1 + x.length : Nat) : Int), marks x.length 1) :=
  markBits_f s x 1 k (by omega) hk

theorem markRanked_1 (s : Int) (l l2 l3 : List Int) (k : Nat) (h : l.length ≤ 1048576) (h2 : l2.length ≤ 1048576) (h3 : l3.length ≤ 1048576) (hk : 1048576 < k) :
    laws_markRanked.f k s l l2 l3 1 = some (((1 + l.length + l2.length + l3.length : Nat) : Int), marks l.length 1, marks l2.length (1 + l.length), marks l3.length (1 + l.length + l2.length)) := by
  unfold laws_markRanked.f
  rw [markBits_1 s l k (by omega) (by omega), Option.bind_some]
  simp only []
  rw [markIntS_f l2 (1 + l.length) k (by omega) (by omega), Option.bind_some]
  simp only []
  rw [markIntS_f l3 (1 + l.length + l2.length) k (by omega) (by omega), Option.bind_some]

theorem heldIntS_l (x : List Int) (hn : x.length < 9223372036854775807) (d : Nat) : ∀ (k i m : Nat), i ≤ x.length → m + (x.length - i) ≤ 9223372036854775807 → x.drop i = marks (x.length - i) m → x.length - i = d → d < k →
    laws_heldIntS.l0 k x m i = some ((m + (x.length - i) : Nat) : Int) := by
  induction d with
  | zero =>
    intro k i m h1 hm hx hd hk
    obtain ⟨k, rfl⟩ := succOf hk
    simp only [laws_heldIntS.l0]
    rw [if_neg (by omega), hd]; simp
  | succ d ih =>
    intro k i m h1 hm hx hd hk
    obtain ⟨k, rfl⟩ := succOf hk
    simp only [laws_heldIntS.l0]
    have e1 : x.length - i = (x.length - (i+1)) + 1 := by omega
    rw [e1, marks, List.drop_eq_getElem_cons (show i < x.length by omega)] at hx
    have e3 := (List.cons.inj hx).1
    have h2 := ih k (i+1) (m+1) (by omega) (by omega) (List.cons.inj hx).2 (by omega) (by omega)
    have e2 : rd x i = m := by rw [← e3]; simp [rd, List.getD_eq_getElem?_getD, List.getElem?_eq_getElem (show i < x.length by omega)]
    rw [if_pos (by omega), if_pos (by omega), if_pos e2, w64n i (by omega), w64n m (by omega), h2]
    simp; omega
theorem heldIntS_f (n m k : Nat) (hm : m + n ≤ 9223372036854775806) (hk : n < k) : laws_heldIntS.f k (marks n m) m = some ((m + n : Nat) : Int) := by
  unfold laws_heldIntS.f
  have h := heldIntS_l (marks n m) (by rw [marks_len]; omega) n k 0 m (by omega) (by rw [marks_len]; omega) (by rw [marks_len]; simp) (by rw [marks_len]; omega) hk
  rw [marks_len] at h
  simpa using h
theorem heldIntS_1 (n k : Nat) (hm : n ≤ 9223372036854775800) (hk : n < k) : laws_heldIntS.f k (marks n 1) 1 = some ((1 + n : Nat) : Int) :=
  heldIntS_f n 1 k (by omega) hk

theorem heldBits_f (s : Int) (n m k : Nat) (hm : m + n ≤ 9223372036854775806) (hk : n < k) : laws_heldBits.f k s (marks n m) m = some ((m + n : Nat) : Int) := by
  unfold laws_heldBits.f; rw [heldIntS_f n m k hm hk, Option.bind_some, if_neg (by omega)]
theorem heldBits_1 (s : Int) (n k : Nat) (hm : n ≤ 9223372036854775800) (hk : n < k) : laws_heldBits.f k s (marks n 1) 1 = some ((1 + n : Nat) : Int) :=
  heldBits_f s n 1 k (by omega) hk

theorem heldRanked_1 (s : Int) (n n2 n3 k : Nat) (h : n ≤ 1048576) (h2 : n2 ≤ 1048576) (h3 : n3 ≤ 1048576) (hk : 1048576 < k) :
    laws_heldRanked.f k s (marks n 1) (marks n2 (1 + n)) (marks n3 (1 + n + n2)) 1 = some ((1 + n + n2 + n3 : Nat) : Int) := by
  unfold laws_heldRanked.f
  rw [heldBits_1 s n k (by omega) (by omega), Option.bind_some, if_neg (by omega), heldIntS_f n2 (1 + n) k (by omega) (by omega), Option.bind_some, if_neg (by omega), heldIntS_f n3 (1 + n + n2) k (by omega) (by omega), Option.bind_some, if_neg (by omega)]

theorem FnExactBuildRanked : laws_FnExactBuildRanked.Pure := by
  intro s l _ hm _
  have hm' : l.length ≤ 9223372036854775807 := by unfold maxLen at hm; omega
  obtain ⟨k, hk⟩ : ∃ k, k = 1060000 := ⟨_, rfl⟩
  refine ⟨k + 4, ?_⟩
  unfold laws_FnExactBuildRanked.f
  rw [szBits s l 1048576 hm' (by omega) (by omega), Option.bind_some]
  by_cases hb : (1048576 : Int) - l.length < 0
  · rw [if_pos hb, if_pos (by omega)]
  rw [if_neg hb, if_neg hb]
  obtain ⟨r0, r1, r2, r3, rb, g1, g2, g3, eS, eI⟩ := buildBoth s l (by omega)
  have eT (fu : Nat) (hj : 1060000 ≤ fu) : laws_toBits.f fu s l = some (s, l) := toBits_f s l fu (by omega) (by omega)
  have eE (fu : Nat) (hj : 1060000 ≤ fu) : laws_eqBits.f fu s l s l = some true := eqBits_same s l fu (by omega) (by omega)
  have eQ (fu : Nat) (hj : 1060000 ≤ fu) : laws_eqRanked.f fu r0 r1 r2 r3 r0 r1 r2 r3 = some true := eqRanked_same r0 r1 r2 r3 fu (by omega) (by omega) (by omega) (by omega) (by omega) (by omega)
  have eM (fu : Nat) (hj : 1060000 ≤ fu) := markBits_1 s l fu (by omega) (by omega)
  have eN (fu : Nat) (hj : 1060000 ≤ fu) := markRanked_1 r0 r1 r2 r3 fu (by omega) (by omega) (by omega) (by omega)
  have eH (fu : Nat) (hj : 1060000 ≤ fu) := heldRanked_1 r0 r1.length r2.length r3.length fu (by omega) (by omega) (by omega) (by omega)
  have n1 : ¬ (((1 + l.length : Nat) : Int) < 0) := by omega
  have n2 : ¬ (((1 + r1.length + r2.length + r3.length : Nat) : Int) < 0) := by omega
  rw [eT _ (by omega), Option.bind_some, eS _ (by omega), Option.bind_some, Option.bind_some, eI _ (by omega), Option.bind_some, eQ _ (by omega), Option.bind_some, if_pos rfl]
  simp only [laws_FnExactBuildRanked.j0]
  rw [if_neg (by simp), eT _ (by omega), Option.bind_some, eE _ (by omega), Option.bind_some, if_pos rfl, eM _ (by omega), Option.bind_some, if_neg n1, eQ _ (by omega), Option.bind_some, if_pos rfl]
  simp only [laws_FnExactBuildRanked.j1]
  rw [if_neg (by simp), eN _ (by omega), Option.bind_some, eH _ (by omega), Option.bind_some, if_neg n2, if_pos rfl, eT _ (by omega), Option.bind_some, eI _ (by omega), Option.bind_some, eQ _ (by omega), Option.bind_some, if_pos rfl]
  simp only [laws_FnExactBuildRanked.j2]
  rw [if_neg (by simp), eH _ (by omega), Option.bind_some, if_neg n2, if_pos rfl]

end Go.Proofs.Ytpidlhpjcjaojaa.Pure
