/- a tree list is read back from its balanced vector, and parents are found by rank, select and enclosing; for every code (longer ones than 2^20 bytes are not asked). -/
import Derived.Test.YtkmhjgejficclaaPFnTreesAreParenthesesx9
namespace Go.Proofs.Ytkmhjgejficclaa.Pure
open Go.RowKit Go.Proofs.Ytkmhjgejficclaa.PFnTreesAreParentheses Go.Proofs.YtkmhjgejficclaaW.PrintWords Go.Proofs.YtkmhjgejficclaaW.PrintLast Go.Proofs.YtkmhjgejficclaaW.PrintMore
set_option linter.unusedVariables false
set_option linter.unusedSimpArgs false

theorem w64 {x : Int} (h1 : -9223372036854775808 ≤ x) (h2 : x ≤ 9223372036854775807) : wrap64 x = x := by unfold wrap64; omega
theorem w64n (i : Nat) (h : i < 9223372036854775807) : wrap64 ((i : Int) + 1) = ((i + 1 : Nat) : Int) := by rw [w64 (by omega) (by omega)]; rfl
theorem succOf {k d : Nat} (h : d < k) : ∃ m, k = m + 1 := ⟨k - 1, by omega⟩

theorem and255 (a : Int) : 0 ≤ Go.bits .and .u64 a 255 ∧ Go.bits .and .u64 a 255 ≤ 255 := by
  have e : Go.bits .and .u64 a 255 = IntKind.u64.wrap (((BitVec.ofInt 64 a &&& BitVec.ofInt 64 255).toNat : Nat) : Int) := rfl
  have h : (BitVec.ofInt 64 a &&& BitVec.ofInt 64 255).toNat ≤ 255 := by
    rw [BitVec.toNat_and]; exact Nat.and_le_right
  rw [e, IntKind.wrap_u64]
  generalize (BitVec.ofInt 64 a &&& BitVec.ofInt 64 255).toNat = m at *
  omega
/-- the bytes of a code -/
def Bytes (c : List Int) : Prop := c.length ≤ 2097152 ∧ ∀ x ∈ c, 0 ≤ x ∧ x ≤ 255
theorem rd_byte (c : List Int) (h : Bytes c) (i : Int) : 0 ≤ rd c i ∧ rd c i ≤ 255 := by
  unfold rd
  rw [List.getD_eq_getElem?_getD]
  by_cases k : i.toNat < c.length
  · rw [List.getElem?_eq_getElem k]; exact h.2 _ (List.getElem_mem k)
  · rw [List.getElem?_eq_none (by omega)]; simp
theorem nextC (c : List Int) (h : Bytes c) (at_ sd : Int) (n : Nat) (h0 : 0 ≤ at_) (h1 : at_ ≤ n) (hn : n < 4611686018427387904) : ∃ x sd', spec_l1Cur_next.f c at_ sd = some (x, at_ + 1, sd') ∧ 0 ≤ x ∧ x ≤ 255 := by
  unfold spec_l1Cur_next.f
  have e : wrap64 (at_ + 1) = at_ + 1 := w64 (by omega) (by omega)
  have hb := rd_byte c h at_
  have e2 : wrap64 (rd c at_) = rd c at_ := w64 (by omega) (by omega)
  rw [e, e2]
  by_cases c1 : at_ < (c.length : Int)
  · rw [if_pos c1, if_pos h0]
    by_cases c2 : at_ + 1 ≤ (c.length : Int)
    · rw [if_pos c2]; exact ⟨_, _, rfl, hb.1, hb.2⟩
    · exact absurd c2 (by omega)
  · rw [if_neg c1, if_neg (by omega)]
    refine ⟨_, _, rfl, ?_⟩
    have := and255 (IntKind.u64.wrap (IntKind.u64.wrap (IntKind.u64.wrap (sd * 6364136223846793005)) + 1442695040888963407) / 1099511627776)
    rw [w64 (by omega) (by omega)]; exact this
/-- a place in the code, at most n steps on -/
def Pl (n : Nat) (at_ : Int) : Prop := 0 ≤ at_ ∧ at_ ≤ n
theorem pickC (c : List Int) (h : Bytes c) (at_ sd m : Int) (n : Nat) (hp : Pl n at_) (hn : n < 2305843009213693952) (hm : m ≤ 1000000) : ∃ x at' sd', spec_l1Cur_pick.f c at_ sd m = some (x, at', sd') ∧ Pl (n + 2) at' ∧ 0 ≤ x ∧ (x < m ∨ x = 0) := by
  unfold spec_l1Cur_pick.f Pl at *
  by_cases c1 : m ≤ 1
  · rw [if_pos c1]; exact ⟨_, _, _, rfl, ⟨by omega, by omega⟩, by omega, Or.inr rfl⟩
  rw [if_neg c1]
  obtain ⟨x, s1, e1, x0, x1⟩ := nextC c h at_ sd n hp.1 hp.2 (by omega)
  rw [e1, Option.bind_some]
  simp only
  by_cases c2 : m > 200
  · obtain ⟨y, s2, e2, y0, y1⟩ := nextC c h (at_ + 1) s1 (n + 1) (by omega) (by omega) (by omega)
    rw [if_pos c2, e2, Option.bind_some]
    simp only
    rw [if_neg (by omega)]
    have e3 : wrap64 (wrap64 (x * 256) + y) = x * 256 + y := by rw [w64 (x := x * 256) (by omega) (by omega), w64 (by omega) (by omega)]
    rw [e3, Int.tmod_eq_emod_of_nonneg (by omega)]
    exact ⟨_, _, _, rfl, ⟨by omega, by omega⟩, Int.emod_nonneg _ (by omega), Or.inl (Int.emod_lt_of_pos _ (by omega))⟩
  · rw [if_neg c2, if_neg (by omega), Int.tmod_eq_emod_of_nonneg (by omega)]
    exact ⟨_, _, _, rfl, ⟨by omega, by omega⟩, Int.emod_nonneg _ (by omega), Or.inl (Int.emod_lt_of_pos _ (by omega))⟩
theorem oneC (c : List Int) (h : Bytes c) (at_ sd m : Int) (n : Nat) (hp : Pl n at_) (hn : n < 2305843009213693952) (hm : m ≤ 1000000) : ∃ b at' sd', spec_l1Cur_one.f c at_ sd m = some (b, at', sd') ∧ Pl (n + 2) at' := by
  obtain ⟨x, a, s, e, p, _⟩ := pickC c h at_ sd m n hp hn hm
  unfold spec_l1Cur_one.f
  rw [e, Option.bind_some]
  exact ⟨_, _, _, rfl, p⟩

def TreeL (l : List Int) : Prop := ∀ x ∈ l, -1 ≤ x ∧ x < (l.length : Int)
theorem treeC_l1 (c x3 : List Int) (x4 x5 at_ sd : Int) (hi : TreeL x3) (hl : x3.length < 1000) (d : Nat) : d < 1000 → ∀ x6 : Int, -1 ≤ x6 → x6 < (x3.length : Int) → ∃ x' : Int, -1 ≤ x' ∧ x' < (x3.length : Int) ∧ ∀ (k0 : Nat) (v : Option (List Int × Int × Int)), (∀ k, k0 ≤ k → spec_l1Cur_tree.l0 k (x3 ++ [x']) x4 (wrap64 (x5 + 1)) c at_ sd = v) → ∀ k, k0 + d + 1 ≤ k → spec_l1Cur_tree.l1 k x3 x4 x5 x6 d c at_ sd = v := by
  induction d with
  | zero =>
    intro hd x6 h1 h2
    refine ⟨x6, h1, h2, fun k0 v hv k hk => ?_⟩
    obtain ⟨k, rfl⟩ := succOf (show 0 < k by omega)
    simp only [spec_l1Cur_tree.l1]
    rw [if_neg (by omega), if_pos (by omega)]; exact hv k (by omega)
  | succ d ih =>
    intro hd x6 h1 h2
    by_cases cx : x6 ≥ 0
    · have hr : -1 ≤ rd x3 x6 ∧ rd x3 x6 < (x3.length : Int) := by
        unfold rd
        rw [List.getD_eq_getElem?_getD, List.getElem?_eq_getElem (show x6.toNat < x3.length by omega)]
        exact hi _ (List.getElem_mem _)
      obtain ⟨x', g1, g2, g3⟩ := ih (by omega) (rd x3 x6) hr.1 hr.2
      refine ⟨x', g1, g2, fun k0 v hv k hk => ?_⟩
      obtain ⟨k, rfl⟩ := succOf (show 0 < k by omega)
      simp only [spec_l1Cur_tree.l1]
      rw [if_pos (by omega), if_pos cx, if_pos cx, if_pos h2, w64 (by omega) (by omega), show ((d + 1 : Nat) : Int) - 1 = (d : Int) from by omega]
      exact g3 k0 v hv k (by omega)
    · refine ⟨x6, h1, h2, fun k0 v hv k hk => ?_⟩
      obtain ⟨k, rfl⟩ := succOf (show 0 < k by omega)
      simp only [spec_l1Cur_tree.l1]
      rw [if_pos (by omega), if_neg cx, if_pos (by omega)]; exact hv k (by omega)
theorem treeC_j3 (c : List Int) (h : Bytes c) (x3 : List Int) (b : Bool) (at_ sd : Int) (n : Nat) (hp : Pl n at_) (hn : n < 1000000000) (hl : x3.length ≤ 100) (hb : b = true → 0 < x3.length) : ∃ l at' sd', l.length = x3.length ∧ Pl (n + 4) at' ∧ ∀ k, 1 ≤ k → spec_l1Cur_tree.j3 k x3 x3.length b c at_ sd = some (l, at', sd') := by
  cases b
  · refine ⟨x3, at_, sd, rfl, by unfold Pl at *; omega, fun k hk => ?_⟩
    obtain ⟨k, rfl⟩ := succOf (show 0 < k by omega)
    simp only [spec_l1Cur_tree.j3]
    rw [if_neg (by simp)]
  · have hb := hb rfl
    obtain ⟨x, a1, s1, e1, p1, x0, x1⟩ := pickC c h at_ sd x3.length n hp (by omega) (by omega)
    obtain ⟨y, a2, s2, e2, p2, y0, y1⟩ := pickC c h a1 s1 ((x3.length : Int) + 2) _ p1 (by omega) (by omega)
    refine ⟨x3.set x.toNat (y - 1), a2, s2, by rw [List.length_set], by unfold Pl at *; omega, fun k hk => ?_⟩
    obtain ⟨k, rfl⟩ := succOf (show 0 < k by omega)
    have w1 : wrap64 ((x3.length : Int) + 2) = (x3.length : Int) + 2 := w64 (by omega) (by omega)
    have w2 : wrap64 (y - 1) = y - 1 := w64 (by omega) (by omega)
    simp only [spec_l1Cur_tree.j3]
    rw [w1, if_pos trivial, e1, Option.bind_some]; simp only
    rw [e2, Option.bind_some]; simp only
    rw [if_pos x0, if_pos (by omega), w2]
theorem treeC_l0 (c : List Int) (h : Bytes c) (m : Nat) (hm : m ≤ 100) (d : Nat) : ∀ (x3 : List Int) (at_ sd : Int) (n : Nat), TreeL x3 → x3.length + d = m → Pl n at_ → n + 10 * d < 900000000 →
    ∃ l at' sd', l.length = m ∧ Pl (n + 10 * d + 10) at' ∧ ∀ k, 20 * d + 20 ≤ k → spec_l1Cur_tree.l0 k x3 m x3.length c at_ sd = some (l, at', sd') := by
  induction d with
  | zero =>
    intro x3 at_ sd n ht hl hp hn
    obtain ⟨b, a1, s1, e1, p1⟩ := oneC c h at_ sd 8 n hp (by omega) (by omega)
    have hm' : (m : Int) = (x3.length : Int) := by omega
    obtain ⟨l, a2, s2, el, p2, e2⟩ := treeC_j3 c h x3 (if b = true then decide ((x3.length : Int) > 0) else false) a1 s1 (n + 2) p1 (by omega) (by omega) (by intro h; cases b <;> simp at h; omega)
    refine ⟨l, a2, s2, by omega, by unfold Pl at *; omega, fun k hk => ?_⟩
    obtain ⟨k, rfl⟩ := succOf (show 0 < k by omega)
    have := e2 k (by omega)
    simp only [spec_l1Cur_tree.l0]
    rw [hm', if_neg (by omega), e1, Option.bind_some]; simp only
    cases b
    · rw [if_neg (by simp)]; simpa using this
    · rw [if_pos rfl]; simpa using this
  | succ d ih =>
    intro x3 at_ sd n ht hl hp hn
    obtain ⟨y, a1, s1, e1, p1, y0, y1⟩ := pickC c h at_ sd 4 n hp (by omega) (by omega)
    obtain ⟨x', g1, g2, g3⟩ := treeC_l1 c x3 m x3.length a1 s1 ht (by omega) y.toNat (by omega) ((x3.length : Int) - 1) (by omega) (by omega)
    have ht2 : TreeL (x3 ++ [x']) := by
      intro x hx
      rw [List.length_append, List.length_cons, List.length_nil]
      rcases List.mem_append.mp hx with hx | hx
      · have := ht x hx; omega
      · simp only [List.mem_singleton] at hx; omega
    obtain ⟨l, a2, s2, el, p2, e2⟩ := ih (x3 ++ [x']) a1 s1 (n + 2) ht2 (by rw [List.length_append, List.length_cons, List.length_nil]; omega) p1 (by omega)
    have el2 : (x3 ++ [x']).length = x3.length + 1 := by simp
    rw [el2] at e2
    refine ⟨l, a2, s2, el, by unfold Pl at *; omega, fun k hk => ?_⟩
    obtain ⟨k, rfl⟩ := succOf (show 0 < k by omega)
    have w1 : wrap64 ((x3.length : Int) - 1) = (x3.length : Int) - 1 := w64 (by omega) (by omega)
    have w2 : wrap64 ((x3.length : Int) + 1) = ((x3.length + 1 : Nat) : Int) := w64n _ (by omega)
    simp only [spec_l1Cur_tree.l0]
    rw [w1]
    rw [w2] at g3
    clear w1 w2
    rw [if_pos (by omega), e1, Option.bind_some]; simp only
    have := g3 (20 * d + 20) _ (fun k hk => e2 k hk) k (by omega)
    rwa [Int.toNat_of_nonneg y0] at this
theorem treeC (c : List Int) (h : Bytes c) (at_ sd : Int) (n : Nat) (hp : Pl n at_) (hn : n < 800000000) :
    ∃ l at' sd', l.length ≤ 70 ∧ Pl (n + 1000) at' ∧ ∀ k, 10000 ≤ k → spec_l1Cur_tree.f k c at_ sd = some (l, at', sd') := by
  obtain ⟨x, a1, s1, e1, p1, x0, x1⟩ := pickC c h at_ sd 14 n hp (by omega) (by omega)
  obtain ⟨b, a2, s2, e2, p2⟩ := oneC c h a1 s1 20 _ p1 (by omega) (by omega)
  have go (m : Nat) (hm : m ≤ 70) (a s : Int) (n' : Nat) (hp : Pl n' a) (hn : n' < 800000100) : ∃ l at' sd', l.length ≤ 70 ∧ Pl (n' + 710) at' ∧ ∀ k, 9999 ≤ k → spec_l1Cur_tree.j0 k [] m c a s = some (l, at', sd') := by
    obtain ⟨l, a3, s3, el, p3, e3⟩ := treeC_l0 c h m (by omega) m [] a s n' (by intro x hx; simp at hx) (by simp) hp (by omega)
    refine ⟨l, a3, s3, by omega, by unfold Pl at *; omega, fun k hk => ?_⟩
    obtain ⟨k, rfl⟩ := succOf (show 0 < k by omega)
    simp only [spec_l1Cur_tree.j0]
    exact e3 k (by omega)
  unfold spec_l1Cur_tree.f
  by_cases cb : b = true
  · obtain ⟨y, a3, s3, e3, p3, y0, y1⟩ := pickC c h a2 s2 2 _ p2 (by omega) (by omega)
    obtain ⟨l, a4, s4, el, p4, e4⟩ := go (64 + y).toNat (by omega) a3 s3 _ p3 (by omega)
    rw [Int.toNat_of_nonneg (by omega)] at e4
    refine ⟨l, a4, s4, el, by unfold Pl at *; omega, fun k hk => ?_⟩
    rw [e1, Option.bind_some]; simp only
    rw [e2, Option.bind_some]; simp only
    rw [if_pos cb, e3, Option.bind_some]; simp only
    rw [w64 (by omega) (by omega)]
    exact e4 k (by omega)
  · obtain ⟨l, a4, s4, el, p4, e4⟩ := go x.toNat (by omega) a2 s2 _ p2 (by omega)
    rw [Int.toNat_of_nonneg x0] at e4
    refine ⟨l, a4, s4, el, by unfold Pl at *; omega, fun k hk => ?_⟩
    rw [e1, Option.bind_some]; simp only
    rw [e2, Option.bind_some]; simp only
    rw [if_neg cb]
    exact e4 k (by omega)

theorem rd_mid (p s : List Int) (x : Int) : rd (p ++ x :: s) (p.length : Int) = x := by
  simp [rd, List.getD_eq_getElem?_getD]
theorem rd_last (p s : List Int) (x : Int) (i : Int) (h : i = p.length) : rd (p ++ x :: s) i = x := by
  subst h; exact rd_mid p s x

theorem shl64 (x y : Int) (h0 : 0 ≤ y) (h1 : y ≤ 63) : shl .i64 x y = wrap64 (x * 2 ^ y.toNat) := by
  unfold shl wrap64; rw [Nat.min_eq_left (by simp only [IntKind.bits]; omega), IntKind.wrap_i64]
theorem shr64 (x y : Int) (h0 : 0 ≤ y) (h1 : y ≤ 63) : shr .i64 x y = x / 2 ^ y.toNat := by
  unfold shr; rw [Nat.min_eq_left (by simp only [IntKind.bits]; omega)]

/-- the bit i of a row of words -/
def bitAt (ws : List Int) (i : Nat) : Bool := decide ((ws.getD (i / 16) 0 / 2 ^ (i % 16)) % 2 = 1)
/-- what a vector of bits keeps -/
def Good (s : Int) (ws : List Int) : Prop :=
  0 ≤ s ∧ s ≤ 4096 ∧ (ws.length : Int) = (s + 15) / 16 ∧ (∀ w ∈ ws, 0 ≤ w ∧ w ≤ 65535) ∧ (s % 16 = 0 ∨ ws.getD (ws.length - 1) 0 / 2 ^ (s % 16).toNat = 0)
instance (s : Int) (ws : List Int) : Decidable (Good s ws) := by unfold Good; infer_instance
theorem i64_small (n : Int) (h0 : 0 ≤ n) (h1 : n < 2 ^ 62) : IntKind.i64.wrap n = n := by rw [IntKind.wrap_i64]; omega
theorem and1 (x : Int) (h0 : 0 ≤ x) (h1 : x < 2 ^ 62) : Go.bits .and .i64 x 1 = x % 2 := bits_mask .i64 62 (by decide) i64_small 1 (by decide) x h0 h1
theorem word_range (ws : List Int) (hw : ∀ w ∈ ws, 0 ≤ w ∧ w ≤ 65535) (j : Nat) : 0 ≤ ws.getD j 0 ∧ ws.getD j 0 ≤ 65535 := by
  by_cases h : j < ws.length
  · rw [List.getD_eq_getElem?_getD, List.getElem?_eq_getElem h]; exact hw _ (List.getElem_mem h)
  · rw [List.getD_eq_getElem?_getD, List.getElem?_eq_none (by omega)]; simp
theorem div_pow_range (x : Int) (j : Nat) (h : 0 ≤ x ∧ x ≤ 65535) : 0 ≤ x / 2 ^ j ∧ x / 2 ^ j ≤ 65535 := by
  have hp : (0 : Int) < 2 ^ j := Int.pow_pos (by omega)
  exact ⟨Int.ediv_nonneg h.1 (by omega), Int.le_trans (Int.ediv_le_self _ h.1) h.2⟩
theorem at_eq (ws : List Int) (i : Nat) (h : i / 16 < ws.length) (hw : ∀ w ∈ ws, 0 ≤ w ∧ w ≤ 65535) (hi : i < 4611686018427387904) :
    (if 0 ≤ (wrap64 (Int.tdiv (i : Int) 16)) then (if (wrap64 (Int.tdiv (i : Int) 16)) < (ws.length : Int) then (if 0 ≤ (Int.tmod (i : Int) 16) then (some ((Go.bits .and .i64 (shr .i64 (rd ws (wrap64 (Int.tdiv (i : Int) 16))) (Int.tmod (i : Int) 16)) 1) == 1)) else (none)) else (none)) else (none)) = some (bitAt ws i) := by
  have e1 : wrap64 (Int.tdiv (i : Int) 16) = ((i / 16 : Nat) : Int) := by
    rw [Int.tdiv_eq_ediv_of_nonneg (by omega), w64 (by omega) (by omega)]; omega
  have e2 : Int.tmod (i : Int) 16 = ((i % 16 : Nat) : Int) := by
    rw [Int.tmod_eq_emod_of_nonneg (by omega)]; omega
  have e3 : rd ws ((i / 16 : Nat) : Int) = ws.getD (i / 16) 0 := by unfold rd; rw [Int.toNat_natCast]
  have hr := div_pow_range _ (i % 16) (word_range ws hw (i / 16))
  rw [e1, e2, if_pos (by omega), if_pos (by omega), if_pos (by omega), e3, shr64 _ _ (by omega) (by omega), Int.toNat_natCast, and1 _ hr.1 (by omega)]
  rfl
/-- how the last word is asked -/
theorem last_eq (s : Int) (ws : List Int) (h0 : 0 ≤ s) (h1 : s ≤ 4096) (hl : (ws.length : Int) = (s + 15) / 16) :
    (if (Int.tmod s 16) = 0 then (some true) else (if 0 ≤ (wrap64 ((ws.length : Int) - 1)) then (if (wrap64 ((ws.length : Int) - 1)) < (ws.length : Int) then (if 0 ≤ (Int.tmod s 16) then (some ((shr .i64 (rd ws (wrap64 ((ws.length : Int) - 1))) (Int.tmod s 16)) == 0)) else (none)) else (none)) else (none))) =
      some (decide (s % 16 = 0 ∨ ws.getD (ws.length - 1) 0 / 2 ^ (s % 16).toNat = 0)) := by
  have e2 : Int.tmod s 16 = s % 16 := Int.tmod_eq_emod_of_nonneg h0
  rw [e2]
  by_cases c : s % 16 = 0
  · rw [if_pos c]; simp [c]
  · rw [if_neg c, w64 (by omega) (by omega), if_pos (by omega), if_pos (by omega), if_pos (by omega), shr64 _ _ (by omega) (by omega)]
    have e3 : rd ws ((ws.length : Int) - 1) = ws.getD (ws.length - 1) 0 := by
      unfold rd; rw [show ((ws.length : Int) - 1).toNat = ws.length - 1 from by omega]
    rw [e3]; simp only [c, false_or]; rfl
theorem good_words (s : Int) (ws : List Int) (h : Good s ws) : ∀ w ∈ ws, 0 ≤ w ∧ w ≤ 65535 := h.2.2.2.1
theorem good_place {s : Int} {ws : List Int} (h : Good s ws) (i : Nat) (hi : (i : Int) < s) : i / 16 < ws.length ∧ i < 4096 := by
  obtain ⟨h0, h1, h2, _⟩ := h; omega
theorem words_eq (s : Int) (h0 : 0 ≤ s) (h1 : s ≤ 4096) : wrap64 (Int.tdiv (wrap64 (s + 15)) 16) = (s + 15) / 16 := by
  rw [w64 (x := s + 15) (by omega) (by omega), Int.tdiv_eq_ediv_of_nonneg (by omega), w64 (by omega) (by omega)]
theorem words_eq2 (s : Int) (h0 : 0 ≤ s) (h1 : s ≤ 4096) : wrap64 (Int.tdiv (wrap64 (wrap64 (s + 16) - 1)) 16) = (s + 15) / 16 := by
  rw [w64 (x := s + 16) (by omega) (by omega), show s + 16 - 1 = s + 15 from by omega]; exact words_eq s h0 h1

/-- the value of w bits from a on -/
def fieldV (b : Nat → Bool) (a : Nat) : Nat → Int
  | 0 => 0
  | w + 1 => fieldV b a w + (if b (a + w) = true then 2 ^ w else 0)
theorem fieldV_range (b : Nat → Bool) (a w : Nat) : 0 ≤ fieldV b a w ∧ fieldV b a w < 2 ^ w := by
  induction w with
  | zero => simp [fieldV]
  | succ w ih =>
    have hp : (0 : Int) < 2 ^ w := Int.pow_pos (by omega)
    have e : (2 : Int) ^ (w + 1) = 2 ^ w * 2 := Int.pow_succ 2 w
    simp only [fieldV]
    split <;> omega
theorem fieldV_head (b : Nat → Bool) (w : Nat) : ∀ a, fieldV b a (w + 1) = (if b a = true then 1 else 0) + 2 * fieldV b (a + 1) w := by
  induction w with
  | zero => intro a; simp [fieldV]
  | succ w ih =>
    intro a
    rw [fieldV, ih a]
    have e : (2 : Int) ^ (w + 1) = 2 ^ w * 2 := Int.pow_succ 2 w
    simp only [fieldV]
    rw [show a + 1 + w = a + (w + 1) from by omega]
    split <;> split <;> omega
/-- what ReadField answers -/
def fieldAns (s : Int) (ws : List Int) (a w : Int) : Int × Bool := if Good s ws ∧ (0 ≤ w ∧ w ≤ 24) ∧ 0 ≤ a ∧ a ≤ s - w then (fieldV (bitAt ws) a.toNat w.toNat, true) else (0, false)
theorem or_pow (x : Int) (j : Nat) (h0 : 0 ≤ x) (h1 : x < 2 ^ j) (hj : j < 60) : Go.bits .or .i64 x (2 ^ j) = x + 2 ^ j := by
  obtain ⟨a, rfl⟩ := Int.eq_ofNat_of_zero_le h0
  have ha : a < 2 ^ j := by exact_mod_cast h1
  have hj2 : 2 ^ j < 2 ^ 62 := Nat.pow_lt_pow_right (by decide) (by omega)
  have hc : ((2 : Int) ^ j) = ((2 ^ j : Nat) : Int) := by simp
  rw [hc, (bits_nat .i64 62 (by decide) i64_small a (2 ^ j) (by omega) hj2).2]
  have e := Nat.two_pow_add_eq_or_of_lt ha 1
  rw [Nat.mul_one] at e
  rw [Nat.or_comm, ← e]; simp; omega
theorem shl_one (j : Nat) (hj : j < 60) : shl .i64 1 (j : Int) = 2 ^ j := by
  rw [shl64 _ _ (by omega) (by omega), Int.toNat_natCast, Int.one_mul]
  have hj2 : 2 ^ j < 2 ^ 62 := Nat.pow_lt_pow_right (by decide) (by omega)
  have hj3 : (2 : Int) ^ j < 2 ^ 62 := by exact_mod_cast hj2
  have hp : (0 : Int) < 2 ^ j := Int.pow_pos (by omega)
  rw [w64 (by omega) (by omega)]

/-- a word, as a number -/
theorem word_nat (ws : List Int) (hw : ∀ w ∈ ws, 0 ≤ w ∧ w ≤ 65535) (j : Nat) : ∃ n : Nat, ws.getD j 0 = (n : Int) ∧ n < 2 ^ 16 := by
  have h := word_range ws hw j
  exact ⟨(ws.getD j 0).toNat, by omega, by omega⟩
theorem bitAt_nat (ws : List Int) (i n : Nat) (h : ws.getD (i / 16) 0 = (n : Int)) : bitAt ws i = n.testBit (i % 16) := by
  unfold bitAt
  rw [h, Nat.testBit_eq_decide_div_mod_eq]
  have e : (n : Int) / 2 ^ (i % 16) % 2 = ((n / 2 ^ (i % 16) % 2 : Nat) : Int) := by simp
  rw [e, decide_eq_decide]; omega
/-- behind the end of a vector no bit stands -/
theorem good_end {s : Int} {ws : List Int} (h : Good s ws) (i : Nat) (hi : s ≤ (i : Int)) : bitAt ws i = false := by
  obtain ⟨h0, h1, h2, h3, h4⟩ := h
  obtain ⟨n, e, hn⟩ := word_nat ws h3 (i / 16)
  rw [bitAt_nat ws i n e]
  by_cases c : i / 16 < ws.length
  · rcases h4 with h4 | h4
    · omega
    · have e1 : i / 16 = ws.length - 1 := by omega
      rw [e1] at e
      rw [e] at h4
      have e2 : (n : Int) / 2 ^ (s % 16).toNat = ((n / 2 ^ (s % 16).toNat : Nat) : Int) := by simp
      rw [e2] at h4
      have h5 : n < 2 ^ (s % 16).toNat := by
        have hp : 0 < 2 ^ (s % 16).toNat := Nat.two_pow_pos _
        exact (Nat.div_eq_zero_iff_lt hp).mp (by omega)
      exact Nat.testBit_lt_two_pow (Nat.lt_of_lt_of_le h5 (Nat.pow_le_pow_right (by decide) (by omega)))
  · rw [List.getD_eq_getElem?_getD, List.getElem?_eq_none (by omega)] at e
    have : n = 0 := by simp at e; omega
    subst this; simp
/-- two vectors with the same bits are the same -/
theorem good_ext {s : Int} {ws ws' : List Int} (h : Good s ws) (h' : Good s ws') (hb : ∀ i : Nat, (i : Int) < s → bitAt ws i = bitAt ws' i) : ws = ws' := by
  have hl : ws.length = ws'.length := by have := h.2.2.1; have := h'.2.2.1; omega
  apply List.ext_getElem hl
  intro j c1 c2
  obtain ⟨n, e, hn⟩ := word_nat ws h.2.2.2.1 j
  obtain ⟨n', e', hn'⟩ := word_nat ws' h'.2.2.2.1 j
  have : n = n' := by
    apply Nat.eq_of_testBit_eq
    intro r
    by_cases c : r < 16
    · have a1 := bitAt_nat ws (16 * j + r) n (by rw [show (16 * j + r) / 16 = j from by omega]; exact e)
      have a2 := bitAt_nat ws' (16 * j + r) n' (by rw [show (16 * j + r) / 16 = j from by omega]; exact e')
      rw [show (16 * j + r) % 16 = r from by omega] at a1 a2
      rw [← a1, ← a2]
      by_cases c3 : ((16 * j + r : Nat) : Int) < s
      · exact hb _ c3
      · rw [good_end h _ (by omega), good_end h' _ (by omega)]
    · have hp : 2 ^ 16 ≤ 2 ^ r := Nat.pow_le_pow_right (by decide) (by omega)
      rw [Nat.testBit_lt_two_pow (by omega), Nat.testBit_lt_two_pow (by omega)]
  have g1 : ws.getD j 0 = ws[j] := by rw [List.getD_eq_getElem?_getD, List.getElem?_eq_getElem c1]; rfl
  have g2 : ws'.getD j 0 = ws'[j] := by rw [List.getD_eq_getElem?_getD, List.getElem?_eq_getElem c2]; rfl
  rw [← g1, ← g2, e, e', this]
/-- goodness by its bits -/
theorem good_of {s : Int} {ws : List Int} (h0 : 0 ≤ s) (h1 : s ≤ 4096) (h2 : (ws.length : Int) = (s + 15) / 16) (h3 : ∀ w ∈ ws, 0 ≤ w ∧ w ≤ 65535) (h4 : ∀ i : Nat, s ≤ (i : Int) → bitAt ws i = false) : Good s ws := by
  refine ⟨h0, h1, h2, h3, ?_⟩
  by_cases c : s % 16 = 0
  · exact Or.inl c
  · refine Or.inr ?_
    obtain ⟨n, e, hn⟩ := word_nat ws h3 (ws.length - 1)
    rw [e]
    have h5 : n < 2 ^ (s % 16).toNat := by
      apply Nat.lt_pow_two_of_testBit
      intro r hr
      by_cases c2 : r < 16
      · have a1 := bitAt_nat ws (16 * (ws.length - 1) + r) n (by rw [show (16 * (ws.length - 1) + r) / 16 = ws.length - 1 from by omega]; exact e)
        rw [show (16 * (ws.length - 1) + r) % 16 = r from by omega] at a1
        rw [← a1]
        exact h4 _ (by omega)
      · have hp : 2 ^ 16 ≤ 2 ^ r := Nat.pow_le_pow_right (by decide) (by omega)
        exact Nat.testBit_lt_two_pow (by omega)
    have e2 : (n : Int) / 2 ^ (s % 16).toNat = ((n / 2 ^ (s % 16).toNat : Nat) : Int) := by simp
    rw [e2, Nat.div_eq_of_lt h5]; rfl
theorem getD_set (ws : List Int) (j k : Nat) (x : Int) : (ws.set j x).getD k 0 = if j = k ∧ j < ws.length then x else ws.getD k 0 := by
  simp only [List.getD_eq_getElem?_getD, List.getElem?_set]
  by_cases c : j = k
  · subst c
    by_cases c2 : j < ws.length
    · simp [c2]
    · simp [c2, List.getElem?_eq_none (show ws.length ≤ j by omega)]
  · simp [c]
theorem or64 (a b : Nat) (ha : a < 2 ^ 16) (hb : b < 2 ^ 16) : Go.bits .or .i64 (a : Int) (b : Int) = ((a ||| b : Nat) : Int) :=
  (bits_nat .i64 62 (by decide) i64_small a b (by omega) (by omega)).2
theorem andNot64 (a b : Nat) (ha : a < 2 ^ 16) (hb : b < 2 ^ 16) : ∃ n : Nat, Go.bits .andNot .i64 (a : Int) (b : Int) = (n : Int) ∧ n < 2 ^ 16 ∧ ∀ r, n.testBit r = (a.testBit r && !b.testBit r) := by
  refine ⟨(BitVec.ofNat 64 a &&& ~~~ BitVec.ofNat 64 b).toNat, ?_, ?_, ?_⟩
  · have hb2 : (BitVec.ofNat 64 a &&& ~~~ BitVec.ofNat 64 b).toNat ≤ a := by
      rw [BitVec.toNat_and, BitVec.toNat_ofNat, Nat.mod_eq_of_lt (by omega)]; exact Nat.and_le_left
    have : Go.bits .andNot .i64 (a : Int) (b : Int) = IntKind.i64.wrap (((BitVec.ofNat 64 a &&& ~~~ BitVec.ofNat 64 b).toNat : Nat) : Int) := by
      simp only [Go.bits, BitVec.ofInt_natCast, IntKind.bits]; rfl
    rw [this, i64_small _ (by omega) (by omega)]
  · have hb2 : (BitVec.ofNat 64 a &&& ~~~ BitVec.ofNat 64 b).toNat ≤ a := by
      rw [BitVec.toNat_and, BitVec.toNat_ofNat, Nat.mod_eq_of_lt (by omega)]; exact Nat.and_le_left
    omega
  · intro r
    have hp : 2 ^ 16 ≤ 2 ^ 64 := by decide
    rw [BitVec.toNat_and, Nat.testBit_and, BitVec.toNat_ofNat, Nat.mod_eq_of_lt (by omega)]
    by_cases c : r < 64
    · congr 1
      rw [BitVec.testBit_toNat, BitVec.getLsbD_not, BitVec.getLsbD_ofNat]; simp [c]
    · have hp : 2 ^ 16 ≤ 2 ^ r := Nat.pow_le_pow_right (by decide) (by omega)
      rw [Nat.testBit_lt_two_pow (show a < 2 ^ r by omega)]; simp
theorem shl_pow (j : Nat) (hj : j < 60) : shl .i64 1 (j : Int) = ((2 ^ j : Nat) : Int) := by rw [shl_one j hj]; simp
/-- a word put in place of another -/
theorem good_put {s : Int} {ws : List Int} (h : Good s ws) (i : Nat) (hi : (i : Int) < s) (n : Nat) (hn : n < 2 ^ 16) (he : ∀ r, r < 16 → s ≤ ((16 * (i / 16) + r : Nat) : Int) → n.testBit r = false) :
    Good s (ws.set (i / 16) (n : Int)) ∧ ∀ k, bitAt (ws.set (i / 16) (n : Int)) k = if k / 16 = i / 16 then n.testBit (k % 16) else bitAt ws k := by
  obtain ⟨p1, p2⟩ := good_place h i hi
  have hb : ∀ k, bitAt (ws.set (i / 16) (n : Int)) k = if k / 16 = i / 16 then n.testBit (k % 16) else bitAt ws k := by
    intro k
    by_cases c : k / 16 = i / 16
    · rw [if_pos c]
      exact bitAt_nat _ _ _ (by rw [getD_set, if_pos ⟨c.symm, p1⟩])
    · rw [if_neg c]
      unfold bitAt
      rw [getD_set, if_neg (by omega)]
  refine ⟨good_of h.1 h.2.1 (by rw [List.length_set]; exact h.2.2.1) ?_ ?_, hb⟩
  · intro w hw
    rcases List.mem_or_eq_of_mem_set hw with hw | hw
    · exact h.2.2.2.1 w hw
    · subst hw; omega
  · intro k hk
    rw [hb]
    by_cases c : k / 16 = i / 16
    · rw [if_pos c]
      exact he (k % 16) (by omega) (by omega)
    · rw [if_neg c]; exact good_end h k hk
theorem tdiv16 (i : Nat) (hi : i < 4611686018427387904) : wrap64 (Int.tdiv (i : Int) 16) = ((i / 16 : Nat) : Int) := by
  rw [Int.tdiv_eq_ediv_of_nonneg (by omega), w64 (by omega) (by omega)]; omega
theorem tmod16 (i : Nat) : Int.tmod (i : Int) 16 = ((i % 16 : Nat) : Int) := by
  rw [Int.tmod_eq_emod_of_nonneg (by omega)]; omega
theorem rdD (ws : List Int) (j : Nat) : rd ws (j : Int) = ws.getD j 0 := by unfold rd; rw [Int.toNat_natCast]
/-- a bit set -/
theorem set_or {s : Int} {ws : List Int} (h : Good s ws) (i : Nat) (hi : (i : Int) < s) : ∃ ws', ws.set (i / 16) (Go.bits .or .i64 (ws.getD (i / 16) 0) (shl .i64 1 ((i % 16 : Nat) : Int))) = ws' ∧ Good s ws' ∧ ∀ k, bitAt ws' k = (decide (k = i) || bitAt ws k) := by
  obtain ⟨a, e, ha⟩ := word_nat ws h.2.2.2.1 (i / 16)
  have hp : 2 ^ (i % 16) < 2 ^ 16 := Nat.pow_lt_pow_right (by decide) (by omega)
  rw [e, shl_pow _ (by omega), or64 a _ ha hp]
  have ho : (a ||| 2 ^ (i % 16)) < 2 ^ 16 := Nat.or_lt_two_pow ha hp
  have tb : ∀ r, (a ||| 2 ^ (i % 16)).testBit r = (decide (r = i % 16) || a.testBit r) := by
    intro r; rw [Nat.testBit_or, Nat.testBit_two_pow, Bool.or_comm]; congr 1; rw [decide_eq_decide]; exact eq_comm
  have hw : ∀ k, k / 16 = i / 16 → a.testBit (k % 16) = bitAt ws k := fun k c => (bitAt_nat ws k a (by rw [c]; exact e)).symm
  obtain ⟨g, gb⟩ := good_put h i hi _ ho (by
    intro r hr hs
    rw [tb]
    have h1 := hw (16 * (i / 16) + r) (by omega)
    rw [show (16 * (i / 16) + r) % 16 = r from by omega, good_end h _ hs] at h1
    rw [h1, Bool.or_false, decide_eq_false_iff_not]; omega)
  refine ⟨_, rfl, g, fun k => ?_⟩
  rw [gb]
  by_cases c : k / 16 = i / 16
  · rw [if_pos c, tb, hw k c]; congr 1; rw [decide_eq_decide]; omega
  · rw [if_neg c, decide_eq_false (by intro e; exact c (by rw [e])), Bool.false_or]
/-- a bit cleared -/
theorem set_andNot {s : Int} {ws : List Int} (h : Good s ws) (i : Nat) (hi : (i : Int) < s) : ∃ ws', ws.set (i / 16) (Go.bits .andNot .i64 (ws.getD (i / 16) 0) (shl .i64 1 ((i % 16 : Nat) : Int))) = ws' ∧ Good s ws' ∧ ∀ k, bitAt ws' k = (!decide (k = i) && bitAt ws k) := by
  obtain ⟨a, e, ha⟩ := word_nat ws h.2.2.2.1 (i / 16)
  have hp : 2 ^ (i % 16) < 2 ^ 16 := Nat.pow_lt_pow_right (by decide) (by omega)
  obtain ⟨n, en, hn, tn⟩ := andNot64 a (2 ^ (i % 16)) ha hp
  rw [e, shl_pow _ (by omega), en]
  have tb : ∀ r, n.testBit r = (!decide (r = i % 16) && a.testBit r) := by
    intro r; rw [tn, Nat.testBit_two_pow, Bool.and_comm]; congr 2; rw [decide_eq_decide]; exact eq_comm
  have hw : ∀ k, k / 16 = i / 16 → a.testBit (k % 16) = bitAt ws k := fun k c => (bitAt_nat ws k a (by rw [c]; exact e)).symm
  obtain ⟨g, gb⟩ := good_put h i hi _ hn (by
    intro r hr hs
    rw [tb]
    have h1 := hw (16 * (i / 16) + r) (by omega)
    rw [show (16 * (i / 16) + r) % 16 = r from by omega, good_end h _ hs] at h1
    rw [h1, Bool.and_false])
  refine ⟨_, rfl, g, fun k => ?_⟩
  rw [gb]
  by_cases c : k / 16 = i / 16
  · rw [if_pos c, tb, hw k c]; congr 2; rw [decide_eq_decide]; omega
  · rw [if_neg c, decide_eq_false (by intro e; exact c (by rw [e]))]; simp

/-- the stack down to the node p -/
def cutSt (p : Int) : List Int → List Int
  | [] => []
  | a :: st => if a = p then a :: st else cutSt p st
/-- the bits of a tree list: the stack has the open nodes, the top ahead -/
def treeRun : List Int → Nat → List Int → List Bool → Option (List Bool)
  | [], _, st, acc => some (acc ++ List.replicate st.length false)
  | p :: rest, i, st, acc => if p = -1 ∨ p ∈ st then treeRun rest (i + 1) ((i : Int) :: cutSt p st) (acc ++ List.replicate (st.length - (cutSt p st).length) false ++ [true]) else none
theorem cutSt_suffix (p : Int) : ∀ st : List Int, ∃ pre, st = pre ++ cutSt p st ∧ p ∉ pre
  | [] => ⟨[], rfl, by simp⟩
  | a :: st => by
    by_cases c : a = p
    · exact ⟨[], by simp [cutSt, c], by simp⟩
    · obtain ⟨pre, e, h⟩ := cutSt_suffix p st
      refine ⟨a :: pre, ?_, ?_⟩
      · simp only [cutSt, if_neg c, List.cons_append]; rw [← e]
      · simp only [List.mem_cons, not_or]; exact ⟨fun e => c e.symm, h⟩
theorem cutSt_in (p : Int) : ∀ st : List Int, p ∈ st → ∃ s, cutSt p st = p :: s
  | [], h => by simp at h
  | a :: st, h => by
    by_cases c : a = p
    · exact ⟨st, by simp [cutSt, c]⟩
    · have : p ∈ st := by rcases List.mem_cons.mp h with h | h; exact absurd h.symm c; exact h
      obtain ⟨s, e⟩ := cutSt_in p st this
      exact ⟨s, by simp only [cutSt, if_neg c]; exact e⟩
theorem cutSt_out (p : Int) : ∀ st : List Int, p ∉ st → cutSt p st = []
  | [], _ => rfl
  | a :: st, h => by
    simp only [List.mem_cons, not_or] at h
    have c : ¬ a = p := fun e => h.1 e.symm
    simp only [cutSt, if_neg c]
    exact cutSt_out p st h.2
theorem cutSt_le (p : Int) (st : List Int) : (cutSt p st).length ≤ st.length := by
  obtain ⟨pre, e, _⟩ := cutSt_suffix p st
  have := congrArg List.length e
  rw [List.length_append] at this; omega
theorem cutSt_sub (p : Int) (st : List Int) (x : Int) (h : x ∈ cutSt p st) : x ∈ st := by
  obtain ⟨pre, e, _⟩ := cutSt_suffix p st
  rw [e]; exact List.mem_append_right _ h
/-- what the stack keeps -/
structure StOk (st : List Int) (i : Nat) : Prop where
  nd : st.Nodup
  rng : ∀ x ∈ st, 0 ≤ x ∧ x < (i : Int)
  len : st.length ≤ i
theorem stOk_nil : StOk [] 0 := ⟨by simp, by simp, by simp⟩
theorem stOk_next {st : List Int} {i : Nat} (p : Int) (h : StOk st i) : StOk ((i : Int) :: cutSt p st) (i + 1) := by
  obtain ⟨pre, e, _⟩ := cutSt_suffix p st
  have nd : (cutSt p st).Nodup := by
    have := h.nd; rw [e] at this; exact (List.nodup_append.mp this).2.1
  refine ⟨?_, ?_, ?_⟩
  · rw [List.nodup_cons]
    exact ⟨fun hm => by have := h.rng _ (cutSt_sub p st _ hm); omega, nd⟩
  · intro x hx
    rcases List.mem_cons.mp hx with hx | hx
    · omega
    · have := h.rng _ (cutSt_sub p st _ hx); omega
  · have := cutSt_le p st; have := h.len; simp only [List.length_cons]; omega
/-- the count of bits so far -/
theorem treeRun_len : ∀ (rest : List Int) (i : Nat) (st : List Int) (acc bits : List Bool), acc.length + st.length = 2 * i → treeRun rest i st acc = some bits → bits.length = 2 * (i + rest.length)
  | [], i, st, acc, bits, h, e => by
    simp only [treeRun, Option.some.injEq] at e
    subst e; simp only [List.length_append, List.length_replicate, List.length_nil]; omega
  | p :: rest, i, st, acc, bits, h, e => by
    simp only [treeRun] at e
    split at e
    · have hc := cutSt_le p st
      have := treeRun_len rest (i + 1) _ _ bits (by simp only [List.length_append, List.length_replicate, List.length_cons, List.length_nil]; omega) e
      rw [this]; simp only [List.length_cons]; omega
    · simp at e

def topSt : List Int → Int
  | [] => -1
  | a :: _ => a
/-- each node of the stack names the one below it -/
def Chain (ps : List Int) : List Int → Prop
  | [] => True
  | a :: st => (0 ≤ a ∧ a < ps.length ∧ rd ps a = topSt st) ∧ Chain ps st
theorem chain_cut (ps : List Int) (p : Int) : ∀ st, Chain ps st → Chain ps (cutSt p st)
  | [], _ => trivial
  | a :: st, h => by
    unfold cutSt
    split
    · exact h
    · exact chain_cut ps p st h.2
theorem treeS_up (ps : List Int) (p : Int) (n : Int) (i : Nat) (k0 : Nat) (hk0 : 0 < k0) (v : Option Bool) (hv : ∀ k, k0 ≤ k → spec_raTree.l0 k ps ps n (wrap64 ((i : Int) + 1)) = v) : ∀ (st : List Int) (up : Int) (k : Nat), up = topSt st → Chain ps st → st.length + 1 + k0 ≤ k →
    spec_raTree.l1 k ps p up ps n i = if p = -1 ∨ p ∈ st then v else some false := by
  intro st
  induction st with
  | nil =>
    intro up k hu _ hk
    obtain ⟨k, rfl⟩ := succOf (show 0 < k by omega)
    simp only [List.length_nil] at hk
    replace hu : up = -1 := hu
    simp only [spec_raTree.l1, List.not_mem_nil, or_false]
    have n1 : ¬ (up ≥ 0) := by omega
    rw [if_neg n1]
    by_cases c : p < -1
    · have n2 : ¬ (p = -1) := by omega
      rw [if_pos c, if_neg n2]
    · rw [if_neg c]
      by_cases c2 : up = p
      · have n2 : p = -1 := by omega
        rw [if_pos c2, if_pos n2]; exact hv k (by omega)
      · have n2 : ¬ (p = -1) := by omega
        rw [if_neg c2, if_neg n2]
  | cons a st ih =>
    intro up k hu h hk
    obtain ⟨k, rfl⟩ := succOf (show 0 < k by omega)
    simp only [List.length_cons] at hk
    replace hu : up = a := hu
    subst hu
    simp only [spec_raTree.l1]
    obtain ⟨⟨h1, h2, h3⟩, h4⟩ := h
    have n1 : up ≥ 0 := h1
    rw [if_pos n1]
    by_cases c : up = p
    · have n2 : ¬ (p < -1) := by omega
      have n3 : p = -1 ∨ p ∈ up :: st := Or.inr (by rw [c]; exact List.mem_cons_self)
      rw [if_pos c, if_neg n2, if_pos n3]; exact hv k (by omega)
    · have := ih (rd ps up) k h3 h4 (by omega)
      rw [if_neg c, if_pos h1, if_pos h2, this]
      have e : (p = -1 ∨ p ∈ up :: st) ↔ (p = -1 ∨ p ∈ st) := by
        simp only [List.mem_cons]
        constructor
        · rintro (h | h | h)
          · exact Or.inl h
          · exact absurd h.symm c
          · exact Or.inr h
        · rintro (h | h)
          · exact Or.inl h
          · exact Or.inr (Or.inr h)
      by_cases c3 : p = -1 ∨ p ∈ st
      · rw [if_pos c3, if_pos (e.mpr c3)]
      · rw [if_neg c3, if_neg (fun h => c3 (e.mp h))]
/-- a node that is not open: false, whatever follows -/
theorem treeS_no (ps : List Int) (p : Int) (n : Int) (i : Nat) : ∀ (st : List Int) (up : Int) (k : Nat), up = topSt st → Chain ps st → ¬ (p = -1 ∨ p ∈ st) → st.length + 1 ≤ k → spec_raTree.l1 k ps p up ps n i = some false := by
  intro st
  induction st with
  | nil =>
    intro up k hu _ hc hk
    obtain ⟨k, rfl⟩ := succOf (show 0 < k by omega)
    replace hu : up = -1 := hu
    simp only [List.not_mem_nil, or_false] at hc
    simp only [spec_raTree.l1]
    have n1 : ¬ (up ≥ 0) := by omega
    have n2 : ¬ (up = p) := by omega
    rw [if_neg n1, if_neg n2]
    by_cases c : p < -1
    · rw [if_pos c]
    · rw [if_neg c]
  | cons a st ih =>
    intro up k hu h hc hk
    obtain ⟨k, rfl⟩ := succOf (show 0 < k by omega)
    simp only [List.length_cons] at hk
    replace hu : up = a := hu
    subst hu
    obtain ⟨⟨h1, h2, h3⟩, h4⟩ := h
    simp only [List.mem_cons, not_or] at hc
    simp only [spec_raTree.l1]
    have n1 : up ≥ 0 := h1
    have n2 : ¬ (up = p) := fun e => hc.2.1 e.symm
    rw [if_pos n1, if_neg n2, if_pos h1, if_pos h2]
    exact ih (rd ps up) k h3 h4 (by simp only [not_or]; exact ⟨hc.1, hc.2.2⟩) (by omega)
theorem treeS_l (ps : List Int) (hn : ps.length ≤ 64) : ∀ (rest pre : List Int) (st : List Int) (acc : List Bool) (k : Nat), ps = pre ++ rest → StOk st pre.length → Chain ps st → topSt st = (pre.length : Int) - 1 → 70 * rest.length < k →
    spec_raTree.l0 k ps ps (ps.length : Int) pre.length = some (treeRun rest pre.length st acc).isSome
  | [], pre, st, acc, k, e, ho, hc, ht, hk => by
    obtain ⟨k, rfl⟩ := succOf hk
    have : ps.length = pre.length := by rw [e]; simp
    simp only [spec_raTree.l0, treeRun]
    rw [if_neg (by omega)]; rfl
  | p :: rest, pre, st, acc, k, e, ho, hc, ht, hk => by
    have hlen : ps.length = pre.length + rest.length + 1 := by rw [e]; simp; omega
    have e1 : rd ps (pre.length : Int) = p := by rw [e]; exact rd_mid pre rest p
    have e2 : (pre ++ [p]).length = pre.length + 1 := by simp
    simp only [List.length_cons] at hk
    obtain ⟨k, rfl⟩ := succOf (show 0 < k by omega)
    simp only [spec_raTree.l0]
    have hl := ho.len
    have hu := treeS_up ps p ps.length pre.length (70 * rest.length + 1) (by omega) (spec_raTree.l0 (70 * rest.length + 1) ps ps ps.length (wrap64 ((pre.length : Int) + 1)))
    by_cases c : p = -1 ∨ p ∈ st
    · have tp : topSt (cutSt p st) = p := by
        rcases c with c | c
        · rw [cutSt_out p st (fun h => by have := (ho.rng p h).1; omega)]; exact c.symm
        · obtain ⟨s, es⟩ := cutSt_in p st c; rw [es]; rfl
      have hh (k) (hk : 70 * rest.length < k) := treeS_l ps hn rest (pre ++ [p]) ((pre.length : Int) :: cutSt p st) (acc ++ List.replicate (st.length - (cutSt p st).length) false ++ [true]) k (by rw [e]; simp)
        (by rw [e2]; exact stOk_next p ho) ⟨⟨by omega, by omega, by rw [e1, tp]⟩, chain_cut ps p st hc⟩ (by rw [e2]; simp only [topSt]; omega) hk
      rw [e2] at hh
      have hu2 := hu (by intro k hk; rw [w64n _ (by omega), hh _ (by omega), hh _ (by omega)]) st ((pre.length : Int) - 1) k ht.symm hc (by omega)
      rw [if_pos (by omega), if_pos (by omega), if_pos (by omega), e1, w64 (by omega) (by omega), hu2, if_pos c]
      simp only [treeRun]
      rw [if_pos c, w64n _ (by omega), hh _ (by omega)]
    · have := treeS_no ps p ps.length pre.length st ((pre.length : Int) - 1) k ht.symm hc c (by omega)
      rw [if_pos (by omega), if_pos (by omega), if_pos (by omega), e1, w64 (by omega) (by omega), this]
      simp only [treeRun]
      rw [if_neg c]; rfl
theorem treeS (ps : List Int) (k : Nat) (hn : ps.length ≤ 64) (hk : 70 * 64 < k) : spec_raTree.f k ps = some (treeRun ps 0 [] []).isSome := by
  unfold spec_raTree.f
  rw [if_neg (by omega)]
  exact treeS_l ps hn ps [] [] [] k rfl stOk_nil trivial rfl (by omega)

theorem biSetS {s : Int} {ws : List Int} (h : Good s ws) (i : Nat) (hi : (i : Int) < s) : ∃ ws', spec_biSet.f s ws i = some ws' ∧ Good s ws' ∧ ∀ k, bitAt ws' k = (decide (k = i) || bitAt ws k) := by
  obtain ⟨p1, p2⟩ := good_place h i hi
  obtain ⟨ws', e, g, b⟩ := set_or h i hi
  refine ⟨ws', ?_, g, b⟩
  unfold spec_biSet.f
  rw [tdiv16 i (by omega), tmod16, if_pos (by omega), if_pos (by omega), if_pos (by omega), rdD, Int.toNat_natCast, e]
theorem good_zero (n : Nat) (hn : n ≤ 4096) : Good (n : Int) (List.replicate ((n + 15) / 16) 0) ∧ ∀ k, bitAt (List.replicate ((n + 15) / 16) 0) k = false := by
  have z : ∀ j, (List.replicate ((n + 15) / 16) (0 : Int)).getD j 0 = 0 := by
    intro j; rw [List.getD_eq_getElem?_getD, List.getElem?_replicate]; split <;> rfl
  have b : ∀ k, bitAt (List.replicate ((n + 15) / 16) 0) k = false := by
    intro k
    rw [bitAt_nat _ k 0 (by rw [z]; rfl)]; simp
  refine ⟨good_of (by omega) (by omega) (by rw [List.length_replicate]; omega) ?_ (fun i _ => b i), b⟩
  intro w hw
  have := List.eq_of_mem_replicate hw
  omega
theorem biNewS (n : Nat) (hn : n ≤ 4096) : spec_biNew.f (n : Int) = some ((n : Int), List.replicate ((n + 15) / 16) 0) := by
  unfold spec_biNew.f
  rw [words_eq (n : Int) (by omega) (by omega), if_pos (by omega)]
  rw [show (((n : Int) + 15) / 16).toNat = (n + 15) / 16 from by omega, if_pos (by omega)]

theorem biSomeS_l (bs : List Bool) (hn : bs.length ≤ 4096) (d : Nat) : ∀ (k i : Nat) (ws : List Int), i + d = bs.length → Good bs.length ws → (∀ j, bitAt ws j = (decide (j < i) && bs.getD j false)) → d < k →
    ∃ ws', spec_biSome.l0 k bs bs.length i bs.length ws = some ((bs.length : Int), ws') ∧ Good bs.length ws' ∧ ∀ j, bitAt ws' j = bs.getD j false := by
  induction d with
  | zero =>
    intro k i ws hi g hb hk
    obtain ⟨k, rfl⟩ := succOf hk
    simp only [spec_biSome.l0]
    rw [if_neg (by omega)]
    refine ⟨ws, rfl, g, fun j => ?_⟩
    rw [hb]
    by_cases c : j < i
    · simp [c]
    · rw [decide_eq_false c, Bool.false_and, List.getD_eq_getElem?_getD, List.getElem?_eq_none (by omega)]; rfl
  | succ d ih =>
    intro k i ws hi g hb hk
    obtain ⟨k, rfl⟩ := succOf hk
    simp only [spec_biSome.l0]
    have er : rdOf false bs (i : Int) = bs.getD i false := by unfold rdOf; rw [Int.toNat_natCast]
    rw [if_pos (by omega), if_pos (by omega), if_pos (by omega), er, w64n i (by omega)]
    by_cases c : bs.getD i false = true
    · rw [if_pos c]
      obtain ⟨w2, e2, g2, b2⟩ := biSetS g i (by omega)
      rw [e2, Option.bind_some]
      refine ih k (i + 1) w2 (by omega) g2 (fun j => ?_) (by omega)
      rw [b2, hb]
      by_cases cj : j = i
      · subst cj; simp [c, -List.getD_eq_getElem?_getD]
      · rw [decide_eq_false cj, Bool.false_or]; congr 1; rw [decide_eq_decide]; omega
    · rw [if_neg c]
      refine ih k (i + 1) ws (by omega) g (fun j => ?_) (by omega)
      rw [hb]
      by_cases cj : j = i
      · subst cj; simp [Bool.not_eq_true _ ▸ c, -List.getD_eq_getElem?_getD]
      · congr 1; rw [decide_eq_decide]; omega
theorem biSomeS (bs : List Bool) (hn : bs.length ≤ 4096) : ∃ ws', Good bs.length ws' ∧ (∀ j, bitAt ws' j = bs.getD j false) ∧ ∀ k, bs.length < k → spec_biSome.f k bs = some ((bs.length : Int), ws') := by
  obtain ⟨z1, z2⟩ := good_zero bs.length hn
  obtain ⟨ws', e, g, b⟩ := biSomeS_l bs hn bs.length (bs.length + 1) 0 (List.replicate ((bs.length + 15) / 16) 0) (by omega) z1 (by intro j; rw [z2]; simp) (by omega)
  refine ⟨ws', g, b, fun k hk => ?_⟩
  obtain ⟨ws2, e2, g2, b2⟩ := biSomeS_l bs hn bs.length k 0 (List.replicate ((bs.length + 15) / 16) 0) (by omega) z1 (by intro j; rw [z2]; simp) (by omega)
  have : ws' = ws2 := good_ext g g2 (fun i _ => by rw [b, b2])
  unfold spec_biSome.f
  rw [biNewS bs.length hn, Option.bind_some]
  rw [this]; exact e2

theorem rd_revtop (a : Int) (st : List Int) : rd (a :: st).reverse (st.length : Int) = a := by
  rw [List.reverse_cons]
  have := rd_mid st.reverse [] a
  rwa [List.length_reverse] at this
theorem take_rev (a : Int) (st : List Int) : (a :: st).reverse.take st.length = st.reverse := by
  rw [List.reverse_cons, List.take_append_of_le_length (by simp), List.take_of_length_le (by simp)]
theorem fromS_pop (ps : List Int) (n p : Int) (i : Nat) (k0 : Nat) (v : Option (Int × List Int)) (st0 : List Int) (acc0 : List Bool) (hv : ∀ k, k0 ≤ k → spec_raFrom.l0 k acc0 ((i : Int) :: st0).reverse ps n (wrap64 ((i : Int) + 1)) = v) : ∀ (st : List Int) (acc : List Bool) (k : Nat), cutSt p st = st0 → acc ++ List.replicate (st.length - st0.length) false ++ [true] = acc0 → st.length < 1000 → acc.length + st.length < 1000 → st.length + 1 + k0 ≤ k →
    spec_raFrom.l1 k acc st.reverse i p ps n i = v
  | [], acc, k, hc, ha, hl, hl2, hk => by
    obtain ⟨k, rfl⟩ := succOf (show 0 < k by omega)
    simp only [cutSt] at hc
    subst hc
    simp only [List.length_nil, Nat.sub_self, List.replicate_zero, List.append_nil] at hk ha hl2
    have n1 : ¬ ((([] : List Int).reverse.length : Int) > 0) := by simp
    have n2 : ([] : List Int).reverse.length < 17592186044416 := by simp
    have n3 : acc.length < 140737488355328 := by omega
    simp only [spec_raFrom.l1]
    rw [if_neg n1, if_pos n2, if_pos n3]
    have := hv k (by omega)
    rw [← ha] at this
    exact this
  | a :: st, acc, k, hc, ha, hl, hl2, hk => by
    obtain ⟨k, rfl⟩ := succOf (show 0 < k by omega)
    simp only [List.length_cons] at hk ha hl hl2
    simp only [spec_raFrom.l1]
    have el : ((a :: st).reverse.length : Int) = (st.length : Int) + 1 := by simp
    have e1 : wrap64 ((st.length : Int) + 1 - 1) = (st.length : Int) := by rw [w64 (by omega) (by omega)]; omega
    rw [el, e1, if_pos (by omega), if_pos (by omega), if_pos (by omega), rd_revtop]
    by_cases c : a = p
    · rw [if_pos c, if_pos (by simp; omega), if_pos (by omega)]
      simp only [cutSt, if_pos c] at hc
      subst hc
      have := hv k (by omega)
      rw [← ha] at this
      simp only [List.length_cons, Nat.sub_self, List.replicate_zero, List.append_nil] at this
      rw [← List.reverse_cons]; exact this
    · rw [if_neg c, if_pos (by omega), if_pos (by omega), Int.toNat_natCast, take_rev]
      simp only [cutSt, if_neg c] at hc
      have hle := cutSt_le p st
      rw [hc] at hle
      refine fromS_pop ps n p i k0 v st0 acc0 hv st (acc ++ [false]) k hc ?_ (by omega) (by simp only [List.length_append, List.length_cons, List.length_nil]; omega) (by omega)
      rw [← ha, show st.length + 1 - st0.length = (st.length - st0.length) + 1 from by omega, List.replicate_succ]; simp
theorem fromS_end (v : Option (Int × List Int)) (bits : List Bool) (hb : bits.length < 1000) (hv : ∀ k, 200 ≤ k → spec_biSome.f k bits = v) (d : Nat) : ∀ (n i : Nat) (acc : List Bool) (k : Nat), i + d = n → n < 1000 → acc ++ List.replicate d false = bits → 200 + d < k →
    spec_raFrom.l2 k acc n i = v := by
  induction d with
  | zero =>
    intro n i acc k hi hn ha hk
    obtain ⟨k, rfl⟩ := succOf (show 0 < k by omega)
    simp only [spec_raFrom.l2]
    simp only [List.replicate_zero, List.append_nil] at ha
    rw [if_neg (by omega), ha, hv k (by omega)]
    cases v <;> rfl
  | succ d ih =>
    intro n i acc k hi hn ha hk
    obtain ⟨k, rfl⟩ := succOf (show 0 < k by omega)
    simp only [spec_raFrom.l2]
    have hl := congrArg List.length ha
    simp only [List.length_append, List.length_replicate] at hl
    rw [if_pos (by omega), if_pos (by omega), w64n i (by omega)]
    refine ih n (i + 1) (acc ++ [false]) k (by omega) hn ?_ (by omega)
    rw [← ha, List.replicate_succ]; simp
theorem fromS_l (ps : List Int) (hn : ps.length ≤ 64) (bits : List Bool) (v : Option (Int × List Int)) (hv : ∀ k, 200 ≤ k → spec_biSome.f k bits = v) : ∀ (rest pre : List Int) (st : List Int) (acc : List Bool) (k : Nat), ps = pre ++ rest → StOk st pre.length → acc.length + st.length = 2 * pre.length → treeRun rest pre.length st acc = some bits → 70 * rest.length + 300 < k →
    spec_raFrom.l0 k acc st.reverse ps (ps.length : Int) pre.length = v
  | [], pre, st, acc, k, e, ho, ha, hr, hk => by
    obtain ⟨k, rfl⟩ := succOf (show 0 < k by omega)
    have : ps.length = pre.length := by rw [e]; simp
    have hl := ho.len
    simp only [treeRun, Option.some.injEq] at hr
    simp only [spec_raFrom.l0]
    rw [if_neg (by omega), List.length_reverse]
    refine fromS_end v bits ?_ hv st.length st.length 0 acc k (by omega) (by omega) hr (by simp only [List.length_nil] at hk; omega)
    rw [← hr]; simp only [List.length_append, List.length_replicate]; omega
  | p :: rest, pre, st, acc, k, e, ho, ha, hr, hk => by
    have hlen : ps.length = pre.length + rest.length + 1 := by rw [e]; simp; omega
    have e1 : rd ps (pre.length : Int) = p := by rw [e]; exact rd_mid pre rest p
    have e2 : (pre ++ [p]).length = pre.length + 1 := by simp
    have hc := cutSt_le p st
    have hl := ho.len
    simp only [List.length_cons] at hk
    obtain ⟨k, rfl⟩ := succOf (show 0 < k by omega)
    simp only [treeRun] at hr
    split at hr
    · have hh (k) (hk : 70 * rest.length + 300 < k) := fromS_l ps hn bits v hv rest (pre ++ [p]) ((pre.length : Int) :: cutSt p st) (acc ++ List.replicate (st.length - (cutSt p st).length) false ++ [true]) k (by rw [e]; simp)
        (by rw [e2]; exact stOk_next p ho) (by rw [e2]; simp only [List.length_append, List.length_replicate, List.length_cons, List.length_nil]; omega) (by rw [e2]; exact hr) hk
      rw [e2] at hh
      simp only [spec_raFrom.l0]
      rw [if_pos (by omega), if_pos (by omega), if_pos (by omega), e1]
      exact fromS_pop ps _ p pre.length (70 * rest.length + 301) v (cutSt p st) _ (by intro k hk; rw [w64n _ (by omega)]; exact hh k (by omega)) st acc k rfl rfl (by omega) (by omega) (by omega)
    · simp at hr
theorem fromS (ps : List Int) (hn : ps.length ≤ 64) (bits : List Bool) (hr : treeRun ps 0 [] [] = some bits) : ∃ ws', Good bits.length ws' ∧ (∀ j, bitAt ws' j = bits.getD j false) ∧ ∀ k, 70 * 64 + 300 < k → spec_raFrom.f k ps = some ((bits.length : Int), ws') := by
  have hb := treeRun_len ps 0 [] [] bits rfl hr
  obtain ⟨ws', g, b, e⟩ := biSomeS bits (by omega)
  refine ⟨ws', g, b, fun k hk => ?_⟩
  exact fromS_l ps hn bits _ (fun k hk => e k (by omega)) ps [] [] [] k rfl stOk_nil rfl hr (by omega)

theorem setI {s : Int} {ws : List Int} (h : Good s ws) (i : Nat) (hi : (i : Int) < s) (v : Bool) : ∃ ws', impl_Bits_set.f s ws i v = some ws' ∧ Good s ws' ∧ ∀ k, bitAt ws' k = if k = i then v else bitAt ws k := by
  obtain ⟨p1, p2⟩ := good_place h i hi
  obtain ⟨w1, e1, g1, b1⟩ := set_andNot h i hi
  obtain ⟨w2, e2, g2, b2⟩ := set_or g1 i hi
  unfold impl_Bits_set.f
  rw [tdiv16 i (by omega), tmod16, if_pos (by omega), if_pos (by omega), if_pos (by omega), rdD, Int.toNat_natCast, e1, Option.bind_some, rdD, e2]
  cases v
  · refine ⟨w1, by rw [if_neg (by simp)], g1, fun k => ?_⟩
    rw [b1]
    by_cases c : k = i <;> simp [c]
  · refine ⟨w2, by rw [if_pos rfl], g2, fun k => ?_⟩
    rw [b2, b1]
    by_cases c : k = i <;> simp [c]

theorem index_l (l : List Int) (p : Int) (hl : l.length < 9223372036854775807) : ∀ (suf pre : List Int) (k : Nat), l = pre ++ suf → suf.length < k →
    (p ∉ suf → slices_Index_int_int.l0 k l p l.length pre.length = some (-1)) ∧ (∀ s1 s2, suf = s1 ++ p :: s2 → p ∉ s1 → slices_Index_int_int.l0 k l p l.length pre.length = some (((pre.length + s1.length : Nat) : Int)))
  | [], pre, k, e, hk => by
    obtain ⟨k, rfl⟩ := succOf hk
    have : l.length = pre.length := by rw [e]; simp
    simp only [slices_Index_int_int.l0]
    rw [if_neg (by omega)]
    refine ⟨fun _ => rfl, ?_⟩
    intro s1 s2 h; simp at h
  | x :: suf, pre, k, e, hk => by
    obtain ⟨k, rfl⟩ := succOf (show 0 < k by omega)
    simp only [List.length_cons] at hk
    have hlen : l.length = pre.length + suf.length + 1 := by rw [e]; simp; omega
    have e1 : rd l (pre.length : Int) = x := by rw [e]; exact rd_mid pre suf x
    have e2 : (pre ++ [x]).length = pre.length + 1 := by simp
    have h3 := index_l l p hl suf (pre ++ [x]) k (by rw [e]; simp) (by omega)
    rw [e2] at h3
    simp only [slices_Index_int_int.l0]
    rw [if_pos (by omega), if_pos (by omega), if_pos (by omega), e1, w64n _ (by omega)]
    by_cases c : p = x
    · rw [if_pos c]
      refine ⟨fun h => absurd (by rw [c]; exact List.mem_cons_self) h, ?_⟩
      intro s1 s2 h hn
      cases s1 with
      | nil => rfl
      | cons y s1 =>
        simp only [List.cons_append, List.cons.injEq] at h
        exact absurd (by rw [c, h.1]; exact List.mem_cons_self) hn
    · rw [if_neg c]
      refine ⟨fun h => h3.1 (fun g => h (List.mem_cons_of_mem _ g)), ?_⟩
      intro s1 s2 h hn
      cases s1 with
      | nil =>
        simp only [List.nil_append, List.cons.injEq] at h
        exact absurd h.1.symm c
      | cons y s1 =>
        simp only [List.cons_append, List.cons.injEq] at h
        rw [h3.2 s1 s2 h.2 (fun g => hn (List.mem_cons_of_mem _ g)), List.length_cons]
        congr 2; omega
theorem index_st (st : List Int) (i : Nat) (p : Int) (ho : StOk st i) (hi : i < 1000) (k : Nat) (hk : st.length < k) : slices_Index_int_int.f k st.reverse p = some (((cutSt p st).length : Int) - 1) := by
  have hl := ho.len
  have h := index_l st.reverse p (by simp; omega) st.reverse [] k rfl (by simp; omega)
  unfold slices_Index_int_int.f
  simp only [List.length_nil, Int.natCast_zero] at h
  by_cases c : p ∈ st
  · obtain ⟨s, es⟩ := cutSt_in p st c
    obtain ⟨pre, e, hp⟩ := cutSt_suffix p st
    have nd := ho.nd
    rw [e, es] at nd
    have hs : p ∉ s := (List.nodup_cons.mp (List.nodup_append.mp nd).2.1).1
    rw [h.2 s.reverse pre.reverse (by rw [e, es]; simp) (by simpa using hs), es]
    simp
  · rw [h.1 (by simpa using c), cutSt_out p st c]; rfl

theorem blankI (n : Nat) (hn : n ≤ 4096) : impl_blank.f (n : Int) = some ((n : Int), List.replicate ((n + 15) / 16) 0) := by
  unfold impl_blank.f impl_words.f
  rw [words_eq2 (n : Int) (by omega) (by omega), Option.bind_some, if_pos (by omega)]
  rw [show (((n : Int) + 15) / 16).toNat = (n + 15) / 16 from by omega, if_pos (by omega)]

theorem take_cut (p : Int) (st : List Int) : st.reverse.take (cutSt p st).length = (cutSt p st).reverse := by
  obtain ⟨pre, e, _⟩ := cutSt_suffix p st
  generalize cutSt p st = q at *
  subst e
  rw [List.reverse_append, List.take_append_of_le_length (by simp), List.take_of_length_le (by simp)]
theorem prnI_l (ps : List Int) (hn : ps.length ≤ 64) : ∀ (rest pre : List Int) (st : List Int) (acc : List Bool) (ws : List Int) (k : Nat), ps = pre ++ rest → StOk st pre.length → acc.length + st.length = 2 * pre.length → Good ((2 * ps.length : Nat) : Int) ws → (∀ j, bitAt ws j = acc.getD j false) → rest.length + 70 < k →
    (treeRun rest pre.length st acc = none ∧ impl_ParenthesesOf.l0 k st.reverse acc.length ps (ps.length : Int) pre.length ((2 * ps.length : Nat) : Int) ws = some (0, [], false)) ∨
    ∃ bits ws', treeRun rest pre.length st acc = some bits ∧ impl_ParenthesesOf.l0 k st.reverse acc.length ps (ps.length : Int) pre.length ((2 * ps.length : Nat) : Int) ws = some (((2 * ps.length : Nat) : Int), ws', true) ∧ Good ((2 * ps.length : Nat) : Int) ws' ∧ ∀ j, bitAt ws' j = bits.getD j false
  | [], pre, st, acc, ws, k, e, ho, ha, hg, hb, hk => by
    obtain ⟨k, rfl⟩ := succOf (show 0 < k by omega)
    have : ps.length = pre.length := by rw [e]; simp
    refine Or.inr ⟨_, ws, rfl, ?_, hg, ?_⟩
    · simp only [impl_ParenthesesOf.l0]
      rw [if_neg (by omega)]
    · intro j
      rw [hb, List.getD_eq_getElem?_getD, List.getD_eq_getElem?_getD, List.getElem?_append]
      split
      · rfl
      · rw [List.getElem?_eq_none (by omega), List.getElem?_replicate]; split <;> rfl
  | p :: rest, pre, st, acc, ws, k, e, ho, ha, hg, hb, hk => by
    have hlen : ps.length = pre.length + rest.length + 1 := by rw [e]; simp; omega
    have e1 : rd ps (pre.length : Int) = p := by rw [e]; exact rd_mid pre rest p
    have e2 : (pre ++ [p]).length = pre.length + 1 := by simp
    have hc := cutSt_le p st
    have hl := ho.len
    simp only [List.length_cons] at hk
    obtain ⟨k, rfl⟩ := succOf (show 0 < k by omega)
    simp only [impl_ParenthesesOf.l0]
    rw [if_pos (by omega), if_pos (by omega), if_pos (by omega), e1, index_st st pre.length p ho (by omega) k (by omega), Option.bind_some]
    obtain ⟨d, hd⟩ : ∃ d, d = st.length - (cutSt p st).length := ⟨_, rfl⟩
    obtain ⟨q, hq⟩ : ∃ q, q = acc.length + d := ⟨_, rfl⟩
    have hq1 : q < 1000 := by omega
    obtain ⟨w1, w2, w3, w4, w5⟩ : wrap64 (((cutSt p st).length : Int) - 1 + 1) = ((cutSt p st).length : Int) ∧ wrap64 ((st.reverse.length : Int) - (cutSt p st).length) = (d : Int) ∧ wrap64 ((acc.length : Int) + (d : Int)) = (q : Int) ∧ wrap64 ((q : Int) + 1) = ((q + 1 : Nat) : Int) ∧ wrap64 ((pre.length : Int) + 1) = ((pre.length + 1 : Nat) : Int) := by
      refine ⟨?_, ?_, ?_, w64n q (by omega), w64n pre.length (by omega)⟩
      · rw [w64 (by omega) (by omega)]; omega
      · rw [List.length_reverse, w64 (by omega) (by omega)]; omega
      · rw [w64 (by omega) (by omega)]; omega
    rw [w1, w2, w3, w4, w5]
    clear w1 w2 w3 w4 w5
    by_cases c : p = -1 ∨ p ∈ st
    · obtain ⟨w', e4, g4, b4⟩ := setI hg (q) (by omega) true
      have el : (acc ++ List.replicate (d) false ++ [true]).length = q + 1 := by
        simp only [List.length_append, List.length_replicate, List.length_cons, List.length_nil]; omega
      have hb2 : ∀ j, bitAt w' j = (acc ++ List.replicate (d) false ++ [true]).getD j false := by
        intro j
        rw [b4, hb, List.getD_eq_getElem?_getD, List.getD_eq_getElem?_getD, List.getElem?_append, List.getElem?_append]
        simp only [List.length_append, List.length_replicate]
        rw [← hq]
        by_cases c1 : j = q
        · rw [if_pos c1, if_neg (by omega), show j - (q) = 0 from by omega]; rfl
        · rw [if_neg c1]
          by_cases c2 : j < acc.length
          · rw [if_pos (by omega), if_pos c2]
          · rw [List.getElem?_eq_none (by omega)]
            by_cases c3 : j < q
            · rw [if_pos c3, if_neg c2, List.getElem?_replicate, if_pos (by omega)]; rfl
            · rw [if_neg c3, List.getElem?_eq_none (by simp only [List.length_cons, List.length_nil]; omega)]
      have hh := prnI_l ps hn rest (pre ++ [p]) ((pre.length : Int) :: cutSt p st) (acc ++ List.replicate (d) false ++ [true]) w' k (by rw [e]; simp)
        (by rw [e2]; exact stOk_next p ho) (by rw [e2, el]; simp only [List.length_cons]; omega) g4 hb2 (by omega)
      rw [e2, el, List.reverse_cons] at hh
      have er : treeRun (p :: rest) pre.length st acc = treeRun rest (pre.length + 1) ((pre.length : Int) :: cutSt p st) (acc ++ List.replicate (d) false ++ [true]) := by
        simp only [treeRun]; rw [if_pos c, ← hd]
      rw [er]
      have body : ((some (st.reverse.take (((cutSt p st).length : Int)).toNat : List Int)).bind fun y => (if y.length < 17592186044416 then (impl_ParenthesesOf.l0 k (y ++ [(pre.length : Int)]) ((q + 1 : Nat) : Int) ps (ps.length : Int) ((pre.length + 1 : Nat) : Int) ((2 * ps.length : Nat) : Int) w') else (none))) = impl_ParenthesesOf.l0 k ((cutSt p st).reverse ++ [(pre.length : Int)]) ((q + 1 : Nat) : Int) ps (ps.length : Int) ((pre.length + 1 : Nat) : Int) ((2 * ps.length : Nat) : Int) w' := by
        rw [Int.toNat_natCast, take_cut, Option.bind_some, if_pos (by simp; omega)]
      by_cases c5 : ((cutSt p st).length : Int) - 1 < 0
      · have cp : p = -1 := by
          rcases c with c | c
          · exact c
          · obtain ⟨s, es⟩ := cutSt_in p st c
            rw [es] at c5; simp at c5; omega
        rw [if_pos c5, if_pos cp, e4, Option.bind_some, if_pos (by omega), if_pos (by rw [List.length_reverse]; omega), body]
        exact hh
      · rw [if_neg c5, e4, Option.bind_some, if_pos (by omega), if_pos (by rw [List.length_reverse]; omega), body]
        exact hh
    · have c' : p ∉ st := fun h => c (Or.inr h)
      refine Or.inl ⟨by simp only [treeRun]; rw [if_neg c], ?_⟩
      rw [cutSt_out p st c']
      rw [if_pos (by simp), if_neg (fun h => c (Or.inl h))]

theorem parBoth (ps : List Int) : ∃ r : Int × List Int × Bool, r.2.1.length ≤ 5000 ∧ (∀ k, 6000 ≤ k → spec_ParenthesesOf.f k ps = some r) ∧ (∀ k, 6000 ≤ k → impl_ParenthesesOf.f k ps = some r) := by
  by_cases hn : ps.length ≤ 64
  · obtain ⟨z1, z2⟩ := good_zero (2 * ps.length) (by omega)
    have w0 : wrap64 (2 * (ps.length : Int)) = ((2 * ps.length : Nat) : Int) := by rw [w64 (by omega) (by omega)]; omega
    have hI (k) (hk : 6000 ≤ k) := prnI_l ps hn ps [] [] [] (List.replicate ((2 * ps.length + 15) / 16) 0) k rfl stOk_nil rfl z1 (by intro j; rw [z2]; simp) (by omega)
    cases hr : treeRun ps 0 [] [] with
    | none =>
      refine ⟨(0, [], false), by simp, fun k hk => ?_, fun k hk => ?_⟩
      · unfold spec_ParenthesesOf.f
        rw [treeS ps k hn (by omega), hr, Option.bind_some, if_neg (by simp)]
      · unfold impl_ParenthesesOf.f
        rw [if_neg (by omega), w0, blankI _ (by omega), Option.bind_some]
        rcases hI k hk with ⟨_, h⟩ | ⟨bits, ws', h, _⟩
        · exact h
        · simp only [List.length_nil] at h; rw [hr] at h; simp at h
    | some bits =>
      have hb := treeRun_len ps 0 [] [] bits rfl hr
      rw [Nat.zero_add] at hb
      obtain ⟨ws', g, b, e⟩ := fromS ps hn bits hr
      rw [hb] at g e
      refine ⟨(((2 * ps.length : Nat) : Int), ws', true), ?_, fun k hk => ?_, fun k hk => ?_⟩
      · have := g.2.2.1; simp only; omega
      · unfold spec_ParenthesesOf.f
        rw [treeS ps k hn (by omega), hr, Option.bind_some, if_pos (by simp), e k (by omega), Option.bind_some]
      · unfold impl_ParenthesesOf.f
        rw [if_neg (by omega), w0, blankI _ (by omega), Option.bind_some]
        rcases hI k hk with ⟨h, _⟩ | ⟨bits', ws2, h, h2, g2, b2⟩
        · simp only [List.length_nil] at h; rw [hr] at h; simp at h
        · simp only [List.length_nil] at h; rw [hr] at h
          obtain rfl : bits = bits' := by simpa using h
          have : ws2 = ws' := good_ext g2 g (fun j _ => by rw [b2, b])
          rw [← this]; exact h2
  · refine ⟨(0, [], false), by simp, fun k hk => ?_, fun k hk => ?_⟩
    · unfold spec_ParenthesesOf.f spec_raTree.f
      rw [if_pos (by omega), Option.bind_some, if_neg (by simp)]
    · unfold impl_ParenthesesOf.f
      rw [if_pos (by omega)]

/-- how many of n bits from i on are on -/
def ones (b : Nat → Bool) : Nat → Nat → Nat
  | _, 0 => 0
  | i, n + 1 => (if b i = true then 1 else 0) + ones b (i + 1) n
theorem ones_le (b : Nat → Bool) (n : Nat) : ∀ i, ones b i n ≤ n := by
  induction n with
  | zero => intro i; exact Nat.le_refl _
  | succ n ih => intro i; have := ih (i + 1); simp only [ones]; split <;> omega
theorem ones_snoc (b : Nat → Bool) (n : Nat) : ∀ i, ones b i (n + 1) = ones b i n + (if b (i + n) = true then 1 else 0) := by
  induction n with
  | zero => intro i; simp [ones]
  | succ n ih =>
    intro i
    rw [ones, ih (i + 1), ones, show i + 1 + n = i + (n + 1) from by omega]; omega
theorem ones_add (b : Nat → Bool) (m : Nat) : ∀ i n, ones b i (m + n) = ones b i m + ones b (i + m) n := by
  induction m with
  | zero => intro i n; simp [ones]
  | succ m ih =>
    intro i n
    rw [show m + 1 + n = (m + n) + 1 from by omega, ones, ih (i + 1) n, ones, show i + 1 + m = i + (m + 1) from by omega]; omega

/-- what is open before place i, the latest first; none where a bit closed nothing -/
def stk (b : Nat → Bool) : Nat → Option (List Nat)
  | 0 => some []
  | i + 1 => match stk b i with
    | none => none
    | some st => if b i = true then some (i :: st) else match st with
      | [] => none
      | _ :: t => some t
theorem stk_none (b : Nat → Bool) (i d : Nat) (h : stk b i = none) : stk b (i + d) = none := by
  induction d with
  | zero => exact h
  | succ d ih => rw [← Nat.add_assoc, stk, ih]
theorem stk_some (b : Nat → Bool) (i j : Nat) (hij : i ≤ j) {st : List Nat} (h : stk b j = some st) : ∃ s, stk b i = some s := by
  cases e : stk b i with
  | some s => exact ⟨s, rfl⟩
  | none => have := stk_none b i (j - i) e; rw [show i + (j - i) = j from by omega, h] at this; cases this
theorem stk_push {b : Nat → Bool} {i : Nat} {st : List Nat} (h : stk b i = some st) (hb : b i = true) : stk b (i + 1) = some (i :: st) := by
  rw [stk, h]; simp [hb]
theorem stk_pop {b : Nat → Bool} {i j : Nat} {t : List Nat} (h : stk b i = some (j :: t)) (hb : b i = false) : stk b (i + 1) = some t := by
  rw [stk, h]; simp [hb]
theorem stk_fail {b : Nat → Bool} {i : Nat} (h : stk b i = some []) (hb : b i = false) : stk b (i + 1) = none := by
  rw [stk, h]; simp [hb]
/-- its length is the excess -/
theorem stk_len (b : Nat → Bool) (i : Nat) : ∀ st, stk b i = some st → (2 * (ones b 0 i : Int)) - i = st.length := by
  induction i with
  | zero => intro st h; simp [stk] at h; subst h; rfl
  | succ i ih =>
    intro st h
    obtain ⟨s, hs⟩ := stk_some b i (i + 1) (by omega) h
    have h1 := ih s hs
    have h2 := ones_snoc b i 0
    rw [Nat.zero_add] at h2
    cases c : b i
    · cases s with
      | nil => rw [stk_fail hs c] at h; cases h
      | cons j t =>
        rw [stk_pop hs c] at h; cases h
        rw [c] at h2; simp at h2 h1; omega
    · rw [stk_push hs c] at h; cases h
      rw [c] at h2; simp at h2 ⊢; omega
/-- j is open before i, over t -/
def InSt (b : Nat → Bool) (i j : Nat) (t : List Nat) : Prop :=
  stk b j = some t ∧ b j = true ∧ j < i ∧ ∀ m, j < m → m ≤ i → ∃ u, stk b m = some (u ++ j :: t)
theorem inSt (b : Nat → Bool) (i : Nat) : ∀ u j t, stk b i = some (u ++ j :: t) → InSt b i j t := by
  induction i with
  | zero => intro u j t h; simp [stk] at h
  | succ i ih =>
    intro u j t h
    obtain ⟨s, hs⟩ := stk_some b i (i + 1) (by omega) h
    have more (u' : List Nat) (hi : InSt b i j t) : InSt b (i + 1) j t := by
      refine ⟨hi.1, hi.2.1, by have := hi.2.2.1; omega, fun m h1 h2 => ?_⟩
      by_cases e : m = i + 1
      · subst e; exact ⟨u, h⟩
      · exact hi.2.2.2 m h1 (by omega)
    cases c : b i
    · cases s with
      | nil => rw [stk_fail hs c] at h; cases h
      | cons k s =>
        rw [stk_pop hs c] at h
        have e : s = u ++ j :: t := Option.some.inj h
        exact more [] (ih (k :: u) j t (by rw [hs, e]; rfl))
    · rw [stk_push hs c] at h
      have e : i :: s = u ++ j :: t := Option.some.inj h
      cases u with
      | nil =>
        simp at e
        obtain ⟨rfl, rfl⟩ := e
        refine ⟨hs, c, by omega, fun m h1 h2 => ?_⟩
        have : m = i + 1 := by omega
        subst this
        exact ⟨[], stk_push hs c⟩
      | cons x u =>
        simp at e
        exact more [] (ih u j t (by rw [hs, e.2]))
theorem stk_lt (b : Nat → Bool) (i : Nat) {st : List Nat} (h : stk b i = some st) (j : Nat) (hj : j ∈ st) : j < i ∧ b j = true := by
  obtain ⟨u, t, rfl⟩ := List.append_of_mem hj
  have := inSt b i u j t h
  exact ⟨this.2.2.1, this.2.1⟩
theorem stk_sorted (b : Nat → Bool) (i : Nat) : ∀ st, stk b i = some st → st.Pairwise (· > ·) := by
  induction i with
  | zero => intro st h; simp [stk] at h; subst h; exact List.Pairwise.nil
  | succ i ih =>
    intro st h
    obtain ⟨s, hs⟩ := stk_some b i (i + 1) (by omega) h
    have hp := ih s hs
    cases c : b i
    · cases s with
      | nil => rw [stk_fail hs c] at h; cases h
      | cons k s => rw [stk_pop hs c] at h; cases h; exact (List.pairwise_cons.1 hp).2
    · rw [stk_push hs c] at h; cases h
      exact List.pairwise_cons.2 ⟨fun j hj => (stk_lt b i hs j hj).1, hp⟩
/-- c closes j -/
def Mt (b : Nat → Bool) (j c : Nat) : Prop := b c = false ∧ ∃ t, stk b c = some (j :: t) ∧ InSt b c j t
theorem mt_of {b : Nat → Bool} {j c : Nat} {t : List Nat} (h : stk b c = some (j :: t)) (hb : b c = false) : Mt b j c := ⟨hb, t, h, inSt b c [] j t h⟩
theorem mt_unique {b : Nat → Bool} {j c d : Nat} (h : Mt b j c) (g : Mt b j d) : c = d := by
  have half : ∀ c d, Mt b j c → Mt b j d → ¬ c < d := by
    intro c d h g hlt
    obtain ⟨hb, t, h1, h2⟩ := h
    obtain ⟨hb', t', g1, g2⟩ := g
    have : t = t' := by have := h2.1; rw [g2.1] at this; exact (Option.some.inj this).symm
    subst this
    obtain ⟨u, hu⟩ := g2.2.2.2 (c + 1) (by have := h2.2.2.1; omega) (by omega)
    rw [stk_pop h1 hb] at hu
    have := congrArg List.length (Option.some.inj hu)
    simp at this; omega
  have a := half c d h g
  have a' := half d c g h
  omega
theorem mt_lt {b : Nat → Bool} {j c : Nat} (h : Mt b j c) : j < c ∧ b j = true ∧ b c = false := by
  obtain ⟨hb, t, h1, h2⟩ := h
  exact ⟨h2.2.2.1, h2.2.1, hb⟩
/-- the partners of the first i bits of n, and what is open -/
def prun (b : Nat → Bool) (n : Nat) : Nat → Option (List Int × List Nat)
  | 0 => some (List.replicate n 0, [])
  | i + 1 => match prun b n i with
    | none => none
    | some (o, st) => if b i = true then some (o, i :: st) else match st with
      | [] => none
      | j :: t => some ((o.set i j).set j i, t)
theorem prun_stk (b : Nat → Bool) (n i : Nat) : (prun b n i).map (·.2) = stk b i := by
  induction i with
  | zero => rfl
  | succ i ih =>
    rw [prun, stk, ← ih]
    cases prun b n i with
    | none => rfl
    | some p =>
      obtain ⟨o, st⟩ := p
      simp only [Option.map_some]
      split
      · rfl
      · cases st <;> rfl
theorem prun_push {b : Nat → Bool} {n i : Nat} {o : List Int} {st : List Nat} (h : prun b n i = some (o, st)) (hb : b i = true) : prun b n (i + 1) = some (o, i :: st) := by
  rw [prun, h]; simp [hb]
theorem prun_pop {b : Nat → Bool} {n i j : Nat} {o : List Int} {t : List Nat} (h : prun b n i = some (o, j :: t)) (hb : b i = false) : prun b n (i + 1) = some ((o.set i j).set j i, t) := by
  rw [prun, h]; simp [hb]
theorem prun_fail {b : Nat → Bool} {n i : Nat} {o : List Int} (h : prun b n i = some (o, [])) (hb : b i = false) : prun b n (i + 1) = none := by
  rw [prun, h]; simp [hb]
theorem prun_len (b : Nat → Bool) (n i : Nat) : ∀ o st, prun b n i = some (o, st) → o.length = n := by
  induction i with
  | zero => intro o st h; simp [prun] at h; rw [← h.1]; simp
  | succ i ih =>
    intro o st h
    rw [prun] at h
    cases e : prun b n i with
    | none => rw [e] at h; cases h
    | some p =>
      obtain ⟨o', st'⟩ := p
      have := ih o' st' e
      rw [e] at h
      simp only at h
      split at h
      · cases h; exact this
      · cases st' with
        | nil => cases h
        | cons j t => cases h; simp [this]
/-- what is told of each bit that is no longer open -/
theorem prun_told (b : Nat → Bool) (n i : Nat) (hi : i ≤ n) : ∀ o st, prun b n i = some (o, st) → ∀ x, x < i → x ∉ st → ∃ y : Nat, y < i ∧ o.getD x 0 = (y : Int) ∧ (b x = true → Mt b x y) ∧ (b x = false → Mt b y x) := by
  induction i with
  | zero => intro o st h x hx; omega
  | succ i ih =>
    intro o st h x hx hn
    rw [prun] at h
    cases e : prun b n i with
    | none => rw [e] at h; cases h
    | some p =>
      obtain ⟨o', st'⟩ := p
      have hl := prun_len b n i o' st' e
      have hs : stk b i = some st' := by rw [← prun_stk b n i, e]; rfl
      have IH := ih (by omega) o' st' e
      rw [e] at h
      simp only at h
      split at h
      · rename_i c
        cases h
        simp at hn
        obtain ⟨y, h1, h2⟩ := IH x (by omega) hn.2
        exact ⟨y, by omega, h2⟩
      · rename_i c
        have c' : b i = false := by simpa using c
        cases st' with
        | nil => cases h
        | cons j t =>
          cases h
          have hm := mt_of hs c'
          have hj := stk_lt b i hs j (by simp)
          by_cases e1 : x = i
          · subst e1
            refine ⟨j, by omega, ?_, fun h => by rw [c'] at h; (exact absurd h (by decide)), fun _ => hm⟩
            rw [List.getD_eq_getElem?_getD, List.getElem?_set_ne (by omega), List.getElem?_set_self (by omega)]; rfl
          · by_cases e2 : x = j
            · subst e2
              refine ⟨i, by omega, ?_, fun _ => hm, fun h => by rw [hj.2] at h; (exact absurd h (by decide))⟩
              rw [List.getD_eq_getElem?_getD, List.getElem?_set_self (by simp; omega)]; rfl
            · obtain ⟨y, h1, h2, h3⟩ := IH x (by omega) (by simp [e2, hn])
              refine ⟨y, by omega, ?_, h3⟩
              rw [List.getD_eq_getElem?_getD, List.getElem?_set_ne (by omega), List.getElem?_set_ne (by omega), ← List.getD_eq_getElem?_getD]; exact h2
/-- the vector is balanced -/
def balB (b : Nat → Bool) (n : Nat) : Bool := decide (stk b n = some [])

theorem atI (s : Int) (ws : List Int) (i : Nat) (h : i / 16 < ws.length) (hw : ∀ w ∈ ws, 0 ≤ w ∧ w ≤ 65535) (hi : i < 4611686018427387904) : impl_Bits_at.f s ws i = some (bitAt ws i) := at_eq ws i h hw hi
theorem atI_good {s : Int} {ws : List Int} (h : Good s ws) (i : Nat) (hi : (i : Int) < s) : impl_Bits_at.f s ws i = some (bitAt ws i) :=
  atI s ws i (good_place h i hi).1 (good_words s ws h) (by have := good_place h i hi; omega)

/-- the open places as the program keeps them: the latest last -/
def opn (st : List Nat) : List Int := (st.reverse).map (fun (j : Nat) => (j : Int))
theorem opn_push (i : Nat) (st : List Nat) : opn (i :: st) = opn st ++ [(i : Int)] := by simp [opn]
theorem opn_len (st : List Nat) : (opn st).length = st.length := by simp [opn]
theorem opn_last (j : Nat) (t : List Nat) : rd (opn (j :: t)) (((opn (j :: t)).length : Int) - 1) = j := by
  rw [opn_push, rd_last (opn t) [] (j : Int) _ (by simp)]
theorem opn_take (j : Nat) (t : List Nat) : (opn (j :: t)).take (((opn (j :: t)).length : Int) - 1).toNat = opn t := by
  rw [opn_push, show (((opn t ++ [(j : Int)]).length : Int) - 1).toNat = (opn t).length from by simp]; simp
/-- what partners answers -/
def partAns (b : Nat → Bool) (n : Nat) : List Int × Bool := match prun b n n with
  | none => ([], false)
  | some (o, st) => (o, decide (st = []))
theorem prun_none (b : Nat → Bool) (n i d : Nat) (h : prun b n i = none) : prun b n (i + d) = none := by
  induction d with
  | zero => exact h
  | succ d ih => rw [← Nat.add_assoc, prun, ih]
theorem partnersI_l {s : Int} {ws : List Int} (h : Good s ws) (d : Nat) : ∀ (k i : Nat) (o : List Int) (st : List Nat), ((i + d : Nat) : Int) = s → prun (bitAt ws) s.toNat i = some (o, st) → d < k →
    impl_partners.l0 k o (opn st) s i s ws = some (partAns (bitAt ws) s.toNat) := by
  have hs := h.2.1
  induction d with
  | zero =>
    intro k i o st hi hp hk
    obtain ⟨k, rfl⟩ := succOf hk
    simp only [impl_partners.l0]
    have e : i = s.toNat := by omega
    rw [if_neg (by omega)]
    unfold partAns
    subst e
    rw [hp, opn_len]
    congr 2
    cases st <;> simp <;> omega
  | succ d ih =>
    intro k i o st hi hp hk
    obtain ⟨k, rfl⟩ := succOf hk
    simp only [impl_partners.l0]
    have hl := prun_len _ _ _ _ _ hp
    have hst : stk (bitAt ws) i = some st := by rw [← prun_stk (bitAt ws) s.toNat i, hp]; rfl
    have hsz : st.length ≤ i := by
      have := stk_len _ _ _ hst
      have := ones_le (bitAt ws) i 0
      omega
    rw [if_pos (by omega), atI_good h i (by omega), Option.bind_some, w64n i (by omega)]
    cases c : bitAt ws i
    · rw [if_neg (by simp), opn_len]
      cases st with
      | nil =>
        have := prun_none _ _ _ d (prun_fail hp c)
        rw [show i + 1 + d = s.toNat from by omega] at this
        rw [if_pos (by simp)]; unfold partAns; rw [this]
      | cons j t =>
        have hj := stk_lt _ _ hst j (by simp)
        have h1 := ih k (i + 1) _ t (by omega) (prun_pop hp c) (by omega)
        have hlen : (opn (j :: t)).length = t.length + 1 := by rw [opn_len]; simp
        have e1 := opn_last j t
        have e2 := opn_take j t
        rw [hlen] at e1 e2
        have hc : ((j :: t).length : Int) = ((t.length + 1 : Nat) : Int) := by simp
        rw [hc]
        rw [if_neg (by omega), w64 (by simp at hsz; omega) (by simp at hsz; omega), e1, e2]
        rw [if_pos (by omega), if_pos (by omega), if_pos (by omega), if_pos (by omega), if_pos (by omega), if_pos (by omega), if_pos (by omega)]
        rw [Int.toNat_natCast, Int.toNat_natCast]
        exact h1
    · have h1 := ih k (i + 1) _ _ (by omega) (prun_push hp c) (by omega)
      rw [if_pos rfl, opn_len, if_pos (by omega), ← opn_push]
      exact h1
theorem partnersI {s : Int} {ws : List Int} (h : Good s ws) (k : Nat) (hk : 4096 < k) : impl_partners.f k s ws = some (partAns (bitAt ws) s.toNat) := by
  have h0 := h.1
  have hs := h.2.1
  unfold impl_partners.f
  rw [if_pos h0, if_pos (by omega)]
  have := partnersI_l h s.toNat k 0 (List.replicate s.toNat 0) [] (by omega) rfl (by omega)
  exact this
theorem part_bal (b : Nat → Bool) (n : Nat) : (partAns b n).2 = balB b n := by
  unfold partAns balB
  have := prun_stk b n n
  cases e : prun b n n with
  | none => rw [e] at this; rw [← this]; simp
  | some p => obtain ⟨o, st⟩ := p; rw [e] at this; rw [← this]; simp

theorem bal_run {b : Nat → Bool} {n : Nat} (h : balB b n = true) : ∃ o, prun b n n = some (o, []) ∧ partAns b n = (o, true) ∧ o.length = n := by
  have h1 : stk b n = some [] := of_decide_eq_true h
  have h2 := prun_stk b n n
  rw [h1] at h2
  cases e : prun b n n with
  | none => rw [e] at h2; cases h2
  | some p =>
    obtain ⟨o, st⟩ := p
    rw [e] at h2
    have : st = [] := by simpa using h2
    subst this
    exact ⟨o, rfl, by unfold partAns; rw [e]; simp, prun_len _ _ _ _ _ e⟩
/-- in a balanced vector each bit has its partner in the list -/
theorem bal_mate {b : Nat → Bool} {n : Nat} {o : List Int} (h : prun b n n = some (o, [])) (x : Nat) (hx : x < n) : ∃ y : Nat, y < n ∧ o.getD x 0 = (y : Int) ∧ (b x = true → Mt b x y) ∧ (b x = false → Mt b y x) :=
  prun_told b n n (Nat.le_refl _) o [] h x hx (by simp)
theorem bal_stk {b : Nat → Bool} {n : Nat} (h : balB b n = true) (i : Nat) (hi : i ≤ n) : ∃ st, stk b i = some st := stk_some b i n hi (of_decide_eq_true h)
/-- the partner of a bit of a balanced vector, as the list has it -/
def mateOf (b : Nat → Bool) (n x : Nat) : Int := (partAns b n).1.getD x 0
/-- what CloseOf (on) and OpenOf (off) answer -/
def mateAns (s : Int) (ws : List Int) (i : Int) (on : Bool) : Int × Bool :=
  if Good s ws ∧ (0 ≤ i ∧ i < s) ∧ bitAt ws i.toNat = on ∧ balB (bitAt ws) s.toNat = true then (mateOf (bitAt ws) s.toNat i.toNat, true) else (0, false)

/-- the parent of the node that opens at i -/
def parOf (b : Nat → Bool) (i : Nat) : Int := match stk b i with
  | some (j :: _) => ((ones b 0 j : Nat) : Int)
  | _ => -1
/-- the parents of the nodes that open before i -/
def parN (b : Nat → Bool) : Nat → List Int
  | 0 => []
  | i + 1 => if b i = true then parN b i ++ [parOf b i] else parN b i
theorem parN_len (b : Nat → Bool) (i : Nat) : (parN b i).length = ones b 0 i := by
  induction i with
  | zero => rfl
  | succ i ih =>
    have h2 := ones_snoc b i 0
    rw [Nat.zero_add] at h2
    rw [h2]; simp only [parN]
    split
    · simp [ih]
    · simp [ih]
/-- the way from the root, as the program keeps it -/
def pth (b : Nat → Bool) (st : List Nat) : List Int := -1 :: (st.reverse.map fun (j : Nat) => ((ones b 0 j : Nat) : Int))
theorem pth_push (b : Nat → Bool) (j : Nat) (st : List Nat) : pth b (j :: st) = pth b st ++ [((ones b 0 j : Nat) : Int)] := by simp [pth]
theorem pth_len (b : Nat → Bool) (st : List Nat) : (pth b st).length = st.length + 1 := by simp [pth]
theorem pth_last (b : Nat → Bool) (i : Nat) (st : List Nat) (h : stk b i = some st) : rd (pth b st) (((st.length + 1 : Nat) : Int) - 1) = parOf b i := by
  unfold parOf
  rw [h]
  cases st with
  | nil => rfl
  | cons j t => rw [pth_push, rd_last (pth b t) [] _ _ (by rw [pth_len]; simp)]
/-- what ParentsOf answers -/
def parAns (s : Int) (ws : List Int) : List Int × Bool := if Good s ws ∧ balB (bitAt ws) s.toNat = true ∧ s ≤ 128 then (parN (bitAt ws) s.toNat, true) else ([], false)
theorem parAns_len (s : Int) (ws : List Int) : (parAns s ws).1.length ≤ 300 := by
  unfold parAns
  split
  · rename_i h
    rw [parN_len]
    have := ones_le (bitAt ws) s.toNat 0
    omega
  · simp

theorem pops (b : Nat → Bool) (st : List Nat) (pos : Nat) (hs : stk b pos = some st) (d : Nat) : d ≤ st.length → (∀ j, pos ≤ j → j < pos + d → b j = false) → stk b (pos + d) = some (st.drop d) ∧ ones b 0 (pos + d) = ones b 0 pos ∧ parN b (pos + d) = parN b pos := by
  induction d with
  | zero => intro _ _; exact ⟨by simpa using hs, rfl, rfl⟩
  | succ d ih =>
    intro hd hf
    obtain ⟨h1, h2, h3⟩ := ih (by omega) (fun j j1 j2 => hf j j1 (by omega))
    have hb := hf (pos + d) (by omega) (by omega)
    have e : st.drop d = st[d]'(by omega) :: st.drop (d + 1) := List.drop_eq_getElem_cons (by omega)
    rw [e] at h1
    refine ⟨stk_pop h1 hb, ?_, ?_⟩
    · have := ones_snoc b (pos + d) 0
      rw [Nat.zero_add, hb] at this
      rw [← Nat.add_assoc, this, h2]; rfl
    · rw [← Nat.add_assoc]; simp only [parN]; rw [hb, h3]; simp
theorem cutSt_drop (p : Int) (st : List Int) : cutSt p st = st.drop (st.length - (cutSt p st).length) := by
  obtain ⟨pre, e, _⟩ := cutSt_suffix p st
  generalize cutSt p st = q at *
  subst e
  rw [List.length_append, Nat.add_sub_cancel, List.drop_left]
theorem treeRun_prefix : ∀ (rest : List Int) (i : Nat) (st : List Int) (acc bits : List Bool), treeRun rest i st acc = some bits → ∃ tail, bits = acc ++ tail
  | [], i, st, acc, bits, e => by
    simp only [treeRun, Option.some.injEq] at e
    exact ⟨_, e.symm⟩
  | p :: rest, i, st, acc, bits, e => by
    simp only [treeRun] at e
    split at e
    · obtain ⟨tail, h⟩ := treeRun_prefix rest _ _ _ bits e
      exact ⟨_, by rw [h, List.append_assoc, List.append_assoc]⟩
    · simp at e
theorem treeRun_stk (b : Nat → Bool) : ∀ (rest : List Int) (i : Nat) (st : List Int) (acc bits : List Bool) (st' : List Nat), treeRun rest i st acc = some bits → (∀ j, b j = bits.getD j false) → stk b acc.length = some st' → st'.map (fun j => ((ones b 0 j : Nat) : Int)) = st → ones b 0 acc.length = i → (∀ x ∈ st, 0 ≤ x) → stk b bits.length = some [] ∧ parN b bits.length = parN b acc.length ++ rest
  | [], i, st, acc, bits, st', e, hb, hs, hm, ho, hx => by
    simp only [treeRun, Option.some.injEq] at e
    have hl : st'.length = st.length := by rw [← hm, List.length_map]
    obtain ⟨h1, h2, h3⟩ := pops b st' acc.length hs st.length (by omega) (fun j j1 j2 => by
      rw [hb, ← e, List.getD_eq_getElem?_getD, List.getElem?_append_right (by omega), List.getElem?_replicate, if_pos (by omega)]; rfl)
    have el : bits.length = acc.length + st.length := by rw [← e]; simp
    rw [el, h1, h3, ← hl]; simp
  | p :: rest, i, st, acc, bits, st', e, hb, hs, hm, ho, hx => by
    simp only [treeRun] at e
    split at e
    · rename_i c
      obtain ⟨tail, et⟩ := treeRun_prefix rest _ _ _ bits e
      have hl : st'.length = st.length := by rw [← hm, List.length_map]
      have hc := cutSt_le p st
      obtain ⟨d, hd⟩ : ∃ d, d = st.length - (cutSt p st).length := ⟨_, rfl⟩
      rw [← hd] at e et
      obtain ⟨h1, h2, h3⟩ := pops b st' acc.length hs d (by omega) (fun j j1 j2 => by
        rw [hb, et, List.getD_eq_getElem?_getD, List.append_assoc, List.append_assoc, List.getElem?_append_right (by omega), List.getElem?_append_left (by simp; omega), List.getElem?_replicate, if_pos (by omega)]; rfl)
      have hq : b (acc.length + d) = true := by
        rw [hb, et, List.getD_eq_getElem?_getD, List.append_assoc, List.getElem?_append_right (by simp)]; simp
      have ed : (st'.drop d).map (fun j => ((ones b 0 j : Nat) : Int)) = cutSt p st := by
        rw [List.map_drop, hm, hd]; exact (cutSt_drop p st).symm
      have el : (acc ++ List.replicate d false ++ [true]).length = acc.length + d + 1 := by simp; omega
      have hpar : parOf b (acc.length + d) = p := by
        unfold parOf
        rw [h1]
        rcases c with c | c
        · have : cutSt p st = [] := cutSt_out p st (fun h => by have := hx p h; omega)
          rw [this] at ed
          have e0 : st'.drop d = [] := List.map_eq_nil_iff.mp ed
          rw [e0]; exact c.symm
        · obtain ⟨s, es⟩ := cutSt_in p st c
          rw [es] at ed
          cases e0 : st'.drop d with
          | nil => rw [e0] at ed; simp at ed
          | cons j t => rw [e0] at ed; simp at ed; exact ed.1
      have hones : ones b 0 (acc.length + d + 1) = i + 1 := by
        have := ones_snoc b (acc.length + d) 0
        rw [Nat.zero_add, hq, h2, ho] at this
        rw [this]; rfl
      have hpN : parN b (acc.length + d + 1) = parN b acc.length ++ [p] := by
        simp only [parN]; rw [hq, if_pos rfl, h3, hpar]
      have r := treeRun_stk b rest (i + 1) ((i : Int) :: cutSt p st) (acc ++ List.replicate d false ++ [true]) bits ((acc.length + d) :: st'.drop d) e hb (by rw [el]; exact stk_push h1 hq) (by rw [List.map_cons, ed, h2, ho]) (by rw [el]; exact hones) (by
        intro x hx'
        rcases List.mem_cons.mp hx' with hx' | hx'
        · omega
        · exact hx x (cutSt_sub p st x hx'))
      refine ⟨r.1, ?_⟩
      rw [r.2, el, hpN]; simp
    · simp at e
/-- the k-th node's place -/
theorem ones_place (b : Nat → Bool) (n : Nat) : ∀ k, k < ones b 0 n → ∃ q, q < n ∧ b q = true ∧ ones b 0 q = k := by
  induction n with
  | zero => intro k h; simp [ones] at h
  | succ n ih =>
    intro k h
    have h2 := ones_snoc b n 0
    rw [Nat.zero_add] at h2
    by_cases c : k < ones b 0 n
    · obtain ⟨q, h3, h4, h5⟩ := ih k c; exact ⟨q, by omega, h4, h5⟩
    · cases hb : b n
      · rw [hb] at h2; simp at h2; omega
      · rw [hb] at h2; simp at h2
        exact ⟨n, by omega, hb, by omega⟩
theorem parN_at (b : Nat → Bool) (n : Nat) : ∀ q, q < n → b q = true → (parN b n)[ones b 0 q]? = some (parOf b q) := by
  induction n with
  | zero => intro q h; omega
  | succ n ih =>
    intro q h hb
    by_cases c : q = n
    · subst c
      simp only [parN]
      rw [if_pos hb, List.getElem?_append_right (by rw [parN_len]; omega), parN_len, Nat.sub_self]; rfl
    · have h3 := ih q (by omega) hb
      simp only [parN]
      split
      · rw [List.getElem?_append_left]
        · exact h3
        · by_cases k : ones b 0 q < (parN b n).length
          · exact k
          · rw [List.getElem?_eq_none (by omega)] at h3; simp at h3
      · exact h3

/-- what IsBalanced answers -/
def balAns (s : Int) (ws : List Int) : Bool × Bool := if Good s ws then (balB (bitAt ws) s.toNat, true) else (false, false)

theorem inI (a b c : Int) : impl_in.f a b c = some (decide (b ≤ a ∧ a ≤ c)) := by
  unfold impl_in.f; split <;> simp [*]

theorem goodI_l (s : Int) (ws : List Int) (hl : ws.length < 9223372036854775807) (h0 : 0 ≤ s) (h1 : s ≤ 4096) (h2 : (ws.length : Int) = (s + 15) / 16) : ∀ (suf pre : List Int) (k : Nat), ws = pre ++ suf → suf.length < k →
    impl_IsBits.l0 k ws ws.length pre.length s ws = some (decide ((∀ w ∈ suf, 0 ≤ w ∧ w ≤ 65535) ∧ (s % 16 = 0 ∨ ws.getD (ws.length - 1) 0 / 2 ^ (s % 16).toNat = 0))) := by
  intro suf
  induction suf with
  | nil =>
    intro pre k e hk
    obtain ⟨k, rfl⟩ := succOf hk
    simp only [impl_IsBits.l0]
    have : ws.length = pre.length := by rw [e]; simp
    rw [if_neg (by omega), last_eq s ws h0 h1 h2]; simp
  | cons x suf ih =>
    intro pre k e hk
    obtain ⟨k, rfl⟩ := succOf hk
    simp only [impl_IsBits.l0]
    have hlen : ws.length = pre.length + suf.length + 1 := by rw [e]; simp; omega
    have e1 : rd ws (pre.length : Int) = x := by rw [e]; exact rd_mid pre suf x
    have e2 : (pre ++ [x]).length = pre.length + 1 := by simp
    have h3 := ih (pre ++ [x]) k (by rw [e]; simp) (by simp only [List.length_cons] at hk; omega)
    rw [e2] at h3
    rw [if_pos (by omega), if_pos (by omega), if_pos (by omega), e1, inI, Option.bind_some, w64n _ (by omega), h3]
    by_cases c : 0 ≤ x ∧ x ≤ 65535
    · rw [decide_eq_true c, if_pos rfl]; congr 1; rw [decide_eq_decide]; simp [c]
    · rw [decide_eq_false c, if_neg (by simp)]; congr 1; symm; rw [decide_eq_false_iff_not]; intro g; exact c (g.1 x (by simp))
theorem goodI (s : Int) (ws : List Int) (k : Nat) (hl : ws.length < 9223372036854775807) (hk : ws.length + 1 < k) : impl_IsBits.f k s ws = some (decide (Good s ws)) := by
  obtain ⟨k, rfl⟩ := succOf hk
  unfold impl_IsBits.f impl_words.f
  rw [inI, Option.bind_some]
  by_cases c : 0 ≤ s ∧ s ≤ 4096
  · rw [decide_eq_true c, if_pos rfl, Option.bind_some, words_eq2 s c.1 c.2]
    simp only [impl_IsBits.j0]
    by_cases c2 : (ws.length : Int) = (s + 15) / 16
    · have h := goodI_l s ws hl c.1 c.2 c2 ws [] k rfl (by omega)
      simp only [List.length_nil, Int.natCast_zero] at h
      rw [if_neg (by simpa using c2), h]
      congr 1; rw [decide_eq_decide]; unfold Good
      exact ⟨fun h => ⟨c.1, c.2, c2, h.1, h.2⟩, fun h => h.2.2.2⟩
    · rw [if_pos (by simpa using c2)]; congr 1; symm; rw [decide_eq_false_iff_not]; exact fun h => c2 h.2.2.1
  · rw [decide_eq_false c, if_neg (by simp)]; simp only [impl_IsBits.j0, if_true]; congr 1; symm; rw [decide_eq_false_iff_not]; exact fun h => c ⟨h.1, h.2.1⟩

theorem isBalI (s : Int) (ws : List Int) (k : Nat) (hl : ws.length < 9223372036854775807) (hk : ws.length + 5000 < k) : impl_IsBalanced.f k s ws = some (balAns s ws) := by
  unfold impl_IsBalanced.f balAns
  rw [goodI s ws k hl (by omega), Option.bind_some]
  by_cases c : Good s ws
  · rw [decide_eq_true c, if_pos rfl, if_pos c, partnersI c k (by omega), Option.bind_some, part_bal]
  · rw [decide_eq_false c, if_neg (by simp), if_neg c]

theorem parI_l {s : Int} {ws : List Int} (h : Good s ws) (hb : balB (bitAt ws) s.toNat = true) (d : Nat) : ∀ (k i : Nat) (st : List Nat), ((i + d : Nat) : Int) = s → stk (bitAt ws) i = some st → d < k →
    impl_ParentsOf.l0 k (parN (bitAt ws) i) (pth (bitAt ws) st) s i s ws = some (parN (bitAt ws) s.toNat, true) := by
  have hs := h.2.1
  induction d with
  | zero =>
    intro k i st hi hst hk
    obtain ⟨k, rfl⟩ := succOf hk
    simp only [impl_ParentsOf.l0]
    rw [if_neg (by omega), show i = s.toNat from by omega]
  | succ d ih =>
    intro k i st hi hst hk
    obtain ⟨k, rfl⟩ := succOf hk
    have hl := parN_len (bitAt ws) i
    have ho := ones_le (bitAt ws) i 0
    have hlen := stk_len _ _ _ hst
    have hp := pth_len (bitAt ws) st
    simp only [impl_ParentsOf.l0]
    rw [if_pos (by omega), atI_good h i (by omega), Option.bind_some, w64n i (by omega), hp]
    have ew : wrap64 (((st.length + 1 : Nat) : Int) - 1) = ((st.length + 1 : Nat) : Int) - 1 := w64 (by omega) (by omega)
    rw [ew]
    cases c : bitAt ws i
    · obtain ⟨st', hst'⟩ := bal_stk hb (i + 1) (by omega)
      cases st with
      | nil => rw [stk_fail hst c] at hst'; cases hst'
      | cons j t =>
        have h1 := ih k (i + 1) t (by omega) (stk_pop hst c) (by omega)
        have e : parN (bitAt ws) (i + 1) = parN (bitAt ws) i := by simp [parN, c]
        have ht : (pth (bitAt ws) (j :: t)).take ((((j :: t).length + 1 : Nat) : Int) - 1).toNat = pth (bitAt ws) t := by
          rw [pth_push, show ((((j :: t).length + 1 : Nat) : Int) - 1).toNat = (pth (bitAt ws) t).length from by rw [pth_len]; simp]; simp
        rw [e] at h1
        rw [if_neg (by simp), if_pos (by omega), if_pos (by omega), ht]; exact h1
    · have h1 := ih k (i + 1) (i :: st) (by omega) (stk_push hst c) (by omega)
      have e : parN (bitAt ws) (i + 1) = parN (bitAt ws) i ++ [parOf (bitAt ws) i] := by simp [parN, c]
      have hl2 := parN_len (bitAt ws) (i + 1)
      have h2 := ones_snoc (bitAt ws) i 0
      rw [Nat.zero_add, c, if_pos rfl] at h2
      rw [e] at h1 hl2
      rw [if_pos rfl, if_pos (by omega), if_pos (by omega), if_pos (by omega), pth_last _ _ _ hst, Option.bind_some, if_pos (by omega), hl2, w64 (by omega) (by omega)]
      rw [pth_push] at h1
      rw [show ((ones (bitAt ws) 0 (i + 1) : Nat) : Int) - 1 = ((ones (bitAt ws) 0 i : Nat) : Int) from by omega]
      exact h1
theorem parentsI (s : Int) (ws : List Int) (k : Nat) (hl : ws.length < 9223372036854775807) (hk : ws.length + 10000 < k) : impl_ParentsOf.f k s ws = some (parAns s ws) := by
  obtain ⟨k, rfl⟩ := succOf hk
  unfold impl_ParentsOf.f parAns
  rw [isBalI s ws _ hl (by omega), Option.bind_some]
  unfold balAns
  by_cases c : Good s ws
  · have h0 := c.1
    rw [if_pos c, if_pos rfl]
    cases hb : balB (bitAt ws) s.toNat
    · rw [if_neg (by simp)]; simp only [impl_ParentsOf.j0, if_true]; rw [if_neg (by simp)]
    · rw [if_pos rfl]; simp only [impl_ParentsOf.j0]
      by_cases c2 : s ≤ 128
      · have := parI_l c hb s.toNat k 0 [] (by omega) rfl (by omega)
        have cc : Good s ws ∧ True ∧ s ≤ 128 := ⟨c, trivial, c2⟩
        rw [if_neg (by simp; omega), if_pos cc]
        exact this
      · rw [if_pos (by simp; omega), if_neg (fun h => c2 h.2.2)]
  · rw [if_neg c, if_neg (by simp)]; simp only [impl_ParentsOf.j0, if_true]; rw [if_neg (fun h => c h.1)]

/-- the counts before each 64 bits, of the first j words -/
def supN (b : Nat → Bool) : Nat → List Int
  | 0 => []
  | j + 1 => if (16 * j) % 64 = 0 then supN b j ++ [((ones b 0 (16 * j) : Nat) : Int)] else supN b j
/-- the counts from the 64 bits on, of the first j words -/
def blkN (b : Nat → Bool) : Nat → List Int
  | 0 => []
  | j + 1 => blkN b j ++ [((ones b (16 * j / 64 * 64) (16 * j % 64) : Nat) : Int)]
theorem supN_len (b : Nat → Bool) (j : Nat) : (supN b j).length ≤ j := by
  induction j with
  | zero => simp [supN]
  | succ j ih => simp only [supN]; split <;> (try simp only [List.length_append, List.length_cons, List.length_nil]) <;> omega
theorem blkN_len (b : Nat → Bool) (j : Nat) : (blkN b j).length = j := by
  induction j with
  | zero => simp [blkN]
  | succ j ih => simp [blkN, ih]
/-- how many words so many bits begin -/
def wordsN (s : Int) : Nat := ((s + 15) / 16).toNat
/-- the directories of a vector -/
def dirOf (s : Int) (ws : List Int) : Int × List Int × List Int × List Int := (s, ws, supN (bitAt ws) (wordsN s), blkN (bitAt ws) (wordsN s))
theorem good_len {s : Int} {ws : List Int} (h : Good s ws) : ws.length = wordsN s ∧ wordsN s ≤ 256 := by
  obtain ⟨h0, h1, h2, _⟩ := h; unfold wordsN; omega

theorem countI_l {s : Int} {ws : List Int} (h : Good s ws) (d : Nat) : ∀ (k i n : Nat), ((i + d : Nat) : Int) ≤ s → n ≤ i → d < k →
    impl_Bits_count.l0 k ((i + d : Nat) : Int) n i s ws = some ((n + ones (bitAt ws) i d : Nat) : Int) := by
  have hs := h.2.1
  induction d with
  | zero =>
    intro k i n hi hn hk
    obtain ⟨k, rfl⟩ := succOf hk
    simp only [impl_Bits_count.l0]
    rw [if_neg (by omega)]; rfl
  | succ d ih =>
    intro k i n hi hn hk
    obtain ⟨k, rfl⟩ := succOf hk
    simp only [impl_Bits_count.l0]
    rw [if_pos (by omega), atI_good h i (by omega), Option.bind_some, w64n i (by omega), w64n n (by omega)]
    have e : i + (d + 1) = i + 1 + d := by omega
    rw [e]
    have h1 := ih k (i + 1) (n + 1) (by omega) (by omega) (by omega)
    have h2 := ih k (i + 1) n (by omega) (by omega) (by omega)
    cases c : bitAt ws i
    · rw [if_neg (by simp), h2]; simp only [ones, c, Bool.false_eq_true, if_false]; congr 2; omega
    · rw [if_pos rfl, h1]; simp only [ones, c, if_true]; congr 2; omega
theorem countI {s : Int} {ws : List Int} (h : Good s ws) (i j k : Nat) (hij : i ≤ j) (hj : (j : Int) ≤ s) (hk : 4096 < k) :
    impl_Bits_count.f k s ws i j = some ((ones (bitAt ws) i (j - i) : Nat) : Int) := by
  have hs := h.2.1
  have := countI_l h (j - i) k i 0 (by omega) (by omega) (by omega)
  rw [show i + (j - i) = j from by omega, Nat.zero_add] at this
  exact this

theorem rankedI_l {s : Int} {ws : List Int} (h : Good s ws) (d : Nat) : ∀ (k j : Nat) (x5 : Int), j + d = wordsN s → (16 * j % 64 ≠ 0 → x5 = ((ones (bitAt ws) 0 (16 * j / 64 * 64) : Nat) : Int)) → d + 4100 < k →
    impl_ranked.l0 k ((ones (bitAt ws) 0 (min (16 * j) s.toNat) : Nat) : Int) x5 ((16 * j : Nat) : Int) j s ws s ws (supN (bitAt ws) j) (blkN (bitAt ws) j) = some (dirOf s ws) := by
  have h0 := h.1
  have hs := h.2.1
  have hw := (good_len h).2
  induction d with
  | zero =>
    intro k j x5 hj hx hk
    obtain ⟨k, rfl⟩ := succOf hk
    simp only [impl_ranked.l0]
    have : ¬ (((16 * j : Nat) : Int) < s) := by unfold wordsN at hj; omega
    rw [if_neg this]; unfold dirOf; rw [show wordsN s = j from by omega]
  | succ d ih =>
    intro k j x5 hj hx hk
    obtain ⟨k, rfl⟩ := succOf hk
    have hlt : ((16 * j : Nat) : Int) < s := by unfold wordsN at hj; omega
    have e0 : min (16 * j) s.toNat = 16 * j := by omega
    have e1 : wrap64 (((16 * j : Nat) : Int) + 16) = ((16 * (j + 1) : Nat) : Int) := by rw [w64 (by omega) (by omega)]; omega
    have e2 : Int.tmod ((16 * j : Nat) : Int) 64 = ((16 * j % 64 : Nat) : Int) := by rw [Int.tmod_eq_emod_of_nonneg (by omega)]; omega
    have e3 : mn ((16 * (j + 1) : Nat) : Int) s = ((min (16 * (j + 1)) s.toNat : Nat) : Int) := by unfold mn; split <;> omega
    have c1 := countI h (16 * j) (min (16 * (j + 1)) s.toNat) k (by omega) (by omega) (by omega)
    have l1 := supN_len (bitAt ws) j
    have l2 := blkN_len (bitAt ws) j
    have o1 := ones_le (bitAt ws) (16 * j) 0
    have o2 := ones_le (bitAt ws) (min (16 * (j + 1)) s.toNat - 16 * j) (16 * j)
    have a1 := ones_add (bitAt ws) (16 * j) 0 (min (16 * (j + 1)) s.toNat - 16 * j)
    have a2 := ones_add (bitAt ws) (16 * j / 64 * 64) 0 (16 * j % 64)
    rw [Nat.zero_add, show 16 * j + (min (16 * (j + 1)) s.toNat - 16 * j) = min (16 * (j + 1)) s.toNat from by omega] at a1
    rw [Nat.zero_add, show 16 * j / 64 * 64 + 16 * j % 64 = 16 * j from by omega] at a2
    have e4 : wrap64 (((ones (bitAt ws) 0 (16 * j) : Nat) : Int) + ((ones (bitAt ws) (16 * j) (min (16 * (j + 1)) s.toNat - 16 * j) : Nat) : Int)) = ((ones (bitAt ws) 0 (min (16 * (j + 1)) s.toNat) : Nat) : Int) := by
      rw [w64 (by omega) (by omega)]; omega
    simp only [impl_ranked.l0]
    rw [e0, if_pos hlt, e2, e1, e3, c1]
    by_cases c : 16 * j % 64 = 0
    · have h1 := ih k (j + 1) ((ones (bitAt ws) 0 (16 * j) : Nat) : Int) (by omega) (fun _ => by rw [show 16 * (j + 1) / 64 * 64 = 16 * j from by omega]) (by omega)
      simp only [supN, blkN] at h1
      rw [if_pos c, c] at h1
      rw [if_pos (by omega), if_pos (by omega), if_pos (by omega), Option.bind_some, e4, w64n j (by omega)]
      exact h1
    · have h1 := ih k (j + 1) x5 (by omega) (fun _ => by rw [hx c, show 16 * (j + 1) / 64 * 64 = 16 * j / 64 * 64 from by omega]) (by omega)
      simp only [supN, blkN] at h1
      rw [if_neg c] at h1
      have hx5 := hx c
      have o3 := ones_le (bitAt ws) (16 * j / 64 * 64) 0
      have e5 : wrap64 (((ones (bitAt ws) 0 (16 * j) : Nat) : Int) - x5) = ((ones (bitAt ws) (16 * j / 64 * 64) (16 * j % 64) : Nat) : Int) := by
        rw [w64 (by omega) (by omega)]; omega
      rw [if_neg (by omega), if_pos (by omega), Option.bind_some, e4, w64n j (by omega), e5]
      exact h1
theorem rankedI {s : Int} {ws : List Int} (h : Good s ws) (k : Nat) (hk : 4500 < k) : impl_ranked.f k s ws = some (dirOf s ws) := by
  have hw := good_len h
  have := rankedI_l h (wordsN s) k 0 0 (by omega) (fun h => by omega) (by omega)
  unfold impl_ranked.f impl_cloneBits.f slices_Clone_int_int.f
  rw [if_pos (by omega)]
  simp only [Option.bind_some]
  exact this

/-- what a ranked vector keeps -/
def RGood (s : Int) (ws l2 l3 : List Int) : Prop := Good s ws ∧ l2 = supN (bitAt ws) (wordsN s) ∧ l3 = blkN (bitAt ws) (wordsN s)
instance (s : Int) (ws l2 l3 : List Int) : Decidable (RGood s ws l2 l3) := by unfold RGood; infer_instance

def rank1Ans (s : Int) (ws l2 l3 : List Int) (i : Int) : Int × Bool := if RGood s ws l2 l3 ∧ 0 ≤ i ∧ i ≤ s then (((ones (bitAt ws) 0 i.toNat : Nat) : Int), true) else (0, false)
def rank0Ans (s : Int) (ws l2 l3 : List Int) (i : Int) : Int × Bool := if RGood s ws l2 l3 ∧ 0 ≤ i ∧ i ≤ s then (i - ((ones (bitAt ws) 0 i.toNat : Nat) : Int), true) else (0, false)

theorem sameE_l (a b : List Int) (hl : a.length = b.length) (ha : a.length < 9223372036854775807) (d : Nat) : ∀ (k i : Nat), i ≤ a.length → a.length - i = d → d < k →
    slices_Equal_int_int.l0 k a b a.length i = some (decide (a.drop i = b.drop i)) := by
  induction d with
  | zero =>
    intro k i h1 hd hk
    obtain ⟨k, rfl⟩ := succOf hk
    simp only [slices_Equal_int_int.l0]
    rw [if_neg (by omega), List.drop_eq_nil_of_le (by omega), List.drop_eq_nil_of_le (by omega)]; simp
  | succ d ih =>
    intro k i h1 hd hk
    obtain ⟨k, rfl⟩ := succOf hk
    simp only [slices_Equal_int_int.l0]
    have h2 := ih k (i+1) (by omega) (by omega) (by omega)
    have e1 : rd a i = a[i]'(by omega) := by simp [rd, List.getD_eq_getElem?_getD, List.getElem?_eq_getElem (show i < a.length by omega)]
    have e2 : rd b i = b[i]'(by omega) := by simp [rd, List.getD_eq_getElem?_getD, List.getElem?_eq_getElem (show i < b.length by omega)]
    have e3 := List.drop_eq_getElem_cons (show i < a.length by omega)
    have e4 := List.drop_eq_getElem_cons (show i < b.length by omega)
    rw [if_pos (by omega), if_pos (by omega), if_pos (by omega), if_pos (by omega), e1, e2, w64n i (by omega), h2, e3, e4]
    clear e3 e4 h2 ih
    split <;> simp only [List.cons.injEq, *, true_and, false_and, decide_false]
theorem sameE (a b : List Int) (k : Nat) (ha : a.length < 9223372036854775807) (hk : a.length < k) : slices_Equal_int_int.f k a b = some (decide (a = b)) := by
  unfold slices_Equal_int_int.f
  split
  · have h := sameE_l a b (by omega) ha a.length k 0 (by omega) (by omega) hk
    simpa using h
  · have : a ≠ b := by intro h; subst h; simp_all
    simp [this]

theorem isRankedI (s : Int) (ws l2 l3 : List Int) (k : Nat) (hl : ws.length ≤ 1048576) (hl2 : l2.length ≤ 1048576) (hl3 : l3.length ≤ 1048576) (hk : 1060000 ≤ k) : impl_IsRanked.f k s ws l2 l3 = some (decide (RGood s ws l2 l3)) := by
  unfold impl_IsRanked.f
  rw [goodI s ws k (by omega) (by omega), Option.bind_some]
  by_cases c : Good s ws
  · have hw := (good_len c).2
    have h1 := supN_len (bitAt ws) (wordsN s)
    have h2 := blkN_len (bitAt ws) (wordsN s)
    rw [decide_eq_true c, if_pos rfl, rankedI c k (by omega), Option.bind_some]
    unfold dirOf
    simp only []
    rw [sameE _ l2 k (by omega) (by omega), Option.bind_some, sameE _ l3 k (by omega) (by omega), Option.bind_some]
    by_cases c2 : supN (bitAt ws) (wordsN s) = l2
    · rw [decide_eq_true c2, if_pos rfl]; congr 1; rw [decide_eq_decide]; exact ⟨fun h => ⟨c, c2.symm, h.symm⟩, fun h => h.2.2.symm⟩
    · rw [decide_eq_false c2, if_neg (by simp)]; congr 1; symm; rw [decide_eq_false_iff_not]; exact fun h => c2 h.2.1.symm
  · rw [decide_eq_false c, if_neg (by simp)]; congr 1; symm; rw [decide_eq_false_iff_not]; exact fun h => c h.1

theorem count0I {s : Int} {ws : List Int} (h : Good s ws) (i : Int) (k : Nat) (h0 : 0 ≤ i) (h1 : i ≤ s) (hk : 4096 < k) : impl_Bits_count.f k s ws 0 i = some ((ones (bitAt ws) 0 i.toNat : Nat) : Int) := by
  have := countI h 0 i.toNat k (by omega) (by omega) hk
  rw [Int.toNat_of_nonneg h0] at this
  exact this
theorem rank1I (s : Int) (ws l2 l3 : List Int) (i : Int) (k : Nat) (hl : ws.length ≤ 1048576) (hl2 : l2.length ≤ 1048576) (hl3 : l3.length ≤ 1048576) (hk : 1060000 ≤ k) : impl_Rank1.f k s ws l2 l3 i = some (rank1Ans s ws l2 l3 i) := by
  unfold impl_Rank1.f rank1Ans
  rw [isRankedI s ws l2 l3 k hl hl2 hl3 hk, Option.bind_some, inI, Option.bind_some]
  by_cases c : RGood s ws l2 l3
  · rw [decide_eq_true c, if_pos rfl]
    by_cases c2 : 0 ≤ i ∧ i ≤ s
    · rw [decide_eq_true c2, if_pos rfl, if_pos ⟨c, c2⟩, count0I c.1 i k c2.1 c2.2 (by omega)]; rfl
    · rw [decide_eq_false c2, if_neg (by simp), if_neg (fun h => c2 h.2)]
  · rw [decide_eq_false c, if_neg (by simp), if_neg (fun h => c h.1)]

/-- the bit as told, of n bits from i on, with q such before it; none -/
def selP (b : Nat → Bool) (on : Bool) : Int → Nat → Nat → Int
  | _, _, 0 => -1
  | q, i, n + 1 => if b i = on then (if q = 0 then (i : Int) else selP b on (q - 1) (i + 1) n) else selP b on q (i + 1) n
theorem selP_neg (b : Nat → Bool) (on : Bool) (n : Nat) : ∀ (q : Int) (i : Nat), q < 0 → selP b on q i n = -1 := by
  induction n with
  | zero => intro q i h; rfl
  | succ n ih =>
    intro q i h
    simp only [selP]
    have hq : ¬ q = 0 := by omega
    rw [ih q (i + 1) h, ih (q - 1) (i + 1) (by omega), if_neg hq]; simp
def selAns (s : Int) (ws l2 l3 : List Int) (q : Int) (on : Bool) : Int × Bool :=
  if RGood s ws l2 l3 ∧ ¬ selP (bitAt ws) on q 0 s.toNat < 0 then (selP (bitAt ws) on q 0 s.toNat, true) else (0, false)

theorem selI_l {s : Int} {ws : List Int} (l2 l3 : List Int) (h : Good s ws) (on : Bool) (d : Nat) : ∀ (k i : Nat) (q : Int), ((i + d : Nat) : Int) = s → -9223372036854775808 ≤ q - d → q ≤ 9223372036854775807 → d < k →
    impl_selected.l0 k q on s i s ws l2 l3 = some (if selP (bitAt ws) on q i d < 0 then (0, false) else (selP (bitAt ws) on q i d, true)) := by
  have hs := h.2.1
  induction d with
  | zero =>
    intro k i q hi h0 h1 hk
    obtain ⟨k, rfl⟩ := succOf hk
    simp only [impl_selected.l0]
    rw [if_neg (by omega)]; rfl
  | succ d ih =>
    intro k i q hi h0 h1 hk
    obtain ⟨k, rfl⟩ := succOf hk
    simp only [impl_selected.l0]
    rw [if_pos (by omega), atI_good h i (by omega), Option.bind_some, w64n i (by omega)]
    by_cases c : bitAt ws i = on
    · rw [if_neg (by simpa using c)]
      by_cases c2 : q = 0
      · have e : selP (bitAt ws) on q i (d + 1) = (i : Int) := by simp [selP, c, c2]
        rw [if_pos c2, e, if_neg (by omega)]
      · have e : selP (bitAt ws) on q i (d + 1) = selP (bitAt ws) on (q - 1) (i + 1) d := by simp [selP, c, c2]
        rw [if_neg c2, w64 (by omega) (by omega), e]; exact ih k (i + 1) (q - 1) (by omega) (by omega) (by omega) (by omega)
    · have e : selP (bitAt ws) on q i (d + 1) = selP (bitAt ws) on q (i + 1) d := by simp [selP, c]
      rw [if_pos (by simpa using c), e]; exact ih k (i + 1) q (by omega) (by omega) h1 (by omega)
theorem selI_out {s : Int} {ws : List Int} (l2 l3 : List Int) (h : Good s ws) (on : Bool) (d : Nat) : ∀ (k i : Nat) (q : Int), ((i + d : Nat) : Int) = s → -9223372036854775808 ≤ q → q ≤ 9223372036854775807 → (q < 0 ∨ (d : Int) ≤ q) → d < k →
    impl_selected.l0 k q on s i s ws l2 l3 = some (0, false) := by
  have hs := h.2.1
  induction d with
  | zero =>
    intro k i q hi h0 h1 hq hk
    obtain ⟨k, rfl⟩ := succOf hk
    simp only [impl_selected.l0]
    rw [if_neg (by omega)]
  | succ d ih =>
    intro k i q hi h0 h1 hq hk
    obtain ⟨k, rfl⟩ := succOf hk
    simp only [impl_selected.l0]
    rw [if_pos (by omega), atI_good h i (by omega), Option.bind_some, w64n i (by omega)]
    by_cases c : bitAt ws i = on
    · rw [if_neg (by simpa using c), if_neg (by omega)]
      have hw : -9223372036854775808 ≤ wrap64 (q - 1) ∧ wrap64 (q - 1) ≤ 9223372036854775807 ∧ (wrap64 (q - 1) < 0 ∨ (d : Int) ≤ wrap64 (q - 1)) := by unfold wrap64; omega
      exact ih k (i + 1) _ (by omega) hw.1 hw.2.1 hw.2.2 (by omega)
    · rw [if_pos (by simpa using c)]; exact ih k (i + 1) q (by omega) h0 h1 (by omega) (by omega)
theorem selectedI (s : Int) (ws l2 l3 : List Int) (q : Int) (on : Bool) (k : Nat) (hl : ws.length ≤ 1048576) (hl2 : l2.length ≤ 1048576) (hl3 : l3.length ≤ 1048576) (hq : -9223372036854775808 ≤ q) (hq2 : q ≤ 9223372036854775807) (hk : 1060000 ≤ k) : impl_selected.f k s ws l2 l3 q on = some (selAns s ws l2 l3 q on) := by
  unfold impl_selected.f selAns
  rw [isRankedI s ws l2 l3 k hl hl2 hl3 hk, Option.bind_some]
  by_cases c : RGood s ws l2 l3
  · have hs := c.1.2.1
    have h0 := c.1.1
    rw [decide_eq_true c, if_pos rfl]
    have go : impl_selected.l0 k q on s 0 s ws l2 l3 = some (if selP (bitAt ws) on q 0 s.toNat < 0 then (0, false) else (selP (bitAt ws) on q 0 s.toNat, true)) := by
      by_cases cq : 0 ≤ q
      · exact selI_l l2 l3 c.1 on s.toNat k 0 q (by omega) (by omega) hq2 (by omega)
      · rw [selP_neg (bitAt ws) on s.toNat q 0 (by omega), if_pos (by omega)]
        exact selI_out l2 l3 c.1 on s.toNat k 0 q (by omega) hq hq2 (Or.inl (by omega)) (by omega)
    rw [go]
    by_cases c2 : selP (bitAt ws) on q 0 s.toNat < 0
    · rw [if_pos c2, if_neg (fun h => h.2 c2)]
    · rw [if_neg c2, if_pos ⟨c, c2⟩]
  · rw [decide_eq_false c, if_neg (by simp), if_neg (fun h => c h.1)]

theorem select1I (s : Int) (ws l2 l3 : List Int) (q : Int) (k : Nat) (hl : ws.length ≤ 1048576) (hl2 : l2.length ≤ 1048576) (hl3 : l3.length ≤ 1048576) (hq : -9223372036854775808 ≤ q) (hq2 : q ≤ 9223372036854775807) (hk : 1060000 ≤ k) : impl_Select1.f k s ws l2 l3 q = some (selAns s ws l2 l3 q true) := by
  unfold impl_Select1.f; rw [selectedI s ws l2 l3 q true k hl hl2 hl3 hq hq2 hk]; rfl

/-- of a list that falls, what lies below m -/
theorem below_step {st : List Nat} (hp : st.Pairwise (· > ·)) (m : Nat) : st.filter (fun x => decide (x < m + 1)) = if m ∈ st then m :: st.filter (fun x => decide (x < m)) else st.filter (fun x => decide (x < m)) := by
  induction st with
  | nil => simp
  | cons x st ih =>
    have hx := List.pairwise_cons.1 hp
    have ih := ih hx.2
    by_cases e : x = m
    · subst e
      have hall : ∀ y ∈ st, y < x := fun y hy => hx.1 y hy
      have hn : x ∉ st := fun h => by have := hall x h; omega
      rw [if_neg hn] at ih
      rw [if_pos (by simp), List.filter_cons_of_pos (by simp), List.filter_cons_of_neg (by simp), ih]
    · by_cases l : x < m
      · have hn : m ∉ x :: st := by
          intro h
          simp at h
          rcases h with h | h
          · omega
          · have := hx.1 m h; omega
        have hn2 : m ∉ st := fun h => hn (by simp [h])
        rw [if_neg hn2] at ih
        rw [if_neg hn, List.filter_cons_of_pos (by simp; omega), List.filter_cons_of_pos (by simpa using l), ih]
      · rw [List.filter_cons_of_neg (by simp; omega), List.filter_cons_of_neg (by simpa using l), ih]
        have : (m ∈ x :: st) = (m ∈ st) := by simp; intro h; exact absurd h.symm e
        simp only [this]
theorem below_all {st : List Nat} (i : Nat) (h : ∀ x ∈ st, x < i) : st.filter (fun x => decide (x < i)) = st := by
  rw [List.filter_eq_self]; intro x hx; simpa using h x hx
/-- what is open before i encloses i, and nothing else does -/
theorem enc_iff {b : Nat → Bool} {n i c : Nat} {o : List Int} {st : List Nat} (hr : prun b n n = some (o, [])) (hst : stk b i = some st) (hi : b i = true) (hin : i < n) (hc : o.getD i 0 = (c : Int)) (x : Nat) (hx : x < i) (hbx : b x = true) :
    o.getD x 0 > (c : Int) ↔ x ∈ st := by
  obtain ⟨c', hc1, hc2, hm, _⟩ := bal_mate hr i hin
  rw [hc2] at hc
  have : c' = c := by omega
  subst this
  obtain ⟨hbc, t, ht, hInc⟩ := hm hi
  have : t = st := by have := hInc.1; rw [hst] at this; exact (Option.some.inj this).symm
  subst this
  obtain ⟨d, hd1, hd2, hmd, _⟩ := bal_mate hr x (by omega)
  rw [hd2]
  have hMd := hmd hbx
  obtain ⟨hbd, tx, htx, hInx⟩ := hMd
  constructor
  · intro hgt
    have hgt : c' < d := by omega
    obtain ⟨u, hu⟩ := hInx.2.2.2 i hx (by have := hInc.2.2.1; omega)
    rw [hst] at hu
    rw [Option.some.inj hu]; simp
  · intro hmem
    obtain ⟨u, v, rfl⟩ := List.append_of_mem hmem
    have hxc : InSt b c' x v := inSt b c' (i :: u) x v (by rw [ht]; rfl)
    have hv : v = tx := by have := hxc.1; rw [hInx.1] at this; exact (Option.some.inj this).symm
    subst hv
    by_cases hle : d ≤ c'
    · exfalso
      by_cases e : d = c'
      · subst e
        rw [ht] at htx
        have := congrArg List.head? (Option.some.inj htx)
        simp at this; omega
      · obtain ⟨u', hu'⟩ := hxc.2.2.2 (d + 1) (by have := hInx.2.2.1; omega) (by omega)
        rw [stk_pop htx hbd] at hu'
        have := congrArg List.length (Option.some.inj hu')
        simp at this; omega
    · omega
/-- what DepthOf and EnclosingOf go by -/
def encOf (b : Nat → Bool) (i : Nat) : List Nat := (stk b i).getD []
/-- the condition of both -/
def encOk (s : Int) (ws : List Int) (i : Int) : Prop := Good s ws ∧ (0 ≤ i ∧ i < s) ∧ bitAt ws i.toNat = true ∧ balB (bitAt ws) s.toNat = true
instance (s : Int) (ws : List Int) (i : Int) : Decidable (encOk s ws i) := by unfold encOk; infer_instance
def depthAns (s : Int) (ws : List Int) (i : Int) : Int × Bool := if encOk s ws i then (((encOf (bitAt ws) i.toNat).length : Int), true) else (0, false)
def aboveAns (s : Int) (ws : List Int) (i : Int) : Int × Bool := if encOk s ws i then (match encOf (bitAt ws) i.toNat with | [] => (0, false) | j :: _ => ((j : Int), true)) else (0, false)

theorem partnerI (s : Int) (ws : List Int) (i : Int) (on : Bool) (k : Nat) (hl : ws.length < 9223372036854775807) (hk : ws.length + 5000 < k) : impl_partner.f k s ws i on = some (mateAns s ws i on) := by
  obtain ⟨k, rfl⟩ := succOf hk
  unfold impl_partner.f mateAns
  rw [goodI s ws _ hl (by omega), Option.bind_some]
  by_cases c : Good s ws
  · have h0 := c.1
    have h1 := c.2.1
    rw [decide_eq_true c, if_pos rfl, inI, Option.bind_some, w64 (by omega) (by omega)]
    by_cases c2 : 0 ≤ i ∧ i ≤ s - 1
    · have ha := atI_good c i.toNat (by omega)
      rw [Int.toNat_of_nonneg c2.1] at ha
      rw [decide_eq_true c2, if_pos rfl, ha, Option.bind_some]
      simp only [impl_partner.j0]
      by_cases c3 : bitAt ws i.toNat = on
      · rw [if_neg (by simpa using c3), partnersI c k (by omega), Option.bind_some]
        cases hb : balB (bitAt ws) s.toNat
        · have := part_bal (bitAt ws) s.toNat
          rw [hb] at this
          rw [this, if_neg (by simp), if_neg (by simp)]
        · obtain ⟨o, e1, e2, e3⟩ := bal_run hb
          have cc : Good s ws ∧ (0 ≤ i ∧ i < s) ∧ bitAt ws i.toNat = on ∧ true = true := ⟨c, ⟨c2.1, by omega⟩, c3, rfl⟩
          rw [if_pos cc]
          unfold mateOf
          rw [e2, if_pos rfl, if_pos c2.1, if_pos (by simp only []; omega)]
          rfl
      · rw [if_pos (by simpa using c3), if_neg (fun h => c3 h.2.2.1)]
    · rw [decide_eq_false c2, if_neg (by simp)]
      simp only [impl_partner.j0, if_true]
      rw [if_neg (by omega)]
  · rw [decide_eq_false c, if_neg (by simp)]
    simp only [impl_partner.j0, if_true]
    rw [if_neg (fun h => c h.1)]

theorem closeI (s : Int) (ws : List Int) (i : Int) (k : Nat) (hl : ws.length < 9223372036854775807) (hk : ws.length + 5000 < k) : impl_CloseOf.f k s ws i = some (mateAns s ws i true) := by
  unfold impl_CloseOf.f; rw [partnerI s ws i true k hl hk]; rfl

theorem enclI_l {s : Int} {ws : List Int} (h : Good s ws) (i c : Nat) (o : List Int) (st : List Nat) (hi : (i : Int) < s) (hb : bitAt ws i = true) (hr : prun (bitAt ws) s.toNat s.toNat = some (o, [])) (hst : stk (bitAt ws) i = some st) (hc : o.getD i 0 = (c : Int)) (d : Nat) :
    ∀ (k m : Nat), m + d = i → d < k → impl_enclosing.l0 k c o (opn (st.filter (fun x => decide (x < m)))) i m s ws = some (opn st, true) := by
  have hs := h.2.1
  have hol := prun_len _ _ _ _ _ hr
  induction d with
  | zero =>
    intro k m hm hk
    obtain ⟨k, rfl⟩ := succOf hk
    simp only [impl_enclosing.l0]
    have e : m = i := by omega
    subst e
    rw [if_neg (by omega), below_all m (fun x hx => (stk_lt _ _ hst x hx).1)]
  | succ d ih =>
    intro k m hm hk
    obtain ⟨k, rfl⟩ := succOf hk
    have h1 := ih k (m + 1) (by omega) (by omega)
    have hp := below_step (stk_sorted _ _ _ hst) m
    have hlen : (opn (st.filter (fun x => decide (x < m)))).length ≤ i := by
      rw [opn_len]
      have a := List.length_filter_le (fun x => decide (x < m)) st
      have := stk_len _ _ _ hst
      have := ones_le (bitAt ws) i 0
      omega
    simp only [impl_enclosing.l0]
    rw [if_pos (by omega), atI_good h m (by omega), Option.bind_some, w64n m (by omega)]
    cases cb : bitAt ws m
    · rw [if_neg (by simp)]
      have hn : m ∉ st := fun hm' => by have := (stk_lt _ _ hst m hm').2; rw [cb] at this; cases this
      rw [if_neg hn] at hp
      rw [hp] at h1; exact h1
    · rw [if_pos rfl, if_pos (by omega), if_pos (by omega)]
      have hiff := enc_iff hr hst hb (by omega) hc m (by omega) cb
      have hrd : rd o (m : Int) = o.getD m 0 := by unfold rd; rw [Int.toNat_natCast]
      rw [hrd]
      by_cases hmem : m ∈ st
      · rw [if_pos (hiff.2 hmem), if_pos (by omega)]
        rw [if_pos hmem] at hp
        rw [hp, opn_push] at h1; exact h1
      · rw [if_neg (fun hx => hmem (hiff.1 hx))]
        rw [if_neg hmem] at hp
        rw [hp] at h1; exact h1
theorem enclI (s : Int) (ws : List Int) (i : Int) (k : Nat) (hl : ws.length < 9223372036854775807) (hk : ws.length + 5000 < k) :
    impl_enclosing.f k s ws i = some (if encOk s ws i then (opn (encOf (bitAt ws) i.toNat), true) else ([], false)) := by
  unfold impl_enclosing.f
  rw [closeI s ws i k hl hk, Option.bind_some]
  unfold mateAns
  by_cases c : encOk s ws i
  · have cc := c
    obtain ⟨hg, ⟨h0, h1⟩, hb, hbal⟩ := c
    have hs := hg.2.1
    obtain ⟨o, e1, e2, e3⟩ := bal_run hbal
    obtain ⟨st, hst⟩ := bal_stk hbal i.toNat (by omega)
    obtain ⟨y, hy, ho, _⟩ := bal_mate e1 i.toNat (by omega)
    have := enclI_l hg i.toNat y o st (by omega) hb e1 hst ho i.toNat k 0 (by omega) (by omega)
    have e0 : st.filter (fun x => decide (x < 0)) = [] := by simp
    rw [e0, Int.toNat_of_nonneg h0] at this
    unfold encOk at cc
    rw [if_pos cc, partnersI hg k (by omega), Option.bind_some, if_pos rfl, e2]
    have ec : encOk s ws i := cc
    rw [if_pos ec]
    unfold mateOf encOf
    rw [e2, hst]
    simp only [ho]
    exact this
  · have cc : ¬ (Good s ws ∧ (0 ≤ i ∧ i < s) ∧ bitAt ws i.toNat = true ∧ balB (bitAt ws) s.toNat = true) := c
    rw [if_neg cc, if_neg (by simp), if_neg c]

theorem aboveI (s : Int) (ws : List Int) (i : Int) (k : Nat) (hl : ws.length < 9223372036854775807) (hk : ws.length + 5000 < k) : impl_EnclosingOf.f k s ws i = some (aboveAns s ws i) := by
  unfold impl_EnclosingOf.f aboveAns
  rw [enclI s ws i k hl hk, Option.bind_some]
  by_cases c : encOk s ws i
  · have hb := c.2.1
    have hs := c.1.2.1
    obtain ⟨st, hst⟩ := bal_stk c.2.2.2 i.toNat (by omega)
    have hlen := stk_len _ _ _ hst
    have hone := ones_le (bitAt ws) i.toNat 0
    rw [if_pos c, if_pos c, if_pos rfl]
    have e : encOf (bitAt ws) i.toNat = st := by unfold encOf; rw [hst]; rfl
    rw [e]
    cases st with
    | nil => rw [if_pos (by simp [opn])]
    | cons j t =>
      have h1 := opn_last j t
      simp only [opn_len] at h1 ⊢
      simp only [List.length_cons] at hlen h1 ⊢
      rw [if_neg (by omega), w64 (by omega) (by omega), if_pos (by omega), if_pos (by omega), h1]
  · rw [if_neg c, if_neg c, if_neg (by simp)]

/-- how many of n bits from i on are as told -/
def cntP (b : Nat → Bool) (on : Bool) : Nat → Nat → Nat
  | _, 0 => 0
  | i, n + 1 => (if b i = on then 1 else 0) + cntP b on (i + 1) n
theorem cntP_true (b : Nat → Bool) (n : Nat) : ∀ i, cntP b true i n = ones b i n := by
  induction n with
  | zero => intro i; rfl
  | succ n ih => intro i; simp only [cntP, ones, ih]
theorem cntP_false (b : Nat → Bool) (n : Nat) : ∀ i, cntP b false i n + ones b i n = n := by
  induction n with
  | zero => intro i; rfl
  | succ n ih =>
    intro i
    have := ih (i + 1)
    simp only [cntP, ones]
    cases b i <;> simp <;> omega
theorem selP_at_q (b : Nat → Bool) (on : Bool) (m : Nat) : ∀ (i n : Nat) (q : Int), m < n → b (i + m) = on → q = (cntP b on i m : Int) → selP b on q i n = ((i + m : Nat) : Int) := by
  induction m with
  | zero =>
    intro i n q hn hb hq
    obtain ⟨n, rfl⟩ := succOf hn
    rw [Nat.add_zero] at hb
    simp only [cntP] at hq
    simp only [selP]
    rw [if_pos hb, if_pos (by omega), Nat.add_zero]
  | succ m ih =>
    intro i n q hn hb hq
    obtain ⟨n, rfl⟩ := succOf hn
    have hb' : b (i + 1 + m) = on := by rw [show i + 1 + m = i + (m + 1) from by omega]; exact hb
    have e : i + 1 + m = i + (m + 1) := by omega
    simp only [selP]
    simp only [cntP] at hq
    by_cases c : b i = on
    · rw [if_pos c] at hq
      rw [if_pos c, if_neg (by omega), ih (i + 1) n (q - 1) (by omega) hb' (by omega), e]
    · rw [if_neg c] at hq
      rw [if_neg c, ih (i + 1) n q (by omega) hb' (by omega), e]
theorem selP_at (b : Nat → Bool) (on : Bool) (m i n : Nat) (hn : m < n) (hb : b (i + m) = on) : selP b on (cntP b on i m) i n = ((i + m : Nat) : Int) := selP_at_q b on m i n _ hn hb rfl
theorem selP_out (b : Nat → Bool) (on : Bool) (n : Nat) : ∀ (i : Nat) (q : Int), (cntP b on i n : Int) ≤ q → selP b on q i n = -1 := by
  induction n with
  | zero => intro i q h; rfl
  | succ n ih =>
    intro i q h
    simp only [selP, cntP] at *
    by_cases c : b i = on
    · rw [if_pos c] at h
      rw [if_pos c, if_neg (by omega)]
      exact ih (i + 1) (q - 1) (by omega)
    · rw [if_neg c] at h
      rw [if_neg c]
      exact ih (i + 1) q (by omega)

theorem sameP_l (a b : List Int) (hl : a.length = b.length) (ha : a.length < 9223372036854775807) (d : Nat) : ∀ (k i : Nat), i ≤ a.length → a.length - i = d → d < k →
    laws_pSameInts.l0 k a b a.length i = some (decide (a.drop i = b.drop i)) := by
  induction d with
  | zero =>
    intro k i h1 hd hk
    obtain ⟨k, rfl⟩ := succOf hk
    simp only [laws_pSameInts.l0]
    rw [if_neg (by omega), List.drop_eq_nil_of_le (by omega), List.drop_eq_nil_of_le (by omega)]; simp
  | succ d ih =>
    intro k i h1 hd hk
    obtain ⟨k, rfl⟩ := succOf hk
    simp only [laws_pSameInts.l0]
    have h2 := ih k (i+1) (by omega) (by omega) (by omega)
    have e1 : rd a i = a[i]'(by omega) := by simp [rd, List.getD_eq_getElem?_getD, List.getElem?_eq_getElem (show i < a.length by omega)]
    have e2 : rd b i = b[i]'(by omega) := by simp [rd, List.getD_eq_getElem?_getD, List.getElem?_eq_getElem (show i < b.length by omega)]
    have e3 := List.drop_eq_getElem_cons (show i < a.length by omega)
    have e4 := List.drop_eq_getElem_cons (show i < b.length by omega)
    rw [if_pos (by omega), if_pos (by omega), if_pos (by omega), if_pos (by omega), e1, e2, w64n i (by omega), h2, e3, e4]
    clear e3 e4 h2 ih
    split <;> simp only [List.cons.injEq, *, true_and, false_and, decide_false]
theorem sameP (a b : List Int) (k : Nat) (ha : a.length < 9223372036854775807) (hk : a.length < k) : laws_pSameInts.f k a b = some (decide (a = b)) := by
  unfold laws_pSameInts.f
  split
  · have h := sameP_l a b (by omega) ha a.length k 0 (by omega) (by omega) hk
    simpa using h
  · have : a ≠ b := by intro h; subst h; simp_all
    simp [this]

theorem wf8 {x : Int} (h : (Lit.int .u8 x).wf = true) : 0 ≤ x ∧ x ≤ 255 := by
  simp only [Lit.wf, Bool.and_eq_true, decide_eq_true_eq, IntKind.min, IntKind.max, IntKind.signed, IntKind.bits] at h
  simp at h
  omega

theorem sameB (s t : Int) (a b : List Int) (k : Nat) (ha : a.length < 9223372036854775807) (hk : a.length < k) : laws_pSameBits.f k s a t b = some (decide (s = t ∧ a = b)) := by
  unfold laws_pSameBits.f
  by_cases c : s = t
  · rw [if_pos c, sameP a b k ha hk, Option.bind_some]; simp [c]
  · rw [if_neg c]; simp [c]
/-- what ParenthesesOf answers, told by the bits of the tree -/
theorem parOfIs (ps : List Int) : (treeRun ps 0 [] [] = none ∧ ∀ k, 6000 ≤ k → spec_ParenthesesOf.f k ps = some (0, [], false)) ∨ (64 < ps.length ∧ ∀ k, 6000 ≤ k → spec_ParenthesesOf.f k ps = some (0, [], false)) ∨
    ∃ bits ws, treeRun ps 0 [] [] = some bits ∧ ps.length ≤ 64 ∧ Good ((2 * ps.length : Nat) : Int) ws ∧ (∀ j, bitAt ws j = bits.getD j false) ∧ bits.length = 2 * ps.length ∧ ∀ k, 6000 ≤ k → spec_ParenthesesOf.f k ps = some (((2 * ps.length : Nat) : Int), ws, true) := by
  by_cases hn : ps.length ≤ 64
  · cases hr : treeRun ps 0 [] [] with
    | none =>
      refine Or.inl ⟨rfl, fun k hk => ?_⟩
      unfold spec_ParenthesesOf.f
      rw [treeS ps k hn (by omega), hr, Option.bind_some, if_neg (by simp)]
    | some bits =>
      have hb := treeRun_len ps 0 [] [] bits rfl hr
      rw [Nat.zero_add] at hb
      obtain ⟨ws', g, b, e⟩ := fromS ps hn bits hr
      rw [hb] at g e
      refine Or.inr (Or.inr ⟨bits, ws', rfl, hn, g, b, hb, fun k hk => ?_⟩)
      unfold spec_ParenthesesOf.f
      rw [treeS ps k hn (by omega), hr, Option.bind_some, if_pos (by simp), e k (by omega), Option.bind_some]
  · refine Or.inr (Or.inl ⟨by omega, fun k hk => ?_⟩)
    unfold spec_ParenthesesOf.f spec_raTree.f
    rw [if_pos (by omega), Option.bind_some, if_neg (by simp)]
theorem trees_l {s : Int} {ws l2 l3 ps : List Int} (r : RGood s ws l2 l3) (n2 : l2.length ≤ 300) (n3 : l3.length ≤ 300) (hb : balB (bitAt ws) s.toNat = true) (hp : parN (bitAt ws) s.toNat = ps) (d : Nat) : ∀ (k i : Nat), i + d = ps.length → 2 * d + 1070000 < k →
    laws_FnTreesAreParentheses.l0 k ps ps.length i s ws s ws l2 l3 = some true := by
  have g := r.1
  have hs := g.2.1
  have hs0 := g.1
  have lw := g.2.2.1
  have hN := parN_len (bitAt ws) s.toNat
  rw [hp] at hN
  have ho := ones_le (bitAt ws) s.toNat 0
  induction d with
  | zero =>
    intro k i hi hk
    obtain ⟨k, rfl⟩ := succOf hk
    simp only [laws_FnTreesAreParentheses.l0]
    rw [if_neg (by omega)]
  | succ d ih =>
    intro k i hi hk
    obtain ⟨k, rfl⟩ := succOf hk
    obtain ⟨k, rfl⟩ := succOf (show 0 < k by omega)
    have nx : wrap64 ((i : Int) + 1) = ((i + 1 : Nat) : Int) := w64n i (by omega)
    have goOn := ih k (i + 1) (by omega) (by omega)
    rw [← nx] at goOn
    clear nx
    obtain ⟨q, hq, bq, oq⟩ := ones_place (bitAt ws) s.toNat i (by omega)
    have hpq := parN_at (bitAt ws) s.toNat q hq bq
    rw [hp, oq] at hpq
    have er : rd ps (i : Int) = parOf (bitAt ws) q := by unfold rd; rw [Int.toNat_natCast, List.getD_eq_getElem?_getD, hpq]; rfl
    have es : selAns s ws l2 l3 i true = ((q : Int), true) := by
      have := selP_at (bitAt ws) true q 0 s.toNat hq (by rw [Nat.zero_add]; exact bq)
      rw [cntP_true, Nat.zero_add, oq] at this
      unfold selAns; rw [this, if_pos ⟨r, by omega⟩]
    obtain ⟨st, est⟩ := bal_stk hb q (by omega)
    have ok : encOk s ws q := ⟨g, ⟨by omega, by omega⟩, by rw [Int.toNat_natCast]; exact bq, hb⟩
    have eenc : encOf (bitAt ws) (q : Int).toNat = st := by unfold encOf; rw [Int.toNat_natCast, est]; rfl
    simp only [laws_FnTreesAreParentheses.l0, laws_FnTreesAreParentheses.j3]
    rw [if_pos (by omega), if_pos (by omega), if_pos (by omega), select1I s ws l2 l3 i (k + 1) (by omega) (by omega) (by omega) (by omega) (by omega) (by omega), es, Option.bind_some]
    simp only
    rw [aboveI s ws q (k + 1) (by omega) (by omega), Option.bind_some, if_pos trivial, er]
    cases st with
    | nil =>
      have eb : aboveAns s ws q = (0, false) := by unfold aboveAns; rw [if_pos ok, eenc]
      have ep : parOf (bitAt ws) q = -1 := by unfold parOf; rw [est]
      rw [eb, ep]
      simp only
      rw [if_neg (by simp), if_neg (by simp)]
      exact goOn
    | cons j t =>
      have eb : aboveAns s ws q = ((j : Int), true) := by unfold aboveAns; rw [if_pos ok, eenc]
      have ep : parOf (bitAt ws) q = ((ones (bitAt ws) 0 j : Nat) : Int) := by unfold parOf; rw [est]
      obtain ⟨jl, jb⟩ := stk_lt (bitAt ws) q est j (by simp)
      have e1 : rank1Ans s ws l2 l3 j = (((ones (bitAt ws) 0 j : Nat) : Int), true) := by unfold rank1Ans; rw [if_pos ⟨r, by omega, by omega⟩, Int.toNat_natCast]
      rw [eb, ep]
      simp only
      rw [if_neg (by simp), if_pos trivial, rank1I s ws l2 l3 j k (by omega) (by omega) (by omega) (by omega), e1, Option.bind_some, if_pos rfl, if_pos rfl]
      exact goOn
theorem FnTreesAreParentheses : laws_FnTreesAreParentheses.Pure := by
  intro c m _ _ hc _ _ _
  obtain ⟨k, hk⟩ : ∃ k, k = 1100000 := ⟨_, rfl⟩
  refine ⟨k + 4, ?_⟩
  unfold laws_FnTreesAreParentheses.f laws_big.f
  by_cases hb : (c.length : Int) > 1048576
  · rw [if_pos hb, Option.bind_some, if_pos rfl]
  rw [if_neg hb, Option.bind_some]
  by_cases hb2 : decide ((m.length : Int) > wrap64 (1048576 - (c.length : Int))) = true
  · rw [if_pos hb2]
  rw [if_neg hb2]
  have hB : Bytes c := ⟨by omega, fun x hx => wf8 (hc x hx)⟩
  obtain ⟨ps, a1, s1, hl, _, eD⟩ := treeC c hB 0 0 0 ⟨by omega, by omega⟩ (by omega)
  unfold spec_DrawParenthesesOf.f
  rw [eD _ (by omega), Option.bind_some, Option.bind_some]
  obtain ⟨q, hq, eS, eI⟩ := parBoth ps
  rw [eI _ (by omega), Option.bind_some, eS _ (by omega), Option.bind_some, if_neg (by simp), sameB _ _ _ _ _ (by omega) (by omega), Option.bind_some]
  have bad : q = (0, [], false) → laws_FnTreesAreParentheses.j0 (k + 4) ps q.2.2 (!(decide (q.1 = q.1 ∧ q.2.1 = q.2.1))) q.1 q.2.1 = some true := by
    intro e; rw [e]; simp [laws_FnTreesAreParentheses.j0]
  rcases parOfIs ps with ⟨_, e⟩ | ⟨_, e⟩ | ⟨bits, ws, hr, hn, g, hbits, hlen, e⟩
  · have := e 6000 (by omega); rw [eS 6000 (by omega)] at this; exact bad (Option.some.inj this)
  · have := e 6000 (by omega); rw [eS 6000 (by omega)] at this; exact bad (Option.some.inj this)
  · have := e 6000 (by omega)
    rw [eS 6000 (by omega)] at this
    have eq := Option.some.inj this
    subst eq
    obtain ⟨t1, t2⟩ := treeRun_stk (bitAt ws) ps 0 [] [] bits [] hr hbits rfl rfl rfl (by simp)
    rw [hlen] at t1 t2
    have hs2 : ((2 * ps.length : Nat) : Int).toNat = 2 * ps.length := Int.toNat_natCast _
    have bal : balB (bitAt ws) ((2 * ps.length : Nat) : Int).toNat = true := by rw [hs2]; exact decide_eq_true t1
    have hpar : parN (bitAt ws) ((2 * ps.length : Nat) : Int).toNat = ps := by rw [hs2, t2]; rfl
    have hw := good_len g
    have h1 := supN_len (bitAt ws) (wordsN ((2 * ps.length : Nat) : Int))
    have h2 := blkN_len (bitAt ws) (wordsN ((2 * ps.length : Nat) : Int))
    have eP : parAns ((2 * ps.length : Nat) : Int) ws = (ps, true) := by unfold parAns; rw [if_pos ⟨g, bal, by omega⟩, hpar]
    have eB : impl_BuildRanked.f (k + 3) ((2 * ps.length : Nat) : Int) ws = some (((2 * ps.length : Nat) : Int), ws, supN (bitAt ws) (wordsN ((2 * ps.length : Nat) : Int)), blkN (bitAt ws) (wordsN ((2 * ps.length : Nat) : Int)), true) := by
      unfold impl_BuildRanked.f
      rw [goodI _ ws (k + 3) (by omega) (by omega), Option.bind_some, decide_eq_true g, if_pos rfl, rankedI g (k + 3) (by omega)]; rfl
    have w2 : wrap64 (2 * (ps.length : Int)) = ((2 * ps.length : Nat) : Int) := by rw [w64 (by omega) (by omega)]; omega
    simp only [and_self, decide_true, Bool.not_true, laws_FnTreesAreParentheses.j0, Bool.false_eq_true, if_false, if_true]
    rw [parentsI _ ws (k + 3) (by omega) (by omega), eP, Option.bind_some, eB, Option.bind_some]
    simp only [if_true]
    rw [sameP ps ps _ (by omega) (by omega), Option.bind_some, if_pos (by simp), w2]
    clear w2
    simp only [laws_FnTreesAreParentheses.j1, bne_self_eq_false, Bool.false_eq_true, if_false]
    exact trees_l ⟨g, rfl, rfl⟩ (by omega) (by omega) bal hpar ps.length (k + 2) 0 (by omega) (by omega)

end Go.Proofs.Ytkmhjgejficclaa.Pure
