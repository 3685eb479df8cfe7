/- ParentsOf of the program and of the reference answer the same list, the answers share no memory with the argument nor with each other, and the argument stays; for every value of at most 2^20 words (longer ones are not asked). -/
import Derived.Test.YtpidlhpjcjaojaaPFnExactParentsOfx5
namespace Go.Proofs.Ytpidlhpjcjaojaa.Pure
open Go.RowKit Go.Proofs.Ytpidlhpjcjaojaa.PFnExactParentsOf Go.Proofs.YtpidlhpjcjaojaaW.PrintWords Go.Proofs.YtpidlhpjcjaojaaW.PrintLast Go.Proofs.YtpidlhpjcjaojaaW.PrintMore
set_option linter.unusedVariables false
set_option linter.unusedSimpArgs false

theorem w64 {x : Int} (h1 : -9223372036854775808 ≤ x) (h2 : x ≤ 9223372036854775807) : wrap64 x = x := by unfold wrap64; omega
theorem w64n (i : Nat) (h : i < 9223372036854775807) : wrap64 ((i : Int) + 1) = ((i + 1 : Nat) : Int) := by rw [w64 (by omega) (by omega)]; rfl
theorem succOf {k d : Nat} (h : d < k) : ∃ m, k = m + 1 := ⟨k - 1, by omega⟩

theorem rd_mid (p s : List Int) (x : Int) : rd (p ++ x :: s) (p.length : Int) = x := by
  simp [rd, List.getD_eq_getElem?_getD]
theorem rd_last (p s : List Int) (x : Int) (i : Int) (h : i = p.length) : rd (p ++ x :: s) i = x := by
  subst h; exact rd_mid p s x

theorem shl64 (x y : Int) (h0 : 0 ≤ y) (h1 : y ≤ 63) : shl .i64 x y = wrap64 (x * 2 ^ y.toNat) := by
  unfold shl wrap64; rw [Nat.min_eq_left (by simp only [IntKind.bits]; omega), IntKind.wrap_i64]
theorem shr64 (x y : Int) (h0 : 0 ≤ y) (h1 : y ≤ 63) : shr .i64 x y = x / 2 ^ y.toNat := by
  unfold shr; rw [Nat.min_eq_left (by simp only [IntKind.bits]; omega)]

/-- the bit i of a row of words -/
def bitAt (ws : List Int) (i : Nat) : Bool := decide ((ws.getD (i / 16) 0 / 2 ^ (i % 16)) % 2 = 1)
/-- what a vector of bits keeps -/
def Good (s : Int) (ws : List Int) : Prop :=
  0 ≤ s ∧ s ≤ 4096 ∧ (ws.length : Int) = (s + 15) / 16 ∧ (∀ w ∈ ws, 0 ≤ w ∧ w ≤ 65535) ∧ (s % 16 = 0 ∨ ws.getD (ws.length - 1) 0 / 2 ^ (s % 16).toNat = 0)
instance (s : Int) (ws : List Int) : Decidable (Good s ws) := by unfold Good; infer_instance
theorem i64_small (n : Int) (h0 : 0 ≤ n) (h1 : n < 2 ^ 62) : IntKind.i64.wrap n = n := by rw [IntKind.wrap_i64]; omega
theorem and1 (x : Int) (h0 : 0 ≤ x) (h1 : x < 2 ^ 62) : Go.bits .and .i64 x 1 = x % 2 := bits_mask .i64 62 (by decide) i64_small 1 (by decide) x h0 h1
theorem word_range (ws : List Int) (hw : ∀ w ∈ ws, 0 ≤ w ∧ w ≤ 65535) (j : Nat) : 0 ≤ ws.getD j 0 ∧ ws.getD j 0 ≤ 65535 := by
  by_cases h : j < ws.length
  · rw [List.getD_eq_getElem?_getD, List.getElem?_eq_getElem h]; exact hw _ (List.getElem_mem h)
  · rw [List.getD_eq_getElem?_getD, List.getElem?_eq_none (by omega)]; simp
theorem div_pow_range (x : Int) (j : Nat) (h : 0 ≤ x ∧ x ≤ 65535) : 0 ≤ x / 2 ^ j ∧ x / 2 ^ j ≤ 65535 := by
  have hp : (0 : Int) < 2 ^ j := Int.pow_pos (by omega)
  exact ⟨Int.ediv_nonneg h.1 (by omega), Int.le_trans (Int.ediv_le_self _ h.1) h.2⟩
theorem at_eq (ws : List Int) (i : Nat) (h : i / 16 < ws.length) (hw : ∀ w ∈ ws, 0 ≤ w ∧ w ≤ 65535) (hi : i < 4611686018427387904) :
    (if 0 ≤ (wrap64 (Int.tdiv (i : Int) 16)) then (if (wrap64 (Int.tdiv (i : Int) 16)) < (ws.length : Int) then (if 0 ≤ (Int.tmod (i : Int) 16) then (some ((Go.bits .and .i64 (shr .i64 (rd ws (wrap64 (Int.tdiv (i : Int) 16))) (Int.tmod (i : Int) 16)) 1) == 1)) else (none)) else (none)) else (none)) = some (bitAt ws i) := by
  have e1 : wrap64 (Int.tdiv (i : Int) 16) = ((i / 16 : Nat) : Int) := by
    rw [Int.tdiv_eq_ediv_of_nonneg (by omega), w64 (by omega) (by omega)]; omega
  have e2 : Int.tmod (i : Int) 16 = ((i % 16 : Nat) : Int) := by
    rw [Int.tmod_eq_emod_of_nonneg (by omega)]; omega
  have e3 : rd ws ((i / 16 : Nat) : Int) = ws.getD (i / 16) 0 := by unfold rd; rw [Int.toNat_natCast]
  have hr := div_pow_range _ (i % 16) (word_range ws hw (i / 16))
  rw [e1, e2, if_pos (by omega), if_pos (by omega), if_pos (by omega), e3, shr64 _ _ (by omega) (by omega), Int.toNat_natCast, and1 _ hr.1 (by omega)]
  rfl
/-- how the last word is asked -/
theorem last_eq (s : Int) (ws : List Int) (h0 : 0 ≤ s) (h1 : s ≤ 4096) (hl : (ws.length : Int) = (s + 15) / 16) :
    (if (Int.tmod s 16) = 0 then (some true) else (if 0 ≤ (wrap64 ((ws.length : Int) - 1)) then (if (wrap64 ((ws.length : Int) - 1)) < (ws.length : Int) then (if 0 ≤ (Int.tmod s 16) then (some ((shr .i64 (rd ws (wrap64 ((ws.length : Int) - 1))) (Int.tmod s 16)) == 0)) else (none)) else (none)) else (none))) =
      some (decide (s % 16 = 0 ∨ ws.getD (ws.length - 1) 0 / 2 ^ (s % 16).toNat = 0)) := by
  have e2 : Int.tmod s 16 = s % 16 := Int.tmod_eq_emod_of_nonneg h0
  rw [e2]
  by_cases c : s % 16 = 0
  · rw [if_pos c]; simp [c]
  · rw [if_neg c, w64 (by omega) (by omega), if_pos (by omega), if_pos (by omega), if_pos (by omega), shr64 _ _ (by omega) (by omega)]
    have e3 : rd ws ((ws.length : Int) - 1) = ws.getD (ws.length - 1) 0 := by
      unfold rd; rw [show ((ws.length : Int) - 1).toNat = ws.length - 1 from by omega]
    rw [e3]; simp only [c, false_or]; rfl
theorem good_words (s : Int) (ws : List Int) (h : Good s ws) : ∀ w ∈ ws, 0 ≤ w ∧ w ≤ 65535 := h.2.2.2.1
theorem good_place {s : Int} {ws : List Int} (h : Good s ws) (i : Nat) (hi : (i : Int) < s) : i / 16 < ws.length ∧ i < 4096 := by
  obtain ⟨h0, h1, h2, _⟩ := h; omega
theorem words_eq (s : Int) (h0 : 0 ≤ s) (h1 : s ≤ 4096) : wrap64 (Int.tdiv (wrap64 (s + 15)) 16) = (s + 15) / 16 := by
  rw [w64 (x := s + 15) (by omega) (by omega), Int.tdiv_eq_ediv_of_nonneg (by omega), w64 (by omega) (by omega)]
theorem words_eq2 (s : Int) (h0 : 0 ≤ s) (h1 : s ≤ 4096) : wrap64 (Int.tdiv (wrap64 (wrap64 (s + 16) - 1)) 16) = (s + 15) / 16 := by
  rw [w64 (x := s + 16) (by omega) (by omega), show s + 16 - 1 = s + 15 from by omega]; exact words_eq s h0 h1

/-- how many of n bits from i on are on -/
def ones (b : Nat → Bool) : Nat → Nat → Nat
  | _, 0 => 0
  | i, n + 1 => (if b i = true then 1 else 0) + ones b (i + 1) n
theorem ones_le (b : Nat → Bool) (n : Nat) : ∀ i, ones b i n ≤ n := by
  induction n with
  | zero => intro i; exact Nat.le_refl _
  | succ n ih => intro i; have := ih (i + 1); simp only [ones]; split <;> omega
theorem ones_snoc (b : Nat → Bool) (n : Nat) : ∀ i, ones b i (n + 1) = ones b i n + (if b (i + n) = true then 1 else 0) := by
  induction n with
  | zero => intro i; simp [ones]
  | succ n ih =>
    intro i
    rw [ones, ih (i + 1), ones, show i + 1 + n = i + (n + 1) from by omega]; omega
theorem ones_add (b : Nat → Bool) (m : Nat) : ∀ i n, ones b i (m + n) = ones b i m + ones b (i + m) n := by
  induction m with
  | zero => intro i n; simp [ones]
  | succ m ih =>
    intro i n
    rw [show m + 1 + n = (m + n) + 1 from by omega, ones, ih (i + 1) n, ones, show i + 1 + m = i + (m + 1) from by omega]; omega

/-- what is open before place i, the latest first; none where a bit closed nothing -/
def stk (b : Nat → Bool) : Nat → Option (List Nat)
  | 0 => some []
  | i + 1 => match stk b i with
    | none => none
    | some st => if b i = true then some (i :: st) else match st with
      | [] => none
      | _ :: t => some t
theorem stk_none (b : Nat → Bool) (i d : Nat) (h : stk b i = none) : stk b (i + d) = none := by
  induction d with
  | zero => exact h
  | succ d ih => rw [← Nat.add_assoc, stk, ih]
theorem stk_some (b : Nat → Bool) (i j : Nat) (hij : i ≤ j) {st : List Nat} (h : stk b j = some st) : ∃ s, stk b i = some s := by
  cases e : stk b i with
  | some s => exact ⟨s, rfl⟩
  | none => have := stk_none b i (j - i) e; rw [show i + (j - i) = j from by omega, h] at this; cases this
theorem stk_push {b : Nat → Bool} {i : Nat} {st : List Nat} (h : stk b i = some st) (hb : b i = true) : stk b (i + 1) = some (i :: st) := by
  rw [stk, h]; simp [hb]
theorem stk_pop {b : Nat → Bool} {i j : Nat} {t : List Nat} (h : stk b i = some (j :: t)) (hb : b i = false) : stk b (i + 1) = some t := by
  rw [stk, h]; simp [hb]
theorem stk_fail {b : Nat → Bool} {i : Nat} (h : stk b i = some []) (hb : b i = false) : stk b (i + 1) = none := by
  rw [stk, h]; simp [hb]
/-- its length is the excess -/
theorem stk_len (b : Nat → Bool) (i : Nat) : ∀ st, stk b i = some st → (2 * (ones b 0 i : Int)) - i = st.length := by
  induction i with
  | zero => intro st h; simp [stk] at h; subst h; rfl
  | succ i ih =>
    intro st h
    obtain ⟨s, hs⟩ := stk_some b i (i + 1) (by omega) h
    have h1 := ih s hs
    have h2 := ones_snoc b i 0
    rw [Nat.zero_add] at h2
    cases c : b i
    · cases s with
      | nil => rw [stk_fail hs c] at h; cases h
      | cons j t =>
        rw [stk_pop hs c] at h; cases h
        rw [c] at h2; simp at h2 h1; omega
    · rw [stk_push hs c] at h; cases h
      rw [c] at h2; simp at h2 ⊢; omega
/-- j is open before i, over t -/
def InSt (b : Nat → Bool) (i j : Nat) (t : List Nat) : Prop :=
  stk b j = some t ∧ b j = true ∧ j < i ∧ ∀ m, j < m → m ≤ i → ∃ u, stk b m = some (u ++ j :: t)
theorem inSt (b : Nat → Bool) (i : Nat) : ∀ u j t, stk b i = some (u ++ j :: t) → InSt b i j t := by
  induction i with
  | zero => intro u j t h; simp [stk] at h
  | succ i ih =>
    intro u j t h
    obtain ⟨s, hs⟩ := stk_some b i (i + 1) (by omega) h
    have more (u' : List Nat) (hi : InSt b i j t) : InSt b (i + 1) j t := by
      refine ⟨hi.1, hi.2.1, by have := hi.2.2.1; omega, fun m h1 h2 => ?_⟩
      by_cases e : m = i + 1
      · subst e; exact ⟨u, h⟩
      · exact hi.2.2.2 m h1 (by omega)
    cases c : b i
    · cases s with
      | nil => rw [stk_fail hs c] at h; cases h
      | cons k s =>
        rw [stk_pop hs c] at h
        have e : s = u ++ j :: t := Option.some.inj h
        exact more [] (ih (k :: u) j t (by rw [hs, e]; rfl))
    · rw [stk_push hs c] at h
      have e : i :: s = u ++ j :: t := Option.some.inj h
      cases u with
      | nil =>
        simp at e
        obtain ⟨rfl, rfl⟩ := e
        refine ⟨hs, c, by omega, fun m h1 h2 => ?_⟩
        have : m = i + 1 := by omega
        subst this
        exact ⟨[], stk_push hs c⟩
      | cons x u =>
        simp at e
        exact more [] (ih u j t (by rw [hs, e.2]))
theorem stk_lt (b : Nat → Bool) (i : Nat) {st : List Nat} (h : stk b i = some st) (j : Nat) (hj : j ∈ st) : j < i ∧ b j = true := by
  obtain ⟨u, t, rfl⟩ := List.append_of_mem hj
  have := inSt b i u j t h
  exact ⟨this.2.2.1, this.2.1⟩
theorem stk_sorted (b : Nat → Bool) (i : Nat) : ∀ st, stk b i = some st → st.Pairwise (· > ·) := by
  induction i with
  | zero => intro st h; simp [stk] at h; subst h; exact List.Pairwise.nil
  | succ i ih =>
    intro st h
    obtain ⟨s, hs⟩ := stk_some b i (i + 1) (by omega) h
    have hp := ih s hs
    cases c : b i
    · cases s with
      | nil => rw [stk_fail hs c] at h; cases h
      | cons k s => rw [stk_pop hs c] at h; cases h; exact (List.pairwise_cons.1 hp).2
    · rw [stk_push hs c] at h; cases h
      exact List.pairwise_cons.2 ⟨fun j hj => (stk_lt b i hs j hj).1, hp⟩
/-- c closes j -/
def Mt (b : Nat → Bool) (j c : Nat) : Prop := b c = false ∧ ∃ t, stk b c = some (j :: t) ∧ InSt b c j t
theorem mt_of {b : Nat → Bool} {j c : Nat} {t : List Nat} (h : stk b c = some (j :: t)) (hb : b c = false) : Mt b j c := ⟨hb, t, h, inSt b c [] j t h⟩
theorem mt_unique {b : Nat → Bool} {j c d : Nat} (h : Mt b j c) (g : Mt b j d) : c = d := by
  have half : ∀ c d, Mt b j c → Mt b j d → ¬ c < d := by
    intro c d h g hlt
    obtain ⟨hb, t, h1, h2⟩ := h
    obtain ⟨hb', t', g1, g2⟩ := g
    have : t = t' := by have := h2.1; rw [g2.1] at this; exact (Option.some.inj this).symm
    subst this
    obtain ⟨u, hu⟩ := g2.2.2.2 (c + 1) (by have := h2.2.2.1; omega) (by omega)
    rw [stk_pop h1 hb] at hu
    have := congrArg List.length (Option.some.inj hu)
    simp at this; omega
  have a := half c d h g
  have a' := half d c g h
  omega
theorem mt_lt {b : Nat → Bool} {j c : Nat} (h : Mt b j c) : j < c ∧ b j = true ∧ b c = false := by
  obtain ⟨hb, t, h1, h2⟩ := h
  exact ⟨h2.2.2.1, h2.2.1, hb⟩
/-- the partners of the first i bits of n, and what is open -/
def prun (b : Nat → Bool) (n : Nat) : Nat → Option (List Int × List Nat)
  | 0 => some (List.replicate n 0, [])
  | i + 1 => match prun b n i with
    | none => none
    | some (o, st) => if b i = true then some (o, i :: st) else match st with
      | [] => none
      | j :: t => some ((o.set i j).set j i, t)
theorem prun_stk (b : Nat → Bool) (n i : Nat) : (prun b n i).map (·.2) = stk b i := by
  induction i with
  | zero => rfl
  | succ i ih =>
    rw [prun, stk, ← ih]
    cases prun b n i with
    | none => rfl
    | some p =>
      obtain ⟨o, st⟩ := p
      simp only [Option.map_some]
      split
      · rfl
      · cases st <;> rfl
theorem prun_push {b : Nat → Bool} {n i : Nat} {o : List Int} {st : List Nat} (h : prun b n i = some (o, st)) (hb : b i = true) : prun b n (i + 1) = some (o, i :: st) := by
  rw [prun, h]; simp [hb]
theorem prun_pop {b : Nat → Bool} {n i j : Nat} {o : List Int} {t : List Nat} (h : prun b n i = some (o, j :: t)) (hb : b i = false) : prun b n (i + 1) = some ((o.set i j).set j i, t) := by
  rw [prun, h]; simp [hb]
theorem prun_fail {b : Nat → Bool} {n i : Nat} {o : List Int} (h : prun b n i = some (o, [])) (hb : b i = false) : prun b n (i + 1) = none := by
  rw [prun, h]; simp [hb]
theorem prun_len (b : Nat → Bool) (n i : Nat) : ∀ o st, prun b n i = some (o, st) → o.length = n := by
  induction i with
  | zero => intro o st h; simp [prun] at h; rw [← h.1]; simp
  | succ i ih =>
    intro o st h
    rw [prun] at h
    cases e : prun b n i with
    | none => rw [e] at h; cases h
    | some p =>
      obtain ⟨o', st'⟩ := p
      have := ih o' st' e
      rw [e] at h
      simp only at h
      split at h
      · cases h; exact this
      · cases st' with
        | nil => cases h
        | cons j t => cases h; simp [this]
/-- what is told of each bit that is no longer open -/
theorem prun_told (b : Nat → Bool) (n i : Nat) (hi : i ≤ n) : ∀ o st, prun b n i = some (o, st) → ∀ x, x < i → x ∉ st → ∃ y : Nat, y < i ∧ o.getD x 0 = (y : Int) ∧ (b x = true → Mt b x y) ∧ (b x = false → Mt b y x) := by
  induction i with
  | zero => intro o st h x hx; omega
  | succ i ih =>
    intro o st h x hx hn
    rw [prun] at h
    cases e : prun b n i with
    | none => rw [e] at h; cases h
    | some p =>
      obtain ⟨o', st'⟩ := p
      have hl := prun_len b n i o' st' e
      have hs : stk b i = some st' := by rw [← prun_stk b n i, e]; rfl
      have IH := ih (by omega) o' st' e
      rw [e] at h
      simp only at h
      split at h
      · rename_i c
        cases h
        simp at hn
        obtain ⟨y, h1, h2⟩ := IH x (by omega) hn.2
        exact ⟨y, by omega, h2⟩
      · rename_i c
        have c' : b i = false := by simpa using c
        cases st' with
        | nil => cases h
        | cons j t =>
          cases h
          have hm := mt_of hs c'
          have hj := stk_lt b i hs j (by simp)
          by_cases e1 : x = i
          · subst e1
            refine ⟨j, by omega, ?_, fun h => by rw [c'] at h; (exact absurd h (by decide)), fun _ => hm⟩
            rw [List.getD_eq_getElem?_getD, List.getElem?_set_ne (by omega), List.getElem?_set_self (by omega)]; rfl
          · by_cases e2 : x = j
            · subst e2
              refine ⟨i, by omega, ?_, fun _ => hm, fun h => by rw [hj.2] at h; (exact absurd h (by decide))⟩
              rw [List.getD_eq_getElem?_getD, List.getElem?_set_self (by simp; omega)]; rfl
            · obtain ⟨y, h1, h2, h3⟩ := IH x (by omega) (by simp [e2, hn])
              refine ⟨y, by omega, ?_, h3⟩
              rw [List.getD_eq_getElem?_getD, List.getElem?_set_ne (by omega), List.getElem?_set_ne (by omega), ← List.getD_eq_getElem?_getD]; exact h2
/-- the vector is balanced -/
def balB (b : Nat → Bool) (n : Nat) : Bool := decide (stk b n = some [])

theorem atI (s : Int) (ws : List Int) (i : Nat) (h : i / 16 < ws.length) (hw : ∀ w ∈ ws, 0 ≤ w ∧ w ≤ 65535) (hi : i < 4611686018427387904) : impl_Bits_at.f s ws i = some (bitAt ws i) := at_eq ws i h hw hi
theorem atI_good {s : Int} {ws : List Int} (h : Good s ws) (i : Nat) (hi : (i : Int) < s) : impl_Bits_at.f s ws i = some (bitAt ws i) :=
  atI s ws i (good_place h i hi).1 (good_words s ws h) (by have := good_place h i hi; omega)

/-- the open places as the program keeps them: the latest last -/
def opn (st : List Nat) : List Int := (st.reverse).map (fun (j : Nat) => (j : Int))
theorem opn_push (i : Nat) (st : List Nat) : opn (i :: st) = opn st ++ [(i : Int)] := by simp [opn]
theorem opn_len (st : List Nat) : (opn st).length = st.length := by simp [opn]
theorem opn_last (j : Nat) (t : List Nat) : rd (opn (j :: t)) (((opn (j :: t)).length : Int) - 1) = j := by
  rw [opn_push, rd_last (opn t) [] (j : Int) _ (by simp)]
theorem opn_take (j : Nat) (t : List Nat) : (opn (j :: t)).take (((opn (j :: t)).length : Int) - 1).toNat = opn t := by
  rw [opn_push, show (((opn t ++ [(j : Int)]).length : Int) - 1).toNat = (opn t).length from by simp]; simp
/-- what partners answers -/
def partAns (b : Nat → Bool) (n : Nat) : List Int × Bool := match prun b n n with
  | none => ([], false)
  | some (o, st) => (o, decide (st = []))
theorem prun_none (b : Nat → Bool) (n i d : Nat) (h : prun b n i = none) : prun b n (i + d) = none := by
  induction d with
  | zero => exact h
  | succ d ih => rw [← Nat.add_assoc, prun, ih]
theorem partnersI_l {s : Int} {ws : List Int} (h : Good s ws) (d : Nat) : ∀ (k i : Nat) (o : List Int) (st : List Nat), ((i + d : Nat) : Int) = s → prun (bitAt ws) s.toNat i = some (o, st) → d < k →
    impl_partners.l0 k o (opn st) s i s ws = some (partAns (bitAt ws) s.toNat) := by
  have hs := h.2.1
  induction d with
  | zero =>
    intro k i o st hi hp hk
    obtain ⟨k, rfl⟩ := succOf hk
    simp only [impl_partners.l0]
    have e : i = s.toNat := by omega
    rw [if_neg (by omega)]
    unfold partAns
    subst e
    rw [hp, opn_len]
    congr 2
    cases st <;> simp <;> omega
  | succ d ih =>
    intro k i o st hi hp hk
    obtain ⟨k, rfl⟩ := succOf hk
    simp only [impl_partners.l0]
    have hl := prun_len _ _ _ _ _ hp
    have hst : stk (bitAt ws) i = some st := by rw [← prun_stk (bitAt ws) s.toNat i, hp]; rfl
    have hsz : st.length ≤ i := by
      have := stk_len _ _ _ hst
      have := ones_le (bitAt ws) i 0
      omega
    rw [if_pos (by omega), atI_good h i (by omega), Option.bind_some, w64n i (by omega)]
    cases c : bitAt ws i
    · rw [if_neg (by simp), opn_len]
      cases st with
      | nil =>
        have := prun_none _ _ _ d (prun_fail hp c)
        rw [show i + 1 + d = s.toNat from by omega] at this
        rw [if_pos (by simp)]; unfold partAns; rw [this]
      | cons j t =>
        have hj := stk_lt _ _ hst j (by simp)
        have h1 := ih k (i + 1) _ t (by omega) (prun_pop hp c) (by omega)
        have hlen : (opn (j :: t)).length = t.length + 1 := by rw [opn_len]; simp
        have e1 := opn_last j t
        have e2 := opn_take j t
        rw [hlen] at e1 e2
        have hc : ((j :: t).length : Int) = ((t.length + 1 : Nat) : Int) := by simp
        rw [hc]
        rw [if_neg (by omega), w64 (by simp at hsz; omega) (by simp at hsz; omega), e1, e2]
        rw [if_pos (by omega), if_pos (by omega), if_pos (by omega), if_pos (by omega), if_pos (by omega), if_pos (by omega), if_pos (by omega)]
        rw [Int.toNat_natCast, Int.toNat_natCast]
        exact h1
    · have h1 := ih k (i + 1) _ _ (by omega) (prun_push hp c) (by omega)
      rw [if_pos rfl, opn_len, if_pos (by omega), ← opn_push]
      exact h1
theorem partnersI {s : Int} {ws : List Int} (h : Good s ws) (k : Nat) (hk : 4096 < k) : impl_partners.f k s ws = some (partAns (bitAt ws) s.toNat) := by
  have h0 := h.1
  have hs := h.2.1
  unfold impl_partners.f
  rw [if_pos h0, if_pos (by omega)]
  have := partnersI_l h s.toNat k 0 (List.replicate s.toNat 0) [] (by omega) rfl (by omega)
  exact this
theorem part_bal (b : Nat → Bool) (n : Nat) : (partAns b n).2 = balB b n := by
  unfold partAns balB
  have := prun_stk b n n
  cases e : prun b n n with
  | none => rw [e] at this; rw [← this]; simp
  | some p => obtain ⟨o, st⟩ := p; rw [e] at this; rw [← this]; simp

theorem bal_run {b : Nat → Bool} {n : Nat} (h : balB b n = true) : ∃ o, prun b n n = some (o, []) ∧ partAns b n = (o, true) ∧ o.length = n := by
  have h1 : stk b n = some [] := of_decide_eq_true h
  have h2 := prun_stk b n n
  rw [h1] at h2
  cases e : prun b n n with
  | none => rw [e] at h2; cases h2
  | some p =>
    obtain ⟨o, st⟩ := p
    rw [e] at h2
    have : st = [] := by simpa using h2
    subst this
    exact ⟨o, rfl, by unfold partAns; rw [e]; simp, prun_len _ _ _ _ _ e⟩
/-- in a balanced vector each bit has its partner in the list -/
theorem bal_mate {b : Nat → Bool} {n : Nat} {o : List Int} (h : prun b n n = some (o, [])) (x : Nat) (hx : x < n) : ∃ y : Nat, y < n ∧ o.getD x 0 = (y : Int) ∧ (b x = true → Mt b x y) ∧ (b x = false → Mt b y x) :=
  prun_told b n n (Nat.le_refl _) o [] h x hx (by simp)
theorem bal_stk {b : Nat → Bool} {n : Nat} (h : balB b n = true) (i : Nat) (hi : i ≤ n) : ∃ st, stk b i = some st := stk_some b i n hi (of_decide_eq_true h)
/-- the partner of a bit of a balanced vector, as the list has it -/
def mateOf (b : Nat → Bool) (n x : Nat) : Int := (partAns b n).1.getD x 0
/-- what CloseOf (on) and OpenOf (off) answer -/
def mateAns (s : Int) (ws : List Int) (i : Int) (on : Bool) : Int × Bool :=
  if Good s ws ∧ (0 ≤ i ∧ i < s) ∧ bitAt ws i.toNat = on ∧ balB (bitAt ws) s.toNat = true then (mateOf (bitAt ws) s.toNat i.toNat, true) else (0, false)

/-- the parent of the node that opens at i -/
def parOf (b : Nat → Bool) (i : Nat) : Int := match stk b i with
  | some (j :: _) => ((ones b 0 j : Nat) : Int)
  | _ => -1
/-- the parents of the nodes that open before i -/
def parN (b : Nat → Bool) : Nat → List Int
  | 0 => []
  | i + 1 => if b i = true then parN b i ++ [parOf b i] else parN b i
theorem parN_len (b : Nat → Bool) (i : Nat) : (parN b i).length = ones b 0 i := by
  induction i with
  | zero => rfl
  | succ i ih =>
    have h2 := ones_snoc b i 0
    rw [Nat.zero_add] at h2
    rw [h2]; simp only [parN]
    split
    · simp [ih]
    · simp [ih]
/-- the way from the root, as the program keeps it -/
def pth (b : Nat → Bool) (st : List Nat) : List Int := -1 :: (st.reverse.map fun (j : Nat) => ((ones b 0 j : Nat) : Int))
theorem pth_push (b : Nat → Bool) (j : Nat) (st : List Nat) : pth b (j :: st) = pth b st ++ [((ones b 0 j : Nat) : Int)] := by simp [pth]
theorem pth_len (b : Nat → Bool) (st : List Nat) : (pth b st).length = st.length + 1 := by simp [pth]
theorem pth_last (b : Nat → Bool) (i : Nat) (st : List Nat) (h : stk b i = some st) : rd (pth b st) (((st.length + 1 : Nat) : Int) - 1) = parOf b i := by
  unfold parOf
  rw [h]
  cases st with
  | nil => rfl
  | cons j t => rw [pth_push, rd_last (pth b t) [] _ _ (by rw [pth_len]; simp)]
/-- what ParentsOf answers -/
def parAns (s : Int) (ws : List Int) : List Int × Bool := if Good s ws ∧ balB (bitAt ws) s.toNat = true ∧ s ≤ 128 then (parN (bitAt ws) s.toNat, true) else ([], false)
theorem parAns_len (s : Int) (ws : List Int) : (parAns s ws).1.length ≤ 300 := by
  unfold parAns
  split
  · rename_i h
    rw [parN_len]
    have := ones_le (bitAt ws) s.toNat 0
    omega
  · simp

theorem atS (s : Int) (ws : List Int) (i : Nat) (h : i / 16 < ws.length) (hw : ∀ w ∈ ws, 0 ≤ w ∧ w ≤ 65535) (hi : i < 4611686018427387904) : spec_biAt.f s ws i = some (bitAt ws i) := at_eq ws i h hw hi
theorem atS_good {s : Int} {ws : List Int} (h : Good s ws) (i : Nat) (hi : (i : Int) < s) : spec_biAt.f s ws i = some (bitAt ws i) :=
  atS s ws i (good_place h i hi).1 (good_words s ws h) (by have := good_place h i hi; omega)

theorem raAboveS_l {s : Int} {ws : List Int} (h : Good s ws) (i : Nat) (hi : (i : Int) < s) (st : List Nat) (hst : stk (bitAt ws) i = some st) (m : Nat) :
    ∀ (k : Nat) (sm : List Nat), m ≤ i → stk (bitAt ws) m = some sm → st.length ≤ sm.length → (∀ j t, st = j :: t → j < m) → m < k →
    spec_raAbove.l0 k ((sm.length : Int) - st.length) ((m : Int) - 1) s ws = some (match st with | [] => (-1 : Int) | j :: _ => (j : Int)) := by
  have hs := h.2.1
  induction m with
  | zero =>
    intro k sm hm hsm hle hj hk
    obtain ⟨k, rfl⟩ := succOf hk
    simp only [spec_raAbove.l0]
    rw [if_neg (by omega)]
    cases st with
    | nil => rfl
    | cons j t => have := hj j t rfl; omega
  | succ m ih =>
    intro k sm hm hsm hle hj hk
    obtain ⟨k, rfl⟩ := succOf hk
    obtain ⟨s', hs'⟩ := stk_some (bitAt ws) m (m + 1) (by omega) hsm
    have hsz : sm.length ≤ m + 1 := by
      have := stk_len _ _ _ hsm
      have := ones_le (bitAt ws) (m + 1) 0
      omega
    have e : ((m + 1 : Nat) : Int) - 1 = (m : Int) := by omega
    simp only [spec_raAbove.l0]
    rw [if_pos (by omega), e, atS_good h m (by omega), Option.bind_some, w64 (x := (m : Int) - 1) (by omega) (by omega), w64 (by omega) (by omega), w64 (by omega) (by omega)]
    cases cb : bitAt ws m
    · rw [if_neg (by simp)]
      cases s' with
      | nil => rw [stk_fail hs' cb] at hsm; cases hsm
      | cons x s' =>
        rw [stk_pop hs' cb] at hsm; cases hsm
        have hj' : ∀ j t, st = j :: t → j < m := by
          intro j t est
          have := hj j t est
          have hne : j ≠ m := by
            rintro rfl
            have := (stk_lt _ _ hst j (by rw [est]; simp)).2
            rw [cb] at this; cases this
          omega
        have h1 := ih k (x :: sm) (by omega) hs' (by simp only [List.length_cons]; omega) hj' (by omega)
        rw [show ((sm.length : Int) - st.length + 1) = ((x :: sm).length : Int) - st.length from by simp only [List.length_cons]; omega]
        exact h1
    · rw [if_pos rfl]
      rw [stk_push hs' cb] at hsm; cases hsm
      cases st with
      | nil =>
        have h1 := ih k s' (by omega) hs' (by simp) (by intro j t e; cases e) (by omega)
        rw [if_neg (by simp only [List.length_cons, List.length_nil]; omega)]
        rw [show (((m :: s').length : Int) - ([] : List Nat).length - 1) = (s'.length : Int) - ([] : List Nat).length from by simp only [List.length_cons, List.length_nil]; omega]
        exact h1
      | cons j t =>
        have hin := inSt (bitAt ws) i [] j t hst
        have hjm := hj j t rfl
        obtain ⟨u, hu⟩ := hin.2.2.2 (m + 1) (by omega) (by omega)
        rw [stk_push hs' cb] at hu
        have hu := Option.some.inj hu
        cases u with
        | nil =>
          simp at hu
          obtain ⟨rfl, rfl⟩ := hu
          rw [if_pos (by simp)]
        | cons x u =>
          simp at hu
          obtain ⟨rfl, rfl⟩ := hu
          have hjlt : j < m := (stk_lt _ _ hs' j (by simp)).1
          have h1 := ih k _ (by omega) hs' (by simp) (by intro j' t' e; cases e; exact hjlt) (by omega)
          rw [if_neg (by simp only [List.length_cons, List.length_append]; omega)]
          rw [show (((m :: (u ++ j :: t)).length : Int) - (j :: t).length - 1) = ((u ++ j :: t).length : Int) - (j :: t).length from by simp only [List.length_cons, List.length_append]; omega]
          exact h1
theorem raAboveS {s : Int} {ws : List Int} (h : Good s ws) (i : Nat) (hi : (i : Int) < s) (st : List Nat) (hst : stk (bitAt ws) i = some st) (k : Nat) (hk : 5000 < k) :
    spec_raAbove.f k s ws i = some (match st with | [] => (-1 : Int) | j :: _ => (j : Int)) := by
  have hs := h.2.1
  have := raAboveS_l h i hi st hst i k st (by omega) hst (by omega) (fun j t e => (stk_lt _ _ hst j (by rw [e]; simp)).1) (by omega)
  rw [show (st.length : Int) - st.length = 0 from by omega] at this
  unfold spec_raAbove.f
  rw [w64 (by omega) (by omega)]
  exact this

theorem balS_l {s : Int} {ws : List Int} (h : Good s ws) (d : Nat) : ∀ (k i : Nat) (st : List Nat), ((i + d : Nat) : Int) = s → stk (bitAt ws) i = some st → d < k →
    spec_raBalanced.l0 k st.length i s ws = some (balB (bitAt ws) s.toNat) := by
  have hs := h.2.1
  induction d with
  | zero =>
    intro k i st hi hp hk
    obtain ⟨k, rfl⟩ := succOf hk
    simp only [spec_raBalanced.l0]
    have e : i = s.toNat := by omega
    rw [if_neg (by omega)]
    unfold balB
    subst e
    rw [hp]
    cases st <;> simp <;> omega
  | succ d ih =>
    intro k i st hi hst hk
    obtain ⟨k, rfl⟩ := succOf hk
    simp only [spec_raBalanced.l0]
    have hsz : st.length ≤ i := by
      have := stk_len _ _ _ hst
      have := ones_le (bitAt ws) i 0
      omega
    rw [if_pos (by omega), atS_good h i (by omega), Option.bind_some, w64n i (by omega), w64n _ (by omega), w64 (by omega) (by omega)]
    cases c : bitAt ws i
    · rw [if_neg (by simp)]
      cases st with
      | nil =>
        have := stk_none _ _ d (stk_fail hst c)
        rw [show i + 1 + d = s.toNat from by omega] at this
        rw [if_pos (by simp)]; unfold balB; rw [this]; simp
      | cons j t =>
        have h1 := ih k (i + 1) t (by omega) (stk_pop hst c) (by omega)
        rw [if_neg (by simp), show ((j :: t).length : Int) - 1 = (t.length : Int) from by simp]
        exact h1
    · have h1 := ih k (i + 1) (i :: st) (by omega) (stk_push hst c) (by omega)
      rw [if_pos rfl, if_neg (by omega)]
      exact h1
theorem balS {s : Int} {ws : List Int} (h : Good s ws) (k : Nat) (hk : 4096 < k) : spec_raBalanced.f k s ws = some (balB (bitAt ws) s.toNat) :=
  balS_l h s.toNat k 0 [] (by have := h.1; omega) rfl (by have := h.2.1; omega)

theorem inS (a b c : Int) : spec_l1In.f a b c = some (decide (b ≤ a ∧ a ≤ c)) := by
  unfold spec_l1In.f; split <;> simp [*]

theorem l1All_l (l : List Int) (lo hi : Int) (hl : l.length < 9223372036854775807) : ∀ (suf pre : List Int) (k : Nat), l = pre ++ suf → suf.length < k →
    spec_l1All.l0 k lo hi l l.length pre.length = some (decide (∀ w ∈ suf, lo ≤ w ∧ w ≤ hi)) := by
  intro suf
  induction suf with
  | nil =>
    intro pre k e hk
    obtain ⟨k, rfl⟩ := succOf hk
    simp only [spec_l1All.l0]
    have : l.length = pre.length := by rw [e]; simp
    rw [if_neg (by omega)]; simp
  | cons x suf ih =>
    intro pre k e hk
    obtain ⟨k, rfl⟩ := succOf hk
    simp only [spec_l1All.l0]
    have hlen : l.length = pre.length + suf.length + 1 := by rw [e]; simp; omega
    have e1 : rd l (pre.length : Int) = x := by rw [e]; exact rd_mid pre suf x
    have e2 : (pre ++ [x]).length = pre.length + 1 := by simp
    have h3 := ih (pre ++ [x]) k (by rw [e]; simp) (by simp only [List.length_cons] at hk; omega)
    rw [e2] at h3
    rw [if_pos (by omega), if_pos (by omega), if_pos (by omega), e1, inS, Option.bind_some, w64n _ (by omega), h3]
    by_cases c : lo ≤ x ∧ x ≤ hi
    · rw [decide_eq_true c, if_pos rfl]; congr 1; rw [decide_eq_decide]; simp [c]
    · rw [decide_eq_false c, if_neg (by simp)]; congr 1; symm; rw [decide_eq_false_iff_not]; intro g; exact c (g x (by simp))
theorem l1All (l : List Int) (lo hi : Int) (k : Nat) (hl : l.length < 9223372036854775807) (hk : l.length < k) : spec_l1All.f k l lo hi = some (decide (∀ w ∈ l, lo ≤ w ∧ w ≤ hi)) := by
  unfold spec_l1All.f
  have h := l1All_l l lo hi hl l [] k rfl hk
  simpa using h

theorem goodS (s : Int) (ws : List Int) (k : Nat) (hl : ws.length < 9223372036854775807) (hk : ws.length < k) : spec_biGood.f k s ws = some (decide (Good s ws)) := by
  unfold spec_biGood.f
  rw [inS, Option.bind_some]
  by_cases c : 0 ≤ s ∧ s ≤ 4096
  · rw [decide_eq_true c, if_pos rfl, words_eq s c.1 c.2]
    by_cases c2 : (ws.length : Int) = (s + 15) / 16
    · rw [if_pos c2, l1All ws 0 65535 k hl hk, Option.bind_some]
      by_cases c3 : ∀ w ∈ ws, 0 ≤ w ∧ w ≤ 65535
      · rw [decide_eq_true c3, if_pos rfl, last_eq s ws c.1 c.2 c2]
        congr 1; rw [decide_eq_decide]; unfold Good
        exact ⟨fun h => ⟨c.1, c.2, c2, c3, h⟩, fun h => h.2.2.2.2⟩
      · rw [decide_eq_false c3, if_neg (by simp)]; congr 1; symm; rw [decide_eq_false_iff_not]; exact fun h => c3 h.2.2.2.1
    · rw [if_neg c2]; congr 1; symm; rw [decide_eq_false_iff_not]; exact fun h => c2 h.2.2.1
  · rw [decide_eq_false c, if_neg (by simp)]; congr 1; symm; rw [decide_eq_false_iff_not]; exact fun h => c ⟨h.1, h.2.1⟩

theorem countS_l {s : Int} {ws : List Int} (h : Good s ws) (d : Nat) : ∀ (k i n : Nat), ((i + d : Nat) : Int) ≤ s → n ≤ i → d < k →
    spec_biCount.l0 k ((i + d : Nat) : Int) n i s ws = some ((n + ones (bitAt ws) i d : Nat) : Int) := by
  have hs := h.2.1
  induction d with
  | zero =>
    intro k i n hi hn hk
    obtain ⟨k, rfl⟩ := succOf hk
    simp only [spec_biCount.l0]
    rw [if_neg (by omega)]; rfl
  | succ d ih =>
    intro k i n hi hn hk
    obtain ⟨k, rfl⟩ := succOf hk
    simp only [spec_biCount.l0]
    rw [if_pos (by omega), atS_good h i (by omega), Option.bind_some, w64n i (by omega), w64n n (by omega)]
    have e : i + (d + 1) = i + 1 + d := by omega
    rw [e]
    have h1 := ih k (i + 1) (n + 1) (by omega) (by omega) (by omega)
    have h2 := ih k (i + 1) n (by omega) (by omega) (by omega)
    cases c : bitAt ws i
    · rw [if_neg (by simp), h2]; simp only [ones, c, Bool.false_eq_true, if_false]; congr 2; omega
    · rw [if_pos rfl, h1]; simp only [ones, c, if_true]; congr 2; omega
theorem countS {s : Int} {ws : List Int} (h : Good s ws) (i j k : Nat) (hij : i ≤ j) (hj : (j : Int) ≤ s) (hk : 4096 < k) :
    spec_biCount.f k s ws i j = some ((ones (bitAt ws) i (j - i) : Nat) : Int) := by
  have hs := h.2.1
  have := countS_l h (j - i) k i 0 (by omega) (by omega) (by omega)
  rw [show i + (j - i) = j from by omega, Nat.zero_add] at this
  exact this

theorem parS_l {s : Int} {ws : List Int} (h : Good s ws) (hb : balB (bitAt ws) s.toNat = true) (d : Nat) : ∀ (k i : Nat), ((i + d : Nat) : Int) = s → d + 5001 < k →
    spec_ParentsOf.l0 k (parN (bitAt ws) i) i s ws = some (parN (bitAt ws) s.toNat, true) := by
  have hs := h.2.1
  induction d with
  | zero =>
    intro k i hi hk
    obtain ⟨k, rfl⟩ := succOf hk
    simp only [spec_ParentsOf.l0]
    rw [if_neg (by omega), show i = s.toNat from by omega]
  | succ d ih =>
    intro k i hi hk
    obtain ⟨k, rfl⟩ := succOf hk
    have h1 := ih k (i + 1) (by omega) (by omega)
    have hl := parN_len (bitAt ws) i
    have ho := ones_le (bitAt ws) i 0
    simp only [spec_ParentsOf.l0]
    rw [if_pos (by omega), atS_good h i (by omega), Option.bind_some, w64n i (by omega)]
    cases c : bitAt ws i
    · have e : parN (bitAt ws) (i + 1) = parN (bitAt ws) i := by simp [parN, c]
      rw [e] at h1
      rw [if_neg (by simp)]; exact h1
    · have e : parN (bitAt ws) (i + 1) = parN (bitAt ws) i ++ [parOf (bitAt ws) i] := by simp [parN, c]
      rw [e] at h1
      obtain ⟨st, hst⟩ := bal_stk hb i (by omega)
      rw [if_pos rfl, raAboveS h i (by omega) st hst k (by omega), Option.bind_some]
      unfold parOf at h1
      rw [hst] at h1
      cases st with
      | nil => rw [if_pos (by simp), if_pos (by omega)]; exact h1
      | cons j t =>
        have hj := stk_lt _ _ hst j (by simp)
        have hc := countS h 0 j k (by omega) (by omega) (by omega)
        simp only [Int.natCast_zero, Nat.sub_zero] at hc
        simp only []
        rw [if_neg (by omega), hc, Option.bind_some, if_pos (by omega)]; exact h1
theorem parentsS (s : Int) (ws : List Int) (k : Nat) (hl : ws.length < 9223372036854775807) (hk : ws.length + 10000 < k) : spec_ParentsOf.f k s ws = some (parAns s ws) := by
  obtain ⟨k, rfl⟩ := succOf hk
  unfold spec_ParentsOf.f parAns
  rw [goodS s ws _ hl (by omega), Option.bind_some]
  by_cases c : Good s ws
  · have h0 := c.1
    rw [decide_eq_true c, if_pos rfl, balS c _ (by omega), Option.bind_some]
    cases hb : balB (bitAt ws) s.toNat
    · rw [if_neg (by simp)]; simp only [spec_ParentsOf.j0, if_true]; rw [if_neg (by simp)]
    · rw [if_pos rfl]; simp only [spec_ParentsOf.j0]
      by_cases c2 : s ≤ 128
      · have := parS_l c hb s.toNat k 0 (by omega) (by omega)
        have cc : Good s ws ∧ True ∧ s ≤ 128 := ⟨c, trivial, c2⟩
        rw [if_neg (by simp; omega), if_pos cc]
        exact this
      · rw [if_pos (by simp; omega), if_neg (fun h => c2 h.2.2)]
  · rw [decide_eq_false c, if_neg (by simp)]; simp only [spec_ParentsOf.j0, if_true]; rw [if_neg (fun h => c h.1)]

/-- what IsBalanced answers -/
def balAns (s : Int) (ws : List Int) : Bool × Bool := if Good s ws then (balB (bitAt ws) s.toNat, true) else (false, false)

theorem inI (a b c : Int) : impl_in.f a b c = some (decide (b ≤ a ∧ a ≤ c)) := by
  unfold impl_in.f; split <;> simp [*]

theorem goodI_l (s : Int) (ws : List Int) (hl : ws.length < 9223372036854775807) (h0 : 0 ≤ s) (h1 : s ≤ 4096) (h2 : (ws.length : Int) = (s + 15) / 16) : ∀ (suf pre : List Int) (k : Nat), ws = pre ++ suf → suf.length < k →
    impl_IsBits.l0 k ws ws.length pre.length s ws = some (decide ((∀ w ∈ suf, 0 ≤ w ∧ w ≤ 65535) ∧ (s % 16 = 0 ∨ ws.getD (ws.length - 1) 0 / 2 ^ (s % 16).toNat = 0))) := by
  intro suf
  induction suf with
  | nil =>
    intro pre k e hk
    obtain ⟨k, rfl⟩ := succOf hk
    simp only [impl_IsBits.l0]
    have : ws.length = pre.length := by rw [e]; simp
    rw [if_neg (by omega), last_eq s ws h0 h1 h2]; simp
  | cons x suf ih =>
    intro pre k e hk
    obtain ⟨k, rfl⟩ := succOf hk
    simp only [impl_IsBits.l0]
    have hlen : ws.length = pre.length + suf.length + 1 := by rw [e]; simp; omega
    have e1 : rd ws (pre.length : Int) = x := by rw [e]; exact rd_mid pre suf x
    have e2 : (pre ++ [x]).length = pre.length + 1 := by simp
    have h3 := ih (pre ++ [x]) k (by rw [e]; simp) (by simp only [List.length_cons] at hk; omega)
    rw [e2] at h3
    rw [if_pos (by omega), if_pos (by omega), if_pos (by omega), e1, inI, Option.bind_some, w64n _ (by omega), h3]
    by_cases c : 0 ≤ x ∧ x ≤ 65535
    · rw [decide_eq_true c, if_pos rfl]; congr 1; rw [decide_eq_decide]; simp [c]
    · rw [decide_eq_false c, if_neg (by simp)]; congr 1; symm; rw [decide_eq_false_iff_not]; intro g; exact c (g.1 x (by simp))
theorem goodI (s : Int) (ws : List Int) (k : Nat) (hl : ws.length < 9223372036854775807) (hk : ws.length + 1 < k) : impl_IsBits.f k s ws = some (decide (Good s ws)) := by
  obtain ⟨k, rfl⟩ := succOf hk
  unfold impl_IsBits.f impl_words.f
  rw [inI, Option.bind_some]
  by_cases c : 0 ≤ s ∧ s ≤ 4096
  · rw [decide_eq_true c, if_pos rfl, Option.bind_some, words_eq2 s c.1 c.2]
    simp only [impl_IsBits.j0]
    by_cases c2 : (ws.length : Int) = (s + 15) / 16
    · have h := goodI_l s ws hl c.1 c.2 c2 ws [] k rfl (by omega)
      simp only [List.length_nil, Int.natCast_zero] at h
      rw [if_neg (by simpa using c2), h]
      congr 1; rw [decide_eq_decide]; unfold Good
      exact ⟨fun h => ⟨c.1, c.2, c2, h.1, h.2⟩, fun h => h.2.2.2⟩
    · rw [if_pos (by simpa using c2)]; congr 1; symm; rw [decide_eq_false_iff_not]; exact fun h => c2 h.2.2.1
  · rw [decide_eq_false c, if_neg (by simp)]; simp only [impl_IsBits.j0, if_true]; congr 1; symm; rw [decide_eq_false_iff_not]; exact fun h => c ⟨h.1, h.2.1⟩

theorem isBalI (s : Int) (ws : List Int) (k : Nat) (hl : ws.length < 9223372036854775807) (hk : ws.length + 5000 < k) : impl_IsBalanced.f k s ws = some (balAns s ws) := by
  unfold impl_IsBalanced.f balAns
  rw [goodI s ws k hl (by omega), Option.bind_some]
  by_cases c : Good s ws
  · rw [decide_eq_true c, if_pos rfl, if_pos c, partnersI c k (by omega), Option.bind_some, part_bal]
  · rw [decide_eq_false c, if_neg (by simp), if_neg c]

theorem parI_l {s : Int} {ws : List Int} (h : Good s ws) (hb : balB (bitAt ws) s.toNat = true) (d : Nat) : ∀ (k i : Nat) (st : List Nat), ((i + d : Nat) : Int) = s → stk (bitAt ws) i = some st → d < k →
    impl_ParentsOf.l0 k (parN (bitAt ws) i) (pth (bitAt ws) st) s i s ws = some (parN (bitAt ws) s.toNat, true) := by
  have hs := h.2.1
  induction d with
  | zero =>
    intro k i st hi hst hk
    obtain ⟨k, rfl⟩ := succOf hk
    simp only [impl_ParentsOf.l0]
    rw [if_neg (by omega), show i = s.toNat from by omega]
  | succ d ih =>
    intro k i st hi hst hk
    obtain ⟨k, rfl⟩ := succOf hk
    have hl := parN_len (bitAt ws) i
    have ho := ones_le (bitAt ws) i 0
    have hlen := stk_len _ _ _ hst
    have hp := pth_len (bitAt ws) st
    simp only [impl_ParentsOf.l0]
    rw [if_pos (by omega), atI_good h i (by omega), Option.bind_some, w64n i (by omega), hp]
    have ew : wrap64 (((st.length + 1 : Nat) : Int) - 1) = ((st.length + 1 : Nat) : Int) - 1 := w64 (by omega) (by omega)
    rw [ew]
    cases c : bitAt ws i
    · obtain ⟨st', hst'⟩ := bal_stk hb (i + 1) (by omega)
      cases st with
      | nil => rw [stk_fail hst c] at hst'; cases hst'
      | cons j t =>
        have h1 := ih k (i + 1) t (by omega) (stk_pop hst c) (by omega)
        have e : parN (bitAt ws) (i + 1) = parN (bitAt ws) i := by simp [parN, c]
        have ht : (pth (bitAt ws) (j :: t)).take ((((j :: t).length + 1 : Nat) : Int) - 1).toNat = pth (bitAt ws) t := by
          rw [pth_push, show ((((j :: t).length + 1 : Nat) : Int) - 1).toNat = (pth (bitAt ws) t).length from by rw [pth_len]; simp]; simp
        rw [e] at h1
        rw [if_neg (by simp), if_pos (by omega), if_pos (by omega), ht]; exact h1
    · have h1 := ih k (i + 1) (i :: st) (by omega) (stk_push hst c) (by omega)
      have e : parN (bitAt ws) (i + 1) = parN (bitAt ws) i ++ [parOf (bitAt ws) i] := by simp [parN, c]
      have hl2 := parN_len (bitAt ws) (i + 1)
      have h2 := ones_snoc (bitAt ws) i 0
      rw [Nat.zero_add, c, if_pos rfl] at h2
      rw [e] at h1 hl2
      rw [if_pos rfl, if_pos (by omega), if_pos (by omega), if_pos (by omega), pth_last _ _ _ hst, Option.bind_some, if_pos (by omega), hl2, w64 (by omega) (by omega)]
      rw [pth_push] at h1
      rw [show ((ones (bitAt ws) 0 (i + 1) : Nat) : Int) - 1 = ((ones (bitAt ws) 0 i : Nat) : Int) from by omega]
      exact h1
theorem parentsI (s : Int) (ws : List Int) (k : Nat) (hl : ws.length < 9223372036854775807) (hk : ws.length + 10000 < k) : impl_ParentsOf.f k s ws = some (parAns s ws) := by
  obtain ⟨k, rfl⟩ := succOf hk
  unfold impl_ParentsOf.f parAns
  rw [isBalI s ws _ hl (by omega), Option.bind_some]
  unfold balAns
  by_cases c : Good s ws
  · have h0 := c.1
    rw [if_pos c, if_pos rfl]
    cases hb : balB (bitAt ws) s.toNat
    · rw [if_neg (by simp)]; simp only [impl_ParentsOf.j0, if_true]; rw [if_neg (by simp)]
    · rw [if_pos rfl]; simp only [impl_ParentsOf.j0]
      by_cases c2 : s ≤ 128
      · have := parI_l c hb s.toNat k 0 [] (by omega) rfl (by omega)
        have cc : Good s ws ∧ True ∧ s ≤ 128 := ⟨c, trivial, c2⟩
        rw [if_neg (by simp; omega), if_pos cc]
        exact this
      · rw [if_pos (by simp; omega), if_neg (fun h => c2 h.2.2)]
  · rw [if_neg c, if_neg (by simp)]; simp only [impl_ParentsOf.j0, if_true]; rw [if_neg (fun h => c h.1)]

theorem szIntS (l : List Int) (a : Int) (h : l.length ≤ 9223372036854775807) (ha : 0 ≤ a) (ha2 : a ≤ 1048576) : laws_szIntS.f l a = some (if a - l.length < 0 then -1 else a - l.length) := by
  unfold laws_szIntS.f; rw [w64 (by omega) (by omega)]; split <;> rfl
theorem szBits (s : Int) (l : List Int) (a : Int) (h : l.length ≤ 9223372036854775807) (ha : 0 ≤ a) (ha2 : a ≤ 1048576) : laws_szBits.f s l a = some (if a - l.length < 0 then -1 else a - l.length) := by
  unfold laws_szBits.f; rw [szIntS l a h ha ha2, Option.bind_some]
  by_cases c : a - l.length < 0
  · rw [if_pos c, if_pos (by omega)]
  · rw [if_neg c, if_neg c]

theorem toIntS_l (a : List Int) (ha : a.length < 9223372036854775807) (d : Nat) : ∀ (k i : Nat) (x : List Int), x.length = a.length → x.take i = a.take i → i ≤ a.length → a.length - i = d → d < k →
    laws_toIntS.l0 k a x i = some a := by
  induction d with
  | zero =>
    intro k i x hx hp h1 hd hk
    obtain ⟨k, rfl⟩ := succOf hk
    simp only [laws_toIntS.l0]
    rw [if_neg (by omega)]
    rw [List.take_of_length_le (by omega), List.take_of_length_le (by omega)] at hp
    rw [hp]
  | succ d ih =>
    intro k i x hx hp h1 hd hk
    obtain ⟨k, rfl⟩ := succOf hk
    simp only [laws_toIntS.l0]
    have e1 : rd a i = a[i]'(by omega) := by simp [rd, List.getD_eq_getElem?_getD, List.getElem?_eq_getElem (show i < a.length by omega)]
    have h2 := ih k (i+1) (x.set i (a[i]'(by omega))) (by simp [hx]) (by
      have e3 : List.take (i + 1) a = List.take i a ++ [a[i]'(by omega)] := List.take_succ_eq_append_getElem (by omega)
      rw [e3, List.take_succ_eq_append_getElem (by simp; omega), List.take_set_of_le (Nat.le_refl _), hp]
      simp) (by omega) (by omega) (by omega)
    rw [if_pos (by omega), if_pos (by omega), if_pos (by omega), w64n i (by omega), e1]
    simpa using h2
theorem toIntS_f (a : List Int) (k : Nat) (ha : a.length ≤ 35184372088832) (hk : a.length < k) : laws_toIntS.f k a = some a := by
  unfold laws_toIntS.f
  rw [if_pos (by omega), if_pos (by omega)]
  exact toIntS_l a (by omega) a.length k 0 _ (by simp) (by simp) (by omega) (by omega) hk

theorem toBits_f (s : Int) (a : List Int) (k : Nat) (ha : a.length ≤ 35184372088832) (hk : a.length < k) : laws_toBits.f k s a = some (s, a) := by
  unfold laws_toBits.f; rw [toIntS_f a k ha hk]; rfl

theorem eqIntS_l (a b : List Int) (hl : a.length = b.length) (ha : a.length < 9223372036854775807) (d : Nat) : ∀ (k i : Nat), i ≤ a.length → a.length - i = d → d < k →
    laws_eqIntS.l0 k a b i = some (decide (a.drop i = b.drop i)) := by
  induction d with
  | zero =>
    intro k i h1 hd hk
    obtain ⟨k, rfl⟩ := succOf hk
    simp only [laws_eqIntS.l0]
    rw [if_neg (by omega), List.drop_eq_nil_of_le (by omega), List.drop_eq_nil_of_le (by omega)]; simp
  | succ d ih =>
    intro k i h1 hd hk
    obtain ⟨k, rfl⟩ := succOf hk
    simp only [laws_eqIntS.l0]
    have h2 := ih k (i+1) (by omega) (by omega) (by omega)
    have e1 : rd a i = a[i]'(by omega) := by simp [rd, List.getD_eq_getElem?_getD, List.getElem?_eq_getElem (show i < a.length by omega)]
    have e2 : rd b i = b[i]'(by omega) := by simp [rd, List.getD_eq_getElem?_getD, List.getElem?_eq_getElem (show i < b.length by omega)]
    have e3 := List.drop_eq_getElem_cons (show i < a.length by omega)
    have e4 := List.drop_eq_getElem_cons (show i < b.length by omega)
    rw [if_pos (by omega), if_pos (by omega), if_pos (by omega), e1, e2, w64n i (by omega), h2, e3, e4]
    clear e3 e4 h2 ih
    split <;> simp only [List.cons.injEq, *, true_and, false_and, decide_false]
theorem eqIntS_f (a b : List Int) (k : Nat) (ha : a.length < 9223372036854775807) (hk : a.length < k) : laws_eqIntS.f k a b = some (decide (a = b)) := by
  unfold laws_eqIntS.f
  split
  · have h := eqIntS_l a b (by omega) ha a.length k 0 (by omega) (by omega) hk
    simpa using h
  · have : a ≠ b := by intro h; subst h; simp_all
    simp [this]
theorem eqIntS_same (a : List Int) (k : Nat) (ha : a.length < 9223372036854775807) (hk : a.length < k) : laws_eqIntS.f k a a = some true := by
  rw [eqIntS_f a a k ha hk]; simp

theorem eqBits_f (s t : Int) (a b : List Int) (k : Nat) (ha : a.length < 9223372036854775807) (hk : a.length < k) : laws_eqBits.f k s a t b = some (decide (s = t ∧ a = b)) := by
  unfold laws_eqBits.f
  split
  · rw [eqIntS_f a b k ha hk, Option.bind_some]
    by_cases h : a = b <;> simp [*]
  · simp [*]
theorem eqBits_same (s : Int) (a : List Int) (k : Nat) (ha : a.length < 9223372036854775807) (hk : a.length < k) : laws_eqBits.f k s a s a = some true := by
  rw [eqBits_f s s a a k ha hk]; simp

def marks : Nat → Nat → List Int
  | 0, _ => []
  | n + 1, m => (m : Int) :: marks n (m + 1)
theorem marks_len (n : Nat) : ∀ m, (marks n m).length = n := by
  induction n with
  | zero => intro m; rfl
  | succ n ih => intro m; simp [marks, ih]

theorem markIntS_l (n : Nat) (hn : n < 9223372036854775807) (d : Nat) : ∀ (k i m : Nat) (x : List Int), x.length = n → i ≤ n → m + (n - i) ≤ 9223372036854775807 → n - i = d → d < k →
    laws_markIntS.l0 k x m i = some (((m + (n - i) : Nat) : Int), x.take i ++ marks (n - i) m) := by
  induction d with
  | zero =>
    intro k i m x hx h1 hm hd hk
    obtain ⟨k, rfl⟩ := succOf hk
    simp only [laws_markIntS.l0]
    rw [if_neg (by omega), hd, List.take_of_length_le (by omega)]; simp [marks]
  | succ d ih =>
    intro k i m x hx h1 hm hd hk
    obtain ⟨k, rfl⟩ := succOf hk
    simp only [laws_markIntS.l0]
    have h2 := ih k (i+1) (m+1) (x.set i m) (by simp [hx]) (by omega) (by omega) (by omega) (by omega)
    have e1 : n - i = (n - (i+1)) + 1 := by omega
    rw [if_pos (by omega), if_pos (by omega), w64n i (by omega), w64n m (by omega), Int.toNat_natCast, h2]
    rw [e1, marks, List.take_succ_eq_append_getElem (by simp; omega), List.take_set_of_le (Nat.le_refl _)]
    simp only [List.getElem_set_self, List.append_assoc, List.cons_append, List.nil_append]
    congr 3
    omega
theorem markIntS_f (x : List Int) (m k : Nat) (hm : m + x.length ≤ 9223372036854775806) (hk : x.length < k) : laws_markIntS.f k x m = some (((m + x.length : Nat) : Int), marks x.length m) := by
  unfold laws_markIntS.f
  have h := markIntS_l x.length (by omega) x.length k 0 m x rfl (by omega) (by omega) (by omega) hk
  simpa using h
theorem markIntS_1 (x : List Int) (k : Nat) (hm : x.length ≤ 9223372036854775800) (hk : x.length < k) : laws_markIntS.f k x 1 = some (((1 + x.length : Nat) : Int), marks x.length 1) :=
  markIntS_f x 1 k (by omega) hk

theorem markBits_f (s : Int) (x : List Int) (m k : Nat) (hm : m + x.length ≤ 9223372036854775806) (hk : x.length < k) : laws_markBits.f k s x m = some (((m + x.length : Nat) : Int), marks x.length m) := by
  unfold laws_markBits.f; rw [markIntS_f x m k hm hk]; rfl
theorem markBits_1 (s : Int) (x : List Int) (k : Nat) (hm : x.length ≤ 9223372036854775800) (hk : x.length < k) : laws_markBits.f k s x 1 = some (((1 + x.length : Nat) : Int), marks x.length 1) :=
  markBits_f s x 1 k (by omega) hk

theorem heldIntS_l (x : List Int) (hn : x.length < 9223372036854775807) (d : Nat) : ∀ (k i m : Nat), i ≤ x.length → m + (x.length - i) ≤ 9223372036854775807 → x.drop i = marks (x.length - i) m → x.length - i = d → d < k →
    laws_heldIntS.l0 k x m i = some ((m + (x.length - i) : Nat) : Int) := by
  induction d with
  | zero =>
    intro k i m h1 hm hx hd hk
    obtain ⟨k, rfl⟩ := succOf hk
    simp only [laws_heldIntS.l0]
    rw [if_neg (by omega), hd]; simp
  | succ d ih =>
    intro k i m h1 hm hx hd hk
    obtain ⟨k, rfl⟩ := succOf hk
    simp only [laws_heldIntS.l0]
    have e1 : x.length - i = (x.length - (i+1)) + 1 := by omega
    rw [e1, marks, List.drop_eq_getElem_cons (show i < x.length by omega)] at hx
    have e3 := (List.cons.inj hx).1
    have h2 := ih k (i+1) (m+1) (by omega) (by omega) (List.cons.inj hx).2 (by omega) (by omega)
    have e2 : rd x i = m := by rw [← e3]; simp [rd, List.getD_eq_getElem?_getD, List.getElem?_eq_getElem (show i < x.length by omega)]
    rw [if_pos (by omega), if_pos (by omega), if_pos e2, w64n i (by omega), w64n m (by omega), h2]
    simp; omega
theorem heldIntS_f (n m k : Nat) (hm : m + n ≤ 9223372036854775806) (hk : n < k) : laws_heldIntS.f k (marks n m) m = some ((m + n : Nat) : Int) := by
  unfold laws_heldIntS.f
  have h := heldIntS_l (marks n m) (by rw [marks_len]; omega) n k 0 m (by omega) (by rw [marks_len]; omega) (by rw [marks_len]; simp) (by rw [marks_len]; omega) hk
  rw [marks_len] at h
  simpa using h
theorem heldIntS_1 (n k : Nat) (hm : n ≤ 9223372036854775800) (hk : n < k) : laws_heldIntS.f k (marks n 1) 1 = some ((1 + n : Nat) : Int) :=
  heldIntS_f n 1 k (by omega) hk

theorem FnExactParentsOf : laws_FnExactParentsOf.Pure := by
  intro s l _ hm _
  have hm' : l.length ≤ 9223372036854775807 := by unfold maxLen at hm; omega
  obtain ⟨k, hk⟩ : ∃ k, k = 1060000 := ⟨_, rfl⟩
  refine ⟨k + 4, ?_⟩
  unfold laws_FnExactParentsOf.f
  rw [szBits s l 1048576 hm' (by omega) (by omega), Option.bind_some]
  by_cases hb : (1048576 : Int) - l.length < 0
  · rw [if_pos hb, if_pos (by omega)]
  rw [if_neg hb, if_neg hb]
  have hr := parAns_len s l
  have eS (fu : Nat) (hj : 1060000 ≤ fu) : spec_ParentsOf.f fu s l = some (parAns s l) := parentsS s l fu (by omega) (by omega)
  have eI (fu : Nat) (hj : 1060000 ≤ fu) : impl_ParentsOf.f fu s l = some (parAns s l) := parentsI s l fu (by omega) (by omega)
  generalize parAns s l = r at hr eS eI
  obtain ⟨r1, rb⟩ := r
  have hr : r1.length ≤ 300 := hr
  have eT (fu : Nat) (hj : 1060000 ≤ fu) : laws_toBits.f fu s l = some (s, l) := toBits_f s l fu (by omega) (by omega)
  have eE (fu : Nat) (hj : 1060000 ≤ fu) : laws_eqBits.f fu s l s l = some true := eqBits_same s l fu (by omega) (by omega)
  have eQ (fu : Nat) (hj : 1060000 ≤ fu) : laws_eqIntS.f fu r1 r1 = some true := eqIntS_same r1 fu (by omega) (by omega)
  have eM (fu : Nat) (hj : 1060000 ≤ fu) := markBits_1 s l fu (by omega) (by omega)
  have eN (fu : Nat) (hj : 1060000 ≤ fu) := markIntS_1 r1 fu (by omega) (by omega)
  have eH (fu : Nat) (hj : 1060000 ≤ fu) := heldIntS_1 r1.length fu (by omega) (by omega)
  have n1 : ¬ (((1 + l.length : Nat) : Int) < 0) := by omega
  have n2 : ¬ (((1 + r1.length : Nat) : Int) < 0) := by omega
  rw [eT _ (by omega), Option.bind_some, eS _ (by omega), Option.bind_some, Option.bind_some, eI _ (by omega), Option.bind_some, eQ _ (by omega), Option.bind_some, if_pos rfl]
  simp only [laws_FnExactParentsOf.j0]
  rw [if_neg (by simp), eT _ (by omega), Option.bind_some, eE _ (by omega), Option.bind_some, if_pos rfl, eM _ (by omega), Option.bind_some, if_neg n1, eQ _ (by omega), Option.bind_some, if_pos rfl]
  simp only [laws_FnExactParentsOf.j1]
  rw [if_neg (by simp), eN _ (by omega), Option.bind_some, eH _ (by omega), Option.bind_some, if_neg n2, if_pos rfl, eT _ (by omega), Option.bind_some, eI _ (by omega), Option.bind_some, eQ _ (by omega), Option.bind_some, if_pos rfl]
  simp only [laws_FnExactParentsOf.j2]
  rw [if_neg (by simp), eH _ (by omega), Option.bind_some, if_neg n2, if_pos rfl]

end Go.Proofs.Ytpidlhpjcjaojaa.Pure
