/- AreKeys of the program and of the reference answer the same, and the argument stays; for every list of strings that hold together at most 2^20 (more is not asked). -/
import Derived.Test.YtjfinlglbmmifaaPFnExactAreKeysx2
namespace Go.Proofs.Ytjfinlglbmmifaa.Pure
open Go.RowKit Go.Proofs.Ytjfinlglbmmifaa.PFnExactAreKeys Go.Proofs.YtjfinlglbmmifaaW.PrintWords Go.Proofs.YtjfinlglbmmifaaW.PrintLast Go.Proofs.YtjfinlglbmmifaaW.PrintMore
set_option linter.unusedVariables false
set_option linter.unusedSimpArgs false

theorem w64 {x : Int} (h1 : -9223372036854775808 ≤ x) (h2 : x ≤ 9223372036854775807) : wrap64 x = x := by unfold wrap64; omega
theorem w64n (i : Nat) (h : i < 9223372036854775807) : wrap64 ((i : Int) + 1) = ((i + 1 : Nat) : Int) := by rw [w64 (by omega) (by omega)]; rfl
theorem succOf {k d : Nat} (h : d < k) : ∃ m, k = m + 1 := ⟨k - 1, by omega⟩

theorem rs_mid (p s : List ByteArray) (x : ByteArray) : rdOf ByteArray.empty (p ++ x :: s) (p.length : Int) = x := by
  simp [rdOf, List.getD_eq_getElem?_getD]
/-- how much the strings hold, in all -/
def bulk : List ByteArray → Nat
  | [] => 0
  | x :: xs => x.size + bulk xs

/-- the bytes from i on are those of a key, and so is the length -/
def keyP (s : ByteArray) (i : Nat) : Prop := (∀ j : Nat, i ≤ j → j < s.size → 33 ≤ bt s j ∧ bt s j ≤ 125) ∧ 1 ≤ s.size ∧ s.size ≤ 12
open Classical in
noncomputable def keyB (s : ByteArray) (i : Nat) : Bool := decide (keyP s i)
open Classical in
theorem keyB_stop (s : ByteArray) (i : Nat) (h : s.size ≤ i) : keyB s i = decide (1 ≤ s.size ∧ s.size ≤ 12) := by
  unfold keyB; apply decide_eq_decide.2; unfold keyP; constructor
  · exact fun h => h.2
  · exact fun h => ⟨fun j _ _ => by omega, h⟩
open Classical in
theorem keyB_no (s : ByteArray) (i : Nat) (h : i < s.size) (hb : ¬ (33 ≤ bt s i ∧ bt s i ≤ 125)) : keyB s i = false := by
  unfold keyB; exact decide_eq_false (p := keyP s i) (fun g => hb (g.1 i (Nat.le_refl _) h))
open Classical in
theorem keyB_go (s : ByteArray) (i : Nat) (h : i < s.size) (hb : (33 ≤ bt s i ∧ bt s i ≤ 125)) : keyB s i = keyB s (i+1) := by
  unfold keyB; apply decide_eq_decide.2; unfold keyP
  constructor
  · exact fun g => ⟨fun j hj hs => g.1 j (by omega) hs, g.2⟩
  · refine fun g => ⟨fun j hj hs => ?_, g.2⟩
    by_cases e : j = i
    · subst e; exact hb
    · exact g.1 j (by omega) hs
open Classical in
theorem keyB_size (s : ByteArray) (i : Nat) (h : keyB s i = true) : 1 ≤ s.size ∧ s.size ≤ 12 := by
  unfold keyB at h; exact (of_decide_eq_true h : keyP s i).2

/-- are these keys, each above the one before it -/
noncomputable def keysFrom : Option ByteArray → List ByteArray → Bool
  | _, [] => true
  | none, x :: xs => keyB x 0 && keysFrom (some x) xs
  | some p, x :: xs => keyB x 0 && (Op.bytesLess p.toList x.toList && keysFrom (some x) xs)

theorem inS (a b c : Int) : spec_l1In.f a b c = some (decide (b ≤ a ∧ a ≤ c)) := by
  unfold spec_l1In.f; split <;> simp [*]

theorem isKeyS_l (s : ByteArray) (hs : s.size ≤ 140737488351232) (d : Nat) : ∀ (k i : Nat), i ≤ s.size → s.size - i = d → d < k → spec_IsKey.l0 k s i = some (keyB s i) := by
  induction d with
  | zero =>
    intro k i h1 hd hk
    obtain ⟨k, rfl⟩ := succOf hk
    rw [keyB_stop s i (by omega)]
    simp only [spec_IsKey.l0, inS]
    rw [if_neg (by omega), Option.bind_some]; congr 1; simp only [decide_eq_decide]; omega
  | succ d ih =>
    intro k i h1 hd hk
    obtain ⟨k, rfl⟩ := succOf hk
    simp only [spec_IsKey.l0]
    have h2 := ih k (i+1) (by omega) (by omega) (by omega)
    have h3 := w64n i (by omega)
    have h4 := keyB_no s i (by omega)
    have h5 := keyB_go s i (by omega)
    grind
theorem isKeyS (s : ByteArray) (hs : s.size ≤ 140737488351232) (k : Nat) (hk : s.size < k) : spec_IsKey.f k s = some (keyB s 0) :=
  isKeyS_l s hs s.size k 0 (by omega) (by omega) hk

theorem keysS_l (l : List ByteArray) (hl : l.length ≤ 1048576) (hs : ∀ x ∈ l, x.size ≤ 1048576) : ∀ (suf pre : List ByteArray) (last : Option ByteArray) (k : Nat), l = pre ++ suf → (pre = [] ∧ last = none ∨ ∃ q p, pre = q ++ [p] ∧ last = some p) → suf.length + 1048577 < k →
    spec_biKeys.l0 k l l l.length pre.length = some (keysFrom last suf && decide ((l.length : Int) ≤ 40)) := by
  intro suf
  induction suf with
  | nil =>
    intro pre last k e hp hk
    obtain ⟨k, rfl⟩ := succOf hk
    simp only [spec_biKeys.l0]
    have : l.length = pre.length := by rw [e]; simp
    rw [if_neg (by omega)]; cases last <;> simp [keysFrom]
  | cons x suf ih =>
    intro pre last k e hp hk
    obtain ⟨k, rfl⟩ := succOf hk
    simp only [spec_biKeys.l0]
    have hlen : l.length = pre.length + suf.length + 1 := by rw [e]; simp; omega
    have e1 : rdOf ByteArray.empty l (pre.length : Int) = x := by rw [e]; exact rs_mid pre suf x
    have e2 : (pre ++ [x]).length = pre.length + 1 := by simp
    have hx := hs x (by rw [e]; simp)
    rw [if_pos (by omega), if_pos (by omega), if_pos (by omega), e1, isKeyS x (by omega) k (by simp only [List.length_cons] at hk; omega), Option.bind_some, w64n _ (by omega)]
    have h3 := ih (pre ++ [x]) (some x) k (by rw [e]; simp) (Or.inr ⟨pre, x, rfl, rfl⟩) (by simp only [List.length_cons] at hk; omega)
    rw [e2] at h3
    rw [h3]
    rcases hp with ⟨rfl, rfl⟩ | ⟨q, p, hq, rfl⟩
    · cases hk2 : keyB x 0
      · simp [keysFrom, hk2]
      · rw [if_pos rfl, if_neg (by simp)]; simp [keysFrom, hk2]
    · cases hk2 : keyB x 0
      · simp [keysFrom, hk2]
      · have e3 : pre.length = q.length + 1 := by rw [hq]; simp
        have e4 : rdOf ByteArray.empty l (q.length : Int) = p := by rw [e, hq, List.append_assoc]; exact rs_mid q _ p
        rw [if_pos rfl, if_pos (by omega), w64 (by omega) (by omega), if_pos (by omega), if_pos (by omega), show (pre.length : Int) - 1 = (q.length : Int) from by omega, e4]
        cases hb : Op.bytesLess p.toList x.toList
        · simp [keysFrom, hk2, hb]
        · simp [keysFrom, hk2, hb]

theorem inI (a b c : Int) : impl_in.f a b c = some (decide (b ≤ a ∧ a ≤ c)) := by
  unfold impl_in.f; split <;> simp [*]

theorem isKeyI_l (s : ByteArray) (hs : s.size ≤ 140737488351232) (d : Nat) : ∀ (k i : Nat), i ≤ s.size → s.size - i = d → d < k → impl_IsKey.l0 k s s.size i = some (keyB s i) := by
  induction d with
  | zero =>
    intro k i h1 hd hk
    obtain ⟨k, rfl⟩ := succOf hk
    rw [keyB_stop s i (by omega)]
    simp only [impl_IsKey.l0, inI]
    rw [if_neg (by omega), Option.bind_some]; congr 1; simp only [decide_eq_decide]; omega
  | succ d ih =>
    intro k i h1 hd hk
    obtain ⟨k, rfl⟩ := succOf hk
    simp only [impl_IsKey.l0]
    have h2 := ih k (i+1) (by omega) (by omega) (by omega)
    have h3 := w64n i (by omega)
    have h4 := keyB_no s i (by omega)
    have h5 := keyB_go s i (by omega)
    grind
theorem isKeyI (s : ByteArray) (hs : s.size ≤ 140737488351232) (k : Nat) (hk : s.size < k) : impl_IsKey.f k s = some (keyB s 0) :=
  isKeyI_l s hs s.size k 0 (by omega) (by omega) hk

theorem keysI_l (l : List ByteArray) (hl : l.length ≤ 1048576) (hs : ∀ x ∈ l, x.size ≤ 1048576) : ∀ (suf pre : List ByteArray) (last : Option ByteArray) (k : Nat), l = pre ++ suf → (pre = [] ∧ last = none ∨ ∃ q p, pre = q ++ [p] ∧ last = some p) → suf.length + 1048577 < k →
    impl_AreKeys.l0 k l l l.length pre.length = some (keysFrom last suf && decide ((l.length : Int) ≤ 40)) := by
  intro suf
  induction suf with
  | nil =>
    intro pre last k e hp hk
    obtain ⟨k, rfl⟩ := succOf hk
    simp only [impl_AreKeys.l0]
    have : l.length = pre.length := by rw [e]; simp
    rw [if_neg (by omega)]; cases last <;> simp [keysFrom]
  | cons x suf ih =>
    intro pre last k e hp hk
    obtain ⟨k, rfl⟩ := succOf hk
    simp only [impl_AreKeys.l0]
    have hlen : l.length = pre.length + suf.length + 1 := by rw [e]; simp; omega
    have e1 : rdOf ByteArray.empty l (pre.length : Int) = x := by rw [e]; exact rs_mid pre suf x
    have e2 : (pre ++ [x]).length = pre.length + 1 := by simp
    have hx := hs x (by rw [e]; simp)
    rw [if_pos (by omega), if_pos (by omega), if_pos (by omega), e1, isKeyI x (by omega) k (by simp only [List.length_cons] at hk; omega), Option.bind_some, w64n _ (by omega)]
    have h3 := ih (pre ++ [x]) (some x) k (by rw [e]; simp) (Or.inr ⟨pre, x, rfl, rfl⟩) (by simp only [List.length_cons] at hk; omega)
    rw [e2] at h3
    rw [h3]
    rcases hp with ⟨rfl, rfl⟩ | ⟨q, p, hq, rfl⟩
    · cases hk2 : keyB x 0
      · simp [keysFrom, hk2]
      · rw [if_pos rfl, if_neg (by simp)]; simp [keysFrom, hk2]
    · cases hk2 : keyB x 0
      · simp [keysFrom, hk2]
      · have e3 : pre.length = q.length + 1 := by rw [hq]; simp
        have e4 : rdOf ByteArray.empty l (q.length : Int) = p := by rw [e, hq, List.append_assoc]; exact rs_mid q _ p
        rw [if_pos rfl, if_pos (by omega), w64 (by omega) (by omega), if_pos (by omega), if_pos (by omega), show (pre.length : Int) - 1 = (q.length : Int) from by omega, e4]
        cases hb : Op.bytesLess p.toList x.toList
        · simp [keysFrom, hk2, hb]
        · simp [keysFrom, hk2, hb]

theorem szStrs_l (l : List ByteArray) (hl : l.length ≤ 1048576) : ∀ (suf pre : List ByteArray) (a : Int) (k : Nat), l = pre ++ suf → 0 ≤ a → a ≤ 1048576 → (∀ x ∈ suf, x.size ≤ 9223372036854775807) → suf.length < k →
    ∃ r : Int, laws_szStringS.l0 k l a pre.length = some r ∧ (0 ≤ r → (bulk suf : Int) ≤ a) := by
  intro suf
  induction suf with
  | nil =>
    intro pre a k e h0 h1 hs hk
    obtain ⟨k, rfl⟩ := succOf hk
    have : l.length = pre.length := by rw [e]; simp
    refine ⟨a, ?_, fun _ => by simp [bulk]; omega⟩
    simp only [laws_szStringS.l0]
    rw [if_neg (by omega)]
  | cons x suf ih =>
    intro pre a k e h0 h1 hs hk
    obtain ⟨k, rfl⟩ := succOf hk
    have hlen : l.length = pre.length + suf.length + 1 := by rw [e]; simp; omega
    have e1 : rdOf ByteArray.empty l (pre.length : Int) = x := by rw [e]; exact rs_mid pre suf x
    have e2 : (pre ++ [x]).length = pre.length + 1 := by simp
    have hx := hs x (by simp)
    simp only [laws_szStringS.l0]
    rw [if_pos (by omega), if_pos (by omega), e1, w64 (by omega) (by omega), w64n _ (by omega)]
    by_cases c : a - (x.size : Int) < 0
    · rw [if_pos c]; exact ⟨-1, rfl, fun h => by omega⟩
    · rw [if_neg c]
      obtain ⟨r, hr, hb⟩ := ih (pre ++ [x]) (a - x.size) k (by rw [e]; simp) (by omega) (by omega) (fun y hy => hs y (by simp [hy])) (by simp only [List.length_cons] at hk; omega)
      rw [e2] at hr
      refine ⟨r, hr, fun h => ?_⟩
      have := hb h
      simp only [bulk]; omega
theorem szStrs (l : List ByteArray) (k : Nat) (hl : l.length ≤ 9223372036854775807) (hs : ∀ x ∈ l, x.size ≤ 9223372036854775807) (hk : 1048576 < k) :
    ∃ r : Int, laws_szStringS.f k l 1048576 = some r ∧ (0 ≤ r → (bulk l : Int) ≤ 1048576 ∧ l.length ≤ 1048576) := by
  unfold laws_szStringS.f
  rw [w64 (by omega) (by omega)]
  by_cases c : (1048576 : Int) - (l.length : Int) < 0
  · rw [if_pos c]; exact ⟨-1, rfl, fun h => by omega⟩
  · rw [if_neg c]
    obtain ⟨r, hr, hb⟩ := szStrs_l l (by omega) l [] ((1048576 : Int) - l.length) k rfl (by omega) (by omega) hs (by omega)
    exact ⟨r, hr, fun h => by have := hb h; omega⟩
theorem bulk_mem (l : List ByteArray) (x : ByteArray) (h : x ∈ l) : x.size ≤ bulk l := by
  induction l with
  | nil => cases h
  | cons y l ih =>
    simp only [bulk]
    rcases List.mem_cons.1 h with rfl | h
    · omega
    · have := ih h; omega

theorem rs_get (a : List ByteArray) (i : Nat) (h : i < a.length) : rdOf ByteArray.empty a (i : Int) = a[i] := by
  simp [rdOf, List.getD_eq_getElem?_getD, List.getElem?_eq_getElem h]
theorem toStr_l (a : List ByteArray) (ha : a.length < 9223372036854775807) (d : Nat) : ∀ (k i : Nat) (x : List ByteArray), x.length = a.length → x.take i = a.take i → i ≤ a.length → a.length - i = d → d < k →
    laws_toStringS.l0 k a x i = some a := by
  induction d with
  | zero =>
    intro k i x hx hp h1 hd hk
    obtain ⟨k, rfl⟩ := succOf hk
    simp only [laws_toStringS.l0]
    rw [if_neg (by omega)]
    rw [List.take_of_length_le (by omega), List.take_of_length_le (by omega)] at hp
    rw [hp]
  | succ d ih =>
    intro k i x hx hp h1 hd hk
    obtain ⟨k, rfl⟩ := succOf hk
    simp only [laws_toStringS.l0]
    have e1 := rs_get a i (by omega)
    have h2 := ih k (i+1) (x.set i (a[i]'(by omega))) (by simp [hx]) (by
      have e3 : List.take (i + 1) a = List.take i a ++ [a[i]'(by omega)] := List.take_succ_eq_append_getElem (by omega)
      rw [e3, List.take_succ_eq_append_getElem (by simp; omega), List.take_set_of_le (Nat.le_refl _), hp]
      simp) (by omega) (by omega) (by omega)
    rw [if_pos (by omega), if_pos (by omega), if_pos (by omega), w64n i (by omega), e1]
    simpa using h2
theorem toStr (a : List ByteArray) (k : Nat) (ha : a.length ≤ 1048576) (hk : a.length < k) : laws_toStringS.f k a = some a := by
  unfold laws_toStringS.f
  rw [if_pos (by omega), if_pos (by omega)]
  exact toStr_l a (by omega) a.length k 0 _ (by simp) (by simp) (by omega) (by omega) hk

theorem eqStr_l (a : List ByteArray) (ha : a.length < 9223372036854775807) (d : Nat) : ∀ (k i : Nat), i ≤ a.length → a.length - i = d → d < k → laws_eqStringS.l0 k a a i = some true := by
  induction d with
  | zero =>
    intro k i h1 hd hk
    obtain ⟨k, rfl⟩ := succOf hk
    simp only [laws_eqStringS.l0]
    rw [if_neg (by omega)]
  | succ d ih =>
    intro k i h1 hd hk
    obtain ⟨k, rfl⟩ := succOf hk
    simp only [laws_eqStringS.l0, if_true]
    rw [if_pos (by omega), if_pos (by omega), if_pos (by omega), w64n i (by omega)]
    exact ih k (i+1) (by omega) (by omega) (by omega)
theorem eqStr (a : List ByteArray) (k : Nat) (ha : a.length < 9223372036854775807) (hk : a.length < k) : laws_eqStringS.f k a a = some true := by
  unfold laws_eqStringS.f
  rw [if_pos rfl]
  exact eqStr_l a ha a.length k 0 (by omega) (by omega) hk

theorem FnExactAreKeys : laws_FnExactAreKeys.Pure := by
  intro l hl hs
  have hl' : l.length ≤ 9223372036854775807 := by unfold maxLen at hl; omega
  have hs' : ∀ x ∈ l, x.size ≤ 9223372036854775807 := fun x hx => by have := hs x hx; unfold maxLen at this; omega
  obtain ⟨k, hk⟩ : ∃ k, k = 3000000 := ⟨_, rfl⟩
  refine ⟨k, ?_⟩
  obtain ⟨r, er, hr⟩ := szStrs l k hl' hs' (by omega)
  unfold laws_FnExactAreKeys.f
  rw [er, Option.bind_some]
  by_cases hb : r < 0
  · rw [if_pos hb]
  rw [if_neg hb]
  have hr := hr (by omega)
  have hx : ∀ x ∈ l, x.size ≤ 1048576 := fun x hx => by have := bulk_mem l x hx; omega
  have e1 := keysS_l l hr.2 hx l [] none k rfl (Or.inl ⟨rfl, rfl⟩) (by omega)
  have e2 := keysI_l l hr.2 hx l [] none k rfl (Or.inl ⟨rfl, rfl⟩) (by omega)
  simp only [List.length_nil, Int.natCast_zero] at e1 e2
  simp only [toStr l k hr.2 (by omega), eqStr l k (by omega) (by omega), Option.bind_some, spec_AreKeys.f, spec_biKeys.f, impl_AreKeys.f, e1, e2, bne_self_eq_false, if_true, if_false, Bool.false_eq_true]

end Go.Proofs.Ytjfinlglbmmifaa.Pure
