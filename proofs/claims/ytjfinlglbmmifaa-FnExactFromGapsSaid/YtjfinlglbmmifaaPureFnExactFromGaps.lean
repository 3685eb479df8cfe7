/- FromGaps of the program and of the reference answer the same list, their answers share no memory, and the argument stays; for every list of at most 2^20 numbers (longer ones are not asked). -/
import Derived.Test.YtjfinlglbmmifaaPFnExactFromGapsx2
namespace Go.Proofs.Ytjfinlglbmmifaa.Pure
open Go.RowKit Go.Proofs.Ytjfinlglbmmifaa.PFnExactFromGaps Go.Proofs.YtjfinlglbmmifaaW.PrintWords Go.Proofs.YtjfinlglbmmifaaW.PrintLast Go.Proofs.YtjfinlglbmmifaaW.PrintMore
set_option linter.unusedVariables false
set_option linter.unusedSimpArgs false

theorem w64 {x : Int} (h1 : -9223372036854775808 ≤ x) (h2 : x ≤ 9223372036854775807) : wrap64 x = x := by unfold wrap64; omega
theorem w64n (i : Nat) (h : i < 9223372036854775807) : wrap64 ((i : Int) + 1) = ((i + 1 : Nat) : Int) := by rw [w64 (by omega) (by omega)]; rfl
theorem succOf {k d : Nat} (h : d < k) : ∃ m, k = m + 1 := ⟨k - 1, by omega⟩

theorem rd_mid (p s : List Int) (x : Int) : rd (p ++ x :: s) (p.length : Int) = x := by
  simp [rd, List.getD_eq_getElem?_getD]
theorem rd_last (p s : List Int) (x : Int) (i : Int) (h : i = p.length) : rd (p ++ x :: s) i = x := by
  subst h; exact rd_mid p s x

theorem inS (a b c : Int) : spec_l1In.f a b c = some (decide (b ≤ a ∧ a ≤ c)) := by
  unfold spec_l1In.f; split <;> simp [*]

def gapsOk : List Int → Bool
  | [] => true
  | g :: gs => decide (1 ≤ g ∧ g ≤ 100000) && gapsOk gs
def sumsFrom : Int → List Int → List Int
  | _, [] => []
  | p, g :: gs => (p + g) :: sumsFrom (p + g) gs
def sumAll : Int → List Int → Int
  | p, [] => p
  | p, g :: gs => sumAll (p + g) gs
theorem sumsFrom_len (xs : List Int) : ∀ p, (sumsFrom p xs).length = xs.length := by
  induction xs with
  | nil => intro p; rfl
  | cons x xs ih => intro p; simp [sumsFrom, ih]
theorem sumAll_ge (xs : List Int) (h : gapsOk xs = true) : ∀ p, p ≤ sumAll p xs := by
  induction xs with
  | nil => intro p; exact Int.le_refl _
  | cons x xs ih =>
    intro p
    simp only [gapsOk, Bool.and_eq_true, decide_eq_true_eq] at h
    have := ih h.2 (p + x)
    simp only [sumAll]; omega
/-- what both give -/
def sumsAns (l : List Int) : List Int × Bool := if l.length ≤ 60 ∧ gapsOk l = true ∧ sumAll (-1) l < 100000 then (sumsFrom (-1) l, true) else ([], false)
theorem sumsAns_len (l : List Int) : (sumsAns l).1.length ≤ 60 := by
  unfold sumsAns; split
  · rw [sumsFrom_len]; omega
  · simp
theorem specAll_l (l : List Int) (hl : l.length < 9223372036854775807) : ∀ (suf pre : List Int) (k : Nat), l = pre ++ suf → suf.length < k →
    spec_l1All.l0 k 1 100000 l l.length pre.length = some (gapsOk suf) := by
  intro suf
  induction suf with
  | nil =>
    intro pre k e hk
    obtain ⟨k, rfl⟩ := succOf hk
    simp only [spec_l1All.l0]
    have : l.length = pre.length := by rw [e]; simp
    rw [if_neg (by omega)]; rfl
  | cons x suf ih =>
    intro pre k e hk
    obtain ⟨k, rfl⟩ := succOf hk
    simp only [spec_l1All.l0]
    have hlen : l.length = pre.length + suf.length + 1 := by rw [e]; simp; omega
    have e1 : rd l (pre.length : Int) = x := by rw [e]; exact rd_mid pre suf x
    have e2 : (pre ++ [x]).length = pre.length + 1 := by simp
    have h3 := ih (pre ++ [x]) k (by rw [e]; simp) (by simp only [List.length_cons] at hk; omega)
    rw [e2] at h3
    rw [if_pos (by omega), if_pos (by omega), if_pos (by omega), e1, inS, Option.bind_some, w64n _ (by omega), h3]
    by_cases c : 1 ≤ x ∧ x ≤ 100000 <;> simp [gapsOk, c]
theorem specSums_l (l : List Int) (hl : l.length ≤ 60) : ∀ (suf pre acc : List Int) (p : Int) (k : Nat), l = pre ++ suf → acc.length = pre.length → gapsOk suf = true → -1 ≤ p → p ≤ 100000 * pre.length → suf.length < k →
    spec_FromGaps.l0 k acc p l l.length pre.length = some (if sumAll p suf < 100000 then (acc ++ sumsFrom p suf, true) else ([], false)) := by
  intro suf
  induction suf with
  | nil =>
    intro pre acc p k e ha hg h1 h2 hk
    obtain ⟨k, rfl⟩ := succOf hk
    simp only [spec_FromGaps.l0]
    have : l.length = pre.length := by rw [e]; simp
    rw [if_neg (by omega)]
    simp only [sumAll, sumsFrom, List.append_nil]
    by_cases c : p ≥ 100000
    · rw [if_pos c, if_neg (by omega)]
    · rw [if_neg c, if_pos (by omega)]
  | cons x suf ih =>
    intro pre acc p k e ha hg h1 h2 hk
    obtain ⟨k, rfl⟩ := succOf hk
    simp only [gapsOk, Bool.and_eq_true, decide_eq_true_eq] at hg
    simp only [spec_FromGaps.l0]
    have hlen : l.length = pre.length + suf.length + 1 := by rw [e]; simp; omega
    have e1 : rd l (pre.length : Int) = x := by rw [e]; exact rd_mid pre suf x
    have e2 : (pre ++ [x]).length = pre.length + 1 := by simp
    have h3 := ih (pre ++ [x]) (acc ++ [p + x]) (p + x) k (by rw [e]; simp) (by simp [ha]) hg.2 (by omega) (by omega) (by simp only [List.length_cons] at hk; omega)
    rw [e2] at h3
    rw [if_pos (by omega), if_pos (by omega), if_pos (by omega), if_pos (by omega), e1, w64n _ (by omega), w64 (by omega) (by omega), h3]
    simp only [sumAll, sumsFrom, List.append_assoc, List.singleton_append]
    rfl
theorem specSums_f (l : List Int) (hl : l.length < 9223372036854775807) (k : Nat) (hk : l.length < k) : spec_FromGaps.f k l = some (sumsAns l) := by
  unfold spec_FromGaps.f spec_spCoded.f sumsAns spec_l1All.f
  by_cases c : (l.length : Int) ≤ 60
  · have h := specAll_l l hl l [] k rfl hk
    simp only [List.length_nil, Int.natCast_zero] at h
    rw [if_pos c, h, Option.bind_some, Option.bind_some]
    cases hg : gapsOk l
    · simp
    · have h := specSums_l l (by omega) l [] [] (-1) k rfl rfl hg (by omega) (by simp) hk
      simp only [List.length_nil, Int.natCast_zero, List.nil_append] at h
      rw [if_pos rfl, h]
      simp [show l.length ≤ 60 from by omega]
  · rw [if_neg c, Option.bind_some, if_neg (by simp), if_neg (by omega)]

theorem inI (a b c : Int) : impl_in.f a b c = some (decide (b ≤ a ∧ a ≤ c)) := by
  unfold impl_in.f; split <;> simp [*]

theorem implSums_l (l : List Int) (hl : l.length < 9223372036854775807) : ∀ (suf pre acc : List Int) (p : Int) (k : Nat), l = pre ++ suf → acc.length = pre.length → acc.length ≤ 60 → -1 ≤ p → p < 100000 → suf.length < k →
    impl_FromGaps.l0 k acc p l l.length pre.length = some (if pre.length + suf.length ≤ 60 ∧ gapsOk suf = true ∧ sumAll p suf < 100000 then (acc ++ sumsFrom p suf, true) else ([], false)) := by
  intro suf
  induction suf with
  | nil =>
    intro pre acc p k e ha h60 h1 h2 hk
    obtain ⟨k, rfl⟩ := succOf hk
    simp only [impl_FromGaps.l0]
    have : l.length = pre.length := by rw [e]; simp
    rw [if_neg (by omega), if_pos ⟨by simp; omega, rfl, by simp only [sumAll]; omega⟩]; simp [sumsFrom]
  | cons x suf ih =>
    intro pre acc p k e ha h60 h1 h2 hk
    obtain ⟨k, rfl⟩ := succOf hk
    simp only [impl_FromGaps.l0]
    have hlen : l.length = pre.length + suf.length + 1 := by rw [e]; simp; omega
    have e1 : rd l (pre.length : Int) = x := by rw [e]; exact rd_mid pre suf x
    have e2 : (pre ++ [x]).length = pre.length + 1 := by simp
    rw [if_pos (by omega), if_pos (by omega), if_pos (by omega), e1, inI, Option.bind_some]
    by_cases c : 1 ≤ x ∧ x ≤ 100000
    · rw [decide_eq_true c, if_pos rfl, w64 (x := p + x) (by omega) (by omega)]
      by_cases c2 : acc.length = 60
      · rw [if_pos (by omega), if_neg (by simp only [List.length_cons]; omega)]
      · rw [if_neg (by omega)]
        by_cases c3 : p + x ≥ 100000
        · rw [if_pos c3]
          rw [if_neg]
          intro ⟨_, hg, hs⟩
          simp only [gapsOk, Bool.and_eq_true] at hg
          have := sumAll_ge suf hg.2 (p + x)
          simp only [sumAll] at hs; omega
        · rw [if_neg c3, if_pos (by omega)]
          have h3 := ih (pre ++ [x]) (acc ++ [p + x]) (p + x) k (by rw [e]; simp) (by simp [ha]) (by simp; omega) (by omega) (by omega) (by simp only [List.length_cons] at hk; omega)
          rw [w64n _ (by omega)]
          rw [e2] at h3
          rw [h3]
          simp only [gapsOk, sumsFrom, sumAll, List.append_assoc, List.singleton_append, List.length_cons, decide_eq_true c, Bool.true_and]
          rw [show pre.length + 1 + suf.length = pre.length + (suf.length + 1) from by omega]
    · rw [decide_eq_false c, if_neg (by simp), if_neg (by simp only [gapsOk, decide_eq_false c]; simp)]
theorem implSums_f (l : List Int) (hl : l.length < 9223372036854775807) (k : Nat) (hk : l.length < k) : impl_FromGaps.f k l = some (sumsAns l) := by
  unfold impl_FromGaps.f sumsAns
  have h := implSums_l l hl l [] [] (-1) k rfl rfl (by simp) (by omega) (by omega) hk
  simpa using h

theorem toIntS_l (a : List Int) (ha : a.length < 9223372036854775807) (d : Nat) : ∀ (k i : Nat) (x : List Int), x.length = a.length → x.take i = a.take i → i ≤ a.length → a.length - i = d → d < k →
    laws_toIntS.l0 k a x i = some a := by
  induction d with
  | zero =>
    intro k i x hx hp h1 hd hk
    obtain ⟨k, rfl⟩ := succOf hk
    simp only [laws_toIntS.l0]
    rw [if_neg (by omega)]
    rw [List.take_of_length_le (by omega), List.take_of_length_le (by omega)] at hp
    rw [hp]
  | succ d ih =>
    intro k i x hx hp h1 hd hk
    obtain ⟨k, rfl⟩ := succOf hk
    simp only [laws_toIntS.l0]
    have e1 : rd a i = a[i]'(by omega) := by simp [rd, List.getD_eq_getElem?_getD, List.getElem?_eq_getElem (show i < a.length by omega)]
    have h2 := ih k (i+1) (x.set i (a[i]'(by omega))) (by simp [hx]) (by
      have e3 : List.take (i + 1) a = List.take i a ++ [a[i]'(by omega)] := List.take_succ_eq_append_getElem (by omega)
      rw [e3, List.take_succ_eq_append_getElem (by simp; omega), List.take_set_of_le (Nat.le_refl _), hp]
      simp) (by omega) (by omega) (by omega)
    rw [if_pos (by omega), if_pos (by omega), if_pos (by omega), w64n i (by omega), e1]
    simpa using h2
theorem toIntS_f (a : List Int) (k : Nat) (ha : a.length ≤ 35184372088832) (hk : a.length < k) : laws_toIntS.f k a = some a := by
  unfold laws_toIntS.f
  rw [if_pos (by omega), if_pos (by omega)]
  exact toIntS_l a (by omega) a.length k 0 _ (by simp) (by simp) (by omega) (by omega) hk

theorem eqIntS_l (a b : List Int) (hl : a.length = b.length) (ha : a.length < 9223372036854775807) (d : Nat) : ∀ (k i : Nat), i ≤ a.length → a.length - i = d → d < k →
    laws_eqIntS.l0 k a b i = some (decide (a.drop i = b.drop i)) := by
  induction d with
  | zero =>
    intro k i h1 hd hk
    obtain ⟨k, rfl⟩ := succOf hk
    simp only [laws_eqIntS.l0]
    rw [if_neg (by omega), List.drop_eq_nil_of_le (by omega), List.drop_eq_nil_of_le (by omega)]; simp
  | succ d ih =>
    intro k i h1 hd hk
    obtain ⟨k, rfl⟩ := succOf hk
    simp only [laws_eqIntS.l0]
    have h2 := ih k (i+1) (by omega) (by omega) (by omega)
    have e1 : rd a i = a[i]'(by omega) := by simp [rd, List.getD_eq_getElem?_getD, List.getElem?_eq_getElem (show i < a.length by omega)]
    have e2 : rd b i = b[i]'(by omega) := by simp [rd, List.getD_eq_getElem?_getD, List.getElem?_eq_getElem (show i < b.length by omega)]
    have e3 := List.drop_eq_getElem_cons (show i < a.length by omega)
    have e4 := List.drop_eq_getElem_cons (show i < b.length by omega)
    rw [if_pos (by omega), if_pos (by omega), if_pos (by omega), e1, e2, w64n i (by omega), h2, e3, e4]
    clear e3 e4 h2 ih
    split <;> simp only [List.cons.injEq, *, true_and, false_and, decide_false]
theorem eqIntS_f (a b : List Int) (k : Nat) (ha : a.length < 9223372036854775807) (hk : a.length < k) : laws_eqIntS.f k a b = some (decide (a = b)) := by
  unfold laws_eqIntS.f
  split
  · have h := eqIntS_l a b (by omega) ha a.length k 0 (by omega) (by omega) hk
    simpa using h
  · have : a ≠ b := by intro h; subst h; simp_all
    simp [this]
theorem eqIntS_same (a : List Int) (k : Nat) (ha : a.length < 9223372036854775807) (hk : a.length < k) : laws_eqIntS.f k a a = some true := by
  rw [eqIntS_f a a k ha hk]; simp

def marks : Nat → Nat → List Int
  | 0, _ => []
  | n + 1, m => (m : Int) :: marks n (m + 1)
theorem marks_len (n : Nat) : ∀ m, (marks n m).length = n := by
  induction n with
  | zero => intro m; rfl
  | succ n ih => intro m; simp [marks, ih]

theorem markIntS_l (n : Nat) (hn : n < 9223372036854775807) (d : Nat) : ∀ (k i m : Nat) (x : List Int), x.length = n → i ≤ n → m + (n - i) ≤ 9223372036854775807 → n - i = d → d < k →
    laws_markIntS.l0 k x m i = some (((m + (n - i) : Nat) : Int), x.take i ++ marks (n - i) m) := by
  induction d with
  | zero =>
    intro k i m x hx h1 hm hd hk
    obtain ⟨k, rfl⟩ := succOf hk
    simp only [laws_markIntS.l0]
    rw [if_neg (by omega), hd, List.take_of_length_le (by omega)]; simp [marks]
  | succ d ih =>
    intro k i m x hx h1 hm hd hk
    obtain ⟨k, rfl⟩ := succOf hk
    simp only [laws_markIntS.l0]
    have h2 := ih k (i+1) (m+1) (x.set i m) (by simp [hx]) (by omega) (by omega) (by omega) (by omega)
    have e1 : n - i = (n - (i+1)) + 1 := by omega
    rw [if_pos (by omega), if_pos (by omega), w64n i (by omega), w64n m (by omega), Int.toNat_natCast, h2]
    rw [e1, marks, List.take_succ_eq_append_getElem (by simp; omega), List.take_set_of_le (Nat.le_refl _)]
    simp only [List.getElem_set_self, List.append_assoc, List.cons_append, List.nil_append]
    congr 3
    omega
theorem markIntS_f (x : List Int) (m k : Nat) (hm : m + x.length ≤ 9223372036854775806) (hk : x.length < k) : laws_markIntS.f k x m = some (((m + x.length : Nat) : Int), marks x.length m) := by
  unfold laws_markIntS.f
  have h := markIntS_l x.length (by omega) x.length k 0 m x rfl (by omega) (by omega) (by omega) hk
  simpa using h
theorem markIntS_1 (x : List Int) (k : Nat) (hm : x.length ≤ 9223372036854775800) (hk : x.length < k) : laws_markIntS.f k x 1 = some (((1 + x.length : Nat) : Int), marks x.length 1) :=
  markIntS_f x 1 k (by omega) hk

theorem heldIntS_l (x : List Int) (hn : x.length < 9223372036854775807) (d : Nat) : ∀ (k i m : Nat), i ≤ x.length → m + (x.length - i) ≤ 9223372036854775807 → x.drop i = marks (x.length - i) m → x.length - i = d → d < k →
    laws_heldIntS.l0 k x m i = some ((m + (x.length - i) : Nat) : Int) := by
  induction d with
  | zero =>
    intro k i m h1 hm hx hd hk
    obtain ⟨k, rfl⟩ := succOf hk
    simp only [laws_heldIntS.l0]
    rw [if_neg (by omega), hd]; simp
  | succ d ih =>
    intro k i m h1 hm hx hd hk
    obtain ⟨k, rfl⟩ := succOf hk
    simp only [laws_heldIntS.l0]
    have e1 : x.length - i = (x.length - (i+1)) + 1 := by omega
    rw [e1, marks, List.drop_eq_getElem_cons (show i < x.length by omega)] at hx
    have e3 := (List.cons.inj hx).1
    have h2 := ih k (i+1) (m+1) (by omega) (by omega) (List.cons.inj hx).2 (by omega) (by omega)
    have e2 : rd x i = m := by rw [← e3]; simp [rd, List.getD_eq_getElem?_getD, List.getElem?_eq_getElem (show i < x.length by omega)]
    rw [if_pos (by omega), if_pos (by omega), if_pos e2, w64n i (by omega), w64n m (by omega), h2]
    simp; omega
theorem heldIntS_f (n m k : Nat) (hm : m + n ≤ 9223372036854775806) (hk : n < k) : laws_heldIntS.f k (marks n m) m = some ((m + n : Nat) : Int) := by
  unfold laws_heldIntS.f
  have h := heldIntS_l (marks n m) (by rw [marks_len]; omega) n k 0 m (by omega) (by rw [marks_len]; omega) (by rw [marks_len]; simp) (by rw [marks_len]; omega) hk
  rw [marks_len] at h
  simpa using h
theorem heldIntS_1 (n k : Nat) (hm : n ≤ 9223372036854775800) (hk : n < k) : laws_heldIntS.f k (marks n 1) 1 = some ((1 + n : Nat) : Int) :=
  heldIntS_f n 1 k (by omega) hk

theorem FnExactFromGaps : laws_FnExactFromGaps.Pure := by
  intro l _ h8 _
  by_cases hb : (l.length : Int) > 1048576
  · exact ⟨0, by unfold laws_FnExactFromGaps.f; rw [if_pos hb]⟩
  obtain ⟨k, hk⟩ : ∃ k, k = 1048590 := ⟨_, rfl⟩
  refine ⟨k + 3, ?_⟩
  unfold laws_FnExactFromGaps.f
  have h60 := sumsAns_len l
  have eT (j : Nat) (hj : 1048590 ≤ j) : laws_toIntS.f j l = some l := toIntS_f l j (by omega) (by omega)
  have eS (j : Nat) (hj : 1048590 ≤ j) : spec_FromGaps.f j l = some (sumsAns l) := specSums_f l (by omega) j (by omega)
  have eI (j : Nat) (hj : 1048590 ≤ j) : impl_FromGaps.f j l = some (sumsAns l) := implSums_f l (by omega) j (by omega)
  have eE (j : Nat) (hj : 1048590 ≤ j) : laws_eqIntS.f j l l = some true := eqIntS_same l j (by omega) (by omega)
  have eA (j : Nat) (hj : 1048590 ≤ j) : laws_eqIntS.f j (sumsAns l).1 (sumsAns l).1 = some true := eqIntS_same _ j (by omega) (by omega)
  have eM (j : Nat) (hj : 1048590 ≤ j) := markIntS_1 l j (by omega) (by omega)
  have eN (j : Nat) (hj : 1048590 ≤ j) := markIntS_1 (sumsAns l).1 j (by omega) (by omega)
  have eH (j : Nat) (hj : 1048590 ≤ j) := heldIntS_1 (sumsAns l).1.length j (by omega) (by omega)
  rw [if_neg hb, eT _ (by omega), Option.bind_some, eS _ (by omega), Option.bind_some, Option.bind_some, eI _ (by omega), Option.bind_some, eA _ (by omega), Option.bind_some, if_pos rfl]
  simp only [laws_FnExactFromGaps.j0]
  rw [if_neg (by simp), eT _ (by omega), Option.bind_some, eE _ (by omega), Option.bind_some, if_pos rfl, eM _ (by omega), Option.bind_some]
  rw [if_neg (by simp only []; omega), eA _ (by omega), Option.bind_some, if_pos rfl]
  simp only [laws_FnExactFromGaps.j1]
  rw [if_neg (by simp), eN _ (by omega), Option.bind_some, eH _ (by omega), Option.bind_some]
  rw [if_neg (by omega), if_pos rfl, eT _ (by omega), Option.bind_some, eI _ (by omega), Option.bind_some, eA _ (by omega), Option.bind_some, if_pos rfl]
  simp only [laws_FnExactFromGaps.j2]
  rw [if_neg (by simp), eH _ (by omega), Option.bind_some]
  rw [if_neg (by omega), if_pos rfl]

end Go.Proofs.Ytjfinlglbmmifaa.Pure
