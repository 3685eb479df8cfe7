/- How the parameters of the laws read: a vector of bits (a number and a slice of numbers), and a ranked vector (a vector and two slices), opened once for every program that has such types. -/
import Derived.Lib.SmallJoins
import Derived.Deep.Strs
import Derived.ChangeSame
import Derived.ChangeSlices
import Derived.SliceStrings
import Derived.ChangeArms
import Derived.WideShapes
import Derived.Test.YtkmhjgejficclaaVFnExactJoinRanked
namespace Go.Proofs.YtkmhjgejficclaaArgs
open Go.ChangeShapes Go.WideShapes Go.ChangeAt Go.RowKit Go.Joins Go.Deep Go.Proofs.YtkmhjgejficclaaW.PrintWords
set_option linter.unusedVariables false
section
variable {H : Type} {enc : TypeId × Value → H} {P : Program} {W : World}

/-- A slice of numbers in a value's cell. -/
theorem row_of {t e : TypeId} {n : Nat} {v : Value} {y : DataW H × List MemPlace} (hu : P.underlying t = some (.slice e)) (he : P.underlying e = some (.int .i64)) (hc : P.cellsOf e = 1)
    (h : DataW.trod enc P W 0 (fun _ => true) true n t [v] = some y) :
    ∃ (A : Option Addr) (c : Nat) (l : List Int), v = .slice A l.length c ∧ Kd.C (Kd.int .i64) W A l.length l ∧ l.length ≤ c ∧ l.length ≤ maxLen ∧ ∀ x ∈ l, (Lit.int .i64 x).wf = true := by
  obtain ⟨a, len, cap, zs, rfl, hz⟩ : ∃ (a : Option Addr) (len cap : Nat) (zs : List Int), v = .slice a len cap ∧ ((a = none ∧ len = 0 ∧ cap = 0 ∧ zs = []) ∨ ∃ x, a = some x ∧ len ≤ cap ∧ cap ≤ maxLen ∧ zs.length = cap ∧ (∀ i, i < zs.length → W.cell? (x.add i) = some (.int .i64 (zs.getD i 0))) ∧ ∀ n ∈ zs, (Lit.int .i64 n).wf = true) := by
    rcases open_ints hu he hc h with ⟨hcs, _⟩ | ⟨x, l, c, zs, hcs, _, hl, hm, hz, _, hcell, hwz⟩
    · simp at hcs
      subst hcs
      exact ⟨none, 0, 0, [], rfl, .inl ⟨rfl, rfl, rfl, rfl⟩⟩
    · simp at hcs
      subst hcs
      exact ⟨some x, l, c, zs, rfl, .inr ⟨_, rfl, hl, hm, by simpa using hz, hcell, hwz⟩⟩
  obtain ⟨l, rfl, hr, hm, hw, hc⟩ := ReadsInt.ofRowC hz
  exact ⟨a, cap, l, rfl, Kd.C_of_reads (d := (0 : Int)) (h1 := fun _ => rfl) hr, hc, hm, hw⟩

/-- A slice of strings. -/
theorem strs_of {t e : TypeId} {r : Reach} {b0 : Nat} {v : Value} {d : DataW H} {p : List MemPlace} (hu : P.underlying t = some (.slice e)) (he : P.underlying e = some .string) (hc : P.cellsOf e = 1)
    (hv : Value.okWide P W r b0 t v) (h : DataW.Trod enc P W 0 (fun _ => true) true t v d p) :
    ∃ (A : Option Addr) (c : Nat) (l : List ByteArray), v = .slice A l.length c ∧ Kd.C Kd.string W A l.length l ∧ l.length ≤ c ∧ l.length ≤ maxLen ∧ ∀ x ∈ l, x.size ≤ maxLen := by
  obtain ⟨a, len, cap, rfl⟩ := okWide_slice hu hv
  obtain ⟨fuel, hf⟩ := h
  rcases open_strings hu he hc hf with ⟨hcs, _⟩ | ⟨x, l, c, zs, hcs, _, hl, hm, hz, _, hcell, hwz⟩
  · simp [Value.cells] at hcs
    obtain ⟨rfl, rfl, rfl⟩ := hcs
    exact ⟨none, 0, [], rfl, Kd.C_nil _ _, by simp, by simp, by simp⟩
  · simp [Value.cells] at hcs
    obtain ⟨rfl, rfl, rfl⟩ := hcs
    have hz' : zs.length = cap := by simpa using hz
    have e : (zs.take len).length = len := by simp; omega
    refine ⟨some x, cap, zs.take len, by rw [e], ?_, by omega, by omega, fun y hy => hwz y (List.mem_of_mem_take hy)⟩
    refine Kd.C_of_reads (d := ByteArray.empty) (h1 := fun _ => rfl) ⟨rfl, by rw [e]; unfold maxLen at hm; omega, fun _ => ⟨x, rfl, fun i hi => ?_⟩⟩
    rw [e] at hi
    rw [hcell i (by omega)]
    simp [List.getD_eq_getElem?_getD, hi]

/-- What is told of a vector of bits. -/
def IsVec (W : World) (s : Int) (A : Option Addr) (c : Nat) (l : List Int) : Prop :=
  (Lit.int .i64 s).wf = true ∧ Kd.C (Kd.int .i64) W A l.length l ∧ l.length ≤ c ∧ l.length ≤ maxLen ∧ ∀ x ∈ l, (Lit.int .i64 x).wf = true

theorem vec_of {t e : TypeId} {f0 f1 : Field} {r : Reach} {b0 : Nat} {v : Value} {d : DataW H} {p : List MemPlace} (hs : P.underlying t = some (.struct #[f0, f1])) (hone : oneCellFields P #[f0, f1] = true) (hC : P.cellsOf t = 2)
    (u0 : P.underlying f0.type = some (.int .i64)) (u1 : P.underlying f1.type = some (.slice e)) (ue : P.underlying e = some (.int .i64)) (hc : P.cellsOf e = 1)
    (hv : Value.okWide P W r b0 t v) (h : DataW.Trod enc P W 0 (fun _ => true) true t v d p) :
    ∃ (s : Int) (A : Option Addr) (c : Nat) (l : List Int), v = .agg #[.int .i64 s, .slice A l.length c] ∧ IsVec W s A c l := by
  obtain ⟨v0, v1, y0, y1, n, rfl, rfl, rfl, t0, t1⟩ := open_agg2 hs hone hC hv h
  obtain ⟨s, hcs, _, hw⟩ := DataW.trod_int u0 t0
  simp at hcs
  subst hcs
  obtain ⟨A, c, l, rfl, hr, hcl, hm, hwl⟩ := row_of u1 ue hc t1
  exact ⟨s, A, c, l, rfl, hw, hr, hcl, hm, hwl⟩

/-- What is told of a row of numbers. -/
def IsRow (W : World) (A : Option Addr) (c : Nat) (l : List Int) : Prop :=
  Kd.C (Kd.int .i64) W A l.length l ∧ l.length ≤ c ∧ l.length ≤ maxLen ∧ ∀ x ∈ l, (Lit.int .i64 x).wf = true

theorem ranked_of {t e : TypeId} {f0 f1 f2 g0 g1 : Field} {r : Reach} {b0 : Nat} {v : Value} {d : DataW H} {p : List MemPlace}
    (hs : P.underlying t = some (.struct #[f0, f1, f2])) (hC : P.cellsOf t = 4) (hb : P.underlying f0.type = some (.struct #[g0, g1]))
    (o0 : f0.offset = 0) (o1 : f1.offset = 2) (o2 : f2.offset = 3) (c0 : P.cellsOf f0.type = 2) (c1 : P.cellsOf f1.type = 1) (c2 : P.cellsOf f2.type = 1)
    (q0 : g0.offset = 0) (q1 : g1.offset = 1) (d0 : P.cellsOf g0.type = 1) (d1 : P.cellsOf g1.type = 1)
    (u0 : P.underlying g0.type = some (.int .i64)) (u1 : P.underlying g1.type = some (.slice e)) (u2 : P.underlying f1.type = some (.slice e)) (u3 : P.underlying f2.type = some (.slice e)) (ue : P.underlying e = some (.int .i64)) (hc : P.cellsOf e = 1)
    (hv : Value.okWide P W r b0 t v) (h : DataW.Trod enc P W 0 (fun _ => true) true t v d p) :
    ∃ (s : Int) (A : Option Addr) (c : Nat) (l : List Int) (A2 : Option Addr) (c2 : Nat) (l2 : List Int) (A3 : Option Addr) (c3 : Nat) (l3 : List Int),
      v = .agg #[.int .i64 s, .slice A l.length c, .slice A2 l2.length c2, .slice A3 l3.length c3] ∧ IsVec W s A c l ∧ IsRow W A2 c2 l2 ∧ IsRow W A3 c3 l3 := by
  obtain ⟨cs, rfl, hsz⟩ := okWide_struct hs hv
  obtain ⟨x0, x1, x2, x3, rfl⟩ := array4 (hsz.trans hC)
  obtain ⟨fuel, hf⟩ := h
  obtain ⟨y0, y1, y2, n, hx, _, h0, h1, h2⟩ := trod_struct3 hs hf
  rw [o0, c0] at h0
  rw [o1, c1] at h1
  rw [o2, c2] at h2
  simp [Value.cells] at h0 h1 h2
  obtain ⟨z0, z1, m, hz, _, k0, k1⟩ := trod_struct2 hb h0
  rw [q0, d0] at k0
  rw [q1, d1] at k1
  simp at k0 k1
  obtain ⟨s, hcs, _, hw⟩ := DataW.trod_int u0 k0
  simp at hcs
  subst hcs
  obtain ⟨A, c, l, rfl, hr, hcl, hm, hwl⟩ := row_of u1 ue hc k1
  obtain ⟨A2, c2, l2, rfl, hr2, hcl2, hm2, hwl2⟩ := row_of u2 ue hc h1
  obtain ⟨A3, c3, l3, rfl, hr3, hcl3, hm3, hwl3⟩ := row_of u3 ue hc h2
  exact ⟨s, A, c, l, A2, c2, l2, A3, c3, l3, rfl, ⟨hw, hr, hcl, hm, hwl⟩, ⟨hr2, hcl2, hm2, hwl2⟩, ⟨hr3, hcl3, hm3, hwl3⟩⟩
end
end Go.Proofs.YtkmhjgejficclaaArgs
