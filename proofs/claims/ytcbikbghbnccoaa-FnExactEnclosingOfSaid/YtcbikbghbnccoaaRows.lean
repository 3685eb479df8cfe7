/-
  No cell of these rows narrows 'for every input' (looked for: loops, veiled, ifaces, maps, wideKeys, modest, calm, conditions, laid).
  DERIVED. THE GIVEN ROWS OF THIS SEAT. 12 by the template 'for every input the law returns true; each argument reads behind the call as it read before'; 0 by the template 'total and deterministic' (their statements: YtcbikbghbnccoaaTotals.lean).
  GIVEN WITH THE SEED: the statements are not yours to turn. If you find one false, say at which input.
  Laid BY PROGRAM, IN A SANDBOX (cutbox-rows.mjs): the forced cells as the released guide's own fill.sh prints them over the translation d3be7941ea2b7268… (all of the seat's roots in one cut). By AI agents, Wed Nov 11 2026. No macro, syntax, notation, axiom, sorry.
-/
import Derived.Test.YtcbikbghbnccoaaChecked
import GoSem.Claim
import GoSem.ClaimJoined
import GoSem.ClaimMapViews
import Derived.JoinedTies
import Derived.KernelRfl
namespace Go.Proofs.Ytcbikbghbnccoaa
/- THE CELL 'sum', in the pinned program and in every row, IS THE sha256 OF THE DUMP (.gsa) THAT YtcbikbghbnccoaaProg.lean LOADS. Nothing in Lean hashes anything: it is a label: what it is worth is what the hold of that sum in a sandbox is worth. -/
noncomputable def Try.pinned : Pinned := { name := "ytcbikbghbnccoaa", sum := "d3be7941ea2b726877e95be5ff86ee63a9a65d8c3ddae4c80ed2e83654d22cd4", checked := Try.checked }
namespace Rows
def none {H : Type} : Left H := { results := [], args := [] }

/-- 'laws.FnExactIsBits': WHATEVER THE INPUT: true; the input reads as it did. -/
def fnExactIsBitsSpec : ChangeSpec := { name := "fnExactIsBits", fn := fun _ => fun
  | [d] => { results := [.lit (.bool true)], args := [d] }
  | _ => none }
def fnExactIsBitsRow : OpenClaim := { program := "ytcbikbghbnccoaa", sum := "d3be7941ea2b726877e95be5ff86ee63a9a65d8c3ddae4c80ed2e83654d22cd4", func := "loop.example/g01097/laws.FnExactIsBits", spec := "fnExactIsBits", apart := false }
def FnExactIsBitsSaid : Prop := fnExactIsBitsRow.holds Try.pinned (OpenSpec.ofChange fnExactIsBitsSpec)

/-- ITS FALSE NEIGHBOUR: 'it returns false'. Refute it at one input. -/
def fnExactIsBitsWrong : ChangeSpec := { name := "fnExactIsBits", fn := fun _ => fun
  | [d] => { results := [.lit (.bool false)], args := [d] }
  | _ => none }
def FnExactIsBitsWrongFalsely : Prop := fnExactIsBitsRow.holds Try.pinned (OpenSpec.ofChange fnExactIsBitsWrong)

/-- 'laws.FnExactBitAt': WHATEVER THE INPUT: true; the input reads as it did. -/
def fnExactBitAtSpec : ChangeSpec := { name := "fnExactBitAt", fn := fun _ => fun
  | [d1, d2] => { results := [.lit (.bool true)], args := [d1, d2] }
  | _ => none }
def fnExactBitAtRow : OpenClaim := { program := "ytcbikbghbnccoaa", sum := "d3be7941ea2b726877e95be5ff86ee63a9a65d8c3ddae4c80ed2e83654d22cd4", func := "loop.example/g01097/laws.FnExactBitAt", spec := "fnExactBitAt", apart := false }
def FnExactBitAtSaid : Prop := fnExactBitAtRow.holds Try.pinned (OpenSpec.ofChange fnExactBitAtSpec)

/-- ITS FALSE NEIGHBOUR: 'it returns false'. Refute it at one input. -/
def fnExactBitAtWrong : ChangeSpec := { name := "fnExactBitAt", fn := fun _ => fun
  | [d1, d2] => { results := [.lit (.bool false)], args := [d1, d2] }
  | _ => none }
def FnExactBitAtWrongFalsely : Prop := fnExactBitAtRow.holds Try.pinned (OpenSpec.ofChange fnExactBitAtWrong)

/-- 'laws.FnExactNextBit': WHATEVER THE INPUT: true; the input reads as it did. -/
def fnExactNextBitSpec : ChangeSpec := { name := "fnExactNextBit", fn := fun _ => fun
  | [d1, d2, d3] => { results := [.lit (.bool true)], args := [d1, d2, d3] }
  | _ => none }
def fnExactNextBitRow : OpenClaim := { program := "ytcbikbghbnccoaa", sum := "d3be7941ea2b726877e95be5ff86ee63a9a65d8c3ddae4c80ed2e83654d22cd4", func := "loop.example/g01097/laws.FnExactNextBit", spec := "fnExactNextBit", apart := false }
def FnExactNextBitSaid : Prop := fnExactNextBitRow.holds Try.pinned (OpenSpec.ofChange fnExactNextBitSpec)

/-- ITS FALSE NEIGHBOUR: 'it returns false'. Refute it at one input. -/
def fnExactNextBitWrong : ChangeSpec := { name := "fnExactNextBit", fn := fun _ => fun
  | [d1, d2, d3] => { results := [.lit (.bool false)], args := [d1, d2, d3] }
  | _ => none }
def FnExactNextBitWrongFalsely : Prop := fnExactNextBitRow.holds Try.pinned (OpenSpec.ofChange fnExactNextBitWrong)

/-- 'laws.FnExactExcessAt': WHATEVER THE INPUT: true; the input reads as it did. -/
def fnExactExcessAtSpec : ChangeSpec := { name := "fnExactExcessAt", fn := fun _ => fun
  | [d1, d2] => { results := [.lit (.bool true)], args := [d1, d2] }
  | _ => none }
def fnExactExcessAtRow : OpenClaim := { program := "ytcbikbghbnccoaa", sum := "d3be7941ea2b726877e95be5ff86ee63a9a65d8c3ddae4c80ed2e83654d22cd4", func := "loop.example/g01097/laws.FnExactExcessAt", spec := "fnExactExcessAt", apart := false }
def FnExactExcessAtSaid : Prop := fnExactExcessAtRow.holds Try.pinned (OpenSpec.ofChange fnExactExcessAtSpec)

/-- ITS FALSE NEIGHBOUR: 'it returns false'. Refute it at one input. -/
def fnExactExcessAtWrong : ChangeSpec := { name := "fnExactExcessAt", fn := fun _ => fun
  | [d1, d2] => { results := [.lit (.bool false)], args := [d1, d2] }
  | _ => none }
def FnExactExcessAtWrongFalsely : Prop := fnExactExcessAtRow.holds Try.pinned (OpenSpec.ofChange fnExactExcessAtWrong)

/-- 'laws.FnExactCountBits': WHATEVER THE INPUT: true; the input reads as it did. -/
def fnExactCountBitsSpec : ChangeSpec := { name := "fnExactCountBits", fn := fun _ => fun
  | [d1, d2, d3] => { results := [.lit (.bool true)], args := [d1, d2, d3] }
  | _ => none }
def fnExactCountBitsRow : OpenClaim := { program := "ytcbikbghbnccoaa", sum := "d3be7941ea2b726877e95be5ff86ee63a9a65d8c3ddae4c80ed2e83654d22cd4", func := "loop.example/g01097/laws.FnExactCountBits", spec := "fnExactCountBits", apart := false }
def FnExactCountBitsSaid : Prop := fnExactCountBitsRow.holds Try.pinned (OpenSpec.ofChange fnExactCountBitsSpec)

/-- ITS FALSE NEIGHBOUR: 'it returns false'. Refute it at one input. -/
def fnExactCountBitsWrong : ChangeSpec := { name := "fnExactCountBits", fn := fun _ => fun
  | [d1, d2, d3] => { results := [.lit (.bool false)], args := [d1, d2, d3] }
  | _ => none }
def FnExactCountBitsWrongFalsely : Prop := fnExactCountBitsRow.holds Try.pinned (OpenSpec.ofChange fnExactCountBitsWrong)

/-- 'laws.FnExactBitsText': WHATEVER THE INPUT: true; the input reads as it did. -/
def fnExactBitsTextSpec : ChangeSpec := { name := "fnExactBitsText", fn := fun _ => fun
  | [d] => { results := [.lit (.bool true)], args := [d] }
  | _ => none }
def fnExactBitsTextRow : OpenClaim := { program := "ytcbikbghbnccoaa", sum := "d3be7941ea2b726877e95be5ff86ee63a9a65d8c3ddae4c80ed2e83654d22cd4", func := "loop.example/g01097/laws.FnExactBitsText", spec := "fnExactBitsText", apart := false }
def FnExactBitsTextSaid : Prop := fnExactBitsTextRow.holds Try.pinned (OpenSpec.ofChange fnExactBitsTextSpec)

/-- ITS FALSE NEIGHBOUR: 'it returns false'. Refute it at one input. -/
def fnExactBitsTextWrong : ChangeSpec := { name := "fnExactBitsText", fn := fun _ => fun
  | [d] => { results := [.lit (.bool false)], args := [d] }
  | _ => none }
def FnExactBitsTextWrongFalsely : Prop := fnExactBitsTextRow.holds Try.pinned (OpenSpec.ofChange fnExactBitsTextWrong)

/-- 'laws.FnExactReadField': WHATEVER THE INPUT: true; the input reads as it did. -/
def fnExactReadFieldSpec : ChangeSpec := { name := "fnExactReadField", fn := fun _ => fun
  | [d1, d2, d3] => { results := [.lit (.bool true)], args := [d1, d2, d3] }
  | _ => none }
def fnExactReadFieldRow : OpenClaim := { program := "ytcbikbghbnccoaa", sum := "d3be7941ea2b726877e95be5ff86ee63a9a65d8c3ddae4c80ed2e83654d22cd4", func := "loop.example/g01097/laws.FnExactReadField", spec := "fnExactReadField", apart := false }
def FnExactReadFieldSaid : Prop := fnExactReadFieldRow.holds Try.pinned (OpenSpec.ofChange fnExactReadFieldSpec)

/-- ITS FALSE NEIGHBOUR: 'it returns false'. Refute it at one input. -/
def fnExactReadFieldWrong : ChangeSpec := { name := "fnExactReadField", fn := fun _ => fun
  | [d1, d2, d3] => { results := [.lit (.bool false)], args := [d1, d2, d3] }
  | _ => none }
def FnExactReadFieldWrongFalsely : Prop := fnExactReadFieldRow.holds Try.pinned (OpenSpec.ofChange fnExactReadFieldWrong)

/-- 'laws.FnExactIsBalanced': WHATEVER THE INPUT: true; the input reads as it did. -/
def fnExactIsBalancedSpec : ChangeSpec := { name := "fnExactIsBalanced", fn := fun _ => fun
  | [d] => { results := [.lit (.bool true)], args := [d] }
  | _ => none }
def fnExactIsBalancedRow : OpenClaim := { program := "ytcbikbghbnccoaa", sum := "d3be7941ea2b726877e95be5ff86ee63a9a65d8c3ddae4c80ed2e83654d22cd4", func := "loop.example/g01097/laws.FnExactIsBalanced", spec := "fnExactIsBalanced", apart := false }
def FnExactIsBalancedSaid : Prop := fnExactIsBalancedRow.holds Try.pinned (OpenSpec.ofChange fnExactIsBalancedSpec)

/-- ITS FALSE NEIGHBOUR: 'it returns false'. Refute it at one input. -/
def fnExactIsBalancedWrong : ChangeSpec := { name := "fnExactIsBalanced", fn := fun _ => fun
  | [d] => { results := [.lit (.bool false)], args := [d] }
  | _ => none }
def FnExactIsBalancedWrongFalsely : Prop := fnExactIsBalancedRow.holds Try.pinned (OpenSpec.ofChange fnExactIsBalancedWrong)

/-- 'laws.FnExactOpenOf': WHATEVER THE INPUT: true; the input reads as it did. -/
def fnExactOpenOfSpec : ChangeSpec := { name := "fnExactOpenOf", fn := fun _ => fun
  | [d1, d2] => { results := [.lit (.bool true)], args := [d1, d2] }
  | _ => none }
def fnExactOpenOfRow : OpenClaim := { program := "ytcbikbghbnccoaa", sum := "d3be7941ea2b726877e95be5ff86ee63a9a65d8c3ddae4c80ed2e83654d22cd4", func := "loop.example/g01097/laws.FnExactOpenOf", spec := "fnExactOpenOf", apart := false }
def FnExactOpenOfSaid : Prop := fnExactOpenOfRow.holds Try.pinned (OpenSpec.ofChange fnExactOpenOfSpec)

/-- ITS FALSE NEIGHBOUR: 'it returns false'. Refute it at one input. -/
def fnExactOpenOfWrong : ChangeSpec := { name := "fnExactOpenOf", fn := fun _ => fun
  | [d1, d2] => { results := [.lit (.bool false)], args := [d1, d2] }
  | _ => none }
def FnExactOpenOfWrongFalsely : Prop := fnExactOpenOfRow.holds Try.pinned (OpenSpec.ofChange fnExactOpenOfWrong)

/-- 'laws.FnExactCloseOf': WHATEVER THE INPUT: true; the input reads as it did. -/
def fnExactCloseOfSpec : ChangeSpec := { name := "fnExactCloseOf", fn := fun _ => fun
  | [d1, d2] => { results := [.lit (.bool true)], args := [d1, d2] }
  | _ => none }
def fnExactCloseOfRow : OpenClaim := { program := "ytcbikbghbnccoaa", sum := "d3be7941ea2b726877e95be5ff86ee63a9a65d8c3ddae4c80ed2e83654d22cd4", func := "loop.example/g01097/laws.FnExactCloseOf", spec := "fnExactCloseOf", apart := false }
def FnExactCloseOfSaid : Prop := fnExactCloseOfRow.holds Try.pinned (OpenSpec.ofChange fnExactCloseOfSpec)

/-- ITS FALSE NEIGHBOUR: 'it returns false'. Refute it at one input. -/
def fnExactCloseOfWrong : ChangeSpec := { name := "fnExactCloseOf", fn := fun _ => fun
  | [d1, d2] => { results := [.lit (.bool false)], args := [d1, d2] }
  | _ => none }
def FnExactCloseOfWrongFalsely : Prop := fnExactCloseOfRow.holds Try.pinned (OpenSpec.ofChange fnExactCloseOfWrong)

/-- 'laws.FnExactDepthOf': WHATEVER THE INPUT: true; the input reads as it did. -/
def fnExactDepthOfSpec : ChangeSpec := { name := "fnExactDepthOf", fn := fun _ => fun
  | [d1, d2] => { results := [.lit (.bool true)], args := [d1, d2] }
  | _ => none }
def fnExactDepthOfRow : OpenClaim := { program := "ytcbikbghbnccoaa", sum := "d3be7941ea2b726877e95be5ff86ee63a9a65d8c3ddae4c80ed2e83654d22cd4", func := "loop.example/g01097/laws.FnExactDepthOf", spec := "fnExactDepthOf", apart := false }
def FnExactDepthOfSaid : Prop := fnExactDepthOfRow.holds Try.pinned (OpenSpec.ofChange fnExactDepthOfSpec)

/-- ITS FALSE NEIGHBOUR: 'it returns false'. Refute it at one input. -/
def fnExactDepthOfWrong : ChangeSpec := { name := "fnExactDepthOf", fn := fun _ => fun
  | [d1, d2] => { results := [.lit (.bool false)], args := [d1, d2] }
  | _ => none }
def FnExactDepthOfWrongFalsely : Prop := fnExactDepthOfRow.holds Try.pinned (OpenSpec.ofChange fnExactDepthOfWrong)

/-- 'laws.FnExactEnclosingOf': WHATEVER THE INPUT: true; the input reads as it did. -/
def fnExactEnclosingOfSpec : ChangeSpec := { name := "fnExactEnclosingOf", fn := fun _ => fun
  | [d1, d2] => { results := [.lit (.bool true)], args := [d1, d2] }
  | _ => none }
def fnExactEnclosingOfRow : OpenClaim := { program := "ytcbikbghbnccoaa", sum := "d3be7941ea2b726877e95be5ff86ee63a9a65d8c3ddae4c80ed2e83654d22cd4", func := "loop.example/g01097/laws.FnExactEnclosingOf", spec := "fnExactEnclosingOf", apart := false }
def FnExactEnclosingOfSaid : Prop := fnExactEnclosingOfRow.holds Try.pinned (OpenSpec.ofChange fnExactEnclosingOfSpec)

/-- ITS FALSE NEIGHBOUR: 'it returns false'. Refute it at one input. -/
def fnExactEnclosingOfWrong : ChangeSpec := { name := "fnExactEnclosingOf", fn := fun _ => fun
  | [d1, d2] => { results := [.lit (.bool false)], args := [d1, d2] }
  | _ => none }
def FnExactEnclosingOfWrongFalsely : Prop := fnExactEnclosingOfRow.holds Try.pinned (OpenSpec.ofChange fnExactEnclosingOfWrong)

/- THE SECOND FORM. 'bulk': how many values and letters a reading holds, each counted each time it is reached (what is shared counts as often as it is met; a slice's spare places count too). A statement '..UptoSaid' is the law's where the arguments, and the package variables that the reading takes, are together of bulk at most 1048576: NARROWER than '..Said'. Prove '..Said' where nothing that the law and all that it calls make is longer than what came in: it says more and counts as full. Else prove '..UptoSaid'. A law counts once. -/
mutual
def uptoBulk {H : Type} : DataW H → Nat
  | .lit (.string bytes) => bytes.length + 1
  | .lit _ => 1
  | .nil => 1
  | .ptr d => uptoBulk d + 1
  | .slice elems spare => uptoBulkAll elems + uptoBulkAll spare + 1
  | .agg parts => uptoBulkAll parts + 1
  | .iface _ d => uptoBulk d + 1
  | .map entries => uptoBulkEntries entries + 1
  | .held _ => 1
def uptoBulkAll {H : Type} : List (DataW H) → Nat
  | [] => 0
  | d :: r => uptoBulk d + uptoBulkAll r
def uptoBulkEntries {H : Type} : List (Lit × DataW H) → Nat
  | [] => 0
  | x :: r => uptoBulkEntry x + uptoBulkEntries r
def uptoBulkEntry {H : Type} : Lit × DataW H → Nat
  | (.string bytes, d) => bytes.length + uptoBulk d + 1
  | (_, d) => uptoBulk d + 1
 end
def uptoSmall : (H : Type) → List (DataW H) → Bool := fun _ ds => decide (uptoBulkAll ds ≤ 1048576)
def OpenSpec.upto (s : _root_.Go.ChangeSpec) : _root_.Go.OpenSpec := { _root_.Go.OpenSpec.ofChange s with cond := some uptoSmall }

/-- 'laws.FnExactIsBits', WHERE WHAT IT READS IS OF BULK AT MOST 1048576: true; the input reads as it did. -/
def fnExactIsBitsUptoRow : OpenClaim := { program := "ytcbikbghbnccoaa", sum := "d3be7941ea2b726877e95be5ff86ee63a9a65d8c3ddae4c80ed2e83654d22cd4", func := "loop.example/g01097/laws.FnExactIsBits", spec := "fnExactIsBits", apart := false, narrowed := true }
def FnExactIsBitsUptoSaid : Prop := fnExactIsBitsUptoRow.holds Try.pinned (OpenSpec.upto fnExactIsBitsSpec)

/-- 'laws.FnExactBitAt', WHERE WHAT IT READS IS OF BULK AT MOST 1048576: true; the input reads as it did. -/
def fnExactBitAtUptoRow : OpenClaim := { program := "ytcbikbghbnccoaa", sum := "d3be7941ea2b726877e95be5ff86ee63a9a65d8c3ddae4c80ed2e83654d22cd4", func := "loop.example/g01097/laws.FnExactBitAt", spec := "fnExactBitAt", apart := false, narrowed := true }
def FnExactBitAtUptoSaid : Prop := fnExactBitAtUptoRow.holds Try.pinned (OpenSpec.upto fnExactBitAtSpec)

/-- 'laws.FnExactNextBit', WHERE WHAT IT READS IS OF BULK AT MOST 1048576: true; the input reads as it did. -/
def fnExactNextBitUptoRow : OpenClaim := { program := "ytcbikbghbnccoaa", sum := "d3be7941ea2b726877e95be5ff86ee63a9a65d8c3ddae4c80ed2e83654d22cd4", func := "loop.example/g01097/laws.FnExactNextBit", spec := "fnExactNextBit", apart := false, narrowed := true }
def FnExactNextBitUptoSaid : Prop := fnExactNextBitUptoRow.holds Try.pinned (OpenSpec.upto fnExactNextBitSpec)

/-- 'laws.FnExactExcessAt', WHERE WHAT IT READS IS OF BULK AT MOST 1048576: true; the input reads as it did. -/
def fnExactExcessAtUptoRow : OpenClaim := { program := "ytcbikbghbnccoaa", sum := "d3be7941ea2b726877e95be5ff86ee63a9a65d8c3ddae4c80ed2e83654d22cd4", func := "loop.example/g01097/laws.FnExactExcessAt", spec := "fnExactExcessAt", apart := false, narrowed := true }
def FnExactExcessAtUptoSaid : Prop := fnExactExcessAtUptoRow.holds Try.pinned (OpenSpec.upto fnExactExcessAtSpec)

/-- 'laws.FnExactCountBits', WHERE WHAT IT READS IS OF BULK AT MOST 1048576: true; the input reads as it did. -/
def fnExactCountBitsUptoRow : OpenClaim := { program := "ytcbikbghbnccoaa", sum := "d3be7941ea2b726877e95be5ff86ee63a9a65d8c3ddae4c80ed2e83654d22cd4", func := "loop.example/g01097/laws.FnExactCountBits", spec := "fnExactCountBits", apart := false, narrowed := true }
def FnExactCountBitsUptoSaid : Prop := fnExactCountBitsUptoRow.holds Try.pinned (OpenSpec.upto fnExactCountBitsSpec)

/-- 'laws.FnExactBitsText', WHERE WHAT IT READS IS OF BULK AT MOST 1048576: true; the input reads as it did. -/
def fnExactBitsTextUptoRow : OpenClaim := { program := "ytcbikbghbnccoaa", sum := "d3be7941ea2b726877e95be5ff86ee63a9a65d8c3ddae4c80ed2e83654d22cd4", func := "loop.example/g01097/laws.FnExactBitsText", spec := "fnExactBitsText", apart := false, narrowed := true }
def FnExactBitsTextUptoSaid : Prop := fnExactBitsTextUptoRow.holds Try.pinned (OpenSpec.upto fnExactBitsTextSpec)

/-- 'laws.FnExactReadField', WHERE WHAT IT READS IS OF BULK AT MOST 1048576: true; the input reads as it did. -/
def fnExactReadFieldUptoRow : OpenClaim := { program := "ytcbikbghbnccoaa", sum := "d3be7941ea2b726877e95be5ff86ee63a9a65d8c3ddae4c80ed2e83654d22cd4", func := "loop.example/g01097/laws.FnExactReadField", spec := "fnExactReadField", apart := false, narrowed := true }
def FnExactReadFieldUptoSaid : Prop := fnExactReadFieldUptoRow.holds Try.pinned (OpenSpec.upto fnExactReadFieldSpec)

/-- 'laws.FnExactIsBalanced', WHERE WHAT IT READS IS OF BULK AT MOST 1048576: true; the input reads as it did. -/
def fnExactIsBalancedUptoRow : OpenClaim := { program := "ytcbikbghbnccoaa", sum := "d3be7941ea2b726877e95be5ff86ee63a9a65d8c3ddae4c80ed2e83654d22cd4", func := "loop.example/g01097/laws.FnExactIsBalanced", spec := "fnExactIsBalanced", apart := false, narrowed := true }
def FnExactIsBalancedUptoSaid : Prop := fnExactIsBalancedUptoRow.holds Try.pinned (OpenSpec.upto fnExactIsBalancedSpec)

/-- 'laws.FnExactOpenOf', WHERE WHAT IT READS IS OF BULK AT MOST 1048576: true; the input reads as it did. -/
def fnExactOpenOfUptoRow : OpenClaim := { program := "ytcbikbghbnccoaa", sum := "d3be7941ea2b726877e95be5ff86ee63a9a65d8c3ddae4c80ed2e83654d22cd4", func := "loop.example/g01097/laws.FnExactOpenOf", spec := "fnExactOpenOf", apart := false, narrowed := true }
def FnExactOpenOfUptoSaid : Prop := fnExactOpenOfUptoRow.holds Try.pinned (OpenSpec.upto fnExactOpenOfSpec)

/-- 'laws.FnExactCloseOf', WHERE WHAT IT READS IS OF BULK AT MOST 1048576: true; the input reads as it did. -/
def fnExactCloseOfUptoRow : OpenClaim := { program := "ytcbikbghbnccoaa", sum := "d3be7941ea2b726877e95be5ff86ee63a9a65d8c3ddae4c80ed2e83654d22cd4", func := "loop.example/g01097/laws.FnExactCloseOf", spec := "fnExactCloseOf", apart := false, narrowed := true }
def FnExactCloseOfUptoSaid : Prop := fnExactCloseOfUptoRow.holds Try.pinned (OpenSpec.upto fnExactCloseOfSpec)

/-- 'laws.FnExactDepthOf', WHERE WHAT IT READS IS OF BULK AT MOST 1048576: true; the input reads as it did. -/
def fnExactDepthOfUptoRow : OpenClaim := { program := "ytcbikbghbnccoaa", sum := "d3be7941ea2b726877e95be5ff86ee63a9a65d8c3ddae4c80ed2e83654d22cd4", func := "loop.example/g01097/laws.FnExactDepthOf", spec := "fnExactDepthOf", apart := false, narrowed := true }
def FnExactDepthOfUptoSaid : Prop := fnExactDepthOfUptoRow.holds Try.pinned (OpenSpec.upto fnExactDepthOfSpec)

/-- 'laws.FnExactEnclosingOf', WHERE WHAT IT READS IS OF BULK AT MOST 1048576: true; the input reads as it did. -/
def fnExactEnclosingOfUptoRow : OpenClaim := { program := "ytcbikbghbnccoaa", sum := "d3be7941ea2b726877e95be5ff86ee63a9a65d8c3ddae4c80ed2e83654d22cd4", func := "loop.example/g01097/laws.FnExactEnclosingOf", spec := "fnExactEnclosingOf", apart := false, narrowed := true }
def FnExactEnclosingOfUptoSaid : Prop := fnExactEnclosingOfUptoRow.holds Try.pinned (OpenSpec.upto fnExactEnclosingOfSpec)

end Rows
end Go.Proofs.Ytcbikbghbnccoaa
