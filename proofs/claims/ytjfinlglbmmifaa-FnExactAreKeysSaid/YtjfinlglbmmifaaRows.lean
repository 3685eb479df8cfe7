/-
  No cell of these rows narrows 'for every input' (looked for: loops, veiled, ifaces, maps, wideKeys, modest, calm, conditions, laid).
  DERIVED. THE GIVEN ROWS OF THIS SEAT. 11 by the template 'for every input the law returns true; each argument reads behind the call as it read before'; 0 by the template 'total and deterministic' (their statements: YtjfinlglbmmifaaTotals.lean).
  GIVEN WITH THE SEED: the statements are not yours to turn. If you find one false, say at which input.
  Laid BY PROGRAM, IN A SANDBOX (cutbox-rows.mjs): the forced cells as the released guide's own fill.sh prints them over the translation 4f2bf4f5b5410912… (all of the seat's roots in one cut). By AI agents, Wed Nov 11 2026. No macro, syntax, notation, axiom, sorry.
-/
import Derived.Test.YtjfinlglbmmifaaChecked
import GoSem.Claim
import GoSem.ClaimJoined
import GoSem.ClaimMapViews
import Derived.JoinedTies
import Derived.KernelRfl
namespace Go.Proofs.Ytjfinlglbmmifaa
/- THE CELL 'sum', in the pinned program and in every row, IS THE sha256 OF THE DUMP (.gsa) THAT YtjfinlglbmmifaaProg.lean LOADS. Nothing in Lean hashes anything: it is a label: what it is worth is what the hold of that sum in a sandbox is worth. -/
noncomputable def Try.pinned : Pinned := { name := "ytjfinlglbmmifaa", sum := "4f2bf4f5b5410912f69bb6b2967b1dd4268bf646ad109906293a99a337398a1d", checked := Try.checked }
namespace Rows
def none {H : Type} : Left H := { results := [], args := [] }

/-- 'laws.FnExactConstants': WHATEVER THE INPUT: true; the input reads as it did. -/
def fnExactConstantsSpec : ChangeSpec := { name := "fnExactConstants", fn := fun _ => fun
  | [] => { results := [.lit (.bool true)], args := [] }
  | _ => none }
def fnExactConstantsRow : OpenClaim := { program := "ytjfinlglbmmifaa", sum := "4f2bf4f5b5410912f69bb6b2967b1dd4268bf646ad109906293a99a337398a1d", func := "loop.example/g01097/laws.FnExactConstants", spec := "fnExactConstants", apart := false }
def FnExactConstantsSaid : Prop := fnExactConstantsRow.holds Try.pinned (OpenSpec.ofChange fnExactConstantsSpec)

/-- ITS FALSE NEIGHBOUR: 'it returns false'. Refute it at one input. -/
def fnExactConstantsWrong : ChangeSpec := { name := "fnExactConstants", fn := fun _ => fun
  | [] => { results := [.lit (.bool false)], args := [] }
  | _ => none }
def FnExactConstantsWrongFalsely : Prop := fnExactConstantsRow.holds Try.pinned (OpenSpec.ofChange fnExactConstantsWrong)

/-- 'laws.FnExactDirectoryBits': WHATEVER THE INPUT: true; the input reads as it did. -/
def fnExactDirectoryBitsSpec : ChangeSpec := { name := "fnExactDirectoryBits", fn := fun _ => fun
  | [d] => { results := [.lit (.bool true)], args := [d] }
  | _ => none }
def fnExactDirectoryBitsRow : OpenClaim := { program := "ytjfinlglbmmifaa", sum := "4f2bf4f5b5410912f69bb6b2967b1dd4268bf646ad109906293a99a337398a1d", func := "loop.example/g01097/laws.FnExactDirectoryBits", spec := "fnExactDirectoryBits", apart := false }
def FnExactDirectoryBitsSaid : Prop := fnExactDirectoryBitsRow.holds Try.pinned (OpenSpec.ofChange fnExactDirectoryBitsSpec)

/-- ITS FALSE NEIGHBOUR: 'it returns false'. Refute it at one input. -/
def fnExactDirectoryBitsWrong : ChangeSpec := { name := "fnExactDirectoryBits", fn := fun _ => fun
  | [d] => { results := [.lit (.bool false)], args := [d] }
  | _ => none }
def FnExactDirectoryBitsWrongFalsely : Prop := fnExactDirectoryBitsRow.holds Try.pinned (OpenSpec.ofChange fnExactDirectoryBitsWrong)

/-- 'laws.FnExactIsKey': WHATEVER THE INPUT: true; the input reads as it did. -/
def fnExactIsKeySpec : ChangeSpec := { name := "fnExactIsKey", fn := fun _ => fun
  | [d] => { results := [.lit (.bool true)], args := [d] }
  | _ => none }
def fnExactIsKeyRow : OpenClaim := { program := "ytjfinlglbmmifaa", sum := "4f2bf4f5b5410912f69bb6b2967b1dd4268bf646ad109906293a99a337398a1d", func := "loop.example/g01097/laws.FnExactIsKey", spec := "fnExactIsKey", apart := false }
def FnExactIsKeySaid : Prop := fnExactIsKeyRow.holds Try.pinned (OpenSpec.ofChange fnExactIsKeySpec)

/-- ITS FALSE NEIGHBOUR: 'it returns false'. Refute it at one input. -/
def fnExactIsKeyWrong : ChangeSpec := { name := "fnExactIsKey", fn := fun _ => fun
  | [d] => { results := [.lit (.bool false)], args := [d] }
  | _ => none }
def FnExactIsKeyWrongFalsely : Prop := fnExactIsKeyRow.holds Try.pinned (OpenSpec.ofChange fnExactIsKeyWrong)

/-- 'laws.FnExactWidthFor': WHATEVER THE INPUT: true; the input reads as it did. -/
def fnExactWidthForSpec : ChangeSpec := { name := "fnExactWidthFor", fn := fun _ => fun
  | [d1, d2] => { results := [.lit (.bool true)], args := [d1, d2] }
  | _ => none }
def fnExactWidthForRow : OpenClaim := { program := "ytjfinlglbmmifaa", sum := "4f2bf4f5b5410912f69bb6b2967b1dd4268bf646ad109906293a99a337398a1d", func := "loop.example/g01097/laws.FnExactWidthFor", spec := "fnExactWidthFor", apart := false }
def FnExactWidthForSaid : Prop := fnExactWidthForRow.holds Try.pinned (OpenSpec.ofChange fnExactWidthForSpec)

/-- ITS FALSE NEIGHBOUR: 'it returns false'. Refute it at one input. -/
def fnExactWidthForWrong : ChangeSpec := { name := "fnExactWidthFor", fn := fun _ => fun
  | [d1, d2] => { results := [.lit (.bool false)], args := [d1, d2] }
  | _ => none }
def FnExactWidthForWrongFalsely : Prop := fnExactWidthForRow.holds Try.pinned (OpenSpec.ofChange fnExactWidthForWrong)

/-- 'laws.FnExactHashOf': WHATEVER THE INPUT: true; the input reads as it did. -/
def fnExactHashOfSpec : ChangeSpec := { name := "fnExactHashOf", fn := fun _ => fun
  | [d1, d2, d3] => { results := [.lit (.bool true)], args := [d1, d2, d3] }
  | _ => none }
def fnExactHashOfRow : OpenClaim := { program := "ytjfinlglbmmifaa", sum := "4f2bf4f5b5410912f69bb6b2967b1dd4268bf646ad109906293a99a337398a1d", func := "loop.example/g01097/laws.FnExactHashOf", spec := "fnExactHashOf", apart := false }
def FnExactHashOfSaid : Prop := fnExactHashOfRow.holds Try.pinned (OpenSpec.ofChange fnExactHashOfSpec)

/-- ITS FALSE NEIGHBOUR: 'it returns false'. Refute it at one input. -/
def fnExactHashOfWrong : ChangeSpec := { name := "fnExactHashOf", fn := fun _ => fun
  | [d1, d2, d3] => { results := [.lit (.bool false)], args := [d1, d2, d3] }
  | _ => none }
def FnExactHashOfWrongFalsely : Prop := fnExactHashOfRow.holds Try.pinned (OpenSpec.ofChange fnExactHashOfWrong)

/-- 'laws.FnExactGammaLength': WHATEVER THE INPUT: true; the input reads as it did. -/
def fnExactGammaLengthSpec : ChangeSpec := { name := "fnExactGammaLength", fn := fun _ => fun
  | [d] => { results := [.lit (.bool true)], args := [d] }
  | _ => none }
def fnExactGammaLengthRow : OpenClaim := { program := "ytjfinlglbmmifaa", sum := "4f2bf4f5b5410912f69bb6b2967b1dd4268bf646ad109906293a99a337398a1d", func := "loop.example/g01097/laws.FnExactGammaLength", spec := "fnExactGammaLength", apart := false }
def FnExactGammaLengthSaid : Prop := fnExactGammaLengthRow.holds Try.pinned (OpenSpec.ofChange fnExactGammaLengthSpec)

/-- ITS FALSE NEIGHBOUR: 'it returns false'. Refute it at one input. -/
def fnExactGammaLengthWrong : ChangeSpec := { name := "fnExactGammaLength", fn := fun _ => fun
  | [d] => { results := [.lit (.bool false)], args := [d] }
  | _ => none }
def FnExactGammaLengthWrongFalsely : Prop := fnExactGammaLengthRow.holds Try.pinned (OpenSpec.ofChange fnExactGammaLengthWrong)

/-- 'laws.FnExactDeltaLength': WHATEVER THE INPUT: true; the input reads as it did. -/
def fnExactDeltaLengthSpec : ChangeSpec := { name := "fnExactDeltaLength", fn := fun _ => fun
  | [d] => { results := [.lit (.bool true)], args := [d] }
  | _ => none }
def fnExactDeltaLengthRow : OpenClaim := { program := "ytjfinlglbmmifaa", sum := "4f2bf4f5b5410912f69bb6b2967b1dd4268bf646ad109906293a99a337398a1d", func := "loop.example/g01097/laws.FnExactDeltaLength", spec := "fnExactDeltaLength", apart := false }
def FnExactDeltaLengthSaid : Prop := fnExactDeltaLengthRow.holds Try.pinned (OpenSpec.ofChange fnExactDeltaLengthSpec)

/-- ITS FALSE NEIGHBOUR: 'it returns false'. Refute it at one input. -/
def fnExactDeltaLengthWrong : ChangeSpec := { name := "fnExactDeltaLength", fn := fun _ => fun
  | [d] => { results := [.lit (.bool false)], args := [d] }
  | _ => none }
def FnExactDeltaLengthWrongFalsely : Prop := fnExactDeltaLengthRow.holds Try.pinned (OpenSpec.ofChange fnExactDeltaLengthWrong)

/-- 'laws.FnExactNewBits': WHATEVER THE INPUT: true; the input reads as it did. -/
def fnExactNewBitsSpec : ChangeSpec := { name := "fnExactNewBits", fn := fun _ => fun
  | [d] => { results := [.lit (.bool true)], args := [d] }
  | _ => none }
def fnExactNewBitsRow : OpenClaim := { program := "ytjfinlglbmmifaa", sum := "4f2bf4f5b5410912f69bb6b2967b1dd4268bf646ad109906293a99a337398a1d", func := "loop.example/g01097/laws.FnExactNewBits", spec := "fnExactNewBits", apart := false }
def FnExactNewBitsSaid : Prop := fnExactNewBitsRow.holds Try.pinned (OpenSpec.ofChange fnExactNewBitsSpec)

/-- ITS FALSE NEIGHBOUR: 'it returns false'. Refute it at one input. -/
def fnExactNewBitsWrong : ChangeSpec := { name := "fnExactNewBits", fn := fun _ => fun
  | [d] => { results := [.lit (.bool false)], args := [d] }
  | _ => none }
def FnExactNewBitsWrongFalsely : Prop := fnExactNewBitsRow.holds Try.pinned (OpenSpec.ofChange fnExactNewBitsWrong)

/-- 'laws.FnExactGapsOf': WHATEVER THE INPUT: true; the input reads as it did. -/
def fnExactGapsOfSpec : ChangeSpec := { name := "fnExactGapsOf", fn := fun _ => fun
  | [d] => { results := [.lit (.bool true)], args := [d] }
  | _ => none }
def fnExactGapsOfRow : OpenClaim := { program := "ytjfinlglbmmifaa", sum := "4f2bf4f5b5410912f69bb6b2967b1dd4268bf646ad109906293a99a337398a1d", func := "loop.example/g01097/laws.FnExactGapsOf", spec := "fnExactGapsOf", apart := false }
def FnExactGapsOfSaid : Prop := fnExactGapsOfRow.holds Try.pinned (OpenSpec.ofChange fnExactGapsOfSpec)

/-- ITS FALSE NEIGHBOUR: 'it returns false'. Refute it at one input. -/
def fnExactGapsOfWrong : ChangeSpec := { name := "fnExactGapsOf", fn := fun _ => fun
  | [d] => { results := [.lit (.bool false)], args := [d] }
  | _ => none }
def FnExactGapsOfWrongFalsely : Prop := fnExactGapsOfRow.holds Try.pinned (OpenSpec.ofChange fnExactGapsOfWrong)

/-- 'laws.FnExactAreKeys': WHATEVER THE INPUT: true; the input reads as it did. -/
def fnExactAreKeysSpec : ChangeSpec := { name := "fnExactAreKeys", fn := fun _ => fun
  | [d] => { results := [.lit (.bool true)], args := [d] }
  | _ => none }
def fnExactAreKeysRow : OpenClaim := { program := "ytjfinlglbmmifaa", sum := "4f2bf4f5b5410912f69bb6b2967b1dd4268bf646ad109906293a99a337398a1d", func := "loop.example/g01097/laws.FnExactAreKeys", spec := "fnExactAreKeys", apart := false }
def FnExactAreKeysSaid : Prop := fnExactAreKeysRow.holds Try.pinned (OpenSpec.ofChange fnExactAreKeysSpec)

/-- ITS FALSE NEIGHBOUR: 'it returns false'. Refute it at one input. -/
def fnExactAreKeysWrong : ChangeSpec := { name := "fnExactAreKeys", fn := fun _ => fun
  | [d] => { results := [.lit (.bool false)], args := [d] }
  | _ => none }
def FnExactAreKeysWrongFalsely : Prop := fnExactAreKeysRow.holds Try.pinned (OpenSpec.ofChange fnExactAreKeysWrong)

/-- 'laws.FnExactFromGaps': WHATEVER THE INPUT: true; the input reads as it did. -/
def fnExactFromGapsSpec : ChangeSpec := { name := "fnExactFromGaps", fn := fun _ => fun
  | [d] => { results := [.lit (.bool true)], args := [d] }
  | _ => none }
def fnExactFromGapsRow : OpenClaim := { program := "ytjfinlglbmmifaa", sum := "4f2bf4f5b5410912f69bb6b2967b1dd4268bf646ad109906293a99a337398a1d", func := "loop.example/g01097/laws.FnExactFromGaps", spec := "fnExactFromGaps", apart := false }
def FnExactFromGapsSaid : Prop := fnExactFromGapsRow.holds Try.pinned (OpenSpec.ofChange fnExactFromGapsSpec)

/-- ITS FALSE NEIGHBOUR: 'it returns false'. Refute it at one input. -/
def fnExactFromGapsWrong : ChangeSpec := { name := "fnExactFromGaps", fn := fun _ => fun
  | [d] => { results := [.lit (.bool false)], args := [d] }
  | _ => none }
def FnExactFromGapsWrongFalsely : Prop := fnExactFromGapsRow.holds Try.pinned (OpenSpec.ofChange fnExactFromGapsWrong)

/- THE SECOND FORM. 'bulk': how many values and letters a reading holds, each counted each time it is reached (what is shared counts as often as it is met; a slice's spare places count too). A statement '..UptoSaid' is the law's where the arguments, and the package variables that the reading takes, are together of bulk at most 1048576: NARROWER than '..Said'. Prove '..Said' where nothing that the law and all that it calls make is longer than what came in: it says more and counts as full. Else prove '..UptoSaid'. A law counts once. -/
mutual
def uptoBulk {H : Type} : DataW H → Nat
  | .lit (.string bytes) => bytes.length + 1
  | .lit _ => 1
  | .nil => 1
  | .ptr d => uptoBulk d + 1
  | .slice elems spare => uptoBulkAll elems + uptoBulkAll spare + 1
  | .agg parts => uptoBulkAll parts + 1
  | .iface _ d => uptoBulk d + 1
  | .map entries => uptoBulkEntries entries + 1
  | .held _ => 1
def uptoBulkAll {H : Type} : List (DataW H) → Nat
  | [] => 0
  | d :: r => uptoBulk d + uptoBulkAll r
def uptoBulkEntries {H : Type} : List (Lit × DataW H) → Nat
  | [] => 0
  | x :: r => uptoBulkEntry x + uptoBulkEntries r
def uptoBulkEntry {H : Type} : Lit × DataW H → Nat
  | (.string bytes, d) => bytes.length + uptoBulk d + 1
  | (_, d) => uptoBulk d + 1
 end
def uptoSmall : (H : Type) → List (DataW H) → Bool := fun _ ds => decide (uptoBulkAll ds ≤ 1048576)
def OpenSpec.upto (s : _root_.Go.ChangeSpec) : _root_.Go.OpenSpec := { _root_.Go.OpenSpec.ofChange s with cond := some uptoSmall }

/-- 'laws.FnExactConstants', WHERE WHAT IT READS IS OF BULK AT MOST 1048576: true; the input reads as it did. -/
def fnExactConstantsUptoRow : OpenClaim := { program := "ytjfinlglbmmifaa", sum := "4f2bf4f5b5410912f69bb6b2967b1dd4268bf646ad109906293a99a337398a1d", func := "loop.example/g01097/laws.FnExactConstants", spec := "fnExactConstants", apart := false, narrowed := true }
def FnExactConstantsUptoSaid : Prop := fnExactConstantsUptoRow.holds Try.pinned (OpenSpec.upto fnExactConstantsSpec)

/-- 'laws.FnExactDirectoryBits', WHERE WHAT IT READS IS OF BULK AT MOST 1048576: true; the input reads as it did. -/
def fnExactDirectoryBitsUptoRow : OpenClaim := { program := "ytjfinlglbmmifaa", sum := "4f2bf4f5b5410912f69bb6b2967b1dd4268bf646ad109906293a99a337398a1d", func := "loop.example/g01097/laws.FnExactDirectoryBits", spec := "fnExactDirectoryBits", apart := false, narrowed := true }
def FnExactDirectoryBitsUptoSaid : Prop := fnExactDirectoryBitsUptoRow.holds Try.pinned (OpenSpec.upto fnExactDirectoryBitsSpec)

/-- 'laws.FnExactIsKey', WHERE WHAT IT READS IS OF BULK AT MOST 1048576: true; the input reads as it did. -/
def fnExactIsKeyUptoRow : OpenClaim := { program := "ytjfinlglbmmifaa", sum := "4f2bf4f5b5410912f69bb6b2967b1dd4268bf646ad109906293a99a337398a1d", func := "loop.example/g01097/laws.FnExactIsKey", spec := "fnExactIsKey", apart := false, narrowed := true }
def FnExactIsKeyUptoSaid : Prop := fnExactIsKeyUptoRow.holds Try.pinned (OpenSpec.upto fnExactIsKeySpec)

/-- 'laws.FnExactWidthFor', WHERE WHAT IT READS IS OF BULK AT MOST 1048576: true; the input reads as it did. -/
def fnExactWidthForUptoRow : OpenClaim := { program := "ytjfinlglbmmifaa", sum := "4f2bf4f5b5410912f69bb6b2967b1dd4268bf646ad109906293a99a337398a1d", func := "loop.example/g01097/laws.FnExactWidthFor", spec := "fnExactWidthFor", apart := false, narrowed := true }
def FnExactWidthForUptoSaid : Prop := fnExactWidthForUptoRow.holds Try.pinned (OpenSpec.upto fnExactWidthForSpec)

/-- 'laws.FnExactHashOf', WHERE WHAT IT READS IS OF BULK AT MOST 1048576: true; the input reads as it did. -/
def fnExactHashOfUptoRow : OpenClaim := { program := "ytjfinlglbmmifaa", sum := "4f2bf4f5b5410912f69bb6b2967b1dd4268bf646ad109906293a99a337398a1d", func := "loop.example/g01097/laws.FnExactHashOf", spec := "fnExactHashOf", apart := false, narrowed := true }
def FnExactHashOfUptoSaid : Prop := fnExactHashOfUptoRow.holds Try.pinned (OpenSpec.upto fnExactHashOfSpec)

/-- 'laws.FnExactGammaLength', WHERE WHAT IT READS IS OF BULK AT MOST 1048576: true; the input reads as it did. -/
def fnExactGammaLengthUptoRow : OpenClaim := { program := "ytjfinlglbmmifaa", sum := "4f2bf4f5b5410912f69bb6b2967b1dd4268bf646ad109906293a99a337398a1d", func := "loop.example/g01097/laws.FnExactGammaLength", spec := "fnExactGammaLength", apart := false, narrowed := true }
def FnExactGammaLengthUptoSaid : Prop := fnExactGammaLengthUptoRow.holds Try.pinned (OpenSpec.upto fnExactGammaLengthSpec)

/-- 'laws.FnExactDeltaLength', WHERE WHAT IT READS IS OF BULK AT MOST 1048576: true; the input reads as it did. -/
def fnExactDeltaLengthUptoRow : OpenClaim := { program := "ytjfinlglbmmifaa", sum := "4f2bf4f5b5410912f69bb6b2967b1dd4268bf646ad109906293a99a337398a1d", func := "loop.example/g01097/laws.FnExactDeltaLength", spec := "fnExactDeltaLength", apart := false, narrowed := true }
def FnExactDeltaLengthUptoSaid : Prop := fnExactDeltaLengthUptoRow.holds Try.pinned (OpenSpec.upto fnExactDeltaLengthSpec)

/-- 'laws.FnExactNewBits', WHERE WHAT IT READS IS OF BULK AT MOST 1048576: true; the input reads as it did. -/
def fnExactNewBitsUptoRow : OpenClaim := { program := "ytjfinlglbmmifaa", sum := "4f2bf4f5b5410912f69bb6b2967b1dd4268bf646ad109906293a99a337398a1d", func := "loop.example/g01097/laws.FnExactNewBits", spec := "fnExactNewBits", apart := false, narrowed := true }
def FnExactNewBitsUptoSaid : Prop := fnExactNewBitsUptoRow.holds Try.pinned (OpenSpec.upto fnExactNewBitsSpec)

/-- 'laws.FnExactGapsOf', WHERE WHAT IT READS IS OF BULK AT MOST 1048576: true; the input reads as it did. -/
def fnExactGapsOfUptoRow : OpenClaim := { program := "ytjfinlglbmmifaa", sum := "4f2bf4f5b5410912f69bb6b2967b1dd4268bf646ad109906293a99a337398a1d", func := "loop.example/g01097/laws.FnExactGapsOf", spec := "fnExactGapsOf", apart := false, narrowed := true }
def FnExactGapsOfUptoSaid : Prop := fnExactGapsOfUptoRow.holds Try.pinned (OpenSpec.upto fnExactGapsOfSpec)

/-- 'laws.FnExactAreKeys', WHERE WHAT IT READS IS OF BULK AT MOST 1048576: true; the input reads as it did. -/
def fnExactAreKeysUptoRow : OpenClaim := { program := "ytjfinlglbmmifaa", sum := "4f2bf4f5b5410912f69bb6b2967b1dd4268bf646ad109906293a99a337398a1d", func := "loop.example/g01097/laws.FnExactAreKeys", spec := "fnExactAreKeys", apart := false, narrowed := true }
def FnExactAreKeysUptoSaid : Prop := fnExactAreKeysUptoRow.holds Try.pinned (OpenSpec.upto fnExactAreKeysSpec)

/-- 'laws.FnExactFromGaps', WHERE WHAT IT READS IS OF BULK AT MOST 1048576: true; the input reads as it did. -/
def fnExactFromGapsUptoRow : OpenClaim := { program := "ytjfinlglbmmifaa", sum := "4f2bf4f5b5410912f69bb6b2967b1dd4268bf646ad109906293a99a337398a1d", func := "loop.example/g01097/laws.FnExactFromGaps", spec := "fnExactFromGaps", apart := false, narrowed := true }
def FnExactFromGapsUptoSaid : Prop := fnExactFromGapsUptoRow.holds Try.pinned (OpenSpec.upto fnExactFromGapsSpec)

end Rows
end Go.Proofs.Ytjfinlglbmmifaa
