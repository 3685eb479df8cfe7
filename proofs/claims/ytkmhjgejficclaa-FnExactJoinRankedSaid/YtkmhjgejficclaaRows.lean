/-
  No cell of these rows narrows 'for every input' (looked for: loops, veiled, ifaces, maps, wideKeys, modest, calm, conditions, laid).
  DERIVED. THE GIVEN ROWS OF THIS SEAT. 13 by the template 'for every input the law returns true; each argument reads behind the call as it read before'; 0 by the template 'total and deterministic' (their statements: YtkmhjgejficclaaTotals.lean).
  GIVEN WITH THE SEED: the statements are not yours to turn. If you find one false, say at which input.
  Laid BY PROGRAM, IN A SANDBOX (cutbox-rows.mjs): the forced cells as the released guide's own fill.sh prints them over the translation 50cffbdc94c1ece7… (all of the seat's roots in one cut). By AI agents, Wed Nov 11 2026. No macro, syntax, notation, axiom, sorry.
-/
import Derived.Test.YtkmhjgejficclaaChecked
import GoSem.Claim
import GoSem.ClaimJoined
import GoSem.ClaimMapViews
import Derived.JoinedTies
import Derived.KernelRfl
namespace Go.Proofs.Ytkmhjgejficclaa
/- THE CELL 'sum', in the pinned program and in every row, IS THE sha256 OF THE DUMP (.gsa) THAT YtkmhjgejficclaaProg.lean LOADS. Nothing in Lean hashes anything: it is a label: what it is worth is what the hold of that sum in a sandbox is worth. -/
noncomputable def Try.pinned : Pinned := { name := "ytkmhjgejficclaa", sum := "50cffbdc94c1ece76116f7780b9ccc96b61b7925a8b3fa0938717eefb50a825d", checked := Try.checked }
namespace Rows
def none {H : Type} : Left H := { results := [], args := [] }

/-- 'laws.FnExactPutBit': WHATEVER THE INPUT: true; the input reads as it did. -/
def fnExactPutBitSpec : ChangeSpec := { name := "fnExactPutBit", fn := fun _ => fun
  | [d1, d2, d3] => { results := [.lit (.bool true)], args := [d1, d2, d3] }
  | _ => none }
def fnExactPutBitRow : OpenClaim := { program := "ytkmhjgejficclaa", sum := "50cffbdc94c1ece76116f7780b9ccc96b61b7925a8b3fa0938717eefb50a825d", func := "loop.example/g01097/laws.FnExactPutBit", spec := "fnExactPutBit", apart := false }
def FnExactPutBitSaid : Prop := fnExactPutBitRow.holds Try.pinned (OpenSpec.ofChange fnExactPutBitSpec)

/-- ITS FALSE NEIGHBOUR: 'it returns false'. Refute it at one input. -/
def fnExactPutBitWrong : ChangeSpec := { name := "fnExactPutBit", fn := fun _ => fun
  | [d1, d2, d3] => { results := [.lit (.bool false)], args := [d1, d2, d3] }
  | _ => none }
def FnExactPutBitWrongFalsely : Prop := fnExactPutBitRow.holds Try.pinned (OpenSpec.ofChange fnExactPutBitWrong)

/-- 'laws.FnExactCutBits': WHATEVER THE INPUT: true; the input reads as it did. -/
def fnExactCutBitsSpec : ChangeSpec := { name := "fnExactCutBits", fn := fun _ => fun
  | [d1, d2, d3] => { results := [.lit (.bool true)], args := [d1, d2, d3] }
  | _ => none }
def fnExactCutBitsRow : OpenClaim := { program := "ytkmhjgejficclaa", sum := "50cffbdc94c1ece76116f7780b9ccc96b61b7925a8b3fa0938717eefb50a825d", func := "loop.example/g01097/laws.FnExactCutBits", spec := "fnExactCutBits", unfollowed := true, recurses := true, apart := false }
def FnExactCutBitsSaid : Prop := fnExactCutBitsRow.holds Try.pinned (OpenSpec.ofChange fnExactCutBitsSpec)

/-- ITS FALSE NEIGHBOUR: 'it returns false'. Refute it at one input. -/
def fnExactCutBitsWrong : ChangeSpec := { name := "fnExactCutBits", fn := fun _ => fun
  | [d1, d2, d3] => { results := [.lit (.bool false)], args := [d1, d2, d3] }
  | _ => none }
def FnExactCutBitsWrongFalsely : Prop := fnExactCutBitsRow.holds Try.pinned (OpenSpec.ofChange fnExactCutBitsWrong)

/-- 'laws.FnExactJoinBits': WHATEVER THE INPUT: true; the input reads as it did. -/
def fnExactJoinBitsSpec : ChangeSpec := { name := "fnExactJoinBits", fn := fun _ => fun
  | [d1, d2] => { results := [.lit (.bool true)], args := [d1, d2] }
  | _ => none }
def fnExactJoinBitsRow : OpenClaim := { program := "ytkmhjgejficclaa", sum := "50cffbdc94c1ece76116f7780b9ccc96b61b7925a8b3fa0938717eefb50a825d", func := "loop.example/g01097/laws.FnExactJoinBits", spec := "fnExactJoinBits", unfollowed := true, recurses := true, apart := false }
def FnExactJoinBitsSaid : Prop := fnExactJoinBitsRow.holds Try.pinned (OpenSpec.ofChange fnExactJoinBitsSpec)

/-- ITS FALSE NEIGHBOUR: 'it returns false'. Refute it at one input. -/
def fnExactJoinBitsWrong : ChangeSpec := { name := "fnExactJoinBits", fn := fun _ => fun
  | [d1, d2] => { results := [.lit (.bool false)], args := [d1, d2] }
  | _ => none }
def FnExactJoinBitsWrongFalsely : Prop := fnExactJoinBitsRow.holds Try.pinned (OpenSpec.ofChange fnExactJoinBitsWrong)

/-- 'laws.FnExactPutField': WHATEVER THE INPUT: true; the input reads as it did. -/
def fnExactPutFieldSpec : ChangeSpec := { name := "fnExactPutField", fn := fun _ => fun
  | [d1, d2, d3, d4] => { results := [.lit (.bool true)], args := [d1, d2, d3, d4] }
  | _ => none }
def fnExactPutFieldRow : OpenClaim := { program := "ytkmhjgejficclaa", sum := "50cffbdc94c1ece76116f7780b9ccc96b61b7925a8b3fa0938717eefb50a825d", func := "loop.example/g01097/laws.FnExactPutField", spec := "fnExactPutField", apart := false }
def FnExactPutFieldSaid : Prop := fnExactPutFieldRow.holds Try.pinned (OpenSpec.ofChange fnExactPutFieldSpec)

/-- ITS FALSE NEIGHBOUR: 'it returns false'. Refute it at one input. -/
def fnExactPutFieldWrong : ChangeSpec := { name := "fnExactPutField", fn := fun _ => fun
  | [d1, d2, d3, d4] => { results := [.lit (.bool false)], args := [d1, d2, d3, d4] }
  | _ => none }
def FnExactPutFieldWrongFalsely : Prop := fnExactPutFieldRow.holds Try.pinned (OpenSpec.ofChange fnExactPutFieldWrong)

/-- 'laws.FnExactParenthesesOf': WHATEVER THE INPUT: true; the input reads as it did. -/
def fnExactParenthesesOfSpec : ChangeSpec := { name := "fnExactParenthesesOf", fn := fun _ => fun
  | [d] => { results := [.lit (.bool true)], args := [d] }
  | _ => none }
def fnExactParenthesesOfRow : OpenClaim := { program := "ytkmhjgejficclaa", sum := "50cffbdc94c1ece76116f7780b9ccc96b61b7925a8b3fa0938717eefb50a825d", func := "loop.example/g01097/laws.FnExactParenthesesOf", spec := "fnExactParenthesesOf", apart := false }
def FnExactParenthesesOfSaid : Prop := fnExactParenthesesOfRow.holds Try.pinned (OpenSpec.ofChange fnExactParenthesesOfSpec)

/-- ITS FALSE NEIGHBOUR: 'it returns false'. Refute it at one input. -/
def fnExactParenthesesOfWrong : ChangeSpec := { name := "fnExactParenthesesOf", fn := fun _ => fun
  | [d] => { results := [.lit (.bool false)], args := [d] }
  | _ => none }
def FnExactParenthesesOfWrongFalsely : Prop := fnExactParenthesesOfRow.holds Try.pinned (OpenSpec.ofChange fnExactParenthesesOfWrong)

/-- 'laws.FnExactJoinRanked': WHATEVER THE INPUT: true; the input reads as it did. -/
def fnExactJoinRankedSpec : ChangeSpec := { name := "fnExactJoinRanked", fn := fun _ => fun
  | [d1, d2] => { results := [.lit (.bool true)], args := [d1, d2] }
  | _ => none }
def fnExactJoinRankedRow : OpenClaim := { program := "ytkmhjgejficclaa", sum := "50cffbdc94c1ece76116f7780b9ccc96b61b7925a8b3fa0938717eefb50a825d", func := "loop.example/g01097/laws.FnExactJoinRanked", spec := "fnExactJoinRanked", unfollowed := true, recurses := true, apart := false }
def FnExactJoinRankedSaid : Prop := fnExactJoinRankedRow.holds Try.pinned (OpenSpec.ofChange fnExactJoinRankedSpec)

/-- ITS FALSE NEIGHBOUR: 'it returns false'. Refute it at one input. -/
def fnExactJoinRankedWrong : ChangeSpec := { name := "fnExactJoinRanked", fn := fun _ => fun
  | [d1, d2] => { results := [.lit (.bool false)], args := [d1, d2] }
  | _ => none }
def FnExactJoinRankedWrongFalsely : Prop := fnExactJoinRankedRow.holds Try.pinned (OpenSpec.ofChange fnExactJoinRankedWrong)

/-- 'laws.FnExactPackDirectory': WHATEVER THE INPUT: true; the input reads as it did. -/
def fnExactPackDirectorySpec : ChangeSpec := { name := "fnExactPackDirectory", fn := fun _ => fun
  | [d] => { results := [.lit (.bool true)], args := [d] }
  | _ => none }
def fnExactPackDirectoryRow : OpenClaim := { program := "ytkmhjgejficclaa", sum := "50cffbdc94c1ece76116f7780b9ccc96b61b7925a8b3fa0938717eefb50a825d", func := "loop.example/g01097/laws.FnExactPackDirectory", spec := "fnExactPackDirectory", unfollowed := true, recurses := true, apart := false }
def FnExactPackDirectorySaid : Prop := fnExactPackDirectoryRow.holds Try.pinned (OpenSpec.ofChange fnExactPackDirectorySpec)

/-- ITS FALSE NEIGHBOUR: 'it returns false'. Refute it at one input. -/
def fnExactPackDirectoryWrong : ChangeSpec := { name := "fnExactPackDirectory", fn := fun _ => fun
  | [d] => { results := [.lit (.bool false)], args := [d] }
  | _ => none }
def FnExactPackDirectoryWrongFalsely : Prop := fnExactPackDirectoryRow.holds Try.pinned (OpenSpec.ofChange fnExactPackDirectoryWrong)

/-- 'laws.FnExactUnpackDirectory': WHATEVER THE INPUT: true; the input reads as it did. -/
def fnExactUnpackDirectorySpec : ChangeSpec := { name := "fnExactUnpackDirectory", fn := fun _ => fun
  | [d1, d2] => { results := [.lit (.bool true)], args := [d1, d2] }
  | _ => none }
def fnExactUnpackDirectoryRow : OpenClaim := { program := "ytkmhjgejficclaa", sum := "50cffbdc94c1ece76116f7780b9ccc96b61b7925a8b3fa0938717eefb50a825d", func := "loop.example/g01097/laws.FnExactUnpackDirectory", spec := "fnExactUnpackDirectory", unfollowed := true, recurses := true, apart := false }
def FnExactUnpackDirectorySaid : Prop := fnExactUnpackDirectoryRow.holds Try.pinned (OpenSpec.ofChange fnExactUnpackDirectorySpec)

/-- ITS FALSE NEIGHBOUR: 'it returns false'. Refute it at one input. -/
def fnExactUnpackDirectoryWrong : ChangeSpec := { name := "fnExactUnpackDirectory", fn := fun _ => fun
  | [d1, d2] => { results := [.lit (.bool false)], args := [d1, d2] }
  | _ => none }
def FnExactUnpackDirectoryWrongFalsely : Prop := fnExactUnpackDirectoryRow.holds Try.pinned (OpenSpec.ofChange fnExactUnpackDirectoryWrong)

/-- 'laws.FnDirectoriesArePacked': WHATEVER THE INPUT: true; the input reads as it did. -/
def fnDirectoriesArePackedSpec : ChangeSpec := { name := "fnDirectoriesArePacked", fn := fun _ => fun
  | [d1, d2] => { results := [.lit (.bool true)], args := [d1, d2] }
  | _ => none }
def fnDirectoriesArePackedRow : OpenClaim := { program := "ytkmhjgejficclaa", sum := "50cffbdc94c1ece76116f7780b9ccc96b61b7925a8b3fa0938717eefb50a825d", func := "loop.example/g01097/laws.FnDirectoriesArePacked", spec := "fnDirectoriesArePacked", unfollowed := true, recurses := true, apart := false }
def FnDirectoriesArePackedSaid : Prop := fnDirectoriesArePackedRow.holds Try.pinned (OpenSpec.ofChange fnDirectoriesArePackedSpec)

/-- ITS FALSE NEIGHBOUR: 'it returns false'. Refute it at one input. -/
def fnDirectoriesArePackedWrong : ChangeSpec := { name := "fnDirectoriesArePacked", fn := fun _ => fun
  | [d1, d2] => { results := [.lit (.bool false)], args := [d1, d2] }
  | _ => none }
def FnDirectoriesArePackedWrongFalsely : Prop := fnDirectoriesArePackedRow.holds Try.pinned (OpenSpec.ofChange fnDirectoriesArePackedWrong)

/-- 'laws.FnJoinsAreCut': WHATEVER THE INPUT: true; the input reads as it did. -/
def fnJoinsAreCutSpec : ChangeSpec := { name := "fnJoinsAreCut", fn := fun _ => fun
  | [d1, d2] => { results := [.lit (.bool true)], args := [d1, d2] }
  | _ => none }
def fnJoinsAreCutRow : OpenClaim := { program := "ytkmhjgejficclaa", sum := "50cffbdc94c1ece76116f7780b9ccc96b61b7925a8b3fa0938717eefb50a825d", func := "loop.example/g01097/laws.FnJoinsAreCut", spec := "fnJoinsAreCut", unfollowed := true, recurses := true, apart := false }
def FnJoinsAreCutSaid : Prop := fnJoinsAreCutRow.holds Try.pinned (OpenSpec.ofChange fnJoinsAreCutSpec)

/-- ITS FALSE NEIGHBOUR: 'it returns false'. Refute it at one input. -/
def fnJoinsAreCutWrong : ChangeSpec := { name := "fnJoinsAreCut", fn := fun _ => fun
  | [d1, d2] => { results := [.lit (.bool false)], args := [d1, d2] }
  | _ => none }
def FnJoinsAreCutWrongFalsely : Prop := fnJoinsAreCutRow.holds Try.pinned (OpenSpec.ofChange fnJoinsAreCutWrong)

/-- 'laws.FnRanksJoin': WHATEVER THE INPUT: true; the input reads as it did. -/
def fnRanksJoinSpec : ChangeSpec := { name := "fnRanksJoin", fn := fun _ => fun
  | [d1, d2] => { results := [.lit (.bool true)], args := [d1, d2] }
  | _ => none }
def fnRanksJoinRow : OpenClaim := { program := "ytkmhjgejficclaa", sum := "50cffbdc94c1ece76116f7780b9ccc96b61b7925a8b3fa0938717eefb50a825d", func := "loop.example/g01097/laws.FnRanksJoin", spec := "fnRanksJoin", unfollowed := true, recurses := true, apart := false }
def FnRanksJoinSaid : Prop := fnRanksJoinRow.holds Try.pinned (OpenSpec.ofChange fnRanksJoinSpec)

/-- ITS FALSE NEIGHBOUR: 'it returns false'. Refute it at one input. -/
def fnRanksJoinWrong : ChangeSpec := { name := "fnRanksJoin", fn := fun _ => fun
  | [d1, d2] => { results := [.lit (.bool false)], args := [d1, d2] }
  | _ => none }
def FnRanksJoinWrongFalsely : Prop := fnRanksJoinRow.holds Try.pinned (OpenSpec.ofChange fnRanksJoinWrong)

/-- 'laws.FnTreesAreParentheses': WHATEVER THE INPUT: true; the input reads as it did. -/
def fnTreesAreParenthesesSpec : ChangeSpec := { name := "fnTreesAreParentheses", fn := fun _ => fun
  | [d1, d2] => { results := [.lit (.bool true)], args := [d1, d2] }
  | _ => none }
def fnTreesAreParenthesesRow : OpenClaim := { program := "ytkmhjgejficclaa", sum := "50cffbdc94c1ece76116f7780b9ccc96b61b7925a8b3fa0938717eefb50a825d", func := "loop.example/g01097/laws.FnTreesAreParentheses", spec := "fnTreesAreParentheses", apart := false }
def FnTreesAreParenthesesSaid : Prop := fnTreesAreParenthesesRow.holds Try.pinned (OpenSpec.ofChange fnTreesAreParenthesesSpec)

/-- ITS FALSE NEIGHBOUR: 'it returns false'. Refute it at one input. -/
def fnTreesAreParenthesesWrong : ChangeSpec := { name := "fnTreesAreParentheses", fn := fun _ => fun
  | [d1, d2] => { results := [.lit (.bool false)], args := [d1, d2] }
  | _ => none }
def FnTreesAreParenthesesWrongFalsely : Prop := fnTreesAreParenthesesRow.holds Try.pinned (OpenSpec.ofChange fnTreesAreParenthesesWrong)

/-- 'laws.FnWidths': WHATEVER THE INPUT: true; the input reads as it did. -/
def fnWidthsSpec : ChangeSpec := { name := "fnWidths", fn := fun _ => fun
  | [d1, d2] => { results := [.lit (.bool true)], args := [d1, d2] }
  | _ => none }
def fnWidthsRow : OpenClaim := { program := "ytkmhjgejficclaa", sum := "50cffbdc94c1ece76116f7780b9ccc96b61b7925a8b3fa0938717eefb50a825d", func := "loop.example/g01097/laws.FnWidths", spec := "fnWidths", apart := false }
def FnWidthsSaid : Prop := fnWidthsRow.holds Try.pinned (OpenSpec.ofChange fnWidthsSpec)

/-- ITS FALSE NEIGHBOUR: 'it returns false'. Refute it at one input. -/
def fnWidthsWrong : ChangeSpec := { name := "fnWidths", fn := fun _ => fun
  | [d1, d2] => { results := [.lit (.bool false)], args := [d1, d2] }
  | _ => none }
def FnWidthsWrongFalsely : Prop := fnWidthsRow.holds Try.pinned (OpenSpec.ofChange fnWidthsWrong)

/- THE SECOND FORM. 'bulk': how many values and letters a reading holds, each counted each time it is reached (what is shared counts as often as it is met; a slice's spare places count too). A statement '..UptoSaid' is the law's where the arguments, and the package variables that the reading takes, are together of bulk at most 1048576: NARROWER than '..Said'. Prove '..Said' where nothing that the law and all that it calls make is longer than what came in: it says more and counts as full. Else prove '..UptoSaid'. A law counts once. -/
mutual
def uptoBulk {H : Type} : DataW H → Nat
  | .lit (.string bytes) => bytes.length + 1
  | .lit _ => 1
  | .nil => 1
  | .ptr d => uptoBulk d + 1
  | .slice elems spare => uptoBulkAll elems + uptoBulkAll spare + 1
  | .agg parts => uptoBulkAll parts + 1
  | .iface _ d => uptoBulk d + 1
  | .map entries => uptoBulkEntries entries + 1
  | .held _ => 1
def uptoBulkAll {H : Type} : List (DataW H) → Nat
  | [] => 0
  | d :: r => uptoBulk d + uptoBulkAll r
def uptoBulkEntries {H : Type} : List (Lit × DataW H) → Nat
  | [] => 0
  | x :: r => uptoBulkEntry x + uptoBulkEntries r
def uptoBulkEntry {H : Type} : Lit × DataW H → Nat
  | (.string bytes, d) => bytes.length + uptoBulk d + 1
  | (_, d) => uptoBulk d + 1
 end
def uptoSmall : (H : Type) → List (DataW H) → Bool := fun _ ds => decide (uptoBulkAll ds ≤ 1048576)
def OpenSpec.upto (s : _root_.Go.ChangeSpec) : _root_.Go.OpenSpec := { _root_.Go.OpenSpec.ofChange s with cond := some uptoSmall }

/-- 'laws.FnExactPutBit', WHERE WHAT IT READS IS OF BULK AT MOST 1048576: true; the input reads as it did. -/
def fnExactPutBitUptoRow : OpenClaim := { program := "ytkmhjgejficclaa", sum := "50cffbdc94c1ece76116f7780b9ccc96b61b7925a8b3fa0938717eefb50a825d", func := "loop.example/g01097/laws.FnExactPutBit", spec := "fnExactPutBit", apart := false, narrowed := true }
def FnExactPutBitUptoSaid : Prop := fnExactPutBitUptoRow.holds Try.pinned (OpenSpec.upto fnExactPutBitSpec)

/-- 'laws.FnExactCutBits', WHERE WHAT IT READS IS OF BULK AT MOST 1048576: true; the input reads as it did. -/
def fnExactCutBitsUptoRow : OpenClaim := { program := "ytkmhjgejficclaa", sum := "50cffbdc94c1ece76116f7780b9ccc96b61b7925a8b3fa0938717eefb50a825d", func := "loop.example/g01097/laws.FnExactCutBits", spec := "fnExactCutBits", unfollowed := true, recurses := true, apart := false, narrowed := true }
def FnExactCutBitsUptoSaid : Prop := fnExactCutBitsUptoRow.holds Try.pinned (OpenSpec.upto fnExactCutBitsSpec)

/-- 'laws.FnExactJoinBits', WHERE WHAT IT READS IS OF BULK AT MOST 1048576: true; the input reads as it did. -/
def fnExactJoinBitsUptoRow : OpenClaim := { program := "ytkmhjgejficclaa", sum := "50cffbdc94c1ece76116f7780b9ccc96b61b7925a8b3fa0938717eefb50a825d", func := "loop.example/g01097/laws.FnExactJoinBits", spec := "fnExactJoinBits", unfollowed := true, recurses := true, apart := false, narrowed := true }
def FnExactJoinBitsUptoSaid : Prop := fnExactJoinBitsUptoRow.holds Try.pinned (OpenSpec.upto fnExactJoinBitsSpec)

/-- 'laws.FnExactPutField', WHERE WHAT IT READS IS OF BULK AT MOST 1048576: true; the input reads as it did. -/
def fnExactPutFieldUptoRow : OpenClaim := { program := "ytkmhjgejficclaa", sum := "50cffbdc94c1ece76116f7780b9ccc96b61b7925a8b3fa0938717eefb50a825d", func := "loop.example/g01097/laws.FnExactPutField", spec := "fnExactPutField", apart := false, narrowed := true }
def FnExactPutFieldUptoSaid : Prop := fnExactPutFieldUptoRow.holds Try.pinned (OpenSpec.upto fnExactPutFieldSpec)

/-- 'laws.FnExactParenthesesOf', WHERE WHAT IT READS IS OF BULK AT MOST 1048576: true; the input reads as it did. -/
def fnExactParenthesesOfUptoRow : OpenClaim := { program := "ytkmhjgejficclaa", sum := "50cffbdc94c1ece76116f7780b9ccc96b61b7925a8b3fa0938717eefb50a825d", func := "loop.example/g01097/laws.FnExactParenthesesOf", spec := "fnExactParenthesesOf", apart := false, narrowed := true }
def FnExactParenthesesOfUptoSaid : Prop := fnExactParenthesesOfUptoRow.holds Try.pinned (OpenSpec.upto fnExactParenthesesOfSpec)

/-- 'laws.FnExactJoinRanked', WHERE WHAT IT READS IS OF BULK AT MOST 1048576: true; the input reads as it did. -/
def fnExactJoinRankedUptoRow : OpenClaim := { program := "ytkmhjgejficclaa", sum := "50cffbdc94c1ece76116f7780b9ccc96b61b7925a8b3fa0938717eefb50a825d", func := "loop.example/g01097/laws.FnExactJoinRanked", spec := "fnExactJoinRanked", unfollowed := true, recurses := true, apart := false, narrowed := true }
def FnExactJoinRankedUptoSaid : Prop := fnExactJoinRankedUptoRow.holds Try.pinned (OpenSpec.upto fnExactJoinRankedSpec)

/-- 'laws.FnExactPackDirectory', WHERE WHAT IT READS IS OF BULK AT MOST 1048576: true; the input reads as it did. -/
def fnExactPackDirectoryUptoRow : OpenClaim := { program := "ytkmhjgejficclaa", sum := "50cffbdc94c1ece76116f7780b9ccc96b61b7925a8b3fa0938717eefb50a825d", func := "loop.example/g01097/laws.FnExactPackDirectory", spec := "fnExactPackDirectory", unfollowed := true, recurses := true, apart := false, narrowed := true }
def FnExactPackDirectoryUptoSaid : Prop := fnExactPackDirectoryUptoRow.holds Try.pinned (OpenSpec.upto fnExactPackDirectorySpec)

/-- 'laws.FnExactUnpackDirectory', WHERE WHAT IT READS IS OF BULK AT MOST 1048576: true; the input reads as it did. -/
def fnExactUnpackDirectoryUptoRow : OpenClaim := { program := "ytkmhjgejficclaa", sum := "50cffbdc94c1ece76116f7780b9ccc96b61b7925a8b3fa0938717eefb50a825d", func := "loop.example/g01097/laws.FnExactUnpackDirectory", spec := "fnExactUnpackDirectory", unfollowed := true, recurses := true, apart := false, narrowed := true }
def FnExactUnpackDirectoryUptoSaid : Prop := fnExactUnpackDirectoryUptoRow.holds Try.pinned (OpenSpec.upto fnExactUnpackDirectorySpec)

/-- 'laws.FnDirectoriesArePacked', WHERE WHAT IT READS IS OF BULK AT MOST 1048576: true; the input reads as it did. -/
def fnDirectoriesArePackedUptoRow : OpenClaim := { program := "ytkmhjgejficclaa", sum := "50cffbdc94c1ece76116f7780b9ccc96b61b7925a8b3fa0938717eefb50a825d", func := "loop.example/g01097/laws.FnDirectoriesArePacked", spec := "fnDirectoriesArePacked", unfollowed := true, recurses := true, apart := false, narrowed := true }
def FnDirectoriesArePackedUptoSaid : Prop := fnDirectoriesArePackedUptoRow.holds Try.pinned (OpenSpec.upto fnDirectoriesArePackedSpec)

/-- 'laws.FnJoinsAreCut', WHERE WHAT IT READS IS OF BULK AT MOST 1048576: true; the input reads as it did. -/
def fnJoinsAreCutUptoRow : OpenClaim := { program := "ytkmhjgejficclaa", sum := "50cffbdc94c1ece76116f7780b9ccc96b61b7925a8b3fa0938717eefb50a825d", func := "loop.example/g01097/laws.FnJoinsAreCut", spec := "fnJoinsAreCut", unfollowed := true, recurses := true, apart := false, narrowed := true }
def FnJoinsAreCutUptoSaid : Prop := fnJoinsAreCutUptoRow.holds Try.pinned (OpenSpec.upto fnJoinsAreCutSpec)

/-- 'laws.FnRanksJoin', WHERE WHAT IT READS IS OF BULK AT MOST 1048576: true; the input reads as it did. -/
def fnRanksJoinUptoRow : OpenClaim := { program := "ytkmhjgejficclaa", sum := "50cffbdc94c1ece76116f7780b9ccc96b61b7925a8b3fa0938717eefb50a825d", func := "loop.example/g01097/laws.FnRanksJoin", spec := "fnRanksJoin", unfollowed := true, recurses := true, apart := false, narrowed := true }
def FnRanksJoinUptoSaid : Prop := fnRanksJoinUptoRow.holds Try.pinned (OpenSpec.upto fnRanksJoinSpec)

/-- 'laws.FnTreesAreParentheses', WHERE WHAT IT READS IS OF BULK AT MOST 1048576: true; the input reads as it did. -/
def fnTreesAreParenthesesUptoRow : OpenClaim := { program := "ytkmhjgejficclaa", sum := "50cffbdc94c1ece76116f7780b9ccc96b61b7925a8b3fa0938717eefb50a825d", func := "loop.example/g01097/laws.FnTreesAreParentheses", spec := "fnTreesAreParentheses", apart := false, narrowed := true }
def FnTreesAreParenthesesUptoSaid : Prop := fnTreesAreParenthesesUptoRow.holds Try.pinned (OpenSpec.upto fnTreesAreParenthesesSpec)

/-- 'laws.FnWidths', WHERE WHAT IT READS IS OF BULK AT MOST 1048576: true; the input reads as it did. -/
def fnWidthsUptoRow : OpenClaim := { program := "ytkmhjgejficclaa", sum := "50cffbdc94c1ece76116f7780b9ccc96b61b7925a8b3fa0938717eefb50a825d", func := "loop.example/g01097/laws.FnWidths", spec := "fnWidths", apart := false, narrowed := true }
def FnWidthsUptoSaid : Prop := fnWidthsUptoRow.holds Try.pinned (OpenSpec.upto fnWidthsSpec)

end Rows
end Go.Proofs.Ytkmhjgejficclaa
