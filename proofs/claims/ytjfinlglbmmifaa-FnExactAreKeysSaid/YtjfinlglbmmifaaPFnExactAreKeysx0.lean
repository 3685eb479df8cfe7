-- Laid by a program of this session: the print of the kit with additions of ours (wip/tools/patchprint.py). Nothing of it is trusted: Lean checks it.
import Derived.Test.YtjfinlglbmmifaaProg
import Derived.WalkSpells
import Derived.WalkLawsBesides
import Derived.Below
import Derived.Deep.Draws
import Derived.Deep.AppendLies
import Derived.Maps.AppendAt
import Derived.OwnWalk
import Derived.Laws.BytesArg
import Derived.Laws.MakeOwn
import Derived.Laws.OwnMore
import Derived.Deep.OwnRows
import Derived.Tactics
import Derived.Lib.ConvBytes
import Derived.Laws.Slices
import Derived.WalkKit
import Derived.KernelRfl
import Derived.RowKit3
import Derived.Deep.LoopGhost
import Derived.Deep.QuietTactic
import Derived.BigQuiet
import Derived.WideLaws
import Derived.Deep.DeepCutAuto
import Derived.Deep.CutBlock
import Derived.Deep.RegionHeld3
import Derived.Laws.Rows
import Derived.Lib.AppendStr
import Derived.ArgAppend
import Derived.Laws.IdiomCopy
import Derived.OrdersHeld
import Derived.Laws.BitsLemmas
import Derived.RowKit
import Derived.Test.YtjfinlglbmmifaaWWords
import Derived.Test.YtjfinlglbmmifaaWLast
import Derived.Test.YtjfinlglbmmifaaWTab
import Derived.Test.YtjfinlglbmmifaaWFour
import Derived.Test.YtjfinlglbmmifaaWQPut
import Derived.Test.YtjfinlglbmmifaaWApart
import Derived.Test.YtjfinlglbmmifaaWArr
import Derived.Test.YtjfinlglbmmifaaWZeros
import Derived.Test.YtjfinlglbmmifaaWFoot
import Derived.Test.YtjfinlglbmmifaaWKept
import Derived.Test.YtjfinlglbmmifaaWShare
import Derived.Test.YtjfinlglbmmifaaWN
import Derived.Test.YtjfinlglbmmifaaWFootNe
import Derived.Test.YtjfinlglbmmifaaWAt
import Derived.Test.YtjfinlglbmmifaaWEqStruct
import Derived.Test.YtjfinlglbmmifaaWRepsOne
import Derived.Test.YtjfinlglbmmifaaWInv
import Derived.Test.YtjfinlglbmmifaaWInvWords
import Derived.Test.YtjfinlglbmmifaaWGuard
import Derived.Test.YtjfinlglbmmifaaWNEv
import Derived.Test.YtjfinlglbmmifaaWMore
namespace Go.Proofs.Ytjfinlglbmmifaa.PFnExactAreKeys
open Go.RowKit Go.Proofs.YtjfinlglbmmifaaW.PrintWords Go.Proofs.YtjfinlglbmmifaaW.PrintLast Go.Proofs.YtjfinlglbmmifaaW.PrintMore
attribute [local go_sem] max2_int min2_int max_two min_two max_three min_three max_four min_four   -- for this text's walks alone
set_option linter.unusedVariables false
set_option linter.unusedSimpArgs false



def errW : Option Int → Value
  | none => .nilIface
  | some c => .iface 0 (.int .i64 c)
theorem errW_none : errW none = .nilIface := rfl
theorem errW_some (c : Int) : errW (some c) = .iface 0 (.int .i64 c) := rfl

theorem info9 : (Try.prog.info? 9).map (fun i => (i.zero, i.size, i.bytes)) = some (some (.string ⟨#[]⟩), 1, 16) := by kernel_rfl
-- the values' own types

end Go.Proofs.Ytjfinlglbmmifaa.PFnExactAreKeys
