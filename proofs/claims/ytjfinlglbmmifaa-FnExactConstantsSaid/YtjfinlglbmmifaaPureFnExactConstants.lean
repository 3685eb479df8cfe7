/- The constants of the program are those of the document. -/
import Derived.Test.YtjfinlglbmmifaaPFnExactConstantsx1
namespace Go.Proofs.Ytjfinlglbmmifaa.Pure
open Go.RowKit Go.Proofs.Ytjfinlglbmmifaa.PFnExactConstants Go.Proofs.YtjfinlglbmmifaaW.PrintWords Go.Proofs.YtjfinlglbmmifaaW.PrintLast Go.Proofs.YtjfinlglbmmifaaW.PrintMore
set_option linter.unusedVariables false
set_option linter.unusedSimpArgs false

theorem FnExactConstants : laws_FnExactConstants.Pure := rfl

end Go.Proofs.Ytjfinlglbmmifaa.Pure
