/- The law FnExactConstants answers true. No condition is laid beside the statement. -/
import Derived.Test.YtgjnolnaajopmaaPFnExactConstantsx1
import Derived.Laws.BitsLemmas
import Derived.Lib.Bytes
import Derived.OpenShut
namespace Go.Proofs.Ytgjnolnaajopmaa.Pure
open Go.RowKit Go.Proofs.Ytgjnolnaajopmaa.PFnExactConstants Go.Proofs.YtgjnolnaajopmaaW.PrintWords Go.Proofs.YtgjnolnaajopmaaW.PrintLast
set_option linter.unusedVariables false
set_option linter.unusedSimpArgs false


theorem FnExactConstants : laws_FnExactConstants.Pure := rfl

end Go.Proofs.Ytgjnolnaajopmaa.Pure
