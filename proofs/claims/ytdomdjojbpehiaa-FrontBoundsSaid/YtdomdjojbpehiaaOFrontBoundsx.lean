/- One piece of the machine's side of the law, written by a program over the translation; Lean checks it. -/
import Derived.Test.YtdomdjojbpehiaaOFrontBoundsx0
import Derived.Test.YtdomdjojbpehiaaOFrontBoundsx1
import Derived.Test.YtdomdjojbpehiaaOFrontBoundsx2
import Derived.Test.YtdomdjojbpehiaaOFrontBoundsx3
import Derived.Test.YtdomdjojbpehiaaOFrontBoundsx4
import Derived.Test.YtdomdjojbpehiaaOFrontBoundsx5
namespace Go.Proofs.Ytdomdjojbpehiaa.PFrontBounds
open Go.RowKit Go.Proofs.YtdomdjojbpehiaaW.PrintWords Go.Proofs.YtdomdjojbpehiaaW.PrintLast Go.Proofs.YtdomdjojbpehiaaW.PrintMore
attribute [local go_sem] max2_int min2_int max_two min_two max_three min_three max_four min_four   -- for this text's walks alone
set_option linter.unusedVariables false
set_option linter.unusedSimpArgs false

end Go.Proofs.Ytdomdjojbpehiaa.PFrontBounds
