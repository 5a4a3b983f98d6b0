/- One piece of the machine's side of the law, written by a program over the translation; Lean checks it. -/
import Derived.Test.YtdomdjojbpehiaaOFrontTimesx0
import Derived.Test.YtdomdjojbpehiaaOFrontTimesx1
import Derived.Test.YtdomdjojbpehiaaOFrontTimesx2
import Derived.Test.YtdomdjojbpehiaaOFrontTimesx3
import Derived.Test.YtdomdjojbpehiaaOFrontTimesx4
import Derived.Test.YtdomdjojbpehiaaOFrontTimesx5
import Derived.Test.YtdomdjojbpehiaaOFrontTimesx6
namespace Go.Proofs.Ytdomdjojbpehiaa.PFrontTimes
open Go.RowKit Go.Proofs.YtdomdjojbpehiaaW.PrintWords Go.Proofs.YtdomdjojbpehiaaW.PrintLast Go.Proofs.YtdomdjojbpehiaaW.PrintMore
attribute [local go_sem] max2_int min2_int max_two min_two max_three min_three max_four min_four   -- for this text's walks alone
set_option linter.unusedVariables false
set_option linter.unusedSimpArgs false

end Go.Proofs.Ytdomdjojbpehiaa.PFrontTimes
