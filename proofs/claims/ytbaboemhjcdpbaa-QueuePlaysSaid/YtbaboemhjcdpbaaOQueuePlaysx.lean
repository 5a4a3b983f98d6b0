/- One piece of the machine's side of the law, written by a program over the translation; Lean checks it. -/
import Derived.Test.YtbaboemhjcdpbaaOQueuePlaysx0
import Derived.Test.YtbaboemhjcdpbaaOQueuePlaysx1
import Derived.Test.YtbaboemhjcdpbaaOQueuePlaysx2
import Derived.Test.YtbaboemhjcdpbaaOQueuePlaysx3
import Derived.Test.YtbaboemhjcdpbaaOQueuePlaysx4
import Derived.Test.YtbaboemhjcdpbaaOQueuePlaysx5
import Derived.Test.YtbaboemhjcdpbaaOQueuePlaysx6
import Derived.Test.YtbaboemhjcdpbaaOQueuePlaysx7
import Derived.Test.YtbaboemhjcdpbaaOQueuePlaysx8
import Derived.Test.YtbaboemhjcdpbaaOQueuePlaysx9
namespace Go.Proofs.Ytbaboemhjcdpbaa.PQueuePlays
open Go.RowKit Go.Proofs.YtbaboemhjcdpbaaW.PrintWords Go.Proofs.YtbaboemhjcdpbaaW.PrintLast Go.Proofs.YtbaboemhjcdpbaaW.PrintMore
attribute [local go_sem] max2_int min2_int max_two min_two max_three min_three max_four min_four   -- for this text's walks alone
set_option linter.unusedVariables false
set_option linter.unusedSimpArgs false

end Go.Proofs.Ytbaboemhjcdpbaa.PQueuePlays
