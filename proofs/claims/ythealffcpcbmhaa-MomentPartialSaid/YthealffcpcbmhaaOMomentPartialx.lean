/- One piece of the machine's side of the law, written by a program over the translation; Lean checks it. -/
import Derived.Test.YthealffcpcbmhaaOMomentPartialx0
import Derived.Test.YthealffcpcbmhaaOMomentPartialx1
import Derived.Test.YthealffcpcbmhaaOMomentPartialx2
import Derived.Test.YthealffcpcbmhaaOMomentPartialx3
import Derived.Test.YthealffcpcbmhaaOMomentPartialx4
import Derived.Test.YthealffcpcbmhaaOMomentPartialx5
import Derived.Test.YthealffcpcbmhaaOMomentPartialx6
namespace Go.Proofs.Ythealffcpcbmhaa.PMomentPartial
open Go.RowKit Go.Proofs.YthealffcpcbmhaaW.PrintWords Go.Proofs.YthealffcpcbmhaaW.PrintLast Go.Proofs.YthealffcpcbmhaaW.PrintMore
attribute [local go_sem] max2_int min2_int max_two min_two max_three min_three max_four min_four   -- for this text's walks alone
set_option linter.unusedVariables false
set_option linter.unusedSimpArgs false

end Go.Proofs.Ythealffcpcbmhaa.PMomentPartial
