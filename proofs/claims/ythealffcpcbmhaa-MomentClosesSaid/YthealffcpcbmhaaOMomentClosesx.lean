/- One piece of the machine's side of the law, written by a program over the translation; Lean checks it. -/
import Derived.Test.YthealffcpcbmhaaOMomentClosesx0
import Derived.Test.YthealffcpcbmhaaOMomentClosesx1
import Derived.Test.YthealffcpcbmhaaOMomentClosesx2
import Derived.Test.YthealffcpcbmhaaOMomentClosesx3
import Derived.Test.YthealffcpcbmhaaOMomentClosesx4
import Derived.Test.YthealffcpcbmhaaOMomentClosesx5
namespace Go.Proofs.Ythealffcpcbmhaa.PMomentCloses
open Go.RowKit Go.Proofs.YthealffcpcbmhaaW.PrintWords Go.Proofs.YthealffcpcbmhaaW.PrintLast Go.Proofs.YthealffcpcbmhaaW.PrintMore
attribute [local go_sem] max2_int min2_int max_two min_two max_three min_three max_four min_four   -- for this text's walks alone
set_option linter.unusedVariables false
set_option linter.unusedSimpArgs false

end Go.Proofs.Ythealffcpcbmhaa.PMomentCloses
