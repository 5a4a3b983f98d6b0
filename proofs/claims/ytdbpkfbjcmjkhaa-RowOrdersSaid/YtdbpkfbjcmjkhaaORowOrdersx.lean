/- One piece of the machine's side of the law, written by a program over the translation; Lean checks it. -/
import Derived.Test.YtdbpkfbjcmjkhaaORowOrdersx0
import Derived.Test.YtdbpkfbjcmjkhaaORowOrdersx1
import Derived.Test.YtdbpkfbjcmjkhaaORowOrdersx2
import Derived.Test.YtdbpkfbjcmjkhaaORowOrdersx3
import Derived.Test.YtdbpkfbjcmjkhaaORowOrdersx4
import Derived.Test.YtdbpkfbjcmjkhaaORowOrdersx5
namespace Go.Proofs.Ytdbpkfbjcmjkhaa.PRowOrders
open Go.RowKit Go.Proofs.YtdbpkfbjcmjkhaaW.PrintWords Go.Proofs.YtdbpkfbjcmjkhaaW.PrintLast Go.Proofs.YtdbpkfbjcmjkhaaW.PrintMore
attribute [local go_sem] max2_int min2_int max_two min_two max_three min_three max_four min_four   -- for this text's walks alone
set_option linter.unusedVariables false
set_option linter.unusedSimpArgs false

end Go.Proofs.Ytdbpkfbjcmjkhaa.PRowOrders
