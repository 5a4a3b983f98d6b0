/- One piece of the machine's side of the law, written by a program over the translation; Lean checks it. -/
import Derived.Test.YtdbpkfbjcmjkhaaORowPartsx0
import Derived.Test.YtdbpkfbjcmjkhaaORowPartsx1
import Derived.Test.YtdbpkfbjcmjkhaaORowPartsx2
import Derived.Test.YtdbpkfbjcmjkhaaORowPartsx3
import Derived.Test.YtdbpkfbjcmjkhaaORowPartsx4
import Derived.Test.YtdbpkfbjcmjkhaaORowPartsx5
import Derived.Test.YtdbpkfbjcmjkhaaORowPartsx6
namespace Go.Proofs.Ytdbpkfbjcmjkhaa.PRowParts
open Go.RowKit Go.Proofs.YtdbpkfbjcmjkhaaW.PrintWords Go.Proofs.YtdbpkfbjcmjkhaaW.PrintLast Go.Proofs.YtdbpkfbjcmjkhaaW.PrintMore
attribute [local go_sem] max2_int min2_int max_two min_two max_three min_three max_four min_four   -- for this text's walks alone
set_option linter.unusedVariables false
set_option linter.unusedSimpArgs false

end Go.Proofs.Ytdbpkfbjcmjkhaa.PRowParts
