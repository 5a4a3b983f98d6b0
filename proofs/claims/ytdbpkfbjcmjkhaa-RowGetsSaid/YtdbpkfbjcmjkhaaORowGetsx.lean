/- One piece of the machine's side of the law, written by a program over the translation; Lean checks it. -/
import Derived.Test.YtdbpkfbjcmjkhaaORowGetsx0
import Derived.Test.YtdbpkfbjcmjkhaaORowGetsx1
import Derived.Test.YtdbpkfbjcmjkhaaORowGetsx2
import Derived.Test.YtdbpkfbjcmjkhaaORowGetsx3
import Derived.Test.YtdbpkfbjcmjkhaaORowGetsx4
import Derived.Test.YtdbpkfbjcmjkhaaORowGetsx5
import Derived.Test.YtdbpkfbjcmjkhaaORowGetsx6
namespace Go.Proofs.Ytdbpkfbjcmjkhaa.PRowGets
open Go.RowKit Go.Proofs.YtdbpkfbjcmjkhaaW.PrintWords Go.Proofs.YtdbpkfbjcmjkhaaW.PrintLast Go.Proofs.YtdbpkfbjcmjkhaaW.PrintMore
attribute [local go_sem] max2_int min2_int max_two min_two max_three min_three max_four min_four   -- for this text's walks alone
set_option linter.unusedVariables false
set_option linter.unusedSimpArgs false

end Go.Proofs.Ytdbpkfbjcmjkhaa.PRowGets
