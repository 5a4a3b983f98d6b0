/- One piece of the machine's side of the law, written by a program over the translation; Lean checks it. -/
import Derived.Test.YtdbpkfbjcmjkhaaORowBytesx0
import Derived.Test.YtdbpkfbjcmjkhaaORowBytesx1
import Derived.Test.YtdbpkfbjcmjkhaaORowBytesx2
import Derived.Test.YtdbpkfbjcmjkhaaORowBytesx3
import Derived.Test.YtdbpkfbjcmjkhaaORowBytesx4
import Derived.Test.YtdbpkfbjcmjkhaaORowBytesx5
import Derived.Test.YtdbpkfbjcmjkhaaORowBytesx6
import Derived.Test.YtdbpkfbjcmjkhaaORowBytesx7
namespace Go.Proofs.Ytdbpkfbjcmjkhaa.PRowBytes
open Go.RowKit Go.Proofs.YtdbpkfbjcmjkhaaW.PrintWords Go.Proofs.YtdbpkfbjcmjkhaaW.PrintLast Go.Proofs.YtdbpkfbjcmjkhaaW.PrintMore
attribute [local go_sem] max2_int min2_int max_two min_two max_three min_three max_four min_four   -- for this text's walks alone
set_option linter.unusedVariables false
set_option linter.unusedSimpArgs false

end Go.Proofs.Ytdbpkfbjcmjkhaa.PRowBytes
