/- One piece of the machine's side of the law, written by a program over the translation; Lean checks it. -/
import Derived.Test.YtednmkmhileikaaOHoldPlaysx0
import Derived.Test.YtednmkmhileikaaOHoldPlaysx1
import Derived.Test.YtednmkmhileikaaOHoldPlaysx2
import Derived.Test.YtednmkmhileikaaOHoldPlaysx3
import Derived.Test.YtednmkmhileikaaOHoldPlaysx4
import Derived.Test.YtednmkmhileikaaOHoldPlaysx5
import Derived.Test.YtednmkmhileikaaOHoldPlaysx6
import Derived.Test.YtednmkmhileikaaOHoldPlaysx7
import Derived.Test.YtednmkmhileikaaOHoldPlaysx8
import Derived.Test.YtednmkmhileikaaOHoldPlaysx9
import Derived.Test.YtednmkmhileikaaOHoldPlaysx10
import Derived.Test.YtednmkmhileikaaOHoldPlaysx11
import Derived.Test.YtednmkmhileikaaOHoldPlaysx12
import Derived.Test.YtednmkmhileikaaOHoldPlaysx13
import Derived.Test.YtednmkmhileikaaOHoldPlaysx14
namespace Go.Proofs.Ytednmkmhileikaa.PHoldPlays
open Go.RowKit Go.Proofs.YtednmkmhileikaaW.PrintWords Go.Proofs.YtednmkmhileikaaW.PrintLast Go.Proofs.YtednmkmhileikaaW.PrintMore
attribute [local go_sem] max2_int min2_int max_two min_two max_three min_three max_four min_four   -- for this text's walks alone
set_option linter.unusedVariables false
set_option linter.unusedSimpArgs false

end Go.Proofs.Ytednmkmhileikaa.PHoldPlays
