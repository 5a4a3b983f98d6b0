/- One piece of the machine's side of the law, written by a program over the translation; Lean checks it. -/
import Derived.Test.YtbdpnecnnokkkaaOSheetSamex0
import Derived.Test.YtbdpnecnnokkkaaOSheetSamex1
import Derived.Test.YtbdpnecnnokkkaaOSheetSamex2
import Derived.Test.YtbdpnecnnokkkaaOSheetSamex3
import Derived.Test.YtbdpnecnnokkkaaOSheetSamex4
import Derived.Test.YtbdpnecnnokkkaaOSheetSamex5
import Derived.Test.YtbdpnecnnokkkaaOSheetSamex6
import Derived.Test.YtbdpnecnnokkkaaOSheetSamex7
import Derived.Test.YtbdpnecnnokkkaaOSheetSamex8
import Derived.Test.YtbdpnecnnokkkaaOSheetSamex9
import Derived.Test.YtbdpnecnnokkkaaOSheetSamex10
import Derived.Test.YtbdpnecnnokkkaaOSheetSamex11
namespace Go.Proofs.Ytbdpnecnnokkkaa.PSheetSame
open Go.RowKit Go.Proofs.YtbdpnecnnokkkaaW.PrintWords Go.Proofs.YtbdpnecnnokkkaaW.PrintLast Go.Proofs.YtbdpnecnnokkkaaW.PrintMore
attribute [local go_sem] max2_int min2_int max_two min_two max_three min_three max_four min_four   -- for this text's walks alone
set_option linter.unusedVariables false
set_option linter.unusedSimpArgs false

end Go.Proofs.Ytbdpnecnnokkkaa.PSheetSame
