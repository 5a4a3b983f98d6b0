/- One piece of the machine's side of the law, written by a program over the translation; Lean checks it. -/
import Derived.Test.YtbdpnecnnokkkaaOSheetEncodesx0
import Derived.Test.YtbdpnecnnokkkaaOSheetEncodesx1
import Derived.Test.YtbdpnecnnokkkaaOSheetEncodesx2
import Derived.Test.YtbdpnecnnokkkaaOSheetEncodesx3
import Derived.Test.YtbdpnecnnokkkaaOSheetEncodesx4
import Derived.Test.YtbdpnecnnokkkaaOSheetEncodesx5
import Derived.Test.YtbdpnecnnokkkaaOSheetEncodesx6
import Derived.Test.YtbdpnecnnokkkaaOSheetEncodesx7
import Derived.Test.YtbdpnecnnokkkaaOSheetEncodesx8
import Derived.Test.YtbdpnecnnokkkaaOSheetEncodesx9
import Derived.Test.YtbdpnecnnokkkaaOSheetEncodesx10
import Derived.Test.YtbdpnecnnokkkaaOSheetEncodesx11
import Derived.Test.YtbdpnecnnokkkaaOSheetEncodesx12
import Derived.Test.YtbdpnecnnokkkaaOSheetEncodesx13
import Derived.Test.YtbdpnecnnokkkaaOSheetEncodesx14
import Derived.Test.YtbdpnecnnokkkaaOSheetEncodesx15
import Derived.Test.YtbdpnecnnokkkaaOSheetEncodesx16
namespace Go.Proofs.Ytbdpnecnnokkkaa.PSheetEncodes
open Go.RowKit Go.Proofs.YtbdpnecnnokkkaaW.PrintWords Go.Proofs.YtbdpnecnnokkkaaW.PrintLast Go.Proofs.YtbdpnecnnokkkaaW.PrintMore
attribute [local go_sem] max2_int min2_int max_two min_two max_three min_three max_four min_four   -- for this text's walks alone
set_option linter.unusedVariables false
set_option linter.unusedSimpArgs false

end Go.Proofs.Ytbdpnecnnokkkaa.PSheetEncodes
