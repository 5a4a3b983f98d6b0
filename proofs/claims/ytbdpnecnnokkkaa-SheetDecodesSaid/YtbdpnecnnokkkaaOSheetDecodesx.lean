/- One piece of the machine's side of the law, written by a program over the translation; Lean checks it. -/
import Derived.Test.YtbdpnecnnokkkaaOSheetDecodesx0
import Derived.Test.YtbdpnecnnokkkaaOSheetDecodesx1
import Derived.Test.YtbdpnecnnokkkaaOSheetDecodesx2
import Derived.Test.YtbdpnecnnokkkaaOSheetDecodesx3
import Derived.Test.YtbdpnecnnokkkaaOSheetDecodesx4
import Derived.Test.YtbdpnecnnokkkaaOSheetDecodesx5
import Derived.Test.YtbdpnecnnokkkaaOSheetDecodesx6
import Derived.Test.YtbdpnecnnokkkaaOSheetDecodesx7
import Derived.Test.YtbdpnecnnokkkaaOSheetDecodesx8
import Derived.Test.YtbdpnecnnokkkaaOSheetDecodesx9
import Derived.Test.YtbdpnecnnokkkaaOSheetDecodesx10
import Derived.Test.YtbdpnecnnokkkaaOSheetDecodesx11
import Derived.Test.YtbdpnecnnokkkaaOSheetDecodesx12
import Derived.Test.YtbdpnecnnokkkaaOSheetDecodesx13
import Derived.Test.YtbdpnecnnokkkaaOSheetDecodesx14
namespace Go.Proofs.Ytbdpnecnnokkkaa.PSheetDecodes
open Go.RowKit Go.Proofs.YtbdpnecnnokkkaaW.PrintWords Go.Proofs.YtbdpnecnnokkkaaW.PrintLast Go.Proofs.YtbdpnecnnokkkaaW.PrintMore
attribute [local go_sem] max2_int min2_int max_two min_two max_three min_three max_four min_four   -- for this text's walks alone
set_option linter.unusedVariables false
set_option linter.unusedSimpArgs false

end Go.Proofs.Ytbdpnecnnokkkaa.PSheetDecodes
