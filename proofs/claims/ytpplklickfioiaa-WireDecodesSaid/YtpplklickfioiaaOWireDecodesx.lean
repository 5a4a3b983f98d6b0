/- One piece of the machine's side of the law, written by a program over the translation; Lean checks it. -/
import Derived.Test.YtpplklickfioiaaOWireDecodesx0
import Derived.Test.YtpplklickfioiaaOWireDecodesx1
import Derived.Test.YtpplklickfioiaaOWireDecodesx2
import Derived.Test.YtpplklickfioiaaOWireDecodesx3
import Derived.Test.YtpplklickfioiaaOWireDecodesx4
import Derived.Test.YtpplklickfioiaaOWireDecodesx5
import Derived.Test.YtpplklickfioiaaOWireDecodesx6
import Derived.Test.YtpplklickfioiaaOWireDecodesx7
import Derived.Test.YtpplklickfioiaaOWireDecodesx8
import Derived.Test.YtpplklickfioiaaOWireDecodesx9
import Derived.Test.YtpplklickfioiaaOWireDecodesx10
import Derived.Test.YtpplklickfioiaaOWireDecodesx11
import Derived.Test.YtpplklickfioiaaOWireDecodesx12
import Derived.Test.YtpplklickfioiaaOWireDecodesx13
import Derived.Test.YtpplklickfioiaaOWireDecodesx14
import Derived.Test.YtpplklickfioiaaOWireDecodesx15
namespace Go.Proofs.Ytpplklickfioiaa.PWireDecodes
open Go.RowKit Go.Proofs.YtpplklickfioiaaW.PrintWords Go.Proofs.YtpplklickfioiaaW.PrintLast Go.Proofs.YtpplklickfioiaaW.PrintMore
attribute [local go_sem] max2_int min2_int max_two min_two max_three min_three max_four min_four   -- for this text's walks alone
set_option linter.unusedVariables false
set_option linter.unusedSimpArgs false

end Go.Proofs.Ytpplklickfioiaa.PWireDecodes
