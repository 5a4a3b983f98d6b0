/- One piece of the machine's side of the law, written by a program over the translation; Lean checks it. -/
import Derived.Test.YtpplklickfioiaaOWireGetsx0
import Derived.Test.YtpplklickfioiaaOWireGetsx1
import Derived.Test.YtpplklickfioiaaOWireGetsx2
import Derived.Test.YtpplklickfioiaaOWireGetsx3
import Derived.Test.YtpplklickfioiaaOWireGetsx4
import Derived.Test.YtpplklickfioiaaOWireGetsx5
import Derived.Test.YtpplklickfioiaaOWireGetsx6
import Derived.Test.YtpplklickfioiaaOWireGetsx7
import Derived.Test.YtpplklickfioiaaOWireGetsx8
import Derived.Test.YtpplklickfioiaaOWireGetsx9
import Derived.Test.YtpplklickfioiaaOWireGetsx10
import Derived.Test.YtpplklickfioiaaOWireGetsx11
import Derived.Test.YtpplklickfioiaaOWireGetsx12
import Derived.Test.YtpplklickfioiaaOWireGetsx13
import Derived.Test.YtpplklickfioiaaOWireGetsx14
namespace Go.Proofs.Ytpplklickfioiaa.PWireGets
open Go.RowKit Go.Proofs.YtpplklickfioiaaW.PrintWords Go.Proofs.YtpplklickfioiaaW.PrintLast Go.Proofs.YtpplklickfioiaaW.PrintMore
attribute [local go_sem] max2_int min2_int max_two min_two max_three min_three max_four min_four   -- for this text's walks alone
set_option linter.unusedVariables false
set_option linter.unusedSimpArgs false

end Go.Proofs.Ytpplklickfioiaa.PWireGets
