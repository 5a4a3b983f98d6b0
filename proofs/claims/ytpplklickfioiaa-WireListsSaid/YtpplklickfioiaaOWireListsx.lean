/- One piece of the machine's side of the law, written by a program over the translation; Lean checks it. -/
import Derived.Test.YtpplklickfioiaaOWireListsx0
import Derived.Test.YtpplklickfioiaaOWireListsx1
import Derived.Test.YtpplklickfioiaaOWireListsx2
import Derived.Test.YtpplklickfioiaaOWireListsx3
import Derived.Test.YtpplklickfioiaaOWireListsx4
import Derived.Test.YtpplklickfioiaaOWireListsx5
import Derived.Test.YtpplklickfioiaaOWireListsx6
import Derived.Test.YtpplklickfioiaaOWireListsx7
import Derived.Test.YtpplklickfioiaaOWireListsx8
import Derived.Test.YtpplklickfioiaaOWireListsx9
import Derived.Test.YtpplklickfioiaaOWireListsx10
import Derived.Test.YtpplklickfioiaaOWireListsx11
import Derived.Test.YtpplklickfioiaaOWireListsx12
import Derived.Test.YtpplklickfioiaaOWireListsx13
import Derived.Test.YtpplklickfioiaaOWireListsx14
import Derived.Test.YtpplklickfioiaaOWireListsx15
import Derived.Test.YtpplklickfioiaaOWireListsx16
import Derived.Test.YtpplklickfioiaaOWireListsx17
import Derived.Test.YtpplklickfioiaaOWireListsx18
namespace Go.Proofs.Ytpplklickfioiaa.PWireLists
open Go.RowKit Go.Proofs.YtpplklickfioiaaW.PrintWords Go.Proofs.YtpplklickfioiaaW.PrintLast Go.Proofs.YtpplklickfioiaaW.PrintMore
attribute [local go_sem] max2_int min2_int max_two min_two max_three min_three max_four min_four   -- for this text's walks alone
set_option linter.unusedVariables false
set_option linter.unusedSimpArgs false

end Go.Proofs.Ytpplklickfioiaa.PWireLists
