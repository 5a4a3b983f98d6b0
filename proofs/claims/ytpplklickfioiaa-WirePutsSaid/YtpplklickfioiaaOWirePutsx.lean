/- One piece of the machine's side of the law, written by a program over the translation; Lean checks it. -/
import Derived.Test.YtpplklickfioiaaOWirePutsx0
import Derived.Test.YtpplklickfioiaaOWirePutsx1
import Derived.Test.YtpplklickfioiaaOWirePutsx2
import Derived.Test.YtpplklickfioiaaOWirePutsx3
import Derived.Test.YtpplklickfioiaaOWirePutsx4
import Derived.Test.YtpplklickfioiaaOWirePutsx5
import Derived.Test.YtpplklickfioiaaOWirePutsx6
import Derived.Test.YtpplklickfioiaaOWirePutsx7
import Derived.Test.YtpplklickfioiaaOWirePutsx8
import Derived.Test.YtpplklickfioiaaOWirePutsx9
import Derived.Test.YtpplklickfioiaaOWirePutsx10
import Derived.Test.YtpplklickfioiaaOWirePutsx11
import Derived.Test.YtpplklickfioiaaOWirePutsx12
import Derived.Test.YtpplklickfioiaaOWirePutsx13
import Derived.Test.YtpplklickfioiaaOWirePutsx14
import Derived.Test.YtpplklickfioiaaOWirePutsx15
import Derived.Test.YtpplklickfioiaaOWirePutsx16
import Derived.Test.YtpplklickfioiaaOWirePutsx17
import Derived.Test.YtpplklickfioiaaOWirePutsx18
namespace Go.Proofs.Ytpplklickfioiaa.PWirePuts
open Go.RowKit Go.Proofs.YtpplklickfioiaaW.PrintWords Go.Proofs.YtpplklickfioiaaW.PrintLast Go.Proofs.YtpplklickfioiaaW.PrintMore
attribute [local go_sem] max2_int min2_int max_two min_two max_three min_three max_four min_four   -- for this text's walks alone
set_option linter.unusedVariables false
set_option linter.unusedSimpArgs false

end Go.Proofs.Ytpplklickfioiaa.PWirePuts
