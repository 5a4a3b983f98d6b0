/- One piece of the machine's side of the law, written by a program over the translation; Lean checks it. -/
import Derived.Test.YtpplklickfioiaaOWireFrontsx0
import Derived.Test.YtpplklickfioiaaOWireFrontsx1
import Derived.Test.YtpplklickfioiaaOWireFrontsx2
import Derived.Test.YtpplklickfioiaaOWireFrontsx3
import Derived.Test.YtpplklickfioiaaOWireFrontsx4
import Derived.Test.YtpplklickfioiaaOWireFrontsx5
import Derived.Test.YtpplklickfioiaaOWireFrontsx6
import Derived.Test.YtpplklickfioiaaOWireFrontsx7
namespace Go.Proofs.Ytpplklickfioiaa.PWireFronts
open Go.RowKit Go.Proofs.YtpplklickfioiaaW.PrintWords Go.Proofs.YtpplklickfioiaaW.PrintLast Go.Proofs.YtpplklickfioiaaW.PrintMore
attribute [local go_sem] max2_int min2_int max_two min_two max_three min_three max_four min_four   -- for this text's walks alone
set_option linter.unusedVariables false
set_option linter.unusedSimpArgs false

end Go.Proofs.Ytpplklickfioiaa.PWireFronts
