/- Lemmas that this claim's texts share, as far as they use them. -/
import Derived.Test.YtpplklickfioiaaWInv
import Derived.Test.YtpplklickfioiaaWFootNe
namespace Go.Proofs.YtpplklickfioiaaW.PrintWords
open Go.RowKit
end Go.Proofs.YtpplklickfioiaaW.PrintWords
namespace Go.Proofs.YtpplklickfioiaaW.PrintLast
section
variable {ops : Array Oper} {a : Act} {o og : Oper} {g : Nat} {t : Tmp} {u : Bool}
end
end Go.Proofs.YtpplklickfioiaaW.PrintLast
