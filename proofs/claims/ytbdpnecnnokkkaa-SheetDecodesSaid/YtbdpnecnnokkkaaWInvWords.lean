/- Lemmas that this claim's texts share, as far as they use them. -/
import Derived.Test.YtbdpnecnnokkkaaWInv
import Derived.Test.YtbdpnecnnokkkaaWFootNe
namespace Go.Proofs.YtbdpnecnnokkkaaW.PrintWords
open Go.RowKit
end Go.Proofs.YtbdpnecnnokkkaaW.PrintWords
namespace Go.Proofs.YtbdpnecnnokkkaaW.PrintLast
section
variable {ops : Array Oper} {a : Act} {o og : Oper} {g : Nat} {t : Tmp} {u : Bool}
end
end Go.Proofs.YtbdpnecnnokkkaaW.PrintLast
