import Derived.Test.YtdomdjojbpehiaaOFrontBoundsx5p
import Derived.Test.YtdomdjojbpehiaaOFrontBoundsx5q0
import Derived.Test.YtdomdjojbpehiaaOFrontBoundsx5q1
import Derived.Test.YtdomdjojbpehiaaOFrontBoundsx5q2
import Derived.Test.YtdomdjojbpehiaaOFrontBoundsx5q3
import Derived.Test.YtdomdjojbpehiaaOFrontBoundsx0
import Derived.Test.YtdomdjojbpehiaaOFrontBoundsx2
import Derived.Test.YtdomdjojbpehiaaOFrontBoundsx3
import Derived.Test.YtdomdjojbpehiaaOFrontBoundsx4
namespace Go.Proofs.Ytdomdjojbpehiaa.PFrontBounds
open Go.RowKit Go.Proofs.YtdomdjojbpehiaaW.PrintWords Go.Proofs.YtdomdjojbpehiaaW.PrintLast Go.Proofs.YtdomdjojbpehiaaW.PrintMore
attribute [local go_sem] max2_int min2_int max_two min_two max_three min_three max_four min_four   -- for this text's walks alone
set_option linter.unusedVariables false
set_option linter.unusedSimpArgs false
theorem runnellaw05_FrontBounds.calls (k : Nat) (A0 : Option Addr) (c0 : Nat) (l0 : List (S24)) (A1 : Option Addr) (c1 : Nat) (l1 : List (S24)) (a2_0 : Int) (a2_1 : Int) (r : Bool) (w : World) (hr0 : Kd.C k24 w A0 l0.length l0) (hc0 : l0.length ≤ c0) (hr1 : Kd.C k24 w A1 l1.length l1) (hc1 : l1.length ≤ c1) (hrt : r = true) (h : runnellaw05_FrontBounds.f k l0 l1 a2_0 a2_1 = some r) : Calls Try.prog 7 #[.slice A0 l0.length c0, .slice A1 l1.length c1, .agg #[.int .i64 a2_0, .int .i64 a2_1]] w fun e w' => e = .returned (.bool r) ∧ Below w.heap.size w w' := runnellaw05_FrontBounds.calls.pre.2.2.2.2 ⟨runnellaw05_FrontBounds.calls.leaf0⟩ ⟨runnellaw05_FrontBounds.calls.leaf1⟩ ⟨runnellaw05_FrontBounds.calls.leaf2⟩ ⟨runnellaw05_FrontBounds.calls.leaf3⟩ k A0 c0 l0 A1 c1 l1 a2_0 a2_1 r w hr0 hc0 hr1 hc1 hrt h
end Go.Proofs.Ytdomdjojbpehiaa.PFrontBounds
