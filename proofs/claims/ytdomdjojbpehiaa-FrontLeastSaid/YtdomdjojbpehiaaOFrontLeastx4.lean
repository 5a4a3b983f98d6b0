import Derived.Test.YtdomdjojbpehiaaOFrontLeastx4p
import Derived.Test.YtdomdjojbpehiaaOFrontLeastx4q0
import Derived.Test.YtdomdjojbpehiaaOFrontLeastx4q1
import Derived.Test.YtdomdjojbpehiaaOFrontLeastx4q2
import Derived.Test.YtdomdjojbpehiaaOFrontLeastx0
import Derived.Test.YtdomdjojbpehiaaOFrontLeastx1
import Derived.Test.YtdomdjojbpehiaaOFrontLeastx2
import Derived.Test.YtdomdjojbpehiaaOFrontLeastx3
import Derived.Test.YtdomdjojbpehiaaShort
namespace Go.Proofs.Ytdomdjojbpehiaa.PFrontLeast
open Go.RowKit Go.Proofs.YtdomdjojbpehiaaW.PrintWords Go.Proofs.YtdomdjojbpehiaaW.PrintLast Go.Proofs.YtdomdjojbpehiaaW.PrintMore
attribute [local go_sem] max2_int min2_int max_two min_two max_three min_three max_four min_four   -- for this text's walks alone
set_option linter.unusedVariables false
set_option linter.unusedSimpArgs false
attribute [local go_sem high] eqA24
theorem runnellaw05_FrontLeast.calls (k : Nat) (A0 : Option Addr) (c0 : Nat) (l0 : List (S24)) (a1_0 : Int) (a1_1 : Int) (a2_0 : Int) (a2_1 : Int) (r : Bool) (w : World) (hr0 : Kd.C k24 w A0 l0.length l0) (hc0 : l0.length ≤ c0) (h : runnellaw05_FrontLeast.f k l0 a1_0 a1_1 a2_0 a2_1 = some r) : Calls Try.prog 3 #[.slice A0 l0.length c0, .agg #[.int .i64 a1_0, .int .i64 a1_1], .agg #[.int .i64 a2_0, .int .i64 a2_1]] w fun e w' => e = .returned (.bool r) ∧ Below w.heap.size w w' := runnellaw05_FrontLeast.calls.pre.2.2.2 ⟨runnellaw05_FrontLeast.calls.leaf0⟩ ⟨runnellaw05_FrontLeast.calls.leaf1⟩ ⟨runnellaw05_FrontLeast.calls.leaf2⟩ k A0 c0 l0 a1_0 a1_1 a2_0 a2_1 r w hr0 hc0 h
end Go.Proofs.Ytdomdjojbpehiaa.PFrontLeast
