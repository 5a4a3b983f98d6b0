import Derived.Test.YthealffcpcbmhaaOMomentPartialx6p
import Derived.Test.YthealffcpcbmhaaOMomentPartialx6q0
import Derived.Test.YthealffcpcbmhaaOMomentPartialx6q1
import Derived.Test.YthealffcpcbmhaaOMomentPartialx6q2
import Derived.Test.YthealffcpcbmhaaOMomentPartialx0
import Derived.Test.YthealffcpcbmhaaOMomentPartialx1
import Derived.Test.YthealffcpcbmhaaOMomentPartialx4
import Derived.Test.YthealffcpcbmhaaOMomentPartialx5
import Derived.Test.YthealffcpcbmhaaShort
namespace Go.Proofs.Ythealffcpcbmhaa.PMomentPartial
open Go.RowKit Go.Proofs.YthealffcpcbmhaaW.PrintWords Go.Proofs.YthealffcpcbmhaaW.PrintLast Go.Proofs.YthealffcpcbmhaaW.PrintMore
attribute [local go_sem] max2_int min2_int max_two min_two max_three min_three max_four min_four   -- for this text's walks alone
set_option linter.unusedVariables false
set_option linter.unusedSimpArgs false
attribute [local go_sem high] eqA28
theorem runnellaw04_MomentPartial.calls (k : Nat) (a0_0 : Int) (a0_1 : Int) (a1_0 : Int) (a1_1 : Int) (a2_0 : Int) (a2_1 : Int) (r : Bool) (w : World) (h : runnellaw04_MomentPartial.f k a0_0 a0_1 a1_0 a1_1 a2_0 a2_1 = some r) : Calls Try.prog 5 #[.agg #[.int .i64 a0_0, .int .i64 a0_1], .agg #[.int .i64 a1_0, .int .i64 a1_1], .agg #[.int .i64 a2_0, .int .i64 a2_1]] w fun e w' => e = .returned (.bool r) ∧ Below w.heap.size w w' := runnellaw04_MomentPartial.calls.pre.2.2.2 ⟨runnellaw04_MomentPartial.calls.leaf0⟩ ⟨runnellaw04_MomentPartial.calls.leaf1⟩ ⟨runnellaw04_MomentPartial.calls.leaf2⟩ k a0_0 a0_1 a1_0 a1_1 a2_0 a2_1 r w h
end Go.Proofs.Ythealffcpcbmhaa.PMomentPartial
