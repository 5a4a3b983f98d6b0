/- QueueNils: the law's call, in the words of the row. -/
import Derived.Test.YtbaboemhjcdpbaaOQueueNilsx0
import Derived.Test.YtbaboemhjcdpbaaH9
namespace Go.Proofs.Ytbaboemhjcdpbaa.PQueueNils
open Go.RowKit Go.Proofs.YtbaboemhjcdpbaaW.PrintWords Go.Proofs.YtbaboemhjcdpbaaW.PrintLast Go.Proofs.YtbaboemhjcdpbaaW.PrintMore
set_option linter.unusedVariables false
def runnellaw19_QueueNils.f (k : Nat) (l0 : List (S42)) (a1 : Int) : Option Bool := some true
theorem runnellaw19_QueueNils.calls (k : Nat) (A0 : Option Addr) (c0 : Nat) (l0 : List (S42)) (a1 : Int) (r : Bool) (w : World) (hr0 : Kd.C k42 w A0 l0.length l0) (hc0 : l0.length ≤ c0) (h : runnellaw19_QueueNils.f k l0 a1 = some r) :
  Calls Try.prog 5 #[.slice A0 l0.length c0, .int .i64 a1] w fun e w' => e = .returned (.bool r) ∧ Below w.heap.size w w' := by
 obtain rfl := Option.some.inj h
 exact Q.nils_calls Q.new_nil A0 l0.length c0 a1 w
end Go.Proofs.Ytbaboemhjcdpbaa.PQueueNils
