/- QueuePlays: the law's call, in the words of the row. -/
import Derived.Test.YtbaboemhjcdpbaaH13
namespace Go.Proofs.Ytbaboemhjcdpbaa.PQueuePlays
open Go.RowKit Go.Proofs.YtbaboemhjcdpbaaW.PrintWords Go.Proofs.YtbaboemhjcdpbaaW.PrintLast Go.Proofs.YtbaboemhjcdpbaaW.PrintMore
set_option linter.unusedVariables false
open Classical in
noncomputable def runnellaw19_QueuePlays.f (k : Nat) (a0 : Int) (l1 : List (S36)) : Option Bool := if ∃ b, Q.Good l1 b then some true else none
theorem runnellaw19_QueuePlays.calls (k : Nat) (a0 : Int) (A1 : Option Addr) (c1 : Nat) (l1 : List (S36)) (r : Bool) (w : World) (hr1 : Kd.C k36 w A1 l1.length l1) (hc1 : l1.length ≤ c1) (h : runnellaw19_QueuePlays.f k a0 l1 = some r) :
  Calls Try.prog 4 #[.int .i64 a0, .slice A1 l1.length c1] w fun e w' => e = .returned (.bool r) ∧ Below w.heap.size w w' := by
 unfold runnellaw19_QueuePlays.f at h
 split at h
 · rename_i hg
   obtain ⟨b, hG⟩ := hg
   obtain rfl := Option.some.inj h
   exact Q.plays_calls a0 l1 b A1 c1 w hr1 hc1 hG
 · cases h
end Go.Proofs.Ytbaboemhjcdpbaa.PQueuePlays
