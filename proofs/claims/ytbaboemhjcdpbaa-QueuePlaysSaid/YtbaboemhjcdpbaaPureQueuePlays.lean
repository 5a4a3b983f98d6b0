/- QueuePlays holds for every input: any calls on a queue with any room are answered as the page says; no conditions. -/
import Derived.Test.YtbaboemhjcdpbaaQQueuePlays
import Derived.Test.YtbaboemhjcdpbaaB3QueuePlays
namespace Go.Proofs.Ytbaboemhjcdpbaa.Pure
theorem QueuePlays : PQueuePlays.runnellaw19_QueuePlays.Pure := by
 intro room l _ _ hw
 refine ⟨0, ?_⟩
 unfold PQueuePlays.runnellaw19_QueuePlays.f
 exact if_pos (Q.good l (fun a ha u hu => ((hw a ha).2.2 u hu).1.1))
end Go.Proofs.Ytbaboemhjcdpbaa.Pure
