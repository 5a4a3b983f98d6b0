/- QueueNils holds for every input: a nil queue answers what the page says; no conditions. -/
import Derived.Test.YtbaboemhjcdpbaaQQueueNils
namespace Go.Proofs.Ytbaboemhjcdpbaa.Pure
theorem QueueNils : PQueueNils.runnellaw19_QueueNils.Pure := by
 intro l a _ _ _
 exact ⟨0, rfl⟩
end Go.Proofs.Ytbaboemhjcdpbaa.Pure
