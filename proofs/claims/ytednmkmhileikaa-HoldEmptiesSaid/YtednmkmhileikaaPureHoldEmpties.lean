/- HoldEmpties holds for every input: where nothing is in advance of the frontier all that is held is told, in order, until nothing is held; no conditions. -/
import Derived.Test.YtednmkmhileikaaQHoldEmpties
import Derived.Test.YtednmkmhileikaaB3HoldPlays
namespace Go.Proofs.Ytednmkmhileikaa.Pure
theorem HoldEmpties : PHoldPlays.runnellaw21_HoldEmpties.Pure := by
 intro l _ hw
 refine ⟨0, ?_⟩
 unfold PHoldPlays.runnellaw21_HoldEmpties.f
 exact if_pos (G.good_empties l (fun x hx => (hw x hx).1.1))
end Go.Proofs.Ytednmkmhileikaa.Pure
