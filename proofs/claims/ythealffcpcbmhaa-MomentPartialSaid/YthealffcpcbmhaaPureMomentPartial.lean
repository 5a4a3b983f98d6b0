/- The times' order, as the document tells it. -/
import Derived.Test.YthealffcpcbmhaaQMomentPartial
import Derived.Test.YthealffcpcbmhaaBMomentPartial
namespace Go.Proofs.Ythealffcpcbmhaa.Pure
open Go.RowKit Go.Proofs.Ythealffcpcbmhaa.PMomentPartial Go.Proofs.Ythealffcpcbmhaa.BMomentPartial Go.Proofs.YthealffcpcbmhaaW.PrintWords Go.Proofs.YthealffcpcbmhaaW.PrintLast
set_option linter.unusedVariables false
theorem MomentPartial : runnellaw04_MomentPartial.Pure := by
  intro a b c _ _ _
  apply Ev.rounds
  refine Ev.of (k := 23) (fun k => runnellaw04_MomentPartial.mono _ _ _ _ _ _ k) ?_
  rw [stf, st0, st1, st2, live_20]
  rfl
end Go.Proofs.Ythealffcpcbmhaa.Pure
