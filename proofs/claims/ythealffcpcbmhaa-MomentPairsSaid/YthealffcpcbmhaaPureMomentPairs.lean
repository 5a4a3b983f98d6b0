/- Any two times are told as the document tells them. -/
import Derived.Test.YthealffcpcbmhaaQMomentPairs
import Derived.Test.YthealffcpcbmhaaBMomentPairs
namespace Go.Proofs.Ythealffcpcbmhaa.Pure
open Go.RowKit Go.Proofs.Ythealffcpcbmhaa.PMomentPairs Go.Proofs.Ythealffcpcbmhaa.BMomentPairs Go.Proofs.YthealffcpcbmhaaW.PrintWords Go.Proofs.YthealffcpcbmhaaW.PrintLast
set_option linter.unusedVariables false
theorem MomentPairs : runnellaw04_MomentPairs.Pure := by
  intro a b _ _
  apply Ev.rounds
  obtain ⟨o, ho⟩ := order_ex a b
  obtain ⟨p, hp1, hp2⟩ := less_ex a b
  unfold runnellaw04_MomentPairs.f
  simp only [mcheck, rcheck, hp1, hp2, rjoin, rmeet, order_i, ho, moment_Join.f, moment_Meet.f, Option.bind_some, beq_self_eq_true, Bool.and_self, if_true]
  exact Ev.bind live_ev (Ev.now true)
end Go.Proofs.Ythealffcpcbmhaa.Pure
