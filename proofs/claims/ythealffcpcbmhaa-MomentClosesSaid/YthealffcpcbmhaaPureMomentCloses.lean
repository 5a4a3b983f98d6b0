/- The closure's closure is it; for any time the join of those that are less or the same is in it. -/
import Derived.Test.YthealffcpcbmhaaQMomentCloses
import Derived.Test.YthealffcpcbmhaaBMomentCloses
namespace Go.Proofs.Ythealffcpcbmhaa.Pure
open Go.RowKit Go.Proofs.Ythealffcpcbmhaa.PMomentCloses Go.Proofs.Ythealffcpcbmhaa.BMomentCloses Go.Proofs.YthealffcpcbmhaaW.PrintWords Go.Proofs.YthealffcpcbmhaaW.PrintLast
set_option linter.unusedVariables false
theorem MomentCloses : runnellaw04_MomentCloses.Pure := by
  intro l t _ hw _
  apply Ev.rounds
  by_cases hm : 30 < l.length
  · refine Ev.congr (fun k => if_pos (by omega)) ?_
    exact Ev.bind live_ev (Ev.now true)
  · have hl : l.length ≤ 30 := by omega
    refine Ev.congr (fun k => if_neg (by omega)) ?_
    have h2 := clo_len l (by omega)
    have hok : okL l = true := okL_iff.2 ⟨by omega, hw⟩
    have hok2 : okL (uq (hj (uq l))) = true := okL_iff.2 ⟨by omega, clo_wf hw⟩
    refine Ev.bind (a := uq (hj (uq l))) (Ev.congr (fun k => if_pos hok) (Ev.now _)) (Ev.bind (a := uq (hj (uq l))) (Ev.congr (fun k => ?_) (Ev.now _)) (Ev.bind (RSame_refl _ (by omega)) ?_))
    · unfold moment_Closure.f
      rw [if_pos hok2, clo_clo]
    · simp only [if_true]
      exact cl0_ev l _ t hl (by omega) (fun z h => clo_mem.2 h) l.length 0 false ⟨0, 0⟩ (by omega) (fun h => by cases h)
end Go.Proofs.Ythealffcpcbmhaa.Pure
