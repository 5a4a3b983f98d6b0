/- Times, each once, and all their joins are told as the document tells them. -/
import Derived.Test.YthealffcpcbmhaaQMomentSets
import Derived.Test.YthealffcpcbmhaaBMomentSets
namespace Go.Proofs.Ythealffcpcbmhaa.Pure
open Go.RowKit Go.Proofs.Ythealffcpcbmhaa.PMomentSets Go.Proofs.Ythealffcpcbmhaa.BMomentSets Go.Proofs.YthealffcpcbmhaaW.PrintWords Go.Proofs.YthealffcpcbmhaaW.PrintLast
set_option linter.unusedVariables false
theorem MomentSets : runnellaw04_MomentSets.Pure := by
  intro l _ hw
  apply Ev.rounds
  by_cases hm : 60 < l.length
  · refine Ev.congr (fun k => if_pos (by omega)) ?_
    exact Ev.bind live_ev (Ev.now true)
  · have hl : l.length ≤ 60 := by omega
    refine Ev.congr (fun k => if_neg (by omega)) ?_
    have hok : okL l = true := okL_iff.2 ⟨by omega, hw⟩
    simp only [Option.bind_some, List.nil_append, List.length_nil, Nat.zero_add]
    refine Ev.congr (fun k => if_pos (by omega)) ?_
    have h1 := uq_len l
    have h2 := clo_len l hl
    refine Ev.bind (a := uq l) (Ev.congr (fun k => if_pos hok) (Ev.now _)) (Ev.bind (RUnique_ev l (by omega)) (Ev.bind (RSame_refl _ (by omega)) ?_))
    simp only [if_true]
    refine Ev.bind (a := uq (hj (uq l))) (Ev.congr (fun k => if_pos hok) (Ev.now _)) (Ev.bind (RClosure_ev l hl) (Ev.bind (RSame_refl _ (by omega)) ?_))
    simp only [if_true]
    refine Ev.bind (RSame_refl _ (by omega)) ?_
    simp only [if_true]
    exact Ev.bind live_ev (Ev.now true)
end Go.Proofs.Ythealffcpcbmhaa.Pure
