/- What is in advance of times, and what stands for a time, is told as the document tells it. -/
import Derived.Test.YtdomdjojbpehiaaQFrontTimes
import Derived.Test.YtdomdjojbpehiaaBFrontTimes
namespace Go.Proofs.Ytdomdjojbpehiaa.Pure
open Go.RowKit Go.Proofs.Ytdomdjojbpehiaa.PFrontTimes Go.Proofs.Ytdomdjojbpehiaa.BFrontTimes Go.Proofs.YtdomdjojbpehiaaW.PrintWords Go.Proofs.YtdomdjojbpehiaaW.PrintLast
set_option linter.unusedVariables false
theorem FrontTimes : runnellaw05_FrontTimes.Pure := by
  intro l t _ _ _
  apply Ev.rounds
  by_cases hm : 40 < l.length
  · refine Ev.bind (a := true) (Ev.congr (f := fun _ => some true) (fun k => ?_) (Ev.now true)) ?_
    · unfold runnellaw05_much.f; rw [if_pos (by omega)]
    · simp only [if_true]
      exact Ev.bind live_ev (Ev.now true)
  · have hl : l.length ≤ 40 := by omega
    refine Ev.bind (a := false) (Ev.congr (f := fun _ => some false) (fun k => ?_) (Ev.now false)) ?_
    · unfold runnellaw05_much.f; rw [if_neg (by omega)]; rfl
    · simp only [Bool.false_eq_true, if_false]
      refine Ev.bind (a := any l t) (Ev.now _) (Ev.bind (RAhead_ev l t (by omega)) ?_)
      simp only [beq_self_eq_true, if_true]
      refine Ev.bind (Rep_ev l t (by omega)) (Ev.bind (RRep_ev l t (by omega)) ?_)
      simp only [beq_self_eq_true, Bool.and_self, if_true]
      refine Ev.bind (New_ev l (by omega)) (Ev.bind (a := any (lst l) t) (Ev.now _) (Ev.bind (a := any l t) (Ev.now _) ?_))
      rw [any_lst]
      simp only [beq_self_eq_true, if_true]
      exact Ev.bind live_ev (Ev.now true)
end Go.Proofs.Ytdomdjojbpehiaa.Pure
