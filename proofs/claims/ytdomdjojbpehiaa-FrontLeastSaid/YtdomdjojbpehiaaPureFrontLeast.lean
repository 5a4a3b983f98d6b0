/- What none of a frontier tells apart stands for the same. -/
import Derived.Test.YtdomdjojbpehiaaQFrontLeast
import Derived.Test.YtdomdjojbpehiaaBFrontLeast
namespace Go.Proofs.Ytdomdjojbpehiaa.Pure
open Go.RowKit Go.Proofs.Ytdomdjojbpehiaa.PFrontLeast Go.Proofs.Ytdomdjojbpehiaa.BFrontLeast Go.Proofs.YtdomdjojbpehiaaW.PrintWords Go.Proofs.YtdomdjojbpehiaaW.PrintLast
set_option linter.unusedVariables false
theorem FrontLeast : runnellaw05_FrontLeast.Pure := by
  intro l t s _ _ _ _
  apply Ev.rounds
  by_cases hm : 40 < l.length
  · refine Ev.bind (a := true) (Ev.congr (f := fun _ => some true) (fun k => ?_) (Ev.now true)) ?_
    · unfold runnellaw05_much.f; rw [if_pos (by omega)]
    · simp only [if_true]
      exact Ev.bind live_ev (Ev.now true)
  · have hl : l.length ≤ 40 := by omega
    refine Ev.bind (a := false) (Ev.congr (f := fun _ => some false) (fun k => ?_) (Ev.now false)) ?_
    · unfold runnellaw05_much.f; rw [if_neg (by omega)]; rfl
    · simp only [Bool.false_eq_true, if_false]
      exact least_l0 l t s hl l.length 0 (by omega) fun x hx => by cases hx
end Go.Proofs.Ytdomdjojbpehiaa.Pure
