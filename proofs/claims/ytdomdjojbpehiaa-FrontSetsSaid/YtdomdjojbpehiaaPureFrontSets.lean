/- The least ones of any times, and whether a list is a frontier, are told as the document tells them. -/
import Derived.Test.YtdomdjojbpehiaaQFrontSets
import Derived.Test.YtdomdjojbpehiaaBFrontSets
namespace Go.Proofs.Ytdomdjojbpehiaa.Pure
open Go.RowKit Go.Proofs.Ytdomdjojbpehiaa.PFrontSets Go.Proofs.Ytdomdjojbpehiaa.BFrontSets Go.Proofs.YtdomdjojbpehiaaW.PrintWords Go.Proofs.YtdomdjojbpehiaaW.PrintLast
set_option linter.unusedVariables false
theorem FrontSets : runnellaw05_FrontSets.Pure := by
  intro l _ _
  apply Ev.rounds
  by_cases hm : 40 < l.length
  · refine Ev.bind (a := true) (Ev.congr (f := fun _ => some true) (fun k => ?_) (Ev.now true)) ?_
    · unfold runnellaw05_much.f; rw [if_pos (by omega)]
    · simp only [if_true]
      exact Ev.bind live_ev (Ev.now true)
  · have hl : l.length ≤ 40 := by omega
    refine Ev.bind (a := false) (Ev.congr (f := fun _ => some false) (fun k => ?_) (Ev.now false)) ?_
    · unfold runnellaw05_much.f; rw [if_neg (by omega)]; rfl
    · simp only [Bool.false_eq_true, if_false, Option.bind_some, List.nil_append, List.length_nil, Nat.zero_add]
      refine Ev.congr (fun k => if_pos (by omega)) ?_
      have h1 := lst_len l
      refine Ev.bind (New_ev l (by omega)) (Ev.bind (RNew_ev l (by omega)) (Ev.bind (RSame_refl _ (by omega)) ?_))
      simp only [if_true]
      refine Ev.bind (FCheck_ev l (by omega)) (Ev.bind (RCheck_ev l (by omega)) ?_)
      simp only [if_true]
      refine Ev.bind (RSame_refl l (by omega)) ?_
      simp only [if_true]
      refine Ev.bind (a := true) ?_ ?_
      · have h2 := FSame_ev l (lst l) (by omega) (by omega)
        rw [lst_lst, decide_eq_true rfl] at h2
        exact h2
      · simp only [if_true]
        exact Ev.bind live_ev (Ev.now true)
end Go.Proofs.Ytdomdjojbpehiaa.Pure
