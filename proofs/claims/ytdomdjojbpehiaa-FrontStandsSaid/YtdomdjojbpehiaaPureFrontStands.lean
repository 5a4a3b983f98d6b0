/- What stands for a time is as that time is, for each one in advance of a frontier. -/
import Derived.Test.YtdomdjojbpehiaaQFrontStands
import Derived.Test.YtdomdjojbpehiaaBFrontStands
namespace Go.Proofs.Ytdomdjojbpehiaa.Pure
open Go.RowKit Go.Proofs.Ytdomdjojbpehiaa.PFrontStands Go.Proofs.Ytdomdjojbpehiaa.BFrontStands Go.Proofs.YtdomdjojbpehiaaW.PrintWords Go.Proofs.YtdomdjojbpehiaaW.PrintLast
set_option linter.unusedVariables false
theorem FrontStands : runnellaw05_FrontStands.Pure := by
  intro l t u s _ _ _ _ _
  apply Ev.rounds
  by_cases hm : 40 < l.length
  · refine Ev.bind (a := true) (Ev.congr (f := fun _ => some true) (fun k => ?_) (Ev.now true)) ?_
    · unfold runnellaw05_much.f; rw [if_pos (by omega)]
    · simp only [if_true]
      exact Ev.bind live_ev (Ev.now true)
  · have hl : l.length ≤ 40 := by omega
    refine Ev.bind (a := false) (Ev.congr (f := fun _ => some false) (fun k => ?_) (Ev.now false)) ?_
    · unfold runnellaw05_much.f; rw [if_neg (by omega)]; rfl
    · simp only [Bool.false_eq_true, if_false]
      refine Ev.bind (Rep_ev l t (by omega)) (Ev.bind (Rep_ev l (rep l t) (by omega)) ?_)
      by_cases hne : l = []
      · subst hne
        have e : rep [] (rep [] t) = rep [] t := rfl
        rw [e]
        simp only [beq_self_eq_true, Bool.not_true, Bool.or_self, Bool.false_eq_true, if_false]
        refine Ev.congr (fun k => if_neg (by simp)) ?_
        exact stands_j0 [] t u s (by simp)
      · obtain ⟨M, hr, hM, _⟩ := rep_spec hne
        have e : rep l (rep l t) = rep l t := by rw [hr, hr, join_join]
        rw [e]
        simp only [beq_self_eq_true, Bool.not_true, Bool.or_self, Bool.false_eq_true, if_false]
        have h0 : 0 < l.length := List.length_pos_iff.2 hne
        refine Ev.congr (fun k => if_pos (by omega)) ?_
        have h1 : leB t (rep l t) = true := leB_iff.2 (by rw [hr]; exact le_join t M)
        have h2 := rle t (rep l t)
        rw [h1] at h2
        refine Ev.bind (a := true) (Ev.congr (fun k => h2) (Ev.now _)) ?_
        exact stands_j0 l t u s hl
end Go.Proofs.Ytdomdjojbpehiaa.Pure
