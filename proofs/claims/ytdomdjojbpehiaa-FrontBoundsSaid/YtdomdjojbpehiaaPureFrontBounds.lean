/- What is met and joined: which times are in advance of it, what it is in advance of. -/
import Derived.Test.YtdomdjojbpehiaaQFrontBounds
import Derived.Test.YtdomdjojbpehiaaBFrontBounds
namespace Go.Proofs.Ytdomdjojbpehiaa.Pure
open Go.RowKit Go.Proofs.Ytdomdjojbpehiaa.PFrontBounds Go.Proofs.Ytdomdjojbpehiaa.BFrontBounds Go.Proofs.YtdomdjojbpehiaaW.PrintWords Go.Proofs.YtdomdjojbpehiaaW.PrintLast
set_option linter.unusedVariables false
theorem FrontBounds : runnellaw05_FrontBounds.Pure := by
  intro f g t _ _ _ _ _
  apply Ev.rounds
  by_cases hm : 40 < f.length ∨ 40 < g.length
  · refine Ev.bind (a := true) (Ev.congr (f := fun _ => some true) (fun k => ?_) (Ev.now true)) ?_
    · unfold runnellaw05_much.f
      by_cases h : (f.length : Int) > 40
      · rw [if_pos h]
      · rw [if_neg h, decide_eq_true (by omega)]
    · simp only [if_true]
      exact Ev.bind live_ev (Ev.now true)
  · have hf : f.length ≤ 40 := by omega
    have hg : g.length ≤ 40 := by omega
    refine Ev.bind (a := false) (Ev.congr (f := fun _ => some false) (fun k => ?_) (Ev.now false)) ?_
    · unfold runnellaw05_much.f; rw [if_neg (by omega), decide_eq_false (by omega)]
    · simp only [Bool.false_eq_true, if_false]
      refine Ev.bind (a := any f t) (Ev.now _) (Ev.bind (a := any g t) (Ev.now _) (Ev.bind (Meet_ev f g hf hg) (Ev.bind (a := any (lst (f ++ g)) t) (Ev.now _) ?_)))
      rw [any_both]
      have hl := allLe_any (f := f) (g := g) (t := t)
      have hj := any_joins f g t
      cases hA : any f t with
      | true =>
        simp only [Bool.true_or, beq_self_eq_true, if_true]
        refine Ev.bind (FJoin_ev f g hf hg) (Ev.bind (a := any (lst (joins f g)) t) (Ev.now _) ?_)
        rw [hj, hA, Bool.true_and]
        simp only [beq_self_eq_true, if_true]
        refine Ev.bind (a := allLe f g) (Ev.now _) ?_
        cases allLe f g with
        | true =>
          simp only [if_true]
          cases any g t with
          | true => simp only [if_true]; exact tail_ev f g hf hg
          | false => simp only [Bool.false_eq_true, if_false]; exact tail_ev f g hf hg
        | false => simp only [Bool.false_eq_true, if_false]; exact tail_ev f g hf hg
      | false =>
        simp only [Bool.false_or, beq_self_eq_true, if_true, Bool.false_eq_true, if_false]
        refine Ev.bind (FJoin_ev f g hf hg) (Ev.bind (a := any (lst (joins f g)) t) (Ev.now _) ?_)
        rw [hj, hA, Bool.false_and]
        simp only [beq_self_eq_true, if_true]
        refine Ev.bind (a := allLe f g) (Ev.now _) ?_
        cases hC : allLe f g with
        | true =>
          simp only [if_true]
          cases hB : any g t with
          | true => rw [hl hC hB] at hA; cases hA
          | false => simp only [Bool.false_eq_true, if_false]; exact tail_ev f g hf hg
        | false => simp only [Bool.false_eq_true, if_false]; exact tail_ev f g hf hg
end Go.Proofs.Ytdomdjojbpehiaa.Pure
