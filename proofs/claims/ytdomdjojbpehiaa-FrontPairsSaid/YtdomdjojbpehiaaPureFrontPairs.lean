/- Two frontiers: which is in advance of the other one, what is met and joined, whether they are the same, is told as the document tells it. -/
import Derived.Test.YtdomdjojbpehiaaQFrontPairs
import Derived.Test.YtdomdjojbpehiaaBFrontPairs
namespace Go.Proofs.Ytdomdjojbpehiaa.Pure
open Go.RowKit Go.Proofs.Ytdomdjojbpehiaa.PFrontPairs Go.Proofs.Ytdomdjojbpehiaa.BFrontPairs Go.Proofs.YtdomdjojbpehiaaW.PrintWords Go.Proofs.YtdomdjojbpehiaaW.PrintLast
set_option linter.unusedVariables false
theorem FrontPairs : runnellaw05_FrontPairs.Pure := by
  intro f g _ _ _ _
  apply Ev.rounds
  by_cases hm : 40 < f.length ∨ 40 < g.length
  · refine Ev.bind (a := true) (Ev.congr (f := fun _ => some true) (fun k => ?_) (Ev.now true)) ?_
    · unfold runnellaw05_much.f
      by_cases h : (f.length : Int) > 40
      · rw [if_pos h]
      · rw [if_neg h, decide_eq_true (by omega)]
    · simp only [if_true]
      exact Ev.bind live_ev (Ev.now true)
  · have hf : f.length ≤ 40 := by omega
    have hg : g.length ≤ 40 := by omega
    have hj : (joins f g).length ≤ 8796093022208 := by
      unfold joins
      rw [List.length_flatMap]
      simp only [List.length_map, List.map_const', List.sum_replicate_nat]
      have : f.length * g.length ≤ 40 * 40 := Nat.mul_le_mul hf hg
      omega
    refine Ev.bind (a := false) (Ev.congr (f := fun _ => some false) (fun k => ?_) (Ev.now false)) ?_
    · unfold runnellaw05_much.f; rw [if_neg (by omega), decide_eq_false (by omega)]
    · simp only [Bool.false_eq_true, if_false]
      refine Ev.bind (a := allLe f g) (Ev.now _) (Ev.bind (RLessEq_ev f g hf hg) ?_)
      simp only [beq_self_eq_true, if_true]
      have h0 := lst_len (f ++ g)
      have h1 := lst_len (joins f g)
      have h2 := lst_len f
      rw [List.length_append] at h0
      refine Ev.bind (Meet_ev f g hf hg) (Ev.bind (Both_ev f g hf hg) (Ev.bind (RNew_ev (f ++ g) (by rw [List.length_append]; omega)) (Ev.bind (RSame_refl _ (by omega)) ?_)))
      simp only [if_true]
      refine Ev.bind (FJoin_ev f g hf hg) (Ev.bind (RJoin_ev f g hf hg) (Ev.bind (RSame_refl _ (by omega)) ?_))
      simp only [if_true]
      refine Ev.bind (FSame_ev f g (by omega) (by omega)) (Ev.bind (RNew_ev f (by omega)) (Ev.bind (RNew_ev g (by omega)) (Ev.bind (RSame_ev _ _ (by omega)) ?_)))
      simp only [beq_self_eq_true, if_true]
      exact Ev.bind live_ev (Ev.now true)
end Go.Proofs.Ytdomdjojbpehiaa.Pure
