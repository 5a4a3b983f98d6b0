/- MomentPartial: what the printed functions answer, for each input, by plain mathematics. -/
import Derived.Test.YthealffcpcbmhaaOMomentPartialx
import Derived.Test.YthealffcpcbmhaaEqPure
namespace Go.Proofs.Ythealffcpcbmhaa.BMomentPartial
open Go.RowKit Go.Proofs.Ythealffcpcbmhaa.PMomentPartial Go.Proofs.Ythealffcpcbmhaa.EqPure Go.Proofs.YthealffcpcbmhaaW.PrintWords Go.Proofs.YthealffcpcbmhaaW.PrintLast Go.Proofs.YthealffcpcbmhaaW.PrintMore
set_option linter.unusedVariables false
set_option linter.unusedSimpArgs false
attribute [local irreducible] IntKind.wrap Go.bits shr shl maxLen
theorem wrapi {i n : Nat} (h : i < n) (hn : n ≤ 8796093022208) : wrap64 ((i : Int) + 1) = ((i + 1 : Nat) : Int) := by
  have e : wrap64 ((i : Int) + 1) = ((i : Int) + 1 + 9223372036854775808) % 18446744073709551616 - 9223372036854775808 := by with_unfolding_all rfl
  rw [e]; omega
theorem rdT (l : List Tm) (i : Nat) (h : i < l.length) : rd_T28 l (i : Int) = l[i] := by unfold rd_T28; rw [Int.toNat_natCast, List.getD_eq_getElem?_getD, List.getElem?_eq_getElem h]; rfl
theorem live_20 : runnellaw04_live.f 20 = some true := by decide +kernel
theorem live_ev : Ev (fun k => runnellaw04_live.f k) true := Ev.of (fun k => runnellaw04_live.mono k) live_20
theorem lq (a b c d : Int) : moment_LessEq.f a b c d = some (decide (a ≤ c ∧ b ≤ d)) := by
  unfold moment_LessEq.f
  by_cases h : a ≤ c
  · by_cases h1 : b ≤ d <;> simp [h, h1]
  · simp [h]
theorem cmp_i (a b : Int) : cmp_Compare_int.f a b = some (if a < b then -1 else if a > b then 1 else 0) := by
  unfold cmp_Compare_int.f cmp_isNaN_int.f
  simp only [Option.bind_some, bne_self_eq_false, Bool.false_eq_true, if_false]
  (repeat' split) <;> rfl
theorem od (p q r s : Int) : moment_Order.f p q r s = some (if p < r ∨ p = r ∧ q < s then -1 else if p = r ∧ q = s then 0 else 1) := by
  unfold moment_Order.f moment_place_against.f
  rw [cmp_i, cmp_i]
  by_cases h : p = r
  · subst h
    by_cases h1 : q = s
    · subst h1; simp
    · by_cases h2 : q < s
      · simp [h1, h2]
      · have h3 : s < q := by omega
        simp [h1, h2, h3]
  · by_cases h2 : p < r
    · simp [h, h2]
    · have h3 : r < p := by omega
      simp [h, h2, h3]
theorem st2 (k : Nat) (a b c d : Int) : runnellaw04_MomentPartial.j2 (k + 1) false a b c d = (runnellaw04_live.f k).bind fun t => some t := by
  have w0 : wrap64 (-(0 : Int)) = 0 := by with_unfolding_all rfl
  have w1 : wrap64 (-(1 : Int)) = -1 := by with_unfolding_all rfl
  have w2 : wrap64 (-(-1 : Int)) = 1 := by with_unfolding_all rfl
  simp only [runnellaw04_MomentPartial.j2, lq, od, Option.bind_some, Bool.false_eq_true, if_false, decide_eq_true_eq]
  by_cases h1 : a < c ∨ a = c ∧ b < d
  · have g1 : ¬ (c < a ∨ c = a ∧ d < b) := by omega
    have g2 : ¬ (c = a ∧ d = b) := by omega
    simp [h1, g1, g2, w1]
  · by_cases h2 : a = c ∧ b = d
    · obtain ⟨rfl, rfl⟩ := h2
      have e0 : (if a < a ∨ a = a ∧ b < b then (-1 : Int) else if a = a ∧ b = b then 0 else 1) = 0 := by rw [if_neg h1, if_pos (And.intro rfl rfl)]
      have g : a ≤ a ∧ b ≤ b := And.intro (Int.le_refl _) (Int.le_refl _)
      rw [if_pos g, e0, if_pos (Int.le_refl 0), if_pos w0.symm]
    · have g1 : c < a ∨ c = a ∧ d < b := by omega
      have g2 : ¬ (a ≤ c ∧ b ≤ d) := by omega
      rw [if_neg g2, if_neg h1, if_neg h2, if_pos g1, if_pos w2.symm]
theorem st1 (k : Nat) (a b c d e f : Int) : runnellaw04_MomentPartial.j1 (k + 1) false a b c d e f (mx a c) (mx b d) (mn a c) (mn b d) = runnellaw04_MomentPartial.j2 k false a b c d := by
  have E1 : (a ≤ e ∧ b ≤ f) → decide (c ≤ e ∧ d ≤ f) = decide (mx a c ≤ e ∧ mx b d ≤ f) := by
    intro h; unfold mx; apply decide_eq_decide.mpr; (repeat' split) <;> omega
  have E2 : (e ≤ a ∧ f ≤ b) → decide (e ≤ c ∧ f ≤ d) = decide (e ≤ mn a c ∧ f ≤ mn b d) := by
    intro h; unfold mn; apply decide_eq_decide.mpr; (repeat' split) <;> omega
  simp only [runnellaw04_MomentPartial.j1, lq, Option.bind_some, Bool.false_eq_true, if_false, decide_eq_true_eq]
  by_cases h1 : a ≤ e ∧ b ≤ f <;> by_cases h2 : e ≤ a ∧ f ≤ b
  · rw [if_pos h1, E1 h1, if_pos h2, E2 h2, bne_self_eq_false, bne_self_eq_false, if_neg Bool.false_ne_true]
  · rw [if_pos h1, E1 h1, if_neg h2, bne_self_eq_false, if_neg Bool.false_ne_true]
  · rw [if_neg h1, if_pos h2, E2 h2, bne_self_eq_false]
  · rw [if_neg h1, if_neg h2]
theorem st0 (k : Nat) (a b c d e f : Int) : runnellaw04_MomentPartial.j0 (k + 1) false a b c d e f = runnellaw04_MomentPartial.j1 k false a b c d e f (mx a c) (mx b d) (mn a c) (mn b d) := by
  have e1 : a ≤ mx a c ∧ b ≤ mx b d := by unfold mx; (repeat' split) <;> omega
  have e2 : c ≤ mx a c ∧ d ≤ mx b d := by unfold mx; (repeat' split) <;> omega
  have e3 : mn a c ≤ a ∧ mn b d ≤ b := by unfold mn; (repeat' split) <;> omega
  have e4 : mn a c ≤ c ∧ mn b d ≤ d := by unfold mn; (repeat' split) <;> omega
  simp only [runnellaw04_MomentPartial.j0, moment_Join.f, moment_Meet.f, lq, Option.bind_some, Bool.false_eq_true, if_false, decide_eq_true_eq, if_pos e1, if_pos e2, if_pos e3, e4, and_self, decide_true, Bool.not_true]
theorem stf (k : Nat) (a b c d e f : Int) : runnellaw04_MomentPartial.f k a b c d e f = runnellaw04_MomentPartial.j0 k false a b c d e f := by
  unfold runnellaw04_MomentPartial.f
  have r0 : a ≤ a ∧ b ≤ b := ⟨Int.le_refl _, Int.le_refl _⟩
  simp only [lq, Option.bind_some, decide_eq_true_eq, if_pos r0]
  by_cases p : a ≤ c ∧ b ≤ d <;> by_cases q : c ≤ a ∧ d ≤ b <;> by_cases s : c ≤ e ∧ d ≤ f
  all_goals simp only [p, q, s, if_true, if_false, and_self, not_false_eq_true, decide_true, Bool.not_true]
  all_goals first
    | rfl
    | (have u : a ≤ e ∧ b ≤ f := by omega
       simp only [u, and_self, decide_true, Bool.not_true]; done)
    | (have u : a = c := by omega
       have v : b = d := by omega
       subst u; subst v
       first
       | (simp; done)
       | (have u : a ≤ e ∧ b ≤ f := by omega
          simp [u]; done))
end Go.Proofs.Ythealffcpcbmhaa.BMomentPartial
