/- MomentPairs: what the printed functions answer, for each input, by plain mathematics. -/
import Derived.Test.YthealffcpcbmhaaOMomentPairsx
import Derived.Test.YthealffcpcbmhaaEqPure
namespace Go.Proofs.Ythealffcpcbmhaa.BMomentPairs
open Go.RowKit Go.Proofs.Ythealffcpcbmhaa.PMomentPairs Go.Proofs.Ythealffcpcbmhaa.EqPure Go.Proofs.YthealffcpcbmhaaW.PrintWords Go.Proofs.YthealffcpcbmhaaW.PrintLast Go.Proofs.YthealffcpcbmhaaW.PrintMore
set_option linter.unusedVariables false
set_option linter.unusedSimpArgs false
attribute [local irreducible] IntKind.wrap Go.bits shr shl maxLen
theorem wrapi {i n : Nat} (h : i < n) (hn : n ≤ 8796093022208) : wrap64 ((i : Int) + 1) = ((i + 1 : Nat) : Int) := by
  have e : wrap64 ((i : Int) + 1) = ((i : Int) + 1 + 9223372036854775808) % 18446744073709551616 - 9223372036854775808 := by with_unfolding_all rfl
  rw [e]; omega
theorem rdT (l : List Tm) (i : Nat) (h : i < l.length) : rd_T28 l (i : Int) = l[i] := by unfold rd_T28; rw [Int.toNat_natCast, List.getD_eq_getElem?_getD, List.getElem?_eq_getElem h]; rfl
theorem live_20 : runnellaw04_live.f 20 = some true := by decide +kernel
theorem live_ev : Ev (fun k => runnellaw04_live.f k) true := Ev.of (fun k => runnellaw04_live.mono k) live_20
/-! may it be a time? -/
def tmOk (t : Tm) : Prop := 0 ≤ t.f0 ∧ t.f0 ≤ 1099511627776 ∧ 0 ≤ t.f1 ∧ t.f1 ≤ 1099511627776
instance (t : Tm) : Decidable (tmOk t) := by unfold tmOk; exact inferInstance
theorem mcheck (t : Tm) : moment_Check.f t.f0 t.f1 = some (if tmOk t then 0 else 7) := by
  by_cases h : tmOk t
  · rw [if_pos h]
    have h' : 0 ≤ t.f0 ∧ t.f0 ≤ 1099511627776 ∧ 0 ≤ t.f1 ∧ t.f1 ≤ 1099511627776 := h
    unfold moment_Check.f mn mx
    (repeat' split) <;> first | rfl | omega
  · rw [if_neg h]
    have h' : ¬ (0 ≤ t.f0 ∧ t.f0 ≤ 1099511627776 ∧ 0 ≤ t.f1 ∧ t.f1 ≤ 1099511627776) := h
    unfold moment_Check.f mn mx
    (repeat' split) <;> first | rfl | omega
theorem rcheck (t : Tm) : runnelref04_Check.f t.f0 t.f1 = some (if tmOk t then 0 else 7) := by
  by_cases h : tmOk t
  · rw [if_pos h]
    have h' : 0 ≤ t.f0 ∧ t.f0 ≤ 1099511627776 ∧ 0 ≤ t.f1 ∧ t.f1 ≤ 1099511627776 := h
    unfold runnelref04_Check.f
    (repeat' split) <;> first | rfl | omega
  · rw [if_neg h]
    have h' : ¬ (0 ≤ t.f0 ∧ t.f0 ≤ 1099511627776 ∧ 0 ≤ t.f1 ∧ t.f1 ≤ 1099511627776) := h
    unfold runnelref04_Check.f
    (repeat' split) <;> first | rfl | omega
theorem cmp_i (a b : Int) : cmp_Compare_int.f a b = some (if a < b then -1 else if a > b then 1 else 0) := by
  unfold cmp_Compare_int.f cmp_isNaN_int.f
  simp only [Option.bind_some, bne_self_eq_false, Bool.false_eq_true, if_false]
  (repeat' split) <;> rfl
theorem order_i (a b : Tm) : moment_Order.f a.f0 a.f1 b.f0 b.f1 = runnelref04_Order.f a.f0 a.f1 b.f0 b.f1 := by
  unfold moment_Order.f moment_place_against.f runnelref04_Order.f
  rw [cmp_i, cmp_i]
  generalize a.f0 = p
  generalize a.f1 = q
  generalize b.f0 = r
  generalize b.f1 = s
  by_cases h : p = r
  · subst h
    by_cases h1 : q = s
    · subst h1; simp
    · by_cases h2 : q < s
      · simp [h1, h2]
      · have h3 : s < q := by omega
        simp [h1, h2, h3]
  · by_cases h2 : p < r
    · simp [h, h2]
    · have h3 : r < p := by omega
      simp [h, h2, h3]
theorem order_ex (a b : Tm) : ∃ o, runnelref04_Order.f a.f0 a.f1 b.f0 b.f1 = some o := by
  unfold runnelref04_Order.f
  (repeat' split) <;> exact ⟨_, rfl⟩
theorem rjoin (a b c d : Int) : runnelref04_Join.f a b c d = some (mx a c, mx b d) := by
  unfold runnelref04_Join.f mx
  (repeat' split) <;> first | rfl | (simp only [Option.some.injEq, Prod.mk.injEq]; omega)
theorem rmeet (a b c d : Int) : runnelref04_Meet.f a b c d = some (mn a c, mn b d) := by
  unfold runnelref04_Meet.f mn
  (repeat' split) <;> first | rfl | (simp only [Option.some.injEq, Prod.mk.injEq]; omega)
theorem less_ex (a b : Tm) : ∃ o, moment_LessEq.f a.f0 a.f1 b.f0 b.f1 = some o ∧ runnelref04_LessEq.f a.f0 a.f1 b.f0 b.f1 = some o := by
  unfold moment_LessEq.f runnelref04_LessEq.f
  split <;> exact ⟨_, rfl, rfl⟩
end Go.Proofs.Ythealffcpcbmhaa.BMomentPairs
