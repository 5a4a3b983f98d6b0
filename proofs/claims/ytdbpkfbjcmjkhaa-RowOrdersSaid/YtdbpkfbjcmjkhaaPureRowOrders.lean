/- The order of any two values, and of any two rows, is the one that the document tells; rows are the same where it tells 0. -/
import Derived.Test.YtdbpkfbjcmjkhaaQRowOrders
import Derived.Test.YtdbpkfbjcmjkhaaBRowOrders
namespace Go.Proofs.Ytdbpkfbjcmjkhaa.Pure
open Go.RowKit Go.Proofs.Ytdbpkfbjcmjkhaa.PRowOrders Go.Proofs.Ytdbpkfbjcmjkhaa.BRowOrders Go.Proofs.Ytdbpkfbjcmjkhaa.RowPure Go.Proofs.YtdbpkfbjcmjkhaaW.PrintWords Go.Proofs.YtdbpkfbjcmjkhaaW.PrintLast
theorem RowOrders : runnellaw03_RowOrders.Pure := by
  intro l m hl hwl hm hwm
  refine ⟨2 * l.length + 2 * m.length + 80, ?_⟩
  unfold runnellaw03_RowOrders.f
  obtain ⟨b, hb, hbf⟩ := Long_f l hl (k := 2 * l.length + 2 * m.length + 80) (by omega)
  obtain ⟨c, hc, hcf⟩ := Long_f m hm (k := 2 * l.length + 2 * m.length + 80) (by omega)
  rw [hb, hc]
  simp only [Option.bind_some, runnellaw03_RowOrders.j0, runnellaw03_RowOrders.j1]
  rw [live_f (by omega), live_f (by omega)]
  simp only [Option.bind_some]
  cases b with
  | true => rfl
  | false =>
    cases c with
    | true => rfl
    | false =>
      have hj : (if (false : Bool) = true then some false else (row_Order.f (2 * l.length + 2 * m.length + 78) l m).bind fun t199 => ((runnelref03_Order.f (2 * l.length + 2 * m.length + 78) l m).bind fun t200 => (if t199 = t200 then ((row_Same.f (2 * l.length + 2 * m.length + 78) l m).bind fun t201 => ((runnelref03_Order.f (2 * l.length + 2 * m.length + 78) l m).bind fun t202 => (if (t201 == (t202 == 0)) = true then (some true) else (some false)))) else (some false)))) = some true := by
        unfold row_Same.f
        rw [if_neg (by decide), Order_f l m hl (by omega), ROrder_f l m hl (by omega)]
        simp
      simp only [Bool.false_eq_true, if_false] at hj ⊢
      by_cases h1 : (l.length : Int) > 0
      · rw [if_pos h1]
        by_cases h2 : (m.length : Int) > 0
        · rw [if_pos h2, if_pos h1, if_pos h2, Cmp_f, RCmp_f _ _ (by omega)]
          simp only [Option.bind_some, bne_self_eq_false, Bool.false_eq_true, if_false]
          exact hj
        · rw [if_neg h2]; exact hj
      · rw [if_neg h1]; exact hj
end Go.Proofs.Ytdbpkfbjcmjkhaa.Pure
