/- Any values of any row are told as the document tells them; the row stays. -/
import Derived.Test.YtdbpkfbjcmjkhaaQRowParts
import Derived.Test.YtdbpkfbjcmjkhaaBRowParts
namespace Go.Proofs.Ytdbpkfbjcmjkhaa.Pure
open Go.RowKit Go.Proofs.Ytdbpkfbjcmjkhaa.PRowParts Go.Proofs.Ytdbpkfbjcmjkhaa.BRowParts Go.Proofs.Ytdbpkfbjcmjkhaa.RowPure Go.Proofs.YtdbpkfbjcmjkhaaW.PrintWords Go.Proofs.YtdbpkfbjcmjkhaaW.PrintLast
set_option linter.unusedVariables false
theorem RowParts : runnellaw03_RowParts.Pure := by
  intro l cols key hl _ _ _ _
  apply Ev.rounds
  obtain ⟨b, hb, hbf⟩ := Long_f l hl (k := l.length + 1) (by omega)
  have hbE : Ev (fun k => runnelref03_Long.f k l) b := Ev.of (fun k => runnelref03_Long.mono l k) hb
  refine Ev.bind hbE ?_
  cases b with
  | true =>
    simp only [if_true]
    exact j0_ev l cols key true (fun h => by cases h)
  | false =>
    simp only [Bool.false_eq_true, if_false]
    refine j0_ev l cols key _ (fun h => ⟨(hbf rfl).1, ?_⟩)
    have := of_decide_eq_false h
    omega
end Go.Proofs.Ytdbpkfbjcmjkhaa.Pure
