/- Whether any row may be, and whether it has any kinds, is as the document tells. -/
import Derived.Test.YtdbpkfbjcmjkhaaQRowChecks
import Derived.Test.YtdbpkfbjcmjkhaaBRowChecks
namespace Go.Proofs.Ytdbpkfbjcmjkhaa.Pure
open Go.RowKit Go.Proofs.Ytdbpkfbjcmjkhaa.PRowChecks Go.Proofs.Ytdbpkfbjcmjkhaa.BRowChecks Go.Proofs.Ytdbpkfbjcmjkhaa.RowPure Go.Proofs.YtdbpkfbjcmjkhaaW.PrintWords Go.Proofs.YtdbpkfbjcmjkhaaW.PrintLast
theorem RowChecks : runnellaw03_RowChecks.Pure := by
  intro l m hl hwl hm hwm
  refine ⟨2 * l.length + 80, ?_⟩
  unfold runnellaw03_RowChecks.f
  obtain ⟨b, hb, hbf⟩ := Long_f l hl (k := 2 * l.length + 80) (by omega)
  rw [hb]
  simp only [Option.bind_some, runnellaw03_RowChecks.j0]
  rw [live_f (by omega)]
  simp only [Option.bind_some]
  cases b with
  | true => rfl
  | false =>
    rw [if_neg (show ¬ (false = true) by decide)]
    split
    · rfl
    · rw [Check_f l hl (by omega), RCheck_f l hl (by omega), Fits_f l m hl (by omega), RFits_f l m hl (by omega)]
      simp [runnellaw03_code.f]
end Go.Proofs.Ytdbpkfbjcmjkhaa.Pure
