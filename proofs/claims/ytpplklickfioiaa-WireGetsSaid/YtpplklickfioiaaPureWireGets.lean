/- The command, the frontier, that any bytes tell from any place on are those that the document tells; for any bytes, any place. -/
import Derived.Test.YtpplklickfioiaaBWireGets
namespace Go.Proofs.Ytpplklickfioiaa.Pure
open Go.RowKit Go.Proofs.Ytpplklickfioiaa.PWireGets Go.Proofs.Ytpplklickfioiaa.BWireGets Go.Proofs.Ytpplklickfioiaa.RowPure Go.Proofs.Ytpplklickfioiaa.NumPure Go.Proofs.YtpplklickfioiaaW.PrintWords Go.Proofs.YtpplklickfioiaaW.PrintLast
theorem WireGets : runnellaw26_WireGets.Pure := by
  intro l a _ _ hwl _
  have hl := wf_bytes hwl
  have hcg := cap_ge
  refine ⟨2 * l.length + 20000, ?_⟩
  unfold runnellaw26_WireGets.f
  rw [live_f (by omega)]
  simp only [Option.bind_some]
  by_cases h1 : (l.length : Int) > 3000
  · rw [if_pos h1]
  · have hc : l.length + 10 ≤ capN := by omega
    have hlen := cget_len l a
    have hfl := gfront_len l a
    rw [if_neg h1, cget_f l hl hc a (by omega), Rcget_f l hl hc a (by omega)]
    simp only [Option.bind_some]
    rw [gfront_f l hl hc a (by omega), Rgfront_f l hl hc a (by omega)]
    simp only [Option.bind_some]
    rw [CSame_refl _ (by simp) (by intro x hx; rw [List.mem_singleton] at hx; subst hx; exact hlen) (by rw [List.length_singleton]; omega)]
    simp only [Option.bind_some, if_true, runnellaw26_code.f]
    rw [TSame_refl _ (by omega) (by omega)]
    simp only [Option.bind_some, if_true]
end Go.Proofs.Ytpplklickfioiaa.Pure
