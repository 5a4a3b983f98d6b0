/- The commands that any bytes tell, or the place of the fault, are those that the document tells; they are told by the same bytes. -/
import Derived.Test.YtpplklickfioiaaBWireDecodes
namespace Go.Proofs.Ytpplklickfioiaa.Pure
open Go.RowKit Go.Proofs.Ytpplklickfioiaa.PWireDecodes Go.Proofs.Ytpplklickfioiaa.BWireDecodes Go.Proofs.Ytpplklickfioiaa.RowPure Go.Proofs.Ytpplklickfioiaa.NumPure Go.Proofs.YtpplklickfioiaaW.PrintWords Go.Proofs.YtpplklickfioiaaW.PrintLast
theorem WireDecodes : runnellaw26_WireDecodes.Pure := by
  intro l _ _ hwl
  have hl := wf_bytes hwl
  have hcg := cap_ge
  obtain ⟨K, hK⟩ : ∃ K, K = 2 * l.length + 20000 := ⟨_, rfl⟩
  refine ⟨K + 1, ?_⟩
  unfold runnellaw26_WireDecodes.f
  by_cases h1 : (l.length : Int) > 3000
  · rw [if_pos h1, live_f (by omega)]; rfl
  · have hc : l.length + 10 ≤ capN := by omega
    obtain ⟨b1, b2, b3⟩ := cdec_back l hl
    rw [if_neg h1]
    simp only [Option.bind_some, List.nil_append]
    rw [if_pos (by simp; omega)]
    try simp only [Option.bind_some]
    rw [Dec_any l hl hc (by omega), RDec_any l hl hc (by omega)]
    simp only [Option.bind_some]
    rw [CSame_refl (cdec l).1 (by omega) (fun x hx => ⟨by have := (b2 x hx).1.rowl; omega, by have := (b2 x hx).1.frontl; omega⟩) (by omega)]
    simp only [Option.bind_some, if_true, runnellaw26_code.f, bne_self_eq_false, runnellaw26_WireDecodes.j0]
    rw [if_neg (show ¬ (false = true) by decide)]
    by_cases he : (cdec l).2.1 = 0
    · rw [if_pos he, Enc_f (cdec l).1 b1 (fun c hc => (b2 c hc).1) (by omega), b3 he]
      simp only [Option.bind_some]
      rw [if_pos trivial, if_pos trivial, live_f (by omega)]
      rfl
    · rw [if_neg he, live_f (by omega)]
      rfl
end Go.Proofs.Ytpplklickfioiaa.Pure
