/- The number with a sign that any bytes tell from any place on is the one that the document tells; for any bytes, any place. -/
import Derived.Test.YtocgcnmlgkhgpaaBNumSigned
namespace Go.Proofs.Ytocgcnmlgkhgpaa.Pure
open Go.RowKit Go.Proofs.Ytocgcnmlgkhgpaa.PNumSigned Go.Proofs.Ytocgcnmlgkhgpaa.BNumSigned Go.Proofs.Ytocgcnmlgkhgpaa.NumPure Go.Proofs.YtocgcnmlgkhgpaaW.PrintWords Go.Proofs.YtocgcnmlgkhgpaaW.PrintLast
theorem NumSigned : runnellaw01_NumSigned.Pure := by
  intro l a _ _ hl _
  have hb := wf_bytes hl
  have hc := cap_ge
  refine ⟨2 * l.length + 60, ?_⟩
  unfold runnellaw01_NumSigned.f
  rw [live_f (by omega)]
  simp only [Option.bind_some]
  by_cases h : (l.length : Int) > 5000
  · rw [if_pos h]
  · rw [if_neg h, getInt_f l hb a (by omega) (by omega), RgetInt_f l hb a (by omega) (by omega)]
    simp [runnellaw01_code.f]
end Go.Proofs.Ytocgcnmlgkhgpaa.Pure
