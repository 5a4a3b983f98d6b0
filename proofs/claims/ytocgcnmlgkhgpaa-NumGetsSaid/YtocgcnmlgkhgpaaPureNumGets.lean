/- The number that any bytes tell from any place on is the one that the document tells; for any bytes, any place. -/
import Derived.Test.YtocgcnmlgkhgpaaBNumGets
namespace Go.Proofs.Ytocgcnmlgkhgpaa.Pure
open Go.RowKit Go.Proofs.Ytocgcnmlgkhgpaa.PNumGets Go.Proofs.Ytocgcnmlgkhgpaa.BNumGets Go.Proofs.Ytocgcnmlgkhgpaa.NumPure Go.Proofs.YtocgcnmlgkhgpaaW.PrintWords Go.Proofs.YtocgcnmlgkhgpaaW.PrintLast
theorem NumGets : runnellaw01_NumGets.Pure := by
  intro l a _ _ hl _
  have hb := wf_bytes hl
  have hc := cap_ge
  refine ⟨2 * l.length + 60, ?_⟩
  unfold runnellaw01_NumGets.f
  rw [live_f (by omega)]
  simp only [Option.bind_some]
  by_cases h : (l.length : Int) > 5000
  · rw [if_pos h]
  · rw [if_neg h, get_f l hb a (by omega) (by omega), Rget_f l hb a (by omega) (by omega)]
    simp [runnellaw01_code.f]
end Go.Proofs.Ytocgcnmlgkhgpaa.Pure
