/- The text that any bytes tell from any place on, with any bound, is the one that the document tells. -/
import Derived.Test.YtocgcnmlgkhgpaaBNumTold
namespace Go.Proofs.Ytocgcnmlgkhgpaa.Pure
open Go.RowKit Go.Proofs.Ytocgcnmlgkhgpaa.PNumTold Go.Proofs.Ytocgcnmlgkhgpaa.BNumTold Go.Proofs.Ytocgcnmlgkhgpaa.NumPure Go.Proofs.YtocgcnmlgkhgpaaW.PrintWords Go.Proofs.YtocgcnmlgkhgpaaW.PrintLast
theorem NumTold : runnellaw01_NumTold.Pure := by
  intro l a m _ _ hl _ hm
  have hb := wf_bytes hl
  have hc := cap_ge
  have hm' := (wf_i64 hm).2
  refine ⟨2 * l.length + 60, ?_⟩
  unfold runnellaw01_NumTold.f
  rw [live_f (by omega)]
  simp only [Option.bind_some]
  by_cases h : (l.length : Int) > 5000
  · rw [if_pos h]
  · rw [if_neg h, GetText_f l hb a m (by omega) (by omega) hm', RGetText_f l hb a m (by omega) (by omega) hm']
    simp [runnellaw01_code.f]
end Go.Proofs.Ytocgcnmlgkhgpaa.Pure
