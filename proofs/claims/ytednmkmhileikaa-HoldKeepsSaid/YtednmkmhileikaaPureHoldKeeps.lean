/- HoldKeeps holds for every input: what is held and what was told, together, is what was added; no conditions. -/
import Derived.Test.YtednmkmhileikaaQHoldKeeps
import Derived.Test.YtednmkmhileikaaB10HoldPlays
namespace Go.Proofs.Ytednmkmhileikaa.Pure
theorem HoldKeeps : PHoldPlays.runnellaw21_HoldKeeps.Pure := by
 intro l t _ hw _
 refine ⟨0, ?_⟩
 unfold PHoldPlays.runnellaw21_HoldKeeps.f
 obtain ⟨n, b, hb, hf⟩ := G.much21 l (fun x hx => (hw x hx).2.1.1.1)
 exact if_pos ⟨n, b, hb, fun e => ⟨_, G.good_keeps l ⟨t.f0, t.f1⟩ (hf e).1 (hf e).2⟩⟩
end Go.Proofs.Ytednmkmhileikaa.Pure
