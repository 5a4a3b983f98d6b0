/- HoldPlays holds for every input: what is held plays as the reference's list does; no conditions. -/
import Derived.Test.YtednmkmhileikaaQHoldPlays
import Derived.Test.YtednmkmhileikaaB8HoldPlays
namespace Go.Proofs.Ytednmkmhileikaa.Pure
theorem wfI {a : Int} (h : (Lit.int .i64 a).wf = true) : G.I64 a := by
 unfold G.I64
 simp [Lit.wf, IntKind.min, IntKind.max, IntKind.bits, IntKind.signed] at h; omega
theorem HoldPlays : PHoldPlays.runnellaw21_HoldPlays.Pure := by
 intro l _ hw
 refine ⟨0, ?_⟩
 unfold PHoldPlays.runnellaw21_HoldPlays.f
 exact if_pos (G.good_plays l (fun x hx => ⟨(hw x hx).2.1.1.1, wfI (hw x hx).2.1.2.2⟩))
end Go.Proofs.Ytednmkmhileikaa.Pure
